import PyProof.Rows.All
import Wide.All
import OpenK.AllK
import Wide.FinOn
import HandS.ForMost
import HandS.ForExc
import HandS.TupAny
import HandS.TupMul
import HandS.SortInts
import HandS.Deep
import HandS.Flow
import HandS.TupLe
import HandS.Zip
import HandS.Conv
import HandS.IsInst
import HandS.RaiseMore
import KE.DataMinMax
import KE.DataFind
import KE.KTupSum
import HandS.SetFor
import HandS.Strs
import HandS.TupSets
import KE.GoesEnum
import HandS.NoneIn
import HandS.Style
import HandS.TryMany
import PySem.Challenge.RW_baizehall_k10_whole_visits
set_option Elab.async false
set_option linter.all false
set_option maxRecDepth 100000
set_option maxHeartbeats 4000000
/-! MP1: a small language of our own: data, terms, what they come to. -/
namespace MP
open PySem

/-- data: a list is a snapshot; a list that changes is a cell of the state, named by its number -/
inductive Dt where
  | non | bl (b : Bool) | int (i : Int) | str (s : Str) | tup (xs : List Dt) | lst (xs : List Dt) | ref (k : Nat) | scr (xs : List Int)
  deriving Inhabited

mutual
/-- all cells that it names have lesser numbers -/
def Dt.lo (n : Nat) : Dt → Bool
  | .ref k => decide (k < n)
  | .tup xs => Dt.loAll n xs
  | .lst xs => Dt.loAll n xs
  | .non => true
  | .bl _ => true
  | .int _ => true
  | .str _ => true
  | .scr _ => true
def Dt.loAll (n : Nat) : List Dt → Bool
  | [] => true
  | x :: xs => Dt.lo n x && Dt.loAll n xs
end
mutual
/-- no cell, no script in it -/
def Dt.pl : Dt → Bool
  | .ref _ => false
  | .scr _ => false
  | .tup xs => Dt.plAll xs
  | .lst xs => Dt.plAll xs
  | .non => true
  | .bl _ => true
  | .int _ => true
  | .str _ => true
def Dt.plAll : List Dt → Bool
  | [] => true
  | x :: xs => Dt.pl x && Dt.plAll xs
end
mutual
def Dt.py : Dt → PyData
  | .ref _ => .none
  | .scr _ => .none
  | .tup xs => .tuple (Dt.pyAll xs)
  | .lst xs => .list (Dt.pyAll xs)
  | .non => .none
  | .bl b => .bool b
  | .int i => .int i
  | .str s => .str s
def Dt.pyAll : List Dt → List PyData
  | [] => []
  | x :: xs => Dt.py x :: Dt.pyAll xs
end
mutual
/-- the same data, to the letter -/
def Dt.eqb : Dt → Dt → Bool
  | .non, .non => true
  | .bl a, .bl b => decide (a = b)
  | .int a, .int b => decide (a = b)
  | .str a, .str b => decide (a = b)
  | .ref a, .ref b => decide (a = b)
  | .scr a, .scr b => decide (a = b)
  | .tup xs, .tup ys => Dt.eqbs xs ys
  | .lst xs, .lst ys => Dt.eqbs xs ys
  | _, _ => false
def Dt.eqbs : List Dt → List Dt → Bool
  | [], [] => true
  | x :: xs, y :: ys => Dt.eqb x y && Dt.eqbs xs ys
  | _, _ => false
end
mutual
theorem eqb_eq : ∀ {d e : Dt}, Dt.eqb d e = true → d = e
  | .non, .non, _ => rfl
  | .bl a, .bl b, h => by simp only [Dt.eqb, decide_eq_true_eq] at h; rw [h]
  | .int a, .int b, h => by simp only [Dt.eqb, decide_eq_true_eq] at h; rw [h]
  | .str a, .str b, h => by simp only [Dt.eqb, decide_eq_true_eq] at h; rw [h]
  | .ref a, .ref b, h => by simp only [Dt.eqb, decide_eq_true_eq] at h; rw [h]
  | .scr a, .scr b, h => by simp only [Dt.eqb, decide_eq_true_eq] at h; rw [h]
  | .tup xs, .tup ys, h => by simp only [Dt.eqb] at h; rw [eqbs_eq h]
  | .lst xs, .lst ys, h => by simp only [Dt.eqb] at h; rw [eqbs_eq h]
theorem eqbs_eq : ∀ {d e : List Dt}, Dt.eqbs d e = true → d = e
  | [], [], _ => rfl
  | x :: xs, y :: ys, h => by simp only [Dt.eqbs, Bool.and_eq_true] at h; rw [eqb_eq h.1, eqbs_eq h.2]
end
mutual
theorem eqb_refl : ∀ d : Dt, Dt.eqb d d = true
  | .non => rfl
  | .bl a => by simp [Dt.eqb]
  | .int a => by simp [Dt.eqb]
  | .str a => by simp [Dt.eqb]
  | .ref a => by simp [Dt.eqb]
  | .scr a => by simp [Dt.eqb]
  | .tup xs => by simp only [Dt.eqb]; exact eqbs_refl xs
  | .lst xs => by simp only [Dt.eqb]; exact eqbs_refl xs
theorem eqbs_refl : ∀ d : List Dt, Dt.eqbs d d = true
  | [] => rfl
  | x :: xs => by simp only [Dt.eqbs, eqb_refl x, eqbs_refl xs, Bool.and_self]
end
/-- two that may be compared -/
def okq (d e : Dt) : Bool := Dt.pl d && Dt.pl e && decide (min d.py.depth e.py.depth ≤ 40)
def okqs (ds : List Dt) (d : Dt) : Bool := Dt.plAll ds && Dt.pl d && decide (min (PyData.depthAll (Dt.pyAll ds)) d.py.depth ≤ 40)

def Dt.isNon : Dt → Bool
  | .non => true
  | _ => false
def Dt.isBl (b : Bool) : Dt → Bool
  | .bl c => decide (c = b)
  | _ => false
/-- a table at rest -/
structure Tab where
  rules : Dt
  most : Dt
  names : Dt
  now : Dt
  done : List Dt
  undone : List Dt
  deriving Inhabited
inductive Cell where
  | lst (ds : List Dt)
  | tab (t : Tab)
  deriving Inhabited
def Cell.lo (n : Nat) : Cell → Bool
  | .lst ds => Dt.loAll n ds
  | .tab t => Dt.lo n t.rules && Dt.lo n t.most && Dt.lo n t.names && Dt.lo n t.now && Dt.loAll n t.done && Dt.loAll n t.undone
abbrev Sta := List Cell
/-- an exception: its class's number, the value of its field -/
structure Exc where
  c : Nat
  at_ : Int := 0
  deriving DecidableEq
inductive Res (α : Type) where
  | ok (a : α) (s : Sta) | exc (x : Exc) (s : Sta) | stuck
def Res.bind {α β : Type} : Res α → (α → Sta → Res β) → Res β
  | .ok a s, f => f a s
  | .exc x s, _ => .exc x s
  | .stuck, _ => .stuck
def Res.of {α : Type} (s : Sta) : Option α → Res α
  | some a => .ok a s
  | none => .stuck
abbrev Env := List (Option Dt)
/-- what the text's own functions come to -/
abbrev FT := Nat → List Dt → Sta → Res Dt

inductive BOp where
  | add | sub | mul | mod | fdiv | shl
  deriving DecidableEq
inductive COp where
  | eq | ne | lt | le | gt | ge | isin | notin
  deriving DecidableEq
inductive Ty where
  | int | bool | str | tuple | list
  deriving DecidableEq
inductive Bl where
  | len | tupleOf | listOf | sum | max1 | min1 | max2 | min2 | int1 | str1 | all | sorted
  deriving DecidableEq
inductive Mt where
  | count | join | split | index | find
  deriving DecidableEq
/-- targets of a loop, a comprehension, an assignment -/
inductive Tg where
  | nm (i : Nat) | tup (is : List Nat)
  deriving DecidableEq

mutual
inductive E where
  | var (i : Nat)
  | non | bl (b : Bool) | int (i : Int) | neg (i : Int) | str (s : Str)
  | tup (es : List E)
  | lst (es : List E)
  /-- a new cell -/
  | mlst (es : List E) | mrep (es : List E) (k : E)
  | bin (op : BOp) (a b : E)
  | cmp (op : COp) (a b : E)
  | cmp2 (op op' : COp) (a b c : E)
  | isNon (a : E) | notNon (a : E) | isBl (b : Bool) (a : E) | notBl (b : Bool) (a : E)
  | and (a b : E) | or (a b : E) | not (a : E)
  | ite (c a b : E)
  | ix (a i : E)
  | slHi (a h : E) | slLo (a l : E) | slLH (a l h : E) | rev (a : E)
  | call (f : Nat) (args : List E)
  | blt (b : Bl) (args : List E)
  | isi (t : Ty) (a : E)
  | mth (m : Mt) (o : E) (args : List E)
  | lrng1 (b : E) | lrng (a b : E) | trng (a b : E)
  | app (x e : E)
  | ext (x e : E)
  | pop (x : E)
  | lc (elt : E) (tg : Tg) (it : I) (own : List Nat) (ifs : List E)
  /-- over a list that is a cell, named by a slot -/
  | lcC (elt : E) (tg : Tg) (x : Nat) (own : List Nat) (ifs : List E)
  /-- len(set(a)), sorted(set(a)) -/
  | lenSet (a : E) | sortSet (a : E)
inductive I where
  | e (a : E) | rng1 (a : E) | rng2 (a b : E) | enum (a : E) | zip (a b : E)
end
inductive S where
  | set (i : Nat) (e : E)
  | setT (is : List Nat) (e : E)
  | par (is : List Nat) (es : List E)
  | setIx (x ix e : E)
  | expr (e : E)
  | ite (c : E) (a b : List S)
  | forS (tg : Tg) (it : I) (body : List S)
  | forC (tg : Tg) (x : Nat) (body : List S)
  | whileS (n : Nat) (c : E) (body : List S)
  | ret (e : E) | retN
  | raise (c : Nat)
  | tryS (body : List S) (hs : List (List Nat × List S))
  | pass

/-! ### operations on data -/
def lineM : Nat := 16777216
def deref (s : Sta) : Dt → Dt
  | .ref k => match s[k]? with
    | some (.lst ds) => .lst ds
    | _ => .ref k
  | d => d
def repL (xs : List Dt) (k : Int) : List Dt := (List.replicate k.toNat xs).flatten
def repS (s : Str) (k : Int) : Str := ⟨((List.replicate k.toNat s.cps.toList).flatten).toArray⟩
def smallI (i : Int) : Bool := decide (-(2 ^ 64) < i) && decide (i < 2 ^ 64)
def evBin : BOp → Dt → Dt → Option Dt
  | .add, .int a, .int b => some (.int (a + b))
  | .add, .tup xs, .tup ys => if xs.length + ys.length ≤ lineM then some (.tup (xs ++ ys)) else none
  | .add, .lst xs, .lst ys => if xs.length + ys.length ≤ lineM then some (.lst (xs ++ ys)) else none
  | .add, .str a, .str b => if a.length + b.length ≤ lineM then some (.str (a ++ b)) else none
  | .sub, .int a, .int b => some (.int (a - b))
  | .mul, .int a, .int b => if smallI a || smallI b then some (.int (a * b)) else none
  | .mul, .tup xs, .int k => if decide (k ≤ 1000) && decide (-1000 ≤ k) && decide (xs.length ≤ 1000) then some (.tup (repL xs k)) else none
  | .mul, .lst xs, .int k => if decide (k ≤ 1000) && decide (-1000 ≤ k) && decide (xs.length ≤ 1000) then some (.lst (repL xs k)) else none
  | .mul, .str a, .int k => if decide (k ≤ 1000) && decide (-1000 ≤ k) && decide (a.length ≤ 1000) then some (.str (repS a k)) else none
  | .mod, .int a, .int b => if 0 < b then some (.int (a % b)) else none
  | .fdiv, .int a, .int b => if 0 < b ∧ b < 1073741824 then some (.int (a / b)) else none
  | .shl, .int a, .int b => if decide (0 ≤ b) && decide (b ≤ 1000000) && decide (a.natAbs < 2 ^ 64) then some (.int (a * 2 ^ b.toNat)) else none
  | _, _, _ => none
def evEq (d e : Dt) : Option Bool := if okq d e then some (PyData.eqv d.py e.py) else none
def evIn (d : Dt) : Dt → Option Bool
  | .lst ds => if okqs ds d then some (ds.any fun z => PyData.eqv z.py d.py) else none
  | .tup ds => if okqs ds d then some (ds.any fun z => PyData.eqv z.py d.py) else none
  | .str z => match d with
    | .str c => match c.cps.toList with
      | [n] => some (decide (n ∈ z.cps.toList))
      | _ => none
    | _ => none
  | _ => none
def Dt.ints : List Dt → Option (List Int)
  | [] => some []
  | .int i :: r => (Dt.ints r).map (i :: ·)
  | _ :: _ => none
def Dt.strs : List Dt → Option (List Str)
  | [] => some []
  | .str i :: r => (Dt.strs r).map (i :: ·)
  | _ :: _ => none
def Dt.bls : List Dt → Option (List Bool)
  | [] => some []
  | .bl i :: r => (Dt.bls r).map (i :: ·)
  | _ :: _ => none
/-- less, as lists of ints -/
def ltI : List Int → List Int → Bool
  | [], [] => false
  | [], _ :: _ => true
  | _ :: _, [] => false
  | a :: as, b :: bs => if a = b then ltI as bs else decide (a < b)
def evCmp : COp → Dt → Dt → Option Bool
  | .eq, d, e => evEq d e
  | .ne, d, e => (evEq d e).map (!·)
  | .isin, d, e => evIn d e
  | .notin, d, e => (evIn d e).map (!·)
  | .lt, .int a, .int b => some (decide (a < b))
  | .le, .int a, .int b => some (decide (a ≤ b))
  | .gt, .int a, .int b => some (decide (b < a))
  | .ge, .int a, .int b => some (decide (b ≤ a))
  | .le, .str a, .str b => some (!decide (b.cps.toList < a.cps.toList))
  | .lt, .str a, .str b => some (decide (a.cps.toList < b.cps.toList))
  | _, _, _ => none
def evTru : Dt → Option Bool
  | .non => some false
  | .bl b => some b
  | .int i => some (i != 0)
  | .str s => if s.length ≤ lineM then some ((s.length : Int) != 0) else none
  | .tup xs => some (!xs.isEmpty)
  | .lst xs => some (!xs.isEmpty)
  | .scr xs => some (!xs.isEmpty)
  | .ref _ => none
def evIx : Dt → Dt → Option Dt
  | .tup xs, .int i => L2.atI xs i
  | .lst xs, .int i => L2.atI xs i
  | .scr xs, .int i => (L2.atI xs i).map .int
  | .str z, .int i => if z.length ≤ lineM then (L2.atI z.cps.toList i).map fun c => .str ⟨#[c]⟩ else none
  | _, _ => none
def cutD (xs : List Dt) (lo hi : Option Int) : List Dt := (xs.drop (HT.sIx xs.length 0 lo)).take (HT.sIx xs.length xs.length hi - HT.sIx xs.length 0 lo)
def evSl (lo hi : Option Int) : Dt → Option Dt
  | .tup xs => some (.tup (cutD xs lo hi))
  | .lst xs => some (.lst (cutD xs lo hi))
  | .str z => if z.length ≤ lineM then some (.str (L2.cutS z lo hi)) else none
  | _ => none
def evRev : Dt → Option Dt
  | .tup xs => some (.tup xs.reverse)
  | .lst xs => some (.lst xs.reverse)
  | _ => none
def maxI : Int → List Int → Int
  | m, [] => m
  | m, a :: r => maxI (if a > m then a else m) r
def minI : Int → List Int → Int
  | m, [] => m
  | m, a :: r => minI (if a < m then a else m) r
def Dt.items : Dt → Option (List Dt)
  | .tup xs => some xs
  | .lst xs => some xs
  | _ => none
def sortI (xs : List Int) : List Int := xs.mergeSort (fun a b => decide (a ≤ b))
def evBl : Bl → List Dt → Option Dt
  | .len, [.tup xs] => some (.int xs.length)
  | .len, [.lst xs] => some (.int xs.length)
  | .len, [.scr xs] => some (.int xs.length)
  | .len, [.str s] => if s.length ≤ lineM then some (.int s.length) else none
  | .tupleOf, [.tup xs] => some (.tup xs)
  | .tupleOf, [.lst xs] => some (.tup xs)
  | .listOf, [.tup xs] => some (.lst xs)
  | .listOf, [.lst xs] => some (.lst xs)
  | .sum, [.lst xs] => (Dt.ints xs).map fun l => .int l.sum
  | .sum, [.tup xs] => (Dt.ints xs).map fun l => .int l.sum
  | .max1, [.lst xs] => (Dt.ints xs).bind fun l => match l with | [] => none | a :: r => some (.int (maxI a r))
  | .max1, [.tup xs] => (Dt.ints xs).bind fun l => match l with | [] => none | a :: r => some (.int (maxI a r))
  | .min1, [.lst xs] => (Dt.ints xs).bind fun l => match l with | [] => none | a :: r => some (.int (minI a r))
  | .max2, [.int i, .int j] => some (.int (if j > i then j else i))
  | .min2, [.int i, .int j] => some (.int (if j < i then j else i))
  | .int1, [.int i] => some (.int i)
  | .int1, [.bl b] => some (.int (if b then 1 else 0))
  | .int1, [.str a] => if a.length ≤ 640 then (PySem.intText? a).map .int else none
  | .str1, [.int i] => if i.natAbs.log2 < 1920 then some (.str (toString i : String)) else none
  | .str1, [.str s] => some (.str s)
  | .all, [.lst xs] => (Dt.bls xs).map fun l => .bl (l.all id)
  | .sorted, [.lst xs] => (Dt.ints xs).map fun l => .lst ((sortI l).map .int)
  | .sorted, [.tup xs] => (Dt.ints xs).map fun l => .lst ((sortI l).map .int)
  | _, _ => none
def evIsi : Ty → Dt → Option Bool
  | .int, .int _ => some true
  | .int, .bl _ => some true
  | .int, .ref _ => none
  | .int, .scr _ => none
  | .int, _ => some false
  | .bool, .bl _ => some true
  | .bool, .ref _ => none
  | .bool, .scr _ => none
  | .bool, _ => some false
  | .str, .str _ => some true
  | .str, .ref _ => none
  | .str, .scr _ => none
  | .str, _ => some false
  | .tuple, .tup _ => some true
  | .tuple, .ref _ => none
  | .tuple, .scr _ => none
  | .tuple, _ => some false
  | .list, .lst _ => some true
  | .list, .ref _ => none
  | .list, .scr _ => none
  | .list, _ => some false
def evMt : Mt → Dt → List Dt → Option Dt
  | .count, .tup xs, [d] => if okqs xs d then some (.int (xs.countP fun z => PyData.eqv z.py d.py : Nat)) else none
  | .count, .lst xs, [d] => if okqs xs d then some (.int (xs.countP fun z => PyData.eqv z.py d.py : Nat)) else none
  | .join, .str a, [.lst xs] => (Dt.strs xs).bind fun l => if (l.map (·.length)).sum + l.length * a.length ≤ lineM then some (.str (Txt.join a l)) else none
  | .split, .str a, [.str b] => if (b.length == 0) = false ∧ a.length + 2 ≤ lineM then some (.lst ((Txt.split a b).map .str)) else none
  | .find, .str a, [.str b] => some (.int (Txt.find a b))
  | _, _, _ => none
def okMt : Mt → Dt → Bool
  | .count, .tup _ => true
  | .count, .lst _ => true
  | .join, .str _ => true
  | .split, .str _ => true
  | .find, .str _ => true
  | _, _ => false
def rngD (a b : Int) : List Dt := (List.range (b - a).toNat).map fun i => .int (a + (i : Nat))
def okRng (a b : Int) : Bool := decide (-(2 ^ 40) ≤ a) && decide (a ≤ 2 ^ 40) && decide (-(2 ^ 40) ≤ b) && decide (b ≤ 2 ^ 40) && decide ((b - a).toNat ≤ lineM)
/-- the different ones, rising -/
def ddI : List Int → List Int
  | a :: b :: r => if a = b then ddI (b :: r) else a :: ddI (b :: r)
  | l => l
def uniqI (l : List Int) : List Int := ddI (sortI l)
def evSet : Dt → Option (List Int)
  | .tup xs => (Dt.ints xs).bind fun l => if l.length < 64 then some (uniqI l) else none
  | _ => none
/-- the cell k holds just these -/
def cellIs (s : Sta) (k : Nat) (ds : List Dt) : Bool := match s[k]? with
  | some (.lst es) => Dt.eqbs es ds
  | _ => false
/-- the cell that a slot names -/
def cellOf (ρ : Env) (s : Sta) (x : Nat) : Option (Nat × List Dt) := match ρ[x]? with
  | some (some (.ref k)) => match s[k]? with
    | some (.lst ds) => some (k, ds)
    | _ => none
  | _ => none
/-- items that a loop walks -/
def itemsOf : Dt → Option (List Dt)
  | .tup xs => some xs
  | .lst xs => some xs
  | .str z => some (z.cps.toList.map fun c => .str ⟨#[c]⟩)
  | _ => none
def enumD : Nat → List Dt → List Dt
  | _, [] => []
  | n, x :: xs => .tup [.int n, x] :: enumD (n + 1) xs
def zipD : List Dt → List Dt → List Dt
  | x :: xs, y :: ys => .tup [x, y] :: zipD xs ys
  | _, _ => []
def setAll : List Nat → List Dt → Env → Option Env
  | [], [], ρ => some ρ
  | i :: is, d :: ds, ρ => setAll is ds (ρ.set i (some d))
  | _, _, _ => none
def bindTg : Tg → Dt → Env → Option Env
  | .nm i, d, ρ => some (ρ.set i (some d))
  | .tup is, .tup ds, ρ => setAll is ds ρ
  | .tup _, _, _ => none
def wipeE (ρ : Env) : List Nat → Env
  | [] => ρ
  | v :: vs => (wipeE ρ vs).set v none
def isCell (s : Sta) : Dt → Bool
  | .ref k => match s[k]? with
    | some (.lst _) => true
    | _ => false
  | _ => false
def setCell (s : Sta) (k : Nat) (ds : List Dt) : Sta := s.set k (.lst ds)

/-! ### evaluation -/
/-- the items of a comprehension, one by one; nothing that is raised leaves it -/
def lcGo (one : Dt → Sta → Res (Option Dt)) : List Dt → Sta → Res (List Dt)
  | [], s => .ok [] s
  | d :: ds, s => match one d s with
    | .ok o s1 => match lcGo one ds s1 with
      | .ok r s2 => .ok (match o with | some x => x :: r | none => r) s2
      | _ => .stuck
    | _ => .stuck
def lcGoG (g : Sta → Bool) (one : Dt → Sta → Res (Option Dt)) : List Dt → Sta → Res (List Dt)
  | [], s => if g s then .ok [] s else .stuck
  | d :: ds, s => if g s then match one d s with
    | .ok o s1 => match lcGoG g one ds s1 with
      | .ok r s2 => .ok (match o with | some x => x :: r | none => r) s2
      | _ => .stuck
    | _ => .stuck
    else .stuck
mutual
def evE (F : FT) (ρ : Env) : E → Sta → Res Dt
  | .var i, s => match ρ[i]? with
    | some (some d) => .ok d s
    | _ => .stuck
  | .non, s => .ok .non s
  | .bl b, s => .ok (.bl b) s
  | .int i, s => .ok (.int i) s
  | .neg i, s => .ok (.int (-i)) s
  | .str x, s => .ok (.str x) s
  | .tup es, s => (evEs F ρ es s).bind fun ds s => if ds.length ≤ lineM then .ok (.tup ds) s else .stuck
  | .lst es, s => (evEs F ρ es s).bind fun ds s => if ds.length ≤ lineM then .ok (.lst ds) s else .stuck
  | .mlst es, s => (evEs F ρ es s).bind fun ds s => if decide (ds.length ≤ lineM) && Dt.loAll s.length ds then .ok (.ref s.length) (s ++ [.lst ds]) else .stuck
  | .mrep es e, s => (evEs F ρ es s).bind fun ds s => if ds.length ≤ 1000 then (evE F ρ e s).bind fun k s => match k with
    | .int k => if decide (k ≤ 1000) && decide (-1000 ≤ k) && Dt.loAll s.length (repL ds k) then .ok (.ref s.length) (s ++ [.lst (repL ds k)]) else .stuck
    | _ => .stuck
    else .stuck
  | .bin op a b, s => (evE F ρ a s).bind fun x s => (evE F ρ b s).bind fun y s => Res.of s (evBin op (deref s x) (deref s y))
  | .cmp op a b, s => (evE F ρ a s).bind fun x s => (evE F ρ b s).bind fun y s => Res.of s ((evCmp op (deref s x) (deref s y)).map .bl)
  | .cmp2 op op' a b c, s => (evE F ρ a s).bind fun x s => (evE F ρ b s).bind fun y s => match evCmp op (deref s x) (deref s y) with
    | some true => (evE F ρ c s).bind fun z s => Res.of s ((evCmp op' (deref s y) (deref s z)).map .bl)
    | some false => .ok (.bl false) s
    | none => .stuck
  | .isNon a, s => (evE F ρ a s).bind fun x s => .ok (.bl x.isNon) s
  | .notNon a, s => (evE F ρ a s).bind fun x s => .ok (.bl (!x.isNon)) s
  | .isBl b a, s => (evE F ρ a s).bind fun x s => .ok (.bl (x.isBl b)) s
  | .notBl b a, s => (evE F ρ a s).bind fun x s => .ok (.bl (!x.isBl b)) s
  | .and a b, s => (evE F ρ a s).bind fun x s => match evTru (deref s x) with
    | some true => evE F ρ b s
    | some false => .ok x s
    | none => .stuck
  | .or a b, s => (evE F ρ a s).bind fun x s => match evTru (deref s x) with
    | some true => .ok x s
    | some false => evE F ρ b s
    | none => .stuck
  | .not a, s => (evE F ρ a s).bind fun x s => Res.of s ((evTru (deref s x)).map fun b => .bl (!b))
  | .ite c a b, s => (evE F ρ c s).bind fun x s => match evTru (deref s x) with
    | some true => evE F ρ a s
    | some false => evE F ρ b s
    | none => .stuck
  | .ix a i, s => (evE F ρ a s).bind fun x s => (evE F ρ i s).bind fun y s => Res.of s (evIx (deref s x) y)
  | .slHi a h, s => (evE F ρ a s).bind fun x s => (evE F ρ h s).bind fun y s => match y with
    | .int j => Res.of s (evSl none (some j) (deref s x))
    | _ => .stuck
  | .slLo a l, s => (evE F ρ a s).bind fun x s => (evE F ρ l s).bind fun y s => match y with
    | .int j => Res.of s (evSl (some j) none (deref s x))
    | _ => .stuck
  | .slLH a l h, s => (evE F ρ a s).bind fun x s => (evE F ρ l s).bind fun y s => match y with
    | .int i => (evE F ρ h s).bind fun z s => match z with
      | .int j => Res.of s (evSl (some i) (some j) (deref s x))
      | _ => .stuck
    | _ => .stuck
  | .rev a, s => (evE F ρ a s).bind fun x s => Res.of s (evRev (deref s x))
  | .call f es, s => (evEs F ρ es s).bind fun ds s => F f ds s
  | .blt b es, s => (evEs F ρ es s).bind fun ds s => Res.of s (evBl b (ds.map (deref s)))
  | .isi t a, s => (evE F ρ a s).bind fun x s => Res.of s ((evIsi t (deref s x)).map .bl)
  | .mth m o es, s => (evE F ρ o s).bind fun x s => if okMt m (deref s x) then (evEs F ρ es s).bind fun ds s => Res.of s (evMt m (deref s x) (ds.map (deref s))) else .stuck
  | .lrng1 b, s => (evE F ρ b s).bind fun y s => match y with
    | .int j => if okRng 0 j then .ok (.lst (rngD 0 j)) s else .stuck
    | _ => .stuck
  | .lrng a b, s => (evE F ρ a s).bind fun x s => (evE F ρ b s).bind fun y s => match x, y with
    | .int i, .int j => if okRng i j then .ok (.lst (rngD i j)) s else .stuck
    | _, _ => .stuck
  | .trng a b, s => (evE F ρ a s).bind fun x s => (evE F ρ b s).bind fun y s => match x, y with
    | .int i, .int j => if okRng i j then .ok (.tup (rngD i j)) s else .stuck
    | _, _ => .stuck
  | .app x e, s => (evE F ρ x s).bind fun o s => if isCell s o then (evE F ρ e s).bind fun d s => match o with
    | .ref k => match s[k]? with
      | some (.lst ds) => if decide (ds.length < lineM) && Dt.lo k d then .ok .non (setCell s k (ds ++ [d])) else .stuck
      | _ => .stuck
    | _ => .stuck
    else .stuck
  | .ext x e, s => (evE F ρ x s).bind fun o s => if isCell s o then (evE F ρ e s).bind fun d s => match o, deref s d with
    | .ref k, .lst es => match s[k]? with
      | some (.lst ds) => if decide (ds.length + es.length ≤ lineM) && Dt.loAll k es then .ok .non (setCell s k (ds ++ es)) else .stuck
      | _ => .stuck
    | .ref k, .tup es => match s[k]? with
      | some (.lst ds) => if decide (ds.length + es.length ≤ lineM) && Dt.loAll k es then .ok .non (setCell s k (ds ++ es)) else .stuck
      | _ => .stuck
    | _, _ => .stuck
    else .stuck
  | .pop x, s => (evE F ρ x s).bind fun o s => match o with
    | .ref k => match s[k]? with
      | some (.lst ds) => match ds.getLast? with
        | some d => .ok d (setCell s k ds.dropLast)
        | none => .stuck
      | _ => .stuck
    | _ => .stuck
  | .lc elt tg it own ifs, s => (evI F ρ it s).bind fun ds s =>
    (lcGo (fun d s => match bindTg tg d (wipeE ρ own) with
      | none => .stuck
      | some ρ' => match evIfs F ρ' ifs s with
        | .ok true s1 => (evE F ρ' elt s1).bind fun x s2 => .ok (some x) s2
        | .ok false s1 => .ok none s1
        | _ => .stuck) ds s).bind fun r s => if ds.length < lineM then .ok (.lst r) s else .stuck
  | .lcC elt tg x own ifs, s => match cellOf ρ s x with
    | none => .stuck
    | some (k, ds) => (lcGoG (fun s => cellIs s k ds) (fun d s => match bindTg tg d (wipeE ρ own) with
      | none => .stuck
      | some ρ' => match evIfs F ρ' ifs s with
        | .ok true s1 => (evE F ρ' elt s1).bind fun x s2 => .ok (some x) s2
        | .ok false s1 => .ok none s1
        | _ => .stuck) ds s).bind fun r s => if ds.length < lineM then .ok (.lst r) s else .stuck
  | .lenSet a, s => (evE F ρ a s).bind fun x s => Res.of s ((evSet x).map fun l => .int l.length)
  | .sortSet a, s => (evE F ρ a s).bind fun x s => Res.of s ((evSet x).map fun l => .lst (l.map .int))
def evEs (F : FT) (ρ : Env) : List E → Sta → Res (List Dt)
  | [], s => .ok [] s
  | e :: es, s => (evE F ρ e s).bind fun d s => (evEs F ρ es s).bind fun ds s => .ok (d :: ds) s
/-- a clause's tests: none or one -/
def evIfs (F : FT) (ρ : Env) : List E → Sta → Res Bool
  | [], s => .ok true s
  | [c], s => (evE F ρ c s).bind fun x s => Res.of s (evTru (deref s x))
  | _ :: _ :: _, _ => .stuck
def evI (F : FT) (ρ : Env) : I → Sta → Res (List Dt)
  | .e a, s => (evE F ρ a s).bind fun x s => Res.of s (itemsOf x)
  | .rng1 b, s => (evE F ρ b s).bind fun y s => match y with
    | .int j => if okRng 0 j then .ok (rngD 0 j) s else .stuck
    | _ => .stuck
  | .rng2 a b, s => (evE F ρ a s).bind fun x s => (evE F ρ b s).bind fun y s => match x, y with
    | .int i, .int j => if okRng i j then .ok (rngD i j) s else .stuck
    | _, _ => .stuck
  | .enum a, s => (evE F ρ a s).bind fun x s => match x with
    | .lst xs => .ok (enumD 0 xs) s
    | .tup xs => .ok (enumD 0 xs) s
    | _ => .stuck
  | .zip a b, s => (evE F ρ a s).bind fun x s => (evE F ρ b s).bind fun y s => match x, y with
    | .lst xs, .lst ys => .ok (zipD xs ys) s
    | .tup xs, .tup ys => .ok (zipD xs ys) s
    | _, _ => .stuck
end
/-- how a statement ends -/
inductive Out where
  | nx (ρ : Env) (s : Sta) | rt (d : Dt) (s : Sta) | exc (x : Exc) (ρ : Env) (s : Sta) | stuck
def Out.andThen : Out → (Env → Sta → Out) → Out
  | .nx ρ s, f => f ρ s
  | .rt d s, _ => .rt d s
  | .exc x ρ s, _ => .exc x ρ s
  | .stuck, _ => .stuck
def Res.out {α : Type} (ρ : Env) : Res α → (α → Sta → Out) → Out
  | .ok a s, f => f a s
  | .exc x s, _ => .exc x ρ s
  | .stuck, _ => .stuck
def forGo (one : Dt → Env → Sta → Out) : List Dt → Env → Sta → Out
  | [], ρ, s => .nx ρ s
  | d :: ds, ρ, s => (one d ρ s).andThen (forGo one ds)
def forGoG (g : Sta → Bool) (one : Dt → Env → Sta → Out) : List Dt → Env → Sta → Out
  | [], ρ, s => if g s then .nx ρ s else .stuck
  | d :: ds, ρ, s => if g s then (one d ρ s).andThen (forGoG g one ds) else .stuck
def whileGo (test : Env → Sta → Out) (body : Env → Sta → Out) : Nat → Env → Sta → Out
  | 0, _, _ => .stuck
  | n + 1, ρ, s => match test ρ s with
    | .nx ρ1 s1 => (body ρ1 s1).andThen (whileGo test body n)
    | .rt _ s1 => .nx ρ s1
    | .exc x ρ1 s1 => .exc x ρ1 s1
    | .stuck => .stuck
mutual
def evS (F : FT) : S → Env → Sta → Out
  | .pass, ρ, s => .nx ρ s
  | .set i e, ρ, s => (evE F ρ e s).out ρ fun d s => .nx (ρ.set i (some d)) s
  | .setT is e, ρ, s => (evE F ρ e s).out ρ fun d s => match d with
    | .tup ds => match setAll is ds ρ with
      | some ρ' => .nx ρ' s
      | none => .stuck
    | .lst ds => match setAll is ds ρ with
      | some ρ' => .nx ρ' s
      | none => .stuck
    | _ => .stuck
  | .par is es, ρ, s => (evEs F ρ es s).out ρ fun ds s => match setAll is ds ρ with
    | some ρ' => .nx ρ' s
    | none => .stuck
  | .setIx x ix e, ρ, s => (evE F ρ e s).out ρ fun d s => (evE F ρ x s).out ρ fun o s => (evE F ρ ix s).out ρ fun j s => match o, j with
    | .ref k, .int i => match s[k]? with
      | some (.lst ds) => match L2.ixN ds.length i with
        | some n => if Dt.lo k d then .nx ρ (setCell s k (ds.set n d)) else .stuck
        | none => .stuck
      | _ => .stuck
    | _, _ => .stuck
  | .expr e, ρ, s => (evE F ρ e s).out ρ fun _ s => .nx ρ s
  | .ite c a b, ρ, s => (evE F ρ c s).out ρ fun x s => match evTru (deref s x) with
    | some true => evSs F a ρ s
    | some false => evSs F b ρ s
    | none => .stuck
  | .forS tg it body, ρ, s => (evI F ρ it s).out ρ fun ds s => forGo (fun d ρ s => match bindTg tg d ρ with
    | some ρ' => evSs F body ρ' s
    | none => .stuck) ds ρ s
  | .forC tg x body, ρ, s => match cellOf ρ s x with
    | none => .stuck
    | some (k, ds) => forGoG (fun s => cellIs s k ds) (fun d ρ s => match bindTg tg d ρ with
      | some ρ' => evSs F body ρ' s
      | none => .stuck) ds ρ s
  | .whileS n c body, ρ, s => whileGo (fun ρ s => (evE F ρ c s).out ρ fun x s => match evTru (deref s x) with
    | some true => .nx ρ s
    | some false => .rt .non s
    | none => .stuck) (fun ρ s => evSs F body ρ s) n ρ s
  | .ret e, ρ, s => (evE F ρ e s).out ρ fun d s => .rt d s
  | .retN, _, s => .rt .non s
  | .raise c, ρ, s => .exc ⟨c, 0⟩ ρ s
  | .tryS body hs, ρ, s => match evSs F body ρ s with
    | .exc x ρ' s' => evHs F hs x ρ' s'
    | r => r
def evSs (F : FT) : List S → Env → Sta → Out
  | [], ρ, s => .nx ρ s
  | st :: r, ρ, s => (evS F st ρ s).andThen fun ρ s => evSs F r ρ s
def evHs (F : FT) : List (List Nat × List S) → Exc → Env → Sta → Out
  | [], x, ρ, s => .exc x ρ s
  | (cs, body) :: r, x, ρ, s => if cs.any (fun d => x.c == d || d == 0) then evSs F body ρ s else evHs F r x ρ s
end
/-- what leaves a function: a list of its own is told as it stands -/
def leave (n : Nat) (d : Dt) (s : Sta) : Res Dt := match d with
  | .ref k => if k < n then .ok d (s.take n) else match s[k]? with
    | some (.lst ds) => if Dt.loAll n ds then .ok (.lst ds) (s.take n) else .stuck
    | _ => .stuck
  | d => if Dt.lo n d then .ok d (s.take n) else .stuck
/-- a function: its slots, parameters first -/
def runF (F : FT) (slots pars : Nat) (body : List S) : List Dt → Sta → Res Dt := fun args s =>
  if args.length = pars then
    match evSs F body (args.map some ++ List.replicate (slots - pars) none) s with
    | .nx _ s' => .ok .non (s'.take s.length)
    | .rt d s' => leave s.length d s'
    | .exc x _ s' => .exc x (s'.take s.length)
    | .stuck => .stuck
  else .stuck
end MP
/-! MPT: tuples with their objects known (they have no dict of their own): the rules that make them, once more; methods of tuples. -/
namespace MP
open PySem L2 PyProof.Rows
theorem line_eq : lineM = sizeLine := by rw [sizeLine_eq]; rfl
def TupAt (H : Hp) (a : Addr) (xs : List V) : Prop := ∃ o : Obj, H a = some (.frz o (.tup xs)) ∧ o.dict = none
theorem TupAt.sq {K : PySem.W.Frag} {H : Hp} {a : Addr} {xs : List V} (h : TupAt H a xs) : SqT K H a xs := let ⟨o, e, _⟩ := h; .inl (.inr ⟨o, e⟩)
/-- what is wanted of a new tuple -/
abbrev NewT (Q : VK) (H : Hp) (xs : List V) : Prop := ∀ (p : Addr) (o : Obj), H p = none → o.dict = none → Q (.ref p) (upd H p (.frz o (.tup xs)))
section
variable {X : Cx} {pins : List (Addr × Obj)} {s : Shared} {σ : L2.St} {H : Hp} {Q : VK} {xs : List V} {us : List Value}
theorem fin_tup {t : Nat} (I : L2.Inv X pins σ H s) (r : Vals xs us) (z : xs.length ≤ sizeLine) (q : NewT Q H xs) :
    EP X pins σ Q (.ref s.heap.objs.size) { s with heap := s.heap.push { cls := .type "tuple", data := .seq us.toArray }, toks := t } := by
  refine ⟨.ref s.heap.objs.size, upd H s.heap.objs.size (.frz { cls := .type "tuple", data := .seq us.toArray } (.tup xs)), I.laid (t' := t) (fun b u e => Heap.get?_push_of_some _ e) (Nat.le_refl _) ?_, rfl, q _ _ (I.hok.fresh (Nat.le_refl _)) rfl⟩
  exact ⟨Heap.get?_push_size _ rfl, z, us, r, ⟨_, Heap.get?_push_size _ rfl, rfl, _, rfl⟩⟩
variable {es : List Expr} {t : TA} {pos : Pos}
def tTupF (t : TA) : TE := fun σ H Q => t σ H fun xs H1 => xs.length ≤ sizeLine ∧ NewT Q H1 xs
theorem pe_tupF {x1} (h : PA X es t) : PE X (.Tuple es x1 pos) (tTupF t) := by
  refine ⟨fun pins s σ H Q I hq => ?_⟩
  refine wpAny_Tuple_spliced (thn (h.run pos pins s σ H _ I hq) fun us s1 ⟨xs, H1, I1, r, z, q⟩ => ⟨by rw [← r.length]; exact z, ?_⟩)
  exact fin_tup (t := s1.toks) I1 r z q
/-- t + u -/
def rCatF (K : PySem.W.Frag) : R2 := fun x y H Q => ∃ a b xs ys, x = .ref a ∧ y = .ref b ∧ SqT K H a xs ∧ SqT K H b ys ∧ xs.length + ys.length ≤ sizeLine ∧
  (xs = [] → Q (.ref b) H) ∧ (xs ≠ [] → ys = [] → Q (.ref a) H) ∧ (xs ≠ [] → ys ≠ [] → NewT Q H (xs ++ ys))
theorem op_catF : OpR X (binaryOp .Add) (rCatF X.K) := by
  intro pins s σ H x y v u Q I rx ry h
  obtain ⟨a, b, xs, ys, rfl, rfl, ha, hb, hz, q0, q1, q2⟩ := h
  cases rx
  cases ry
  obtain ⟨its, r1, p1, _⟩ := I.tuple ha
  obtain ⟨its2, r2, p2, _⟩ := I.tuple hb
  by_cases hx : xs = []
  · subst hx
    cases r1
    exact cat_tup0 p1 p2 ⟨.ref b, H, I, rfl, q0 rfl⟩
  · refine HT.cat_tup p1 p2 (fun z => hx (r1.nil_iff.mp z)) (fun z => ⟨.ref a, H, I, rfl, q1 hx (r2.nil_iff.mp z)⟩) (fun z => ?_) (by rw [← r1.length, ← r2.length]; exact hz)
    exact fin_tup (t := s.toks) I (r1.append r2) (by rw [List.length_append]; exact hz) (q2 hx fun w => z (r2.nil_iff.mpr w))
def rSlF (K : PySem.W.Frag) : V → Option Int → Option Int → Hp → VK → Prop := fun x lo hi H Q => ∃ a xs, x = .ref a ∧ SqT K H a xs ∧
  (HT.sIx xs.length 0 lo = 0 ∧ HT.sIx xs.length xs.length hi = xs.length → Q (.ref a) H) ∧ (¬ (HT.sIx xs.length 0 lo = 0 ∧ HT.sIx xs.length xs.length hi = xs.length) → NewT Q H (cutV xs lo hi))
theorem sl_tupF : SlR X (rSlF X.K) := by
  intro pins s σ H x v vl vu lo hi sl Q I rx hs pl pu h
  obtain ⟨a, xs, rfl, hx, q1, q2⟩ := h
  cases rx
  obtain ⟨its, r, ht, hz⟩ := I.tuple hx
  have hlen : its.toArray.size = xs.length := by rw [List.size_toArray]; exact r.length.symm
  refine ⟨"tuple", _, PyProof.Rows.slot_tuple_getitem.lookup, ht.typeIs, ?_⟩
  by_cases hw : HT.sIx xs.length 0 lo = 0 ∧ HT.sIx xs.length xs.length hi = xs.length
  · exact getItem_tuple_whole ht hs pl pu (by rw [hlen]; exact hw) ⟨.ref a, H, I, rfl, q1 hw⟩
  · refine HT.getItem_tuple_cut ht hs pl pu (by rw [hlen]; exact hw) ?_ (by rw [hlen]; exact hz)
    rw [hlen]
    exact fin_tup (t := s.toks) I ((r.drop (HT.sIx xs.length 0 lo)).take (HT.sIx xs.length xs.length hi - HT.sIx xs.length 0 lo)) (Nat.le_trans (cutV_length xs lo hi) hz) (q2 hw)
theorem call_tupleF : CallR X (.type "tuple") (fun xs H Q => ∃ p ys, xs = [.ref p] ∧ ((SqL X.K H p ys ∧ NewT Q H ys) ∨ (SqT X.K H p ys ∧ Q (.ref p) H))) := by
  intro pins s σ H xs us Q I r h
  obtain ⟨p, ys, rfl, h⟩ := h
  obtain ⟨u, rfl, rx⟩ := vals1 r
  cases rx
  rcases h with ⟨hq, q⟩ | ⟨hq, q⟩
  · obtain ⟨its, r', pl, hz⟩ := I.list hq
    have hlen := r'.length
    refine call_tuple_list pl.isList (fun h' kp => ?_) (by simp only [List.size_toArray] <;> omega)
    have I1 : L2.Inv X pins σ H { s with heap := h' } := I.kept (t' := s.toks) kp
    exact fin_tup (t := s.toks) I1 r' hz q
  · obtain ⟨its, r', pl, hz⟩ := I.tuple hq
    exact call_tuple_same pl ⟨.ref p, H, I, rfl, q⟩
def tTupRgF (te : L2.St → Hp → (Int → Int → Hp → Prop) → Prop) : TE := fun σ H Q => te σ H fun a b H1 => RgOk a b ∧ NewT Q H1 (rgV a b)
theorem pe_tupRgF {e : Expr} {te : L2.St → Hp → (Int → Int → Hp → Prop) → Prop} {p pos : Pos} (hc : X.calm = true) (hg : Gl X "tuple") (hm : X.mg "tuple" = none) (he : PRg X e te) (na : starEach [e] X.env = (false, eval e X.env) :: starEach [] X.env := by rfl) : PE X (.Call (.Name "tuple" p) [e] [] pos) (tTupRgF te) := by
  refine ⟨fun pins s σ H Q I h => ?_⟩
  refine Call_ (ld_blt I hg hm boot_tuple (PyProof.Rows.callWith_type1 (args_cons (thn (he pins s σ H _ I h) fun x s1 ⟨r, a, b, t, u, v, H1, ex, hr, I1, ok, q⟩ => args_nil ?_) na) na))
  subst ex
  obtain ⟨b1, b2, b3, b4, b5⟩ := ok
  refine call_tuple_range (n := (b - a).toNat) (I1.ok.hd hc) hr (small_one b1 b2 b3 b4) (rangeSize_nat a b) b5 fun h' tk acc hk hi => ?_
  have I2 : L2.Inv X pins σ H1 { s1 with heap := h', toks := tk } := I1.kept hk
  have z := fin_tup (t := tk) I2 (vals_rg hi) (by rw [rgV_length, sizeLine_eq]; omega) q
  rw [Array.toArray_toList] at z
  exact z

/-! ### tuple * int, all of it -/
theorem tuple_mul_same (l : Addr) (items : Array Value) (n : Nat) (dd : Option Addr) (sl : Array (Option Value)) (x : Int) (u : Tok) (c0 : (decide (x < -(2 ^ 63)) || decide (x ≥ 2 ^ 63)) = false) (c1 : (items.isEmpty || x == 1) = true) :
    Meets (Builtin.«tuple.__mul__» ⟨[.ref l, .int x u], []⟩) (fun _ R s => s.heap.get? l = some { cls := .type "tuple", dict := dd, data := .seq items n, slots := sl } ∧
      R (.ok (.ret (Value.ref l))) s) :=
  .of_wp fun prog w A R s h => by
    obtain ⟨hp, g, d, tk, os⟩ := s
    obtain ⟨hl, h⟩ := h
    have f1 := AutoSeq1.idx_int
    wp_walk using wpAny_loadPart' hl
    repeat (first
      | (refine wpAny_ite_false (decide_eq_false (by rw [c0]; exact Bool.false_ne_true)) ?_; wp_walk using wpAny_loadPart' hl)
      | (refine wpAny_ite_true (decide_eq_true c1) ?_; wp_walk using wpAny_loadPart' hl))
    exact ⟨_, rfl, h⟩
theorem tuple_mul_none (l : Addr) (items : Array Value) (n : Nat) (dd : Option Addr) (sl : Array (Option Value)) (x : Int) (u : Tok) (c0 : (decide (x < -(2 ^ 63)) || decide (x ≥ 2 ^ 63)) = false) (c1 : (items.isEmpty || x == 1) = false) (c2 : (decide (x ≤ 0) || items.isEmpty) = true) :
    Meets (Builtin.«tuple.__mul__» ⟨[.ref l, .int x u], []⟩) (fun _ R s => s.heap.get? l = some { cls := .type "tuple", dict := dd, data := .seq items n, slots := sl } ∧
      R (.ok (.ret (Value.ref s.heap.objs.size))) { s with heap := s.heap.push { cls := Value.type "tuple", data := Data.seq (#[] : Array Value) }, toks := s.toks }) :=
  .of_wp fun prog w A R s h => by
    obtain ⟨hp, g, d, tk, os⟩ := s
    obtain ⟨hl, h⟩ := h
    have f1 := AutoSeq1.idx_int
    wp_walk using wpAny_loadPart' hl
    repeat (first
      | (refine wpAny_ite_false (decide_eq_false (by rw [c0]; exact Bool.false_ne_true)) ?_; wp_walk using wpAny_loadPart' hl)
      | (refine wpAny_ite_false (decide_eq_false (by rw [c1]; exact Bool.false_ne_true)) ?_; wp_walk using wpAny_loadPart' hl)
      | (refine wpAny_ite_true (decide_eq_true c2) ?_; wp_walk using wpAny_loadPart' hl))
    exact ⟨_, rfl, h⟩
/-- t * k: every whole number up to a thousand -/
def rRepF (K : PySem.W.Frag) : R2 := fun x y H Q => ∃ l k xs, x = .ref l ∧ y = .int k ∧ SqT K H l xs ∧ -1000 ≤ k ∧ k ≤ 1000 ∧ xs.length ≤ 1000 ∧
  ((xs = [] ∨ k = 1) → Q (.ref l) H) ∧ NewT Q H (List.replicate k.toNat xs).flatten
theorem op_repF : OpR X (binaryOp .Mult) (rRepF X.K) := by
  intro pins s σ H x y v u Q I rx ry h
  obtain ⟨l, k, xs, rfl, rfl, hT, h0, h2, hz, q0, q⟩ := h
  cases rx
  obtain ⟨t, rfl⟩ := ry
  obtain ⟨its, r, ⟨⟨cls, dd, data, sl⟩, ho, hc, n, hd⟩, hsz⟩ := I.tuple hT
  simp only at hc hd
  subst hc hd
  have hle : its.length = xs.length := r.length.symm
  have c0 : (decide (k < -(2 ^ 63)) || decide (k ≥ 2 ^ 63)) = false := by
    rw [decide_eq_false (by omega), decide_eq_false (by omega)] <;> rfl
  refine wpAny_binaryOp_repeat_ref (T := "tuple") (U := "int") (by decide) ⟨_, ho, rfl⟩ (fun s' => typeIs_int s' k t) noFill_tuple_mul F.fills_int_mul F.slot_int_rmul repeat_tuple F.slot_int_index.lookup
    (call_meets F.slot_int_rmul (typeIs_int s k t) F.entry_int_rmul (F.args_int_rmul_2 _ _) (int_rmul_tuple k t l its.toArray n dd sl)
      ⟨ho, rfl, ⟨_, ho, rfl⟩, ?_⟩)
  by_cases hs : xs = [] ∨ k = 1
  · have c1 : (its.toArray.isEmpty || k == 1) = true := by
      rcases hs with e | e
      · have : its = [] := List.eq_nil_of_length_eq_zero (by rw [hle, e]; rfl)
        rw [this]; rfl
      · rw [e]; simp
    exact call_meets F.slot_tuple_mul ⟨_, ho, rfl⟩ F.entry_tuple_mul (F.args_tuple_mul_2 _ _) (tuple_mul_same l its.toArray n dd sl k t c0 c1) ⟨ho, .ref l, H, I, rfl, q0 hs⟩
  · have hi : its.toArray.isEmpty = false := by
      cases its with
      | nil => exact absurd (List.eq_nil_of_length_eq_zero hle.symm) fun e => hs (.inl e)
      | cons a b => rfl
    have c1 : (its.toArray.isEmpty || k == 1) = false := by
      rw [hi, Bool.false_or]
      exact beq_eq_false_iff_ne.mpr fun e => hs (.inr e)
    by_cases h1 : k ≤ 0
    · have c2 : (decide (k ≤ 0) || its.toArray.isEmpty) = true := by rw [decide_eq_true h1]; rfl
      refine call_meets F.slot_tuple_mul ⟨_, ho, rfl⟩ F.entry_tuple_mul (F.args_tuple_mul_2 _ _) (tuple_mul_none l its.toArray n dd sl k t c0 c1 c2) ⟨ho, ?_⟩
      have e0 : (List.replicate k.toNat xs).flatten = [] := by rw [show k.toNat = 0 by omega]; rfl
      rw [e0] at q
      exact fin_tup (t := s.toks) (us := []) I .nil (by rw [sizeLine_eq]; exact Nat.zero_le _) q
    · have hsz0 : its.toArray.size = xs.length := by rw [List.size_toArray, hle]
      have hm : ((its.toArray.size : Nat) : Int) * k ≤ 1000000 := by
        rw [hsz0]
        have a1 : ((xs.length : Nat) : Int) * k ≤ 1000 * k := Int.mul_le_mul_of_nonneg_right (by omega) (by omega)
        omega
      have flen : (List.replicate k.toNat its).flatten.length ≤ sizeLine := by
        rw [PyProof.Rows.lm_len_rep_flat, hle, sizeLine_eq]
        have a1 : k.toNat * xs.length ≤ 1000 * 1000 := Nat.mul_le_mul (by omega) hz
        omega
      have c2 : (decide (k ≤ 0) || its.toArray.isEmpty) = false := by
        rw [hi, Bool.or_false]
        exact decide_eq_false h1
      have c4 : Builtin.Tuple.tupleTooMany (((its.toArray.size : Nat) : Int) * k) = false := by
        unfold Builtin.Tuple.tupleTooMany
        rw [sizeLine_eq]
        exact decide_eq_false (by omega)
      refine call_meets F.slot_tuple_mul ⟨_, ho, rfl⟩ F.entry_tuple_mul (F.args_tuple_mul_2 _ _) (tuple_mulW l its.toArray n dd sl k t c0 c1 c2 (by omega) c4 (by rw [size_rep, List.size_toArray]; exact flen)) ⟨ho, ?_⟩
      rw [size_rep]
      exact fin_tup (t := s.toks) I (r.rep k.toNat) (by rw [PyProof.Rows.lm_len_rep_flat, sizeLine_eq]; have a1 : k.toNat * xs.length ≤ 1000 * 1000 := Nat.mul_le_mul (by omega) hz; omega) q

/-! ### methods whose receiver's kind is seen as it runs -/
/-- of that built-in type, without a dict -/
def tyN (T : String) (x : V) (H : Hp) : Prop := match x with
  | .str _ => T = "str"
  | .ref p => (T = "list" ∧ ∃ xs, H p = some (.lst xs)) ∨ (T = "tuple" ∧ ∃ xs, TupAt H p xs)
  | _ => False
theorem tyN_is {T : String} {x : V} {v : Value} (I : L2.Inv X pins σ H s) (r : L2.RelV x v) (ty : tyN T x H) :
    s.TypeIs v T ∧ ∀ a, v = .ref a → ∃ ob, s.heap.get? a = some ob ∧ ob.dict = none := by
  cases x with
  | str z =>
    obtain ⟨t, rfl⟩ := r
    cases (show T = "str" from ty)
    exact ⟨typeIs_str s z t, fun _ e => nomatch e⟩
  | ref p =>
    cases r
    rcases ty with ⟨rfl, xs, hq⟩ | ⟨rfl, xs, o, hk, hd⟩
    · obtain ⟨its, _, pl, _⟩ := I.list (SqL.of hq)
      refine ⟨pl.isList.typeIs, fun a e => ?_⟩
      cases e
      obtain ⟨o, n, e, c, hd, _⟩ := pl
      exact ⟨o, e, hd⟩
    · obtain ⟨e, _, _, _, o', e', hc, _⟩ := I.hok p _ hk
      rw [e] at e'; cases e'
      refine ⟨⟨o, e, hc⟩, fun a e2 => ?_⟩
      cases e2
      exact ⟨o, e, hd⟩
  | _ => exact False.elim ty
variable {o e : Expr} {to : TE} {name : Str} {apos cpos : Pos} {r : V → List V → Hp → VK → Prop}
def tMG (name : Str) (X : Cx) (to : TE) (t : TA) : TE := fun σ H Q => to σ H fun x H1 => ∃ T id r, PlainAttrs T ∧ Slot T name id ∧ typeOf (.builtin id) = pure (.type "method_descriptor") ∧ MtR X id r ∧ tyN T x H1 ∧ t σ H1 fun xs H2 => r x xs H2 Q
theorem pe_mg {es : List Expr} {t : TA} (ho : PE X o to) (ha : PA X (e :: es) t)
    (hbase : attributeBase o name X.env (eval o X.env) = eval o X.env)
    (hfew : ((backTo cpos (starEach (e :: es) X.env)).all (fun x => !x.1) && (backToKw cpos (keywordEach [] X.env)).all (fun x => x.1.isSome)
      && decide ((e :: es).length + ([] : List Keyword).length + (if ([] : List Keyword).isEmpty then 0 else 1) < 30)) = true)
    (hline : (apos.endLine == cpos.line) = true) (hs : starEach (e :: es) X.env = (false, eval e X.env) :: starEach es X.env) (hplain : (backTo cpos (starEach es X.env)).any (·.1) = false) :
    PE X (.Call (.Attribute o name apos) (e :: es) [] cpos) (tMG name X to t) := by
  refine ⟨fun pins s σ H Q I h => ?_⟩
  refine wpAny_Call_method_late hbase hfew hline rfl (thn (ho.run pins s σ H _ I h) fun v s1 ⟨x, H1, I1, r1, T, id, r, pa, slot, hty, hm, ty, q1⟩ => ?_)
  obtain ⟨h1, h2⟩ := tyN_is I1 r1 ty
  refine ⟨T, id, pa, slot, hty, h1, h2, ?_⟩
  have hA := ha.run cpos pins s1 σ H1 _ I1 q1
  rw [hs] at hA ⊢
  refine Calls.callWith_builtin (by show (false || (backTo cpos (starEach es X.env)).any (·.1)) = false; rw [hplain] <;> rfl) (Calls.evalArgs_plain ?_)
  exact thn hA fun us s2 ⟨vs, H2, I2, r2, q2⟩ => hm pins s2 σ H2 x vs v us Q I2 r1 r2 q2
def tMG0 (name : Str) (X : Cx) (to : TE) : TE := fun σ H Q => to σ H fun x H1 => ∃ T id r, PlainAttrs T ∧ Slot T name id ∧ typeOf (.builtin id) = pure (.type "method_descriptor") ∧ MtR X id r ∧ tyN T x H1 ∧ r x [] H1 Q
theorem pe_mg0 (ho : PE X o to) (hbase : attributeBase o name X.env (eval o X.env) = eval o X.env) (hline : (apos.endLine == cpos.line) = true) : PE X (.Call (.Attribute o name apos) [] [] cpos) (tMG0 name X to) := by
  refine ⟨fun pins s σ H Q I h => ?_⟩
  refine wpAny_Call_method0_late hbase hline (thn (ho.run pins s σ H _ I h) fun v s1 ⟨x, H1, I1, r1, T, id, r, pa, slot, hty, hm, ty, q1⟩ => ?_)
  obtain ⟨h1, h2⟩ := tyN_is I1 r1 ty
  exact ⟨T, id, pa, slot, hty, h1, h2, Calls.callWith_builtin rfl (PySem.evalArgs_none (hm pins s1 σ H1 x [] v [] Q I1 r1 .nil q1))⟩
end
end MP
/-! MPS: more rules: sorted of a tuple, sets of a tuple's ints, a sequence turned about, a list grown by a tuple, enumerate over a tuple. -/
namespace MP
open PySem L2 PyProof.Rows
section
variable {prog : Program} {w : World} {A : Around} {E : Value → Shared → Prop} {s : Shared}
/-- what sorted collects of a tuple -/
theorem gather_tup {t : Addr} {vs : List Value} {Q : List Value → Shared → Prop} (ht : IsTup s.heap t vs.toArray) (hz : vs.length ≤ sizeLine)
    (h : Q vs { s with heap := (s.heap.push (seqObj "list" #[] 0)).update s.heap.objs.size (Obj.mapSeq (· ++ vs.toArray)) }) : wpAny (model prog w) A (collect (.ref t)) Q E s := by
  obtain ⟨o, ho, hc, n, hd⟩ := id ht
  unfold collect
  refine wpAny_bind (wpAny_runValue (codeAny_builtin entry_proto_collect' ?_))
  show wpAny _ _ (newList [] >>= fun l => again (.builtin "list.__iadd__" ⟨[l, .ref t], []⟩)) _ _ s
  refine wpAny_bind (wpAny_newList (wpAny_pure ⟨Code.quiet_builtin _ (by decide +kernel), codeAny_builtin entry_list_iadd' ?_⟩))
  show wpAny _ _ (Builtin.List.listExtendWith (.ref s.heap.objs.size) (.ref t) (.ref s.heap.objs.size)) _ _ ({ s with heap := s.heap.push (seqObj "list" #[] 0) } : Shared)
  unfold Builtin.List.listExtendWith
  have ho' : (s.heap.push (seqObj "list" #[] 0)).get? t = some o := Heap.get?_push_of_some _ ho
  refine wpAny_bind (wpAny_typeOf (T := "tuple") ⟨o, ho', hc⟩ ?_)
  have tt : (Value.type "tuple" == Value.type "tuple") = true := by rfl
  rw [if_pos (by rw [tt]; simp)]
  refine wpAny_bind (listItems_at ho' hd (wpAny_bind (listItems_at (xs := #[]) (n := 0) (Heap.get?_push_size _ rfl) rfl ?_)))
  rw [if_neg (by simp)]
  refine wpAny_bind (listUpdate_at (xs := #[]) (n := 0) (Heap.get?_push_size _ rfl) rfl ?_ (Nat.zero_le _) (by show (#[] ++ vs.toArray).size ≤ sizeLine + 1; simp; omega))
  refine wpAny_pure ?_
  show wpAny (model prog w) A (load s.heap.objs.size >>= fun o => match o.data with | .seq xs _ => pure xs.toList | _ => unsupported "internal:collect") Q E _
  refine wpAny_bind (wpAny_load (get?_update_seq (Heap.get?_push_size _ rfl) _) ?_)
  show wpAny _ _ (pure (#[] ++ vs.toArray : Array Value).toList) Q E _
  have e : (#[] ++ vs.toArray : Array Value).toList = vs := by simp
  rw [e]
  exact wpAny_pure h
end
def rSortT : List V → Hp → VK → Prop := fun vs H Q => ∃ (a : Addr) (ns : List Int), vs = [V.ref a] ∧ TupAt H a (ns.map V.int) ∧ ∀ (ns' : List Int) (p : Addr), ns'.Perm ns → ns'.Pairwise (· ≤ ·) → H p = none → Q (.ref p) (upd H p (.lst (ns'.map V.int)))
section
variable {X : Cx}
theorem cr_sortT : CallR X (.builtin "sorted") rSortT := by
  intro pins s σ H vs us Q I r h
  obtain ⟨a, ns, rfl, ht, q⟩ := h
  obtain ⟨its, rv, hl, hz⟩ := I.tuple ht.sq
  rw [Vals.ref1 r]
  have hi := rv.ints
  have hz' : its.length ≤ sizeLine := by rw [← rv.length]; exact hz
  refine Calls.call_function_entry kind_sorted plain_sorted entry_sorted (args_sorted1 _) ?_
  show wpAny _ _ (checkCount "sorted" 1 1 1 >>= fun _ => collect (.ref a) >>= fun l => newList l >>= fun l => holding [l] (call (.builtin "list.sort") [l] []) >>= fun _ => ret l) _ _ s
  refine wpAny_bind (m := checkCount "sorted" 1 1 _) (wpAny_pure (wpAny_bind (gather_tup hl hz' (wpAny_bind (wpAny_newList ?_ hz')))))
  have hsz : ((s.heap.push (seqObj "list" #[] 0)).update s.heap.objs.size (Obj.mapSeq (· ++ its.toArray))).objs.size = s.heap.objs.size + 1 := by rw [Heap.size_update, size_push']
  generalize hh : ((s.heap.push (seqObj "list" #[] 0)).update s.heap.objs.size (Obj.mapSeq (· ++ its.toArray))) = h1 at hsz
  have hoL : (h1.push (seqObj "list" its.toArray 0)).get? (s.heap.objs.size + 1) = some (seqObj "list" its.toArray 0) := by rw [← hsz]; exact Heap.get?_push_size _ rfl
  have kp : ∀ b o, s.heap.get? b = some o → h1.get? b = some o := fun b o e => by
    rw [← hh, Heap.get?_update_ne _ _ _ _ (Nat.ne_of_lt (Heap.lt_size e))]
    exact Heap.get?_push_of_some _ e
  show wpAny _ _ _ _ _ ({ s with heap := h1.push (seqObj "list" its.toArray 0) } : Shared)
  rw [hsz]
  refine wpAny_bind (wpAny_holding (wpAny_call_entry slot_list_sort ⟨_, hoL, rfl⟩ entry_list_sort (SrtO.list_sort_ord SrtO.swo_int hoL hz' (fun h2 => SrtO.ints_sortable hi h2) fun out hs hb => ⟨_, rfl, ?_⟩) (args_list_sort _)))
  obtain ⟨k1, k2, k3⟩ := SrtO.ints_out hi hs hb
  obtain ⟨ep, he'⟩ := sortedHeap_at (vs := its) (out := out.toArray) hoL
  have hlen : ((out.map SrtO.iv).map V.int).length ≤ sizeLine := by
    rw [List.length_map, k2.length_eq]
    rw [List.length_map] at hz
    exact hz
  refine wpAny_pure ⟨_, rfl, .ref _, upd H (s.heap.objs.size + 1) (.lst ((out.map SrtO.iv).map V.int)), I.laid (t' := s.toks) (fun b u e => ?_) (Nat.le_succ _) ⟨hlen, out, ep, vals_of_ints k1, he'⟩, rfl, q _ _ k2 k3 (I.hok.fresh (Nat.le_succ _))⟩
  have hlt := Heap.lt_size e
  show (sortedHeap (h1.push (seqObj "list" its.toArray 0)) (s.heap.objs.size + 1) its out.toArray).get? b = some u
  rw [sortedHeap_old (Nat.ne_of_lt (Nat.lt_succ_of_lt hlt)) (by rw [size_push', hsz]; exact Nat.lt_succ_of_lt (Nat.lt_succ_of_lt hlt))]
  exact Heap.get?_push_of_some _ (kp b u e)

/-! ### sets of a tuple's ints -/
def rSetT (w : World) : List V → Hp → VK → Prop := fun vs H Q => ∃ (a : Addr) (ns : List Int), vs = [V.ref a] ∧ TupAt H a (ns.map V.int) ∧ ns.length < 64 ∧
  ∀ (p : Addr) (n : Nat) (ks : List Int), ks.Nodup → (∀ k, k ∈ ks ↔ k ∈ ns) → ks.length = n → n < 64 → H p = none → Q (.ref p) (upd H p (SetO w p (fun j => decide (j ∈ ns)) n))
theorem call_setT (hc : X.calm = true) : CallR X (.type "set") (rSetT X.w) := by
  intro pins s σ H vs us Q I r h
  obtain ⟨a, ns, rfl, ht, hl, q⟩ := h
  obtain ⟨its, rv, hp, hz⟩ := I.tuple ht.sq
  rw [Vals.ref1 r]
  refine call_set_tupI ns (I.ok.hd hc) hp (by simpa using rv.ints) (by unfold scanBound; omega) fun h' tk c hS hcl hk => ?_
  have hS' := hS
  obtain ⟨o, es, ep, t, ho, hex, hd, g, nd, hm, hb, hf, hn, hr, hl2⟩ := hS'
  have new := setO_new (P := X.prog) (H := upd H s.heap.objs.size (SetO X.w s.heap.objs.size (fun j => decide (j ∈ ns)) c)) hS
  refine ⟨.ref _, upd H s.heap.objs.size (SetO X.w s.heap.objs.size (fun j => decide (j ∈ ns)) c), I.laid (t' := tk) hk (Nat.le_refl _) new, rfl, q _ c (es.toList.map keyOf) nd (fun k => ?_) (by rw [List.length_map, Array.length_toList]; exact hn) (by omega) (I.hok.fresh (Nat.le_refl _))⟩
  rw [← hm k, decide_eq_true_eq]
def rLenSet (w : World) : List V → Hp → VK → Prop := fun vs H Q => ∃ (a : Addr) (S : Int → Bool) (n : Nat), vs = [V.ref a] ∧ H a = some (SetO w a S n) ∧ n < 64 ∧ Q (.int n) H
theorem cr_lenSet : CallR X (.builtin "len") (rLenSet X.w) := by
  intro pins s σ H vs us Q I r h
  obtain ⟨a, S, n, rfl, ha, h64, q⟩ := h
  rw [Vals.ref1 r]
  obtain ⟨o, es, ep, t, ho, hex, hd, _, _, _, _, hf, hn, _⟩ := setO_get I ha
  exact call_len_set ho hex hd hf (by rw [hn]; omega) ⟨.int n, H, I.tok _, ⟨_, by rw [hn]⟩, q⟩

/-! ### a list grown by a tuple -/
end
theorem ext_tup (l : Addr) (items : Array Value) (n : Nat) (b : Addr) (items2 : Array Value) (n2 : Nat) (dd : Option Addr) (sl : Array (Option Value)) (h0 : ¬(!items.isEmpty && Builtin.List.listTooLong (items.size + items2.size)) = true) (h1 : items.size ≤ sizeLine) (h2 : items.size + items2.size ≤ sizeLine + 1) :
    Meets (Builtin.«list.extend» ⟨[.ref l, .ref b], []⟩) (fun _ R s => s.heap.get? l = some { cls := .type "list", dict := none, data := .seq items n, slots := #[] } ∧
      s.heap.get? b = some { cls := .type "tuple", dict := dd, data := .seq items2 n2, slots := sl } ∧ R (.ok (.ret Value.none)) { s with heap := s.heap.update l (Obj.mapSeq fun x => x ++ items2), toks := s.toks }) :=
  .of_wp fun prog w A R s h => by
    obtain ⟨hp, g, d, tk, os⟩ := s
    obtain ⟨hl, hb, h⟩ := h
    have f1 := AutoSeq1.idx_int
    have f2 := AutoSeq1.sub_tuple_tuple
    have f3 := AutoSeq1.sub_list_list
    have f4 := AutoSeq1.sub_tuple_list
    have f5 := AutoSeq1.sub_list_tuple
    have hz' : (items ++ items2).size ≤ sizeLine + 1 := by rw [Array.size_append]; exact h2
    wp_walk using (wpAny_updateSeq hl rfl (hz := h1) (_hz' := hz')), wpAny_loadPart' hl, wpAny_loadPart' hb
    exact ⟨_, rfl, h⟩
section
variable {X : Cx}
def rExtT : V → List V → Hp → VK → Prop := fun x vs H Q => ∃ l b xs zs, x = .ref l ∧ vs = [.ref b] ∧ H l = some (.lst xs) ∧ TupAt H b zs ∧ xs.length + zs.length ≤ sizeLine ∧ Q .non (upd H l (.lst (xs ++ zs)))
theorem mt_extT : MtR X "list.extend" rExtT := by
  intro pins s σ H x vs v us Q I rx rv h
  obtain ⟨l, b, xs, zs, rfl, rfl, hH, hB, hz, q⟩ := h
  cases rx
  obtain ⟨u, rfl, ru⟩ := vals1 rv
  cases ru
  obtain ⟨z, its, n, r, hl, e⟩ := I.lstM hH
  obtain ⟨its2, r2, ⟨⟨cls, dd, data, sl⟩, ho, hc, n2, hd⟩, hz2⟩ := I.tuple hB.sq
  simp only at hc hd
  subst hc hd
  have hsz : its.toArray.size + its2.toArray.size ≤ sizeLine := by rw [List.size_toArray, List.size_toArray, ← r.length, ← r2.length]; exact hz
  have hlong : ¬ (!its.toArray.isEmpty && Builtin.List.listTooLong (its.toArray.size + its2.toArray.size)) = true := by rw [notLongL hsz, Bool.and_false]; exact Bool.false_ne_true
  refine call_meets PySem.F.slot_list_extend ⟨_, e, rfl⟩ PySem.F.entry_list_extend (PySem.F.args_list_extend_2 _ _) (ext_tup l its.toArray n b its2.toArray n2 dd sl hlong (by rw [List.size_toArray, ← r.length]; omega) (by omega)) ⟨e, ho, ?_⟩
  refine ⟨.non, _, I.lset (its' := its ++ its2) hH e (by simp) (r.append r2) ?_, rfl, q⟩
  rw [List.length_append]; omega

/-! ### x[::-1] -/
theorem places_back (n : Nat) : Builtin.Slice.sliceAdjust none none (-1) (n : Int) = ((n : Int) - 1, -1) := by
  unfold Builtin.Slice.sliceAdjust
  simp
theorem count_back (n : Nat) : Builtin.Slice.slicePlaces ((n : Int) - 1) (-1) (-1) = n := by
  unfold Builtin.Slice.slicePlaces
  simp
  omega
theorem fm_congr {α β : Type} {f g : α → Option β} : ∀ {l : List α}, (∀ x ∈ l, f x = g x) → l.filterMap f = l.filterMap g
  | [], _ => rfl
  | x :: l, h => by rw [List.filterMap_cons, List.filterMap_cons, h x List.mem_cons_self, fm_congr fun y hy => h y (List.mem_cons_of_mem _ hy)]
theorem pick_back (xs : Array Value) : ((List.range xs.size).filterMap fun (k : Nat) => xs[(((xs.size : Int) - 1) + (k : Int) * (-1)).toNat]?).toArray = xs.toList.reverse.toArray := by
  have h := PySem.W.krv_range xs.size
  have e : (List.range xs.size).filterMap (fun (k : Nat) => xs[(((xs.size : Int) - 1) + (k : Int) * (-1)).toNat]?) = ((List.range xs.size).map fun k => xs.size - 1 - k).filterMap (xs[·]?) := by
    rw [List.filterMap_map]
    refine fm_congr fun k hk => ?_
    have := List.mem_range.mp hk
    simp only [Function.comp]
    congr 1
    omega
  rw [e, h, List.filterMap_reverse, PySem.W.krv_all]
theorem get_back {A : Around} {E : Value → Shared → Prop} {s : Shared} {prog : Program} {w : World} {t sl : Addr} {items : Array Value} {vs : Value} {Q : Value → Shared → Prop} (ht : IsTup s.heap t items) (hs : s.heap.IsSliceOf sl .none .none vs) (ps : IsPart vs (some (-1)))
    (h : Q (.ref s.heap.objs.size) { s with heap := s.heap.push { cls := .type "tuple", data := .seq items.toList.reverse.toArray } }) (hsz : items.size ≤ sizeLine) : wpAny (model prog w) A (getItem (.ref t) (.ref sl)) Q E s := by
  obtain ⟨os, hos, hcs, hds⟩ := id hs
  have hT : s.TypeIs (.ref sl) "slice" := ⟨os, hos, hcs⟩
  have hz : sizeOk (.seq items.toList.reverse.toArray) := by
    show items.toList.reverse.toArray.size ≤ sizeLine
    simpa using hsz
  unfold getItem
  try with_reducible refine wpAny_holding ?_
  first | refine wpAny_bind (wpAny_pure ?_) | skip
  refine wpAny_bind (wpAny_sequenceKey ht.typeIs (by decide) (wpAny_bind (wpAny_callSpecial?_slot (name := Str.ofString "__getitem__") ht.typeIs PyProof.Rows.slot_tuple_getitem (wpAny_call_entry PyProof.Rows.slot_tuple_getitem ht.typeIs entry_tuple_getitem ?_ (args_tuple_getitem _ _)))))
  show wpAny _ _ (Builtin.Tuple.tupleItemsOf (.ref t) >>= _) _ _ s
  refine wpAny_bind (tupleItemsOf_ ht (wpAny_bind (wpAny_typeOf hT ?_)))
  rw [if_pos (by decide)]
  have ap : ∀ {A' : Around} {E' : Value → Shared → Prop} {Q' : Int × Int × Nat → Shared → Prop}, Q' ((items.size : Int) - 1, -1, items.size) s → wpAny (model prog w) A' (Builtin.Slice.sliceApplied (.ref sl) (pure (items.size : Int))) Q' E' s := by
    intro A' E' Q' q
    unfold Builtin.Slice.sliceApplied Builtin.Slice.sliceFields
    refine wpAny_bind (wpAny_bind (wpAny_field hos hds (x := .none) rfl (wpAny_bind (wpAny_field hos hds (x := .none) rfl (wpAny_bind (wpAny_field hos hds (x := vs) rfl (wpAny_pure ?_)))))))
    refine wpAny_bind (HT.slicePart_ ps ?_)
    show wpAny _ _ (if ((-1 : Int) == 0) = true then _ else _) _ _ s
    rw [if_neg (by decide)]
    refine wpAny_bind (HT.slicePart_ .none (wpAny_bind (HT.slicePart_ .none (wpAny_bind (wpAny_pure ?_)))))
    show wpAny _ _ (match Builtin.Slice.sliceAdjust none none (-1) (items.size : Int) with | (lo, hi) => pure (lo, (-1 : Int), Builtin.Slice.slicePlaces lo hi (-1))) _ _ s
    rw [places_back]
    show wpAny _ _ (pure ((items.size : Int) - 1, (-1 : Int), Builtin.Slice.slicePlaces ((items.size : Int) - 1) (-1) (-1))) _ _ s
    rw [count_back]
    exact wpAny_pure q
  refine wpAny_bind (ap ?_)
  show wpAny _ _ (if ((items.size : Int) - 1 == 0 && (-1 : Int) == 1 && items.size == items.size) = true then _ else _) _ _ s
  have hn : ¬ (((items.size : Int) - 1 == 0 && (-1 : Int) == 1 && items.size == items.size) = true) := by
    rw [show ((-1 : Int) == 1) = false from rfl, Bool.and_false, Bool.false_and]
    exact Bool.false_ne_true
  rw [if_neg hn]
  show wpAny _ _ (Builtin.Tuple.tupleExact ((List.range items.size).filterMap fun (k : Nat) => items[(((items.size : Int) - 1) + (k : Int) * (-1)).toNat]?).toArray >>= _) _ _ s
  rw [pick_back]
  first
    | exact wpAny_bind (m := Builtin.Tuple.tupleExact _) (wpAny_newObj_type (wpAny_pure ⟨_, rfl, wpAny_pure h⟩) hz)
    | exact wpAny_bind (m := Builtin.Tuple.tupleExact _) (wpAny_newObj_type (wpAny_bind (wpAny_pure (wpAny_pure ⟨_, rfl, wpAny_pure h⟩))) hz)
    | exact wpAny_bind (wpAny_bind (m := Builtin.Tuple.tupleExact _) (wpAny_newObj_type (wpAny_pure (wpAny_pure ⟨_, rfl, wpAny_pure h⟩)) hz))
    | exact wpAny_bind (wpAny_bind (m := Builtin.Tuple.tupleExact _) (wpAny_newObj_type (wpAny_pure ⟨_, rfl, wpAny_pure h⟩) hz))
def tRev (K : PySem.W.Frag) (te : TE) : TE := fun σ H Q => te σ H fun x H1 => (∃ a xs, x = .ref a ∧ SqL K H1 a xs ∧ ∀ p, H1 p = none → Q (.ref p) (upd H1 p (.lst xs.reverse))) ∨ (∃ a xs, x = .ref a ∧ TupAt H1 a xs ∧ NewT Q H1 xs.reverse)
theorem pe_rev {e : Expr} {te : TE} {k : Nat} {p1 p2 p3 pos : Pos} (he : PE X e te) : PE X (.Subscript e (.Slice none none (some (.UnaryOp .USub (.Constant (.int 1) k p1) p2)) p3) pos) (tRev X.K te) := by
  refine ⟨fun pins s σ H Q I h => ?_⟩
  refine Subscript_ (thn (he.run pins s σ H _ I h) fun v s1 ⟨x, H1, I1, r1, q1⟩ => ?_)
  have hst : PO X (some (.UnaryOp .USub (.Constant (.int 1) k p1) p2)) (tPart (tUn (rU fun i => .int (-i)) (tC (.int 1)))) := po_some (pe_un un_neg pe_int)
  refine wpAny_Slice (thn (po_none.run pins s1 σ H1 (fun o H2 => o = none ∧ H2 = H1) I1 ⟨rfl, rfl⟩) fun vl s2 ⟨l, H2, I2, pl, el, e2⟩ => ?_)
  subst el e2
  refine thn (po_none.run pins s2 σ H2 (fun o H3 => o = none ∧ H3 = H2) I2 ⟨rfl, rfl⟩) fun vu s3 ⟨u, H3, I3, pu, eu, e3⟩ => ?_
  subst eu e3
  refine thn (hst.run pins s3 σ H3 (fun o H4 => o = some (-1) ∧ H4 = H3) I3 ⟨1, rfl, -1, rfl, rfl, rfl⟩) fun vs s4 ⟨o, H4, I4, ps, eo, e4⟩ => ?_
  subst eo e4
  have I5 : L2.Inv X pins σ H4 { s4 with heap := s4.heap.push { cls := .type "slice", data := .fields #[vl, vu, vs] } } := I4.kept (t' := s4.toks) fun b ob q => Heap.get?_push_of_some _ q
  rcases q1 with ⟨a, xs, rfl, hx, q⟩ | ⟨a, xs, rfl, hx, q⟩
  · cases r1
    obtain ⟨its, r, ht, hz⟩ := I5.list hx
    have hlen := r.length
    refine tail_any (ops := [.ref a, .ref s4.heap.objs.size]) ht.isList.typeIs (PySem.slot_list_getitem.lookup) (wpAny_getItem_list_slice ht.isList (Heap.IsSliceOf.new _ vl vu vs) pl pu ps (by decide) ?_ (by rw [List.size_toArray]; omega)) (by with_unfolding_all rfl)
    rw [PySem.W.krv_pick]
    exact ⟨.ref _, _, I5.laid (t' := s4.toks) (o := .lst xs.reverse) (fun b ob q => Heap.get?_push_of_some _ q) (Nat.le_refl _) ⟨by rw [List.length_reverse]; exact hz, _, 0, r.reverse, Heap.get?_push_size _ rfl⟩, rfl, q _ (I5.hok.fresh (Nat.le_refl _))⟩
  · cases r1
    obtain ⟨its, r, ht, hz⟩ := I5.tuple hx.sq
    have hlen := r.length
    cases pl
    cases pu
    refine tail_any (ops := [.ref a, .ref s4.heap.objs.size]) ht.typeIs (PyProof.Rows.slot_tuple_getitem.lookup) (get_back ht (Heap.IsSliceOf.new _ .none .none vs) ps ?_ (by rw [List.size_toArray]; omega)) (by with_unfolding_all rfl)
    exact fin_tup (t := s4.toks) I5 r.reverse (by rw [List.length_reverse]; exact hz) q
end
end MP
/-! MPU: enumerate over a tuple. -/
namespace MP
open PySem L2 PyProof.Rows
theorem meets_enum1 {v : Value} {o : Obj} {H : Heap → Prop} (B : Begins v o H) :
    Meets (Builtin.«enumerate.__new__» ⟨[.type "enumerate", v], []⟩) (fun _ R s => H s.heap ∧
      R (.ok (.ret (.ref (s.heap.push o).objs.size))) { s with heap := (s.heap.push o).push { cls := .type "enumerate", data := .fields #[.none, .bool false, .ref s.heap.objs.size, rawInt 0, .none, .none] } }) :=
  .of_wp fun prog w A R s h => by
    obtain ⟨hp, g, d, tk, os⟩ := s
    obtain ⟨h1, h⟩ := h
    have hsub := PySem.sub_enumerate
    have q1 : ∀ {A' : Around} {E : Value → Shared → Prop} {Q : Value → Shared → Prop}, Q (.ref hp.objs.size) ⟨hp.push o, g, d, tk, os⟩ → wpAny (model prog w) A' (pyIter v) Q E ⟨hp, g, d, tk, os⟩ := fun q => B.iter prog w _ _ ⟨hp, g, d, tk, os⟩ _ h1 q
    wp_walk using q1
    refine wpAny_stack_any fun st => wpAny_pure ?_
    split
    · rename_i c _ _ _ _ _
      cases (c == Value.type "enumerate")
      · wp_walk using q1
        exact ⟨_, rfl, h⟩
      · wp_walk using q1
        exact ⟨_, rfl, h⟩
    · wp_walk using q1
      exact ⟨_, rfl, h⟩
theorem call_enumT {prog : Program} {w : World} {A : Around} {E : Value → Shared → Prop} {s : Shared} {t : Addr} {items : Array Value} {Q : Value → Shared → Prop} (ht : s.heap.IsTuple t items)
    (h : ∀ h', IsEnum h' (s.heap.objs.size + 1) s.heap.objs.size 0 .none → h'.IsTupleIter s.heap.objs.size t 0 → (∀ b o, s.heap.get? b = some o → h'.get? b = some o) → Q (.ref (s.heap.objs.size + 1)) { s with heap := h' }) :
    wpAny (model prog w) A (call (.type "enumerate") [.ref t]) Q E s := by
  refine callType_new PySem.F.called_enumerate (by decide) (PySem.F.typeCall_enumerate_1 _) (PySem.F.newCall_enumerate_1 _) (fun obj => PySem.F.args_object_init_2 obj _) PySem.F.entry_enumerate_new (meets_enum1 (begins_tuple t items)) ⟨ht, ?_⟩
  have hz : (s.heap.push { cls := .type "tuple_iterator", data := .fields #[.ref t, .int 0 0] }).objs.size = s.heap.objs.size + 1 := Heap.size_push ..
  show _ ∧ _
  rw [hz]
  have he : IsEnum ((s.heap.push { cls := .type "tuple_iterator", data := .fields #[.ref t, .int 0 0] }).push { cls := .type "enumerate", data := .fields #[.none, .bool false, .ref s.heap.objs.size, rawInt 0, .none, .none] }) (s.heap.objs.size + 1) s.heap.objs.size 0 .none := by
    have z := Heap.get?_push_size (s.heap.push { cls := .type "tuple_iterator", data := .fields #[.ref t, .int 0 0] }) (o := { cls := .type "enumerate", data := .fields #[.none, .bool false, .ref s.heap.objs.size, rawInt 0, .none, .none] }) rfl
    rw [hz] at z; exact z
  exact ⟨⟨_, he, rfl⟩, h _ he ⟨_, Heap.get?_push_of_some _ (Heap.get?_push_size _ rfl), rfl, rfl⟩ fun b o x => Heap.get?_push_of_some _ (Heap.get?_push_of_some _ x)⟩
theorem TupAt.inj {H : Hp} {a : Addr} {xs ys : List V} (h : TupAt H a xs) (h2 : TupAt H a ys) : xs = ys := by
  obtain ⟨o, e, _⟩ := h
  obtain ⟨o2, e2, _⟩ := h2
  rw [e] at e2; cases e2; rfl
/-- the tuple at a, each item in a new pair -/
def IteT (a : Addr) : It :=
  ⟨fun i H => ∃ (xs : List V) (x : V), TupAt H a xs ∧ xs[i]? = some x, fun i H v H' => ∃ T x, v = .ref T ∧ H T = none ∧ H' = upd H T (.tup [.int (i : Nat), x]) ∧ ∀ xs, TupAt H a xs → xs[i]? = some x, fun i H => ∃ xs : List V, TupAt H a xs ∧ xs.length ≤ i⟩
theorem enumT_end {prog : Program} {w : World} {A : Around} {E : Value → Shared → Prop} {s : Shared} {e it t : Addr} {i : Nat} {items : Array Value} {old : Value} {Q : Option Value → Shared → Prop} (hh : A.handled = none)
    (he : IsEnum s.heap e it i old) (hit : s.heap.IsTupleIter it t i) (ht : s.heap.IsTuple t items) (hx : items[i]? = none) (hQ : ∀ h', Heap.ExtBut it s.heap h' → Q none { s with heap := h' }) : wpAny (model prog w) A (pyNext (.ref e)) Q E s := by
  have hT : s.TypeIs (.ref e) "enumerate" := ⟨_, he, rfl⟩
  unfold pyNext
  refine wpAny_bind (wpAny_attempt (wpAny_callSpecial?_slot (name := Str.ofString "__next__") hT PySem.F.slot_enumerate_next (wpAny_call_entry PySem.F.slot_enumerate_next hT PySem.F.entry_enumerate_next ?_ (PySem.F.args_enumerate_next_1 _))))
  show wpAny _ _ (field (.ref e) 2 >>= _) _ _ s
  refine wpAny_bind (wpAny_field he rfl (x := .ref it) rfl (wpAny_bind (wpAny_nextOf_tuple_end hh hit ht hx fun h' x k ⟨o, ho, hc⟩ => ?_)))
  exact wpAny_bind (wpAny_isInstance (T := "StopIteration") (b := true) ⟨o, ho, hc⟩ isSubtype_stop (wpAny_pure (hQ _ k)))
theorem turn_enumT {P : Program} {w : World} {K : PySem.W.Frag} {elts : List Expr} {kk : Nat} {tpos : Pos} (a e it : Addr) :
    Turn P w K (.Tuple elts kk tpos) (IteT a) [e, it] e (fun i h => (∃ old, IsEnum h e it ((i : Nat) : Int) old) ∧ h.IsTupleIter it a i ∧ e ≠ it) where
  mem := by simp
  obj := fun i h st b hb => by
    obtain ⟨⟨old, he⟩, ⟨o, ho, hc, hd⟩, _⟩ := st
    rcases (show b = e ∨ b = it by simpa using hb) with z | z
    · rw [z]; exact ⟨_, he, fun v q => nomatch q⟩
    · rw [z]; exact ⟨o, ho, fun v q => by rw [hd] at q; cases q⟩
  keep := fun i h h' st k => by
    obtain ⟨⟨old, he⟩, hi, hne⟩ := st
    exact ⟨⟨old, k e (by simp) _ he⟩, hi.at fun o q => k it (by simp) o q, hne⟩
  item := by
    intro X hP hw hK hc i pins s σ H E I hf st hg
    subst hP hw hK
    obtain ⟨⟨old, he⟩, hit, hne⟩ := st
    obtain ⟨xs, x, hq, hx⟩ := hg
    obtain ⟨its, rv, p, hz⟩ := I.tuple hq.sq
    obtain ⟨u, hu, ru⟩ := rv.get hx
    have hel : e < s.heap.objs.size := Heap.lt_size he
    have hil : it < s.heap.objs.size := by obtain ⟨_, q, _⟩ := hit; exact Heap.lt_size q
    have free : ∀ b ∈ [e, it], a ≠ b := fun b hb z => by
      obtain ⟨o, ho, _⟩ := hq
      have := (hf b hb).1
      rw [← z, ho] at this; cases this
    have hlt : i < its.toArray.size := by rw [List.size_toArray]; exact (List.getElem?_eq_some_iff.mp hu).1
    have hef : e ∉ [it, a] := fun m => by
      rcases (show e = it ∨ e = a by simpa using m) with z | z
      · exact hne z
      · exact free e (by simp) z.symm
    have D := Draws.tuple (prog := X.prog) (w := X.w) (A := X.A.in1) (I.ok.hd hc) it a (free it (by simp)) its.toArray
    refine wpAny_pyNext_enum_itemD D he ⟨hit, p⟩ hlt hne hef fun y h' tk hy ho hst' hT hsz hk => ?_
    have ey : y = u := by
      have hy' : its[i]? = some y := by simpa using hy
      rw [hu] at hy'; cases hy'; rfl
    subst ey
    refine ⟨_, rfl, wpAny_letOwnedTupleGo_enum (s := { s with heap := h', toks := tk + 1 }) ho fun h'' he' sb => ?_⟩
    have hT2 : h''.get? s.heap.objs.size = some { cls := .type "tuple", data := .seq #[.int i tk, y] } := (sb.2 _ (Nat.ne_of_gt hel)).trans hT
    have new : ObjOk X.prog X.w (upd H s.heap.objs.size (.tup [.int (i : Nat), x])) h'' s.heap.objs.size (.tup [.int (i : Nat), x]) :=
      ⟨by show 2 ≤ sizeLine; decide, [.int i tk, y], .cons ⟨_, rfl⟩ (.cons ru .nil), ⟨_, hT2, rfl, _, rfl⟩⟩
    have I1 : L2.Inv X pins σ (upd H s.heap.objs.size (.tup [.int (i : Nat), x])) { s with heap := h'', toks := tk + 1 } :=
      I.turnedNew (ch := [e, it]) (fun b ob hb q => (sb.2 b (fun z => hb (by simp [z]))).trans (hk b ob (fun z => hb (by simp [z])) (fun z => hb (by simp [z])) q)) hf (Nat.le_refl _) new
    refine ⟨.ref s.heap.objs.size, _, I1, rfl, ⟨_, x, rfl, I.hok.fresh (Nat.le_refl _), rfl, fun ys hy => by rw [hy.inj hq]; exact hx⟩, ⟨⟨y, ?_⟩, hst'.1.at fun o q => (sb.2 it (Ne.symm hne)).trans q, hne⟩, fun b hb => ?_⟩
    · rw [show ((i + 1 : Nat) : Int) = (i : Int) + 1 by omega]; exact he'
    · have hb' : b < s.heap.objs.size := by
        rcases (show b = e ∨ b = it by simpa using hb) with z | z
        · rw [z]; exact hel
        · rw [z]; exact hil
      rw [upd_ne (Nat.ne_of_lt hb')]
      exact (hf b hb).1
  done := by
    intro X hP hw hK hc i pins s σ H E I hf st hg
    subst hP hw hK
    obtain ⟨⟨old, he⟩, hit, hne⟩ := st
    obtain ⟨xs, hq, hx⟩ := hg
    obtain ⟨its, rv, p, hz⟩ := I.tuple hq.sq
    obtain ⟨f0, f1, f2, f3, f4, f5⟩ := hf it (by simp)
    have hl := rv.length
    exact enumT_end (I.ok.hd hc) he hit p (by simp; omega) fun h' eb => ⟨rfl, I.turned (t' := s.toks) (fun b o hb q => eb b o hb q) f0 f1 f3 f4 f5⟩
  self := fun A i s Q E st h => by
    obtain ⟨⟨_, he⟩, _⟩ := st
    exact wpAny_pyIter_enum he h
/-- enumerate of a list or a tuple, seen as it runs -/
def iEnumA (K : PySem.W.Frag) (ta : TA) : TI := fun σ H R => ta σ H fun vs H1 => ∃ a, vs = [.ref a] ∧ ((∃ xs, SqL K H1 a xs ∧ R (Ite K a) H1) ∨ (∃ xs, TupAt H1 a xs ∧ R (IteT a) H1))
theorem pi_enumA {X : Cx} {e : Expr} {ta : TA} {p pos tpos : Pos} {elts : List Expr} {kk : Nat} (hg : Gl X "enumerate") (hm : X.mg "enumerate" = none) (ha : PA X [e] ta) (hs' : starEach [e] X.env = [(false, eval e X.env)]) :
    PI X (.Tuple elts kk tpos) (.Call (.Name "enumerate" p) [e] [] pos) (iEnumA X.K ta) := by
  refine ⟨fun pins s σ H R I h => ?_⟩
  refine Call_ (ld_blt I hg hm boot_enumerate (PyProof.Rows.callWith_type1 (thn (ha.run pos pins s σ H _ I h) fun us s1 ⟨vs, H1, I1, r1, q1⟩ => ?_) hs' rfl))
  obtain ⟨a, ex, q⟩ := q1
  subst ex
  obtain ⟨u, rfl, ru⟩ := vals1 r1
  cases ru
  have above : ∀ b, b = s1.heap.objs.size + 1 ∨ b = s1.heap.objs.size → s1.heap.objs.size ≤ b := fun b hb => by
    rcases hb with z | z
    · rw [z]; exact Nat.le_add_right _ _
    · rw [z]; exact Nat.le_refl _
  rcases q with ⟨xs, hq, q⟩ | ⟨xs, hq, q⟩
  · obtain ⟨its, rv, p', hz⟩ := I1.list hq
    refine call_enumerate_list p'.isList fun h2 he hit hsz hk => wpAny_pyIter_enum he ?_
    exact ⟨s1.heap.objs.size + 1, [s1.heap.objs.size + 1, s1.heap.objs.size], _, _, H1, rfl, I1.kept (t' := s1.toks) hk, turn_enum a _ _, ⟨⟨.none, he⟩, hit, Nat.succ_ne_self _⟩, fun b hb => I1.fpOk (above b (by simpa using hb)) (I1.hok.fresh (above b (by simpa using hb))), q⟩
  · obtain ⟨its, rv, p', hz⟩ := I1.tuple hq.sq
    refine call_enumT (show s1.heap.IsTuple a its.toArray from p') fun h2 he hit hk => wpAny_pyIter_enum he ?_
    exact ⟨s1.heap.objs.size + 1, [s1.heap.objs.size + 1, s1.heap.objs.size], _, _, H1, rfl, I1.kept (t' := s1.toks) hk, turn_enumT a _ _, ⟨⟨.none, he⟩, hit, Nat.succ_ne_self _⟩, fun b hb => I1.fpOk (above b (by simpa using hb)) (I1.hok.fresh (above b (by simpa using hb))), q⟩
end MP
/-! MP2: how data lie in the heap; worlds; readings. -/
namespace MP
open PySem L2
/-- what stays throughout a law: the written part, the class of tables, the classes of errors -/
class Glob where
  K : PySem.W.Frag
  tc : Addr
  xc : Nat → Addr
  /-- the classes of errors that the text names -/
  hd : List Nat
variable [Glob]

/-- where the cells lie (each with the addresses that belong to it), what else may change -/
structure Wd where
  la : List (Addr × List Addr)
  ex : List Addr
def Wd.vol (W : Wd) : List Addr := (W.la.flatMap fun p => p.1 :: p.2) ++ W.ex

mutual
inductive Rep (W : Wd) (H : Hp) : V → Dt → Prop
  | non : Rep W H .non .non
  | bl (b : Bool) : Rep W H (.bl b) (.bl b)
  | int (i : Int) : Rep W H (.int i) (.int i)
  | str (x : Str) : Rep W H (.str x) (.str x)
  | tup {a : Addr} {xs : List V} {ds : List Dt} {o : Obj} : H a = some (.frz o (.tup xs)) → o.dict = none → a ∉ W.vol → Reps W H xs ds → Rep W H (.ref a) (.tup ds)
  | lst {a : Addr} {xs : List V} {ds : List Dt} : H a = some (.lst xs) → a ∉ W.vol → Reps W H xs ds → Rep W H (.ref a) (.lst ds)
  | ref {k : Nat} {p : Addr × List Addr} : W.la[k]? = some p → Rep W H (.ref p.1) (.ref k)
  | scr {a : Addr} {o : Obj} {ns : List Int} : H a = some (.frz o (.lst (ns.map V.int))) → a ∉ W.vol → Rep W H (.ref a) (.scr ns)
  | scrK {a : Addr} {ns : List Int} : (∃ (o : Obj) (its : Array Value) (n : Nat), Glob.K.lookup a = some o ∧ o.cls = .type "list" ∧ o.dict = none ∧ o.data = .seq its n ∧ its.size ≤ sizeLine ∧ Vals (ns.map V.int) its.toList) → Rep W H (.ref a) (.scr ns)
inductive Reps (W : Wd) (H : Hp) : List V → List Dt → Prop
  | nil : Reps W H [] []
  | cons {v : V} {vs : List V} {d : Dt} {ds : List Dt} : Rep W H v d → Reps W H vs ds → Reps W H (v :: vs) (d :: ds)
end
theorem Reps.length {W : Wd} {H : Hp} : ∀ {vs : List V} {ds : List Dt}, Reps W H vs ds → vs.length = ds.length
  | _, _, .nil => rfl
  | _, _, .cons _ t => by rw [List.length_cons, List.length_cons, t.length]
theorem Reps.append {W : Wd} {H : Hp} : ∀ {vs us : List V} {ds es : List Dt}, Reps W H vs ds → Reps W H us es → Reps W H (vs ++ us) (ds ++ es)
  | _, _, _, _, .nil, s => s
  | _, _, _, _, .cons r t, s => .cons r (t.append s)
theorem Reps.get {W : Wd} {H : Hp} : ∀ {vs : List V} {ds : List Dt} {i : Nat} {d : Dt}, Reps W H vs ds → ds[i]? = some d → ∃ v, vs[i]? = some v ∧ Rep W H v d
  | _, _, _, _, .nil, e => by simp at e
  | _, _, 0, d, .cons r _, e => by simp at e; subst e; exact ⟨_, rfl, r⟩
  | _, _, i + 1, d, .cons _ t, e => by
    obtain ⟨v, h1, h2⟩ := t.get (i := i) (d := d) (by simpa using e)
    exact ⟨v, by simpa using h1, h2⟩
theorem Reps.take {W : Wd} {H : Hp} : ∀ {vs : List V} {ds : List Dt} (n : Nat), Reps W H vs ds → Reps W H (vs.take n) (ds.take n)
  | _, _, 0, _ => .nil
  | _, _, _ + 1, .nil => .nil
  | _, _, n + 1, .cons r t => .cons r (t.take n)
theorem Reps.drop {W : Wd} {H : Hp} : ∀ {vs : List V} {ds : List Dt} (n : Nat), Reps W H vs ds → Reps W H (vs.drop n) (ds.drop n)
  | _, _, 0, r => r
  | _, _, _ + 1, .nil => .nil
  | _, _, n + 1, .cons _ t => t.drop n
theorem Reps.set {W : Wd} {H : Hp} {v : V} {d : Dt} (r : Rep W H v d) : ∀ {vs : List V} {ds : List Dt} (i : Nat), Reps W H vs ds → Reps W H (vs.set i v) (ds.set i d)
  | _, _, _, .nil => .nil
  | _, _, 0, .cons _ t => .cons r t
  | _, _, i + 1, .cons q t => .cons q (t.set r i)
theorem Reps.rev {W : Wd} {H : Hp} {vs : List V} {ds : List Dt} (r : Reps W H vs ds) : Reps W H vs.reverse ds.reverse := by
  induction vs generalizing ds with
  | nil => cases r; exact .nil
  | cons v vs ih =>
    cases r with
    | cons r t => rw [List.reverse_cons, List.reverse_cons]; exact (ih t).append (.cons r .nil)
theorem Reps.rep {W : Wd} {H : Hp} {vs : List V} {ds : List Dt} (r : Reps W H vs ds) : ∀ k : Nat, Reps W H (List.replicate k vs).flatten (List.replicate k ds).flatten
  | 0 => .nil
  | k + 1 => by rw [List.replicate_succ, List.replicate_succ, List.flatten_cons, List.flatten_cons]; exact r.append (Reps.rep r k)
theorem Reps.ints {W : Wd} {H : Hp} : ∀ {vs : List V} {ds : List Dt} {ns : List Int}, Reps W H vs ds → Dt.ints ds = some ns → vs = ns.map V.int ∧ ds = ns.map Dt.int
  | _, _, ns, .nil, e => by simp [Dt.ints] at e; subst e; exact ⟨rfl, rfl⟩
  | _, d :: ds, ns, .cons r t, e => by
    cases d <;> simp [Dt.ints] at e
    obtain ⟨l, e1, rfl⟩ := e
    obtain ⟨h1, h2⟩ := t.ints e1
    cases r
    exact ⟨by rw [h1]; rfl, by rw [h2]; rfl⟩
theorem Reps.strs {W : Wd} {H : Hp} : ∀ {vs : List V} {ds : List Dt} {ns : List Str}, Reps W H vs ds → Dt.strs ds = some ns → vs = ns.map V.str ∧ ds = ns.map Dt.str
  | _, _, ns, .nil, e => by simp [Dt.strs] at e; subst e; exact ⟨rfl, rfl⟩
  | _, d :: ds, ns, .cons r t, e => by
    cases d <;> simp [Dt.strs] at e
    obtain ⟨l, e1, rfl⟩ := e
    obtain ⟨h1, h2⟩ := t.strs e1
    cases r
    exact ⟨by rw [h1]; rfl, by rw [h2]; rfl⟩
theorem Reps.bls {W : Wd} {H : Hp} : ∀ {vs : List V} {ds : List Dt} {ns : List Bool}, Reps W H vs ds → Dt.bls ds = some ns → vs = ns.map V.bl ∧ ds = ns.map Dt.bl
  | _, _, ns, .nil, e => by simp [Dt.bls] at e; subst e; exact ⟨rfl, rfl⟩
  | _, d :: ds, ns, .cons r t, e => by
    cases d <;> simp [Dt.bls] at e
    obtain ⟨l, e1, rfl⟩ := e
    obtain ⟨h1, h2⟩ := t.bls e1
    cases r
    exact ⟨by rw [h1]; rfl, by rw [h2]; rfl⟩
theorem Reps.of_ints {W : Wd} {H : Hp} : ∀ ns : List Int, Reps W H (ns.map V.int) (ns.map Dt.int)
  | [] => .nil
  | n :: ns => .cons (.int n) (Reps.of_ints ns)
theorem Reps.of_strs {W : Wd} {H : Hp} : ∀ ns : List Str, Reps W H (ns.map V.str) (ns.map Dt.str)
  | [] => .nil
  | n :: ns => .cons (.str n) (Reps.of_strs ns)

/-- a world behind another: all that could not change stands -/
structure Ext0 (W : Wd) (H : Hp) (W' : Wd) (H' : Hp) : Prop where
  la : W.la <+: W'.la
  keep : ∀ a o, H a = some o → a ∉ W.vol → H' a = some o ∧ a ∉ W'.vol
theorem Ext0.refl (W : Wd) (H : Hp) : Ext0 W H W H := ⟨List.prefix_refl _, fun _ _ e n => ⟨e, n⟩⟩
structure Ext (W : Wd) (H : Hp) (W' : Wd) (H' : Hp) : Prop extends Ext0 W H W' H' where
  ex : W'.ex = W.ex
  exk : ∀ a ∈ W.ex, ∀ o, H a = some o → H' a = some o
theorem Ext.refl (W : Wd) (H : Hp) : Ext W H W H := ⟨Ext0.refl W H, rfl, fun _ _ _ e => e⟩
theorem Ext.trans {W W1 W2 : Wd} {H H1 H2 : Hp} (a : Ext W H W1 H1) (b : Ext W1 H1 W2 H2) : Ext W H W2 H2 :=
  ⟨⟨a.la.trans b.la, fun c o e n => let ⟨e1, n1⟩ := a.keep c o e n; b.keep c o e1 n1⟩, b.ex.trans a.ex, fun c h o e => b.exk c (by rw [a.ex]; exact h) o (a.exk c h o e)⟩
theorem prefix_get {α : Type} {l m : List α} (h : l <+: m) {k : Nat} {x : α} (e : l[k]? = some x) : m[k]? = some x := by
  obtain ⟨t, rfl⟩ := h
  rw [List.getElem?_append_left (List.getElem?_eq_some_iff.mp e).1]; exact e
mutual
theorem Rep.ext {W W' : Wd} {H H' : Hp} (x : Ext0 W H W' H') : ∀ {v : V} {d : Dt}, Rep W H v d → Rep W' H' v d
  | _, _, .non => .non
  | _, _, .bl b => .bl b
  | _, _, .int i => .int i
  | _, _, .str s => .str s
  | _, _, .tup e d n r => .tup (x.keep _ _ e n).1 d (x.keep _ _ e n).2 (Reps.ext x r)
  | _, _, .lst e n r => .lst (x.keep _ _ e n).1 (x.keep _ _ e n).2 (Reps.ext x r)
  | _, _, .ref e => .ref (prefix_get x.la e)
  | _, _, .scr e n => .scr (x.keep _ _ e n).1 (x.keep _ _ e n).2
  | _, _, .scrK e => .scrK e
theorem Reps.ext {W W' : Wd} {H H' : Hp} (x : Ext0 W H W' H') : ∀ {v : List V} {d : List Dt}, Reps W H v d → Reps W' H' v d
  | _, _, .nil => .nil
  | _, _, .cons r t => .cons (Rep.ext x r) (Reps.ext x t)
end

/-- a table's attributes -/
def tabF (vr vm vn vw : V) (ld lu : Addr) : List (Str × V) := [("rules", vr), ("most", vm), ("names", vn), ("now", vw), ("done", .ref ld), ("undone", .ref lu)]
def CellOk (W : Wd) (H : Hp) (p : Addr × List Addr) : Cell → Prop
  | .lst ds => p.2 = [] ∧ ∃ xs, H p.1 = some (.lst xs) ∧ Reps W H xs ds
  | .tab t => ∃ (dx ld lu : Addr) (vr vm vn vw : V) (xd xu : List V), p.2 = [dx, ld, lu] ∧ H p.1 = some (.ins Glob.tc dx (tabF vr vm vn vw ld lu)) ∧ H dx = some (.own p.1) ∧
      H ld = some (.lst xd) ∧ H lu = some (.lst xu) ∧ Rep W H vr t.rules ∧ Rep W H vm t.most ∧ Rep W H vn t.names ∧ Rep W H vw t.now ∧ Reps W H xd t.done ∧ Reps W H xu t.undone
structure COk (W : Wd) (H : Hp) (s : Sta) : Prop where
  len : W.la.length = s.length
  nd : W.vol.Nodup
  al : ∀ a ∈ W.vol, ∃ o, H a = some o
  cell : ∀ (k : Nat) p c, W.la[k]? = some p → s[k]? = some c → CellOk W H p c ∧ c.lo k = true
def EOk (W : Wd) (H : Hp) (ρ : Env) (σ : St) : Prop := ρ.length = σ.length ∧ ∀ (i : Nat) d, ρ[i]? = some (some d) → ∃ v, σ[i]? = some (some v) ∧ Rep W H v d
structure Ok (W : Wd) (H : Hp) (ρ : Env) (σ : St) (s : Sta) : Prop where
  c : COk W H s
  e : EOk W H ρ σ
theorem EOk.ext {W W' : Wd} {H H' : Hp} {ρ : Env} {σ : St} (x : Ext0 W H W' H') (h : EOk W H ρ σ) : EOk W' H' ρ σ := ⟨h.1, fun i d e => let ⟨v, e1, r⟩ := h.2 i d e; ⟨v, e1, r.ext x⟩⟩

theorem mem_vol_la {W : Wd} {k : Nat} {p : Addr × List Addr} (e : W.la[k]? = some p) {a : Addr} (h : a ∈ p.1 :: p.2) : a ∈ W.vol :=
  List.mem_append_left _ (List.mem_flatMap.mpr ⟨p, List.mem_of_getElem? e, h⟩)

/-- the heap has grown -/
theorem COk.grow {W : Wd} {H H' : Hp} {s : Sta} (c : COk W H s) (k : Same H H') : COk W H' s ∧ Ext W H W H' := by
  have x : Ext W H W H' := ⟨⟨List.prefix_refl _, fun a o e n => ⟨k a o e, n⟩⟩, rfl, fun a _ o e => k a o e⟩
  refine ⟨⟨c.len, c.nd, fun a h => let ⟨o, e⟩ := c.al a h; ⟨o, k a o e⟩, fun i p ce h1 h2 => ?_⟩, x⟩
  obtain ⟨q, lo⟩ := c.cell i p ce h1 h2
  refine ⟨?_, lo⟩
  cases ce with
  | lst ds => obtain ⟨e, xs, h, r⟩ := q; exact ⟨e, xs, k _ _ h, r.ext x.toExt0⟩
  | tab t =>
    obtain ⟨dx, ld, lu, vr, vm, vn, vw, xd, xu, e, h1, h2, h3, h4, r1, r2, r3, r4, r5, r6⟩ := q
    exact ⟨dx, ld, lu, vr, vm, vn, vw, xd, xu, e, k _ _ h1, k _ _ h2, k _ _ h3, k _ _ h4, r1.ext x.toExt0, r2.ext x.toExt0, r3.ext x.toExt0, r4.ext x.toExt0, r5.ext x.toExt0, r6.ext x.toExt0⟩
theorem COk.fresh {W : Wd} {H : Hp} {s : Sta} (c : COk W H s) {p : Addr} (n : H p = none) : p ∉ W.vol := fun h => by
  obtain ⟨o, e⟩ := c.al p h
  rw [n] at e; cases e
theorem same_upd {H : Hp} {p : Addr} {o : HO} (n : H p = none) : Same H (upd H p o) := fun b u e => by rw [upd_ne (ne_of_none e n)]; exact e
theorem Ok.new {W : Wd} {H : Hp} {ρ : Env} {σ : St} {s : Sta} (k : Ok W H ρ σ s) {p : Addr} (n : H p = none) (o : HO) : Ok W (upd H p o) ρ σ s ∧ Ext W H W (upd H p o) ∧ p ∉ W.vol := by
  obtain ⟨c, x⟩ := k.c.grow (same_upd (o := o) n)
  exact ⟨⟨c, k.e.ext x.toExt0⟩, x, k.c.fresh n⟩

/-! ### readings -/
/-- what is in hand of an exception -/
def XRep (W : Wd) (H : Hp) (x : Exc) (cls : Value) (dx : Option Addr) : Prop :=
  cls = .ref (Glob.xc x.c) ∧ (∀ d ∈ Glob.hd, PySem.W.exmOne Glob.K (.ref (Glob.xc x.c)) (.ref (Glob.xc d)) = some (x.c == d || d == 0)) ∧ (x.c = 9 → ∃ d, dx = some d ∧ H d = some (.xd [(("at" : Str), .int x.at_)]))
/-- what is asked of an outcome -/
def PostR {α β : Type} (rel : Wd → Hp → β → α → Prop) (R : Res α) (W0 : Wd) (H0 : Hp) (ρ : Env) (σ : St) (KQ : α → Sta → β → Wd → Hp → Prop) (XW : WX) : Prop :=
  match R with
  | .ok d s' => ∀ v W' H', Ext W0 H0 W' H' → Ok W' H' ρ σ s' → rel W' H' v d → KQ d s' v W' H'
  | .exc x s' => ∀ cls dx W' H', Ext W0 H0 W' H' → Ok W' H' ρ σ s' → XRep W' H' x cls dx → XW cls dx σ H'
  | .stuck => False
section
variable {α β γ δ : Type} {rel : Wd → Hp → β → α → Prop} {rel' : Wd → Hp → δ → γ → Prop} {R : Res α} {W0 W1 : Wd} {H0 H1 : Hp} {ρ : Env} {σ : St} {KQ KQ' : α → Sta → β → Wd → Hp → Prop} {KG : γ → Sta → δ → Wd → Hp → Prop} {XW : WX}
theorem PostR.ext (h : PostR rel R W0 H0 ρ σ KQ XW) (x : Ext W0 H0 W1 H1) : PostR rel R W1 H1 ρ σ KQ XW := by
  cases R with
  | ok d s => exact fun v W' H' e => h v W' H' (x.trans e)
  | exc y s => exact fun c dx W' H' e => h c dx W' H' (x.trans e)
  | stuck => exact h
theorem PostR.imp (h : PostR rel R W0 H0 ρ σ KQ XW) (f : ∀ d s v W' H', Ext W0 H0 W' H' → Ok W' H' ρ σ s → rel W' H' v d → KQ d s v W' H' → KQ' d s v W' H') : PostR rel R W0 H0 ρ σ KQ' XW := by
  cases R with
  | ok d s => exact fun v W' H' e k r => f d s v W' H' e k r (h v W' H' e k r)
  | exc y s => exact h
  | stuck => exact h
theorem PostR.bind {f : α → Sta → Res γ} (h : PostR rel' (R.bind f) W0 H0 ρ σ KG XW) : PostR rel R W0 H0 ρ σ (fun d s _ W' H' => PostR rel' (f d s) W' H' ρ σ KG XW) XW := by
  cases R with
  | ok d s => exact fun v W' H' e k r => PostR.ext (R := f d s) h e
  | exc y s => exact h
  | stuck => exact h
end
section
variable (F : FT) (XW : WX)
/-- the reading of a term -/
def tE (e : E) : TE := fun σ H Q => ∃ W ρ s, Ok W H ρ σ s ∧ PostR Rep (evE F ρ e s) W H ρ σ (fun _ _ v _ H' => Q v H') XW
def tEs (es : List E) : TA := fun σ H Q => ∃ W ρ s, Ok W H ρ σ s ∧ PostR Reps (evEs F ρ es s) W H ρ σ (fun _ _ v _ H' => Q v H') XW
/-- as a test: its truth -/
def tT (e : E) : TT := fun σ H Q => ∃ W ρ s, Ok W H ρ σ s ∧
  PostR (fun _ _ (b : Bool) (c : Bool) => b = c) ((evE F ρ e s).bind fun x s => Res.of s (evTru (deref s x))) W H ρ σ (fun _ _ b _ H' => Q b H') XW
end
theorem PE.imp {X : Cx} {e : Expr} {t t' : TE} (h : PE X e t) (f : ∀ σ H Q, t' σ H Q → t σ H Q) : PE X e t' := ⟨fun pins s σ H Q I q => h.run pins s σ H Q I (f σ H Q q)⟩
theorem PA.imp {X : Cx} {e : List Expr} {t t' : TA} (h : PA X e t) (f : ∀ σ H Q, t' σ H Q → t σ H Q) : PA X e t' := ⟨fun pos pins s σ H Q I q => h.run pos pins s σ H Q I (f σ H Q q)⟩
theorem PT.imp {X : Cx} {e : Expr} {t t' : TT} (h : PT X e t) (f : ∀ σ H Q, t' σ H Q → t σ H Q) : PT X e t' := ⟨fun pins s σ H Q I q => h.run pins s σ H Q I (f σ H Q q)⟩
theorem PW.imp {X : Cx} {e : Expr} {t t' : TT} (h : PW X e t) (f : ∀ σ H Q, t' σ H Q → t σ H Q) : PW X e t' := ⟨fun wh pins s σ H Q I q => h.run wh pins s σ H Q I (f σ H Q q)⟩
theorem PS.imp {X : Cx} {e : Stmt} {t t' : TS} (h : PS X e t) (f : ∀ D σ H, t' D σ H → t D σ H) : PS X e t' := ⟨fun pins s σ H Q I q => h.run pins s σ H Q I (f Q σ H q)⟩
theorem PSs.imp {X : Cx} {e : List Stmt} {t t' : TS} (h : PSs X e t) (f : ∀ D σ H, t' D σ H → t D σ H) : PSs X e t' := ⟨fun pins s σ H Q I q => h.run pins s σ H Q I (f Q σ H q)⟩
theorem PI.imp {X : Cx} {tg e : Expr} {t t' : TI} (h : PI X tg e t) (f : ∀ σ H R, t' σ H R → t σ H R) : PI X tg e t' := ⟨fun pins s σ H Q I q => h.run pins s σ H Q I (f σ H Q q)⟩

/-- what is read at an address: a list (a cell's, or one that stands), a tuple -/
def RdsL (W : Wd) (H : Hp) (v : V) (ds : List Dt) : Prop := ∃ a xs, v = .ref a ∧ H a = some (.lst xs) ∧ Reps W H xs ds
theorem Rep.tup_inv {W : Wd} {H : Hp} {v : V} {ds : List Dt} (r : Rep W H v (.tup ds)) : ∃ a xs, v = .ref a ∧ TupAt H a xs ∧ a ∉ W.vol ∧ Reps W H xs ds := by cases r with | tup e d n r => exact ⟨_, _, rfl, ⟨_, e, d⟩, n, r⟩
theorem Rep.lst_inv {W : Wd} {H : Hp} {v : V} {ds : List Dt} (r : Rep W H v (.lst ds)) : ∃ a xs, v = .ref a ∧ H a = some (.lst xs) ∧ a ∉ W.vol ∧ Reps W H xs ds := by cases r with | lst e n r => exact ⟨_, _, rfl, e, n, r⟩
theorem Rep.int_inv {W : Wd} {H : Hp} {v : V} {i : Int} (r : Rep W H v (.int i)) : v = .int i := by cases r; rfl
theorem Rep.str_inv {W : Wd} {H : Hp} {v : V} {i : Str} (r : Rep W H v (.str i)) : v = .str i := by cases r; rfl
theorem Rep.bl_inv {W : Wd} {H : Hp} {v : V} {i : Bool} (r : Rep W H v (.bl i)) : v = .bl i := by cases r; rfl
/-- reads as d: as Rep, but a list may be a cell's -/
def Red (W : Wd) (H : Hp) (v : V) (d : Dt) : Prop := Rep W H v d ∨ ∃ ds, d = .lst ds ∧ RdsL W H v ds
theorem Red.of {W : Wd} {H : Hp} {v : V} {d : Dt} (r : Rep W H v d) : Red W H v d := .inl r
theorem red_deref {W : Wd} {H : Hp} {s : Sta} {v : V} {d : Dt} (c : COk W H s) (r : Rep W H v d) : Red W H v (deref s d) := by
  cases r with
  | ref e =>
    rename_i k p
    cases hk : s[k]? with
    | none =>
      have z : deref s (.ref k) = .ref k := by simp only [deref, hk]
      rw [z]; exact .inl (.ref e)
    | some ce =>
      cases ce with
      | lst ds =>
        have z : deref s (.ref k) = .lst ds := by simp only [deref, hk]
        rw [z]
        obtain ⟨⟨_, xs, h, rr⟩, _⟩ := c.cell k p _ e hk
        exact .inr ⟨ds, rfl, _, xs, rfl, h, rr⟩
      | tab t =>
        have z : deref s (.ref k) = .ref k := by simp only [deref, hk]
        rw [z]; exact .inl (.ref e)
  | non => exact .inl .non
  | bl b => exact .inl (.bl b)
  | int b => exact .inl (.int b)
  | str b => exact .inl (.str b)
  | tup a b c d => exact .inl (.tup a b c d)
  | lst a b c => exact .inl (.lst a b c)
  | scr a b => exact .inl (.scr a b)
  | scrK a => exact .inl (.scrK a)
theorem Red.lst_inv {W : Wd} {H : Hp} {v : V} {ds : List Dt} (r : Red W H v (.lst ds)) : ∃ a xs, v = .ref a ∧ H a = some (.lst xs) ∧ Reps W H xs ds := by
  rcases r with r | ⟨es, e, a, xs, h⟩
  · obtain ⟨a, xs, e, h, _, q⟩ := r.lst_inv; exact ⟨a, xs, e, h, q⟩
  · cases e; exact ⟨a, xs, h⟩
theorem Red.tup_inv {W : Wd} {H : Hp} {v : V} {ds : List Dt} (r : Red W H v (.tup ds)) : ∃ a xs, v = .ref a ∧ TupAt H a xs ∧ a ∉ W.vol ∧ Reps W H xs ds := by
  rcases r with r | ⟨es, e, _⟩
  · exact r.tup_inv
  · cases e
theorem Red.int_inv {W : Wd} {H : Hp} {v : V} {i : Int} (r : Red W H v (.int i)) : v = .int i := by
  rcases r with r | ⟨es, e, _⟩
  · exact r.int_inv
  · cases e
theorem Red.str_inv {W : Wd} {H : Hp} {v : V} {i : Str} (r : Red W H v (.str i)) : v = .str i := by
  rcases r with r | ⟨es, e, _⟩
  · exact r.str_inv
  · cases e
theorem Red.bl_inv {W : Wd} {H : Hp} {v : V} {i : Bool} (r : Red W H v (.bl i)) : v = .bl i := by
  rcases r with r | ⟨es, e, _⟩
  · exact r.bl_inv
  · cases e
theorem Red.non_inv {W : Wd} {H : Hp} {v : V} (r : Red W H v .non) : v = .non := by
  rcases r with r | ⟨es, e, _⟩
  · cases r; rfl
  · cases e
theorem Red.scr_inv {W : Wd} {H : Hp} {v : V} {ns : List Int} (r : Red W H v (.scr ns)) : ∃ a, v = .ref a ∧ SqL Glob.K H a (ns.map V.int) := by
  rcases r with r | ⟨es, e, _⟩
  · cases r with
    | scr e n => exact ⟨_, rfl, .inl (.inr ⟨_, e⟩)⟩
    | scrK e => exact ⟨_, rfl, .inr e⟩
  · cases e
theorem Red.ext {W W' : Wd} {H H' : Hp} {v : V} {d : Dt} (x : Ext0 W H W' H') (r : Rep W H v d) : Red W' H' v d := .inl (r.ext x)

/-! ### cells change -/
theorem vol_apart {W : Wd} (nd : W.vol.Nodup) {j k : Nat} {p q : Addr × List Addr} (hj : W.la[j]? = some p) (hk : W.la[k]? = some q) (ne : j ≠ k) {a : Addr} (ha : a ∈ p.1 :: p.2) : a ∉ q.1 :: q.2 := by
  have h1 := (List.nodup_append.mp nd).1
  have h2 : W.la.Pairwise fun x y => (∀ a, a ∈ x.1 :: x.2 → a ∈ y.1 :: y.2 → False) := (List.pairwise_flatMap.mp h1).2.imp fun h x hx hy => h x hx x hy rfl
  obtain ⟨l1, e1⟩ := List.getElem?_eq_some_iff.mp hj
  obtain ⟨l2, e2⟩ := List.getElem?_eq_some_iff.mp hk
  rcases Nat.lt_or_gt_of_ne ne with h | h
  · have z := List.pairwise_iff_getElem.mp h2 j k l1 l2 h
    rw [e1, e2] at z
    exact fun hb => z a ha hb
  · have z := List.pairwise_iff_getElem.mp h2 k j l2 l1 h
    rw [e1, e2] at z
    exact fun hb => z a hb ha
theorem la_ex {W : Wd} (nd : W.vol.Nodup) {k : Nat} {p : Addr × List Addr} (hk : W.la[k]? = some p) {a : Addr} (ha : a ∈ p.1 :: p.2) : a ∉ W.ex := fun hb =>
  (List.nodup_append.mp nd).2.2 a (List.mem_flatMap.mpr ⟨p, List.mem_of_getElem? hk, ha⟩) a hb rfl
/-- an address that may change does -/
theorem ext0_vol {W : Wd} {H : Hp} {a : Addr} {o : HO} (h : a ∈ W.vol) : Ext0 W H W (upd H a o) :=
  ⟨List.prefix_refl _, fun b u e n => ⟨by rw [upd_ne (fun z => n (by rw [z]; exact h))]; exact e, n⟩⟩
theorem COk.setLst {W : Wd} {H : Hp} {s : Sta} (c : COk W H s) {k : Nat} {p : Addr × List Addr} {ds ds' : List Dt} {xs' : List V} (hp : W.la[k]? = some p) (hs : s[k]? = some (.lst ds)) (r : Reps W H xs' ds') (lo : Dt.loAll k ds' = true) :
    COk W (upd H p.1 (.lst xs')) (setCell s k ds') ∧ Ext W H W (upd H p.1 (.lst xs')) := by
  have hv : p.1 ∈ W.vol := mem_vol_la hp List.mem_cons_self
  have x0 : Ext0 W H W (upd H p.1 (.lst xs')) := ext0_vol hv
  have hx : Ext W H W (upd H p.1 (.lst xs')) := ⟨x0, rfl, fun a ha o e => by
    have ne : a ≠ p.1 := fun z => la_ex c.nd hp List.mem_cons_self (by rw [← z]; exact ha)
    rw [upd_ne ne]; exact e⟩
  refine ⟨⟨by unfold setCell; rw [List.length_set]; exact c.len, c.nd, fun a ha => ?_, fun j q ce h1 h2 => ?_⟩, hx⟩
  · by_cases e : a = p.1
    · rw [e]; exact ⟨_, upd_same⟩
    · rw [upd_ne e]; exact c.al a ha
  · unfold setCell at h2
    by_cases e : k = j
    · subst e
      rw [hp] at h1; cases h1
      rw [List.getElem?_set_self (List.getElem?_eq_some_iff.mp hs).1] at h2
      cases h2
      obtain ⟨⟨e0, _⟩, _⟩ := c.cell k p _ hp hs
      exact ⟨⟨e0, xs', upd_same, r.ext x0⟩, lo⟩
    · rw [List.getElem?_set_ne e] at h2
      obtain ⟨q1, l1⟩ := c.cell j q ce h1 h2
      refine ⟨?_, l1⟩
      have nq : ∀ a ∈ q.1 :: q.2, a ≠ p.1 := fun a ha z => vol_apart c.nd h1 hp (Ne.symm e) ha (by rw [z]; exact List.mem_cons_self)
      cases ce with
      | lst es => obtain ⟨e0, ys, h, rr⟩ := q1; exact ⟨e0, ys, by rw [upd_ne (nq _ List.mem_cons_self)]; exact h, rr.ext x0⟩
      | tab t =>
        obtain ⟨dx, ld, lu, vr, vm, vn, vw, xd, xu, e0, h1, h2, h3, h4, r1, r2, r3, r4, r5, r6⟩ := q1
        have m1 : dx ∈ q.1 :: q.2 := by rw [e0]; simp
        have m2 : ld ∈ q.1 :: q.2 := by rw [e0]; simp
        have m3 : lu ∈ q.1 :: q.2 := by rw [e0]; simp
        exact ⟨dx, ld, lu, vr, vm, vn, vw, xd, xu, e0, by rw [upd_ne (nq _ List.mem_cons_self)]; exact h1, by rw [upd_ne (nq _ m1)]; exact h2, by rw [upd_ne (nq _ m2)]; exact h3, by rw [upd_ne (nq _ m3)]; exact h4,
          r1.ext x0, r2.ext x0, r3.ext x0, r4.ext x0, r5.ext x0, r6.ext x0⟩
/-- a list just made becomes a cell -/
theorem COk.newLst {W : Wd} {H : Hp} {s : Sta} (c : COk W H s) {p : Addr} (n : H p = none) {ds : List Dt} {xs : List V} (r : Reps W H xs ds) (lo : Dt.loAll s.length ds = true) :
    COk { W with la := W.la ++ [(p, [])] } (upd H p (.lst xs)) (s ++ [.lst ds]) ∧ Ext W H { W with la := W.la ++ [(p, [])] } (upd H p (.lst xs)) := by
  have np := c.fresh n
  have hvol : ∀ a, a ∈ ({ W with la := W.la ++ [(p, [])] } : Wd).vol ↔ a = p ∨ a ∈ W.vol := fun a => by
    unfold Wd.vol
    simp only [List.flatMap_append, List.mem_append, List.flatMap_cons, List.flatMap_nil, List.append_nil, List.mem_cons, List.not_mem_nil, or_false]
    constructor
    · rintro ((h | h) | h)
      · exact .inr (.inl h)
      · exact .inl h
      · exact .inr (.inr h)
    · rintro (h | h | h)
      · exact .inl (.inr h)
      · exact .inl (.inl h)
      · exact .inr h
  have x : Ext W H { W with la := W.la ++ [(p, [])] } (upd H p (.lst xs)) := ⟨⟨List.prefix_append _ _, fun a o e na => by
      have ne := ne_of_none e n
      exact ⟨by rw [upd_ne ne]; exact e, fun h => (hvol a).mp h |>.elim ne na⟩⟩, rfl, fun a _ o e => by rw [upd_ne (ne_of_none e n)]; exact e⟩
  obtain ⟨c', _⟩ := c.grow (same_upd (o := .lst xs) n)
  refine ⟨⟨by simp [c.len], ?_, fun a ha => ?_, fun k q ce h1 h2 => ?_⟩, x⟩
  · unfold Wd.vol
    have h := List.nodup_append.mp c.nd
    have e1 : (W.la ++ [(p, ([] : List Addr))]).flatMap (fun p => p.1 :: p.2) = W.la.flatMap (fun p => p.1 :: p.2) ++ [p] := by simp
    show ((W.la ++ [(p, ([] : List Addr))]).flatMap (fun p => p.1 :: p.2) ++ W.ex).Nodup
    rw [e1, List.append_assoc]
    refine List.nodup_append.mpr ⟨h.1, List.nodup_append.mpr ⟨(by simp), h.2.1, fun a ha b hb e => ?_⟩, fun a ha b hb e => ?_⟩
    · rw [List.mem_singleton.mp ha] at e
      exact np (List.mem_append_right _ (e ▸ hb))
    · rcases List.mem_append.mp hb with hb | hb
      · rw [List.mem_singleton.mp hb] at e
        exact np (List.mem_append_left _ (e ▸ ha))
      · exact h.2.2 a ha b hb e
  · rcases (hvol a).mp ha with e | e
    · rw [e]; exact ⟨_, upd_same⟩
    · exact c'.al a e
  · by_cases hk : k < W.la.length
    · rw [List.getElem?_append_left hk] at h1
      rw [List.getElem?_append_left (by rw [← c.len]; exact hk)] at h2
      obtain ⟨q1, l1⟩ := c.cell k q ce h1 h2
      refine ⟨?_, l1⟩
      have nq : ∀ a, (∃ o, H a = some o) → a ≠ p := fun a ⟨o, e⟩ => ne_of_none e n
      cases ce with
      | lst es => obtain ⟨e0, ys, h, rr⟩ := q1; exact ⟨e0, ys, by rw [upd_ne (nq _ ⟨_, h⟩)]; exact h, rr.ext x.toExt0⟩
      | tab t =>
        obtain ⟨dx, ld, lu, vr, vm, vn, vw, xd, xu, e0, g1, g2, g3, g4, r1, r2, r3, r4, r5, r6⟩ := q1
        exact ⟨dx, ld, lu, vr, vm, vn, vw, xd, xu, e0, by rw [upd_ne (nq _ ⟨_, g1⟩)]; exact g1, by rw [upd_ne (nq _ ⟨_, g2⟩)]; exact g2, by rw [upd_ne (nq _ ⟨_, g3⟩)]; exact g3, by rw [upd_ne (nq _ ⟨_, g4⟩)]; exact g4,
          r1.ext x.toExt0, r2.ext x.toExt0, r3.ext x.toExt0, r4.ext x.toExt0, r5.ext x.toExt0, r6.ext x.toExt0⟩
    · have hk2 : k = W.la.length := by
        have := (List.getElem?_eq_some_iff.mp h1).1
        rw [List.length_append] at this
        simp at this
        omega
      subst hk2
      rw [List.getElem?_append_right (Nat.le_refl _)] at h1
      rw [List.getElem?_append_right (by rw [c.len]; exact Nat.le_refl _)] at h2
      simp [c.len] at h1 h2
      subst h1 h2
      exact ⟨⟨rfl, xs, upd_same, r.ext x.toExt0⟩, by rw [← c.len] at lo; rw [c.len] at lo; exact (by rw [c.len]; exact lo)⟩
end MP
/-! MP3: operators and built-ins by data. -/
namespace MP
open PySem L2 PyProof.Rows
variable [Glob]
section
variable {X : Cx}
theorem foldl_repN (its : List Nat) : ∀ (k : Nat) (acc : List Nat), List.foldl (fun x1 x2 => x1 ++ x2) acc.toArray (List.replicate k its.toArray) = (acc ++ (List.replicate k its).flatten).toArray
  | 0, acc => by simp
  | k + 1, acc => by
    rw [List.replicate_succ, List.foldl_cons, List.replicate_succ, List.flatten_cons]
    have e : acc.toArray ++ its.toArray = (acc ++ its).toArray := by simp
    rw [e, foldl_repN its k (acc ++ its), List.append_assoc]
theorem str_rep {pins : List (Addr × Obj)} {s : Shared} {σ : L2.St} {H : Hp} {a : Str} {k : Int} {v u : Value} {Q : VK} (I : L2.Inv X pins σ H s) (rx : L2.RelV (.str a) v) (ry : L2.RelV (.int k) u) (h1 : -1000 ≤ k) (h2 : k ≤ 1000) (h3 : a.length ≤ 1000) (q : Q (.str (repS a k)) H) :
    wpAny (model X.prog X.w) X.A (binaryOp .Mult v u) (EP X pins σ Q) X.xe s := by
  obtain ⟨t1, rfl⟩ := rx
  obtain ⟨t2, rfl⟩ := ry
  have hpos : ¬ k < 1 → (a.length * k.toNat ≤ 1000000) := fun _ => Nat.le_trans (Nat.mul_le_mul h3 (show k.toNat ≤ 1000 by omega)) (by decide)
  refine PySem.P.mul_str ?_ (fun g g2 => ?_) (fun g g2 => ?_) ?_
  · rw [decide_eq_false (by omega), decide_eq_false (by omega)] <;> rfl
  · have : (2 ^ 63 - 1 : Int) / k ≥ 1000 := by
      have : (1000 : Int) * k ≤ 2 ^ 63 - 1 := by omega
      exact (Int.le_ediv_iff_mul_le (by omega)).mpr this
    omega
  · unfold Builtin.Str.tooLong
    rw [sizeLine_eq]
    have := hpos g
    exact decide_eq_false (by omega)
  · by_cases g : k < 1
    · rw [if_pos g]
      have e : repS a k = Str.empty := by unfold repS; rw [show k.toNat = 0 by omega]; rfl
      rw [e] at q
      exact ⟨by decide, .str _, H, I.tok _, ⟨_, rfl⟩, q⟩
    · rw [if_neg g]
      by_cases g2 : (k == 1 || a.length == 0) = true
      · rw [if_pos g2]
        have e : repS a k = a := by
          unfold repS
          rcases (Bool.or_eq_true_iff.mp g2) with z | z
          · rw [eq_of_beq z, show (1 : Int).toNat = 1 from rfl, List.replicate_one, List.flatten_singleton]
          · have z' : a.cps.toList = [] := List.eq_nil_of_length_eq_zero (by rw [Array.length_toList]; exact eq_of_beq z)
            rw [z']
            have : ∀ k : Nat, (List.replicate k ([] : List Nat)).flatten = [] := fun k => by induction k with
              | zero => rfl
              | succ k ih => rw [List.replicate_succ, List.flatten_cons, ih]; rfl
            rw [this]
            exact congrArg Str.mk (by rw [← z'])
        rw [e] at q
        exact ⟨.str _, H, I, ⟨_, rfl⟩, q⟩
      · rw [if_neg g2]
        have e : (⟨(List.replicate k.toNat a.cps).foldl (fun x1 x2 => x1 ++ x2) #[]⟩ : Str) = repS a k := by
          unfold repS
          have := foldl_repN a.cps.toList k.toNat []
          rw [List.nil_append] at this
          exact congrArg Str.mk this
        refine ⟨?_, .str _, H, I.tok _, ⟨_, rfl⟩, by rw [e]; exact q⟩
        rw [e]
        show (repS a k).cps.size ≤ sizeLine
        unfold repS
        rw [List.size_toArray, lm_len_rep_flat, Array.length_toList, sizeLine_eq, Nat.mul_comm]
        have := hpos g
        rw [show a.length = a.cps.size from rfl] at this
        omega

/-! ### binary operators by data -/
def BOp.py : BOp → Operator
  | .add => .Add | .sub => .Sub | .mul => .Mult | .mod => .Mod | .fdiv => .FloorDiv | .shl => .LShift
def RB (f : Dt → Dt → Option Dt) : R2 := fun x y H Q => ∃ W s d1 d2 d, COk W H s ∧ Red W H x d1 ∧ Red W H y d2 ∧ f d1 d2 = some d ∧ ∀ v H', Ext W H W H' → COk W H' s → Rep W H' v d → Q v H'
theorem new_tup {W : Wd} {H : Hp} {s : Sta} (c : COk W H s) {p : Addr} {o : Obj} (n : H p = none) (hd : o.dict = none) {xs : List V} {ds : List Dt} (r : Reps W H xs ds) :
    Ext W H W (upd H p (.frz o (.tup xs))) ∧ COk W (upd H p (.frz o (.tup xs))) s ∧ Rep W (upd H p (.frz o (.tup xs))) (.ref p) (.tup ds) := by
  obtain ⟨c', x⟩ := c.grow (same_upd (o := .frz o (.tup xs)) n)
  exact ⟨x, c', .tup upd_same hd (c.fresh n) (r.ext x.toExt0)⟩
theorem new_lst {W : Wd} {H : Hp} {s : Sta} (c : COk W H s) {p : Addr} (n : H p = none) {xs : List V} {ds : List Dt} (r : Reps W H xs ds) :
    Ext W H W (upd H p (.lst xs)) ∧ COk W (upd H p (.lst xs)) s ∧ Rep W (upd H p (.lst xs)) (.ref p) (.lst ds) := by
  obtain ⟨c', x⟩ := c.grow (same_upd (o := .lst xs) n)
  exact ⟨x, c', .lst upd_same (c.fresh n) (r.ext x.toExt0)⟩
theorem op_bin (op : BOp) : OpR X (binaryOp op.py) (RB (evBin op)) := by
  intro pins s σ H x y v u Q I rx ry h
  obtain ⟨W, st, d1, d2, d, c, r1, r2, e, q⟩ := h
  unfold evBin at e
  split at e
  · -- int + int
    cases e
    have h1 := r1.int_inv; have h2 := r2.int_inv
    subst h1 h2
    exact op_add pins s σ H _ _ v u Q I rx ry ⟨_, _, rfl, rfl, q _ H (Ext.refl _ _) c (.int _)⟩
  · -- tup + tup
    split at e
    · rename_i hl
      cases e
      obtain ⟨a, xs, rfl, ha, na, ra⟩ := r1.tup_inv
      obtain ⟨b, ys, rfl, hb, nb, rb⟩ := r2.tup_inv
      refine op_catF pins s σ H _ _ v u Q I rx ry ⟨a, b, xs, ys, rfl, rfl, ha.sq, hb.sq, by rw [ra.length, rb.length, ← line_eq]; exact hl, fun z => ?_, fun _ z => ?_, fun _ _ p o n hd => ?_⟩
      · subst z
        cases ra
        exact q _ H (Ext.refl _ _) c (.tup hb.choose_spec.1 hb.choose_spec.2 nb rb)
      · subst z
        cases rb
        rw [List.append_nil] at q
        exact q _ H (Ext.refl _ _) c (.tup ha.choose_spec.1 ha.choose_spec.2 na ra)
      · obtain ⟨x1, c1, r⟩ := new_tup c n hd (ra.append rb)
        exact q _ _ x1 c1 r
    · cases e
  · -- lst + lst
    split at e
    · rename_i hl
      cases e
      obtain ⟨a, xs, rfl, ha, ra⟩ := r1.lst_inv
      obtain ⟨b, ys, rfl, hb, rb⟩ := r2.lst_inv
      refine op_cat pins s σ H _ _ v u Q I rx ry ⟨a, b, xs, ys, rfl, rfl, ha, hb, by rw [ra.length, rb.length, ← line_eq]; exact hl, fun p n => ?_⟩
      obtain ⟨x1, c1, r⟩ := new_lst c n (ra.append rb)
      exact q _ _ x1 c1 r
    · cases e
  · -- str + str
    split at e
    · rename_i hl
      cases e
      have h1 := r1.str_inv; have h2 := r2.str_inv
      subst h1 h2
      exact op_add_str pins s σ H _ _ v u Q I rx ry ⟨_, _, rfl, rfl, by rw [← line_eq]; exact hl, q _ H (Ext.refl _ _) c (.str _)⟩
    · cases e
  · -- int - int
    cases e
    have h1 := r1.int_inv; have h2 := r2.int_inv
    subst h1 h2
    exact op_sub pins s σ H _ _ v u Q I rx ry ⟨_, _, rfl, rfl, q _ H (Ext.refl _ _) c (.int _)⟩
  · -- int * int
    split at e
    · rename_i hl
      cases e
      have h1 := r1.int_inv; have h2 := r2.int_inv
      subst h1 h2
      refine op_mul pins s σ H _ _ v u Q I rx ry ⟨_, _, rfl, rfl, ?_, q _ H (Ext.refl _ _) c (.int _)⟩
      unfold smallI at hl
      simp only [Bool.or_eq_true, Bool.and_eq_true, decide_eq_true_eq] at hl
      exact hl
    · cases e
  · -- tup * int
    split at e
    · rename_i hl
      cases e
      simp only [Bool.and_eq_true, decide_eq_true_eq] at hl
      obtain ⟨a, xs, rfl, ha, na, ra⟩ := r1.tup_inv
      have h2 := r2.int_inv
      subst h2
      refine op_repF pins s σ H _ _ v u Q I rx ry ⟨a, _, xs, rfl, rfl, ha.sq, hl.1.2, hl.1.1, by rw [ra.length]; exact hl.2, fun z => ?_, fun p o n hd => ?_⟩
      · refine q _ H (Ext.refl _ _) c ?_
        rcases z with z | z
        · subst z
          cases ra
          have : ∀ k : Nat, (List.replicate k ([] : List Dt)).flatten = [] := fun k => by induction k with
            | zero => rfl
            | succ k ih => rw [List.replicate_succ, List.flatten_cons, ih]; rfl
          unfold repL
          rw [this]
          exact .tup ha.choose_spec.1 ha.choose_spec.2 na .nil
        · rw [z]
          unfold repL
          rw [show (1 : Int).toNat = 1 from rfl, List.replicate_one, List.flatten_singleton]
          exact .tup ha.choose_spec.1 ha.choose_spec.2 na ra
      · obtain ⟨x1, c1, r⟩ := new_tup c n hd (ra.rep _)
        exact q _ _ x1 c1 r
    · cases e
  · -- lst * int
    split at e
    · rename_i hl
      cases e
      simp only [Bool.and_eq_true, decide_eq_true_eq] at hl
      obtain ⟨a, xs, rfl, ha, ra⟩ := r1.lst_inv
      have h2 := r2.int_inv
      subst h2
      refine op_rep pins s σ H _ _ v u Q I rx ry ⟨a, _, xs, rfl, rfl, ha, by omega, by omega, ?_, fun p n => ?_⟩
      · rw [ra.length, sizeLine_eq]
        exact Nat.le_trans (Nat.mul_le_mul hl.2 (show Int.toNat _ ≤ 1000 by omega)) (by decide)
      · obtain ⟨x1, c1, r⟩ := new_lst c n (ra.rep _)
        exact q _ _ x1 c1 r
    · cases e
  · -- str * int
    split at e
    · rename_i hl
      cases e
      simp only [Bool.and_eq_true, decide_eq_true_eq] at hl
      have h1 := r1.str_inv; have h2 := r2.int_inv
      subst h1 h2
      exact str_rep I rx ry hl.1.2 hl.1.1 hl.2 (q _ H (Ext.refl _ _) c (.str _))
    · cases e
  · -- mod
    split at e
    · rename_i hl
      cases e
      have h1 := r1.int_inv; have h2 := r2.int_inv
      subst h1 h2
      exact L2.op_mod pins s σ H _ _ v u Q I rx ry ⟨_, _, rfl, rfl, hl, q _ H (Ext.refl _ _) c (.int _)⟩
    · cases e
  · -- fdiv
    split at e
    · rename_i hl
      cases e
      have h1 := r1.int_inv; have h2 := r2.int_inv
      subst h1 h2
      exact L2.op_fdiv pins s σ H _ _ v u Q I rx ry ⟨_, _, rfl, rfl, hl, q _ H (Ext.refl _ _) c (.int _)⟩
    · cases e
  · -- shl
    split at e
    · rename_i hl
      cases e
      simp only [Bool.and_eq_true, decide_eq_true_eq] at hl
      have h1 := r1.int_inv; have h2 := r2.int_inv
      subst h1 h2
      exact op_shl pins s σ H _ _ v u Q I rx ry ⟨_, _, rfl, rfl, ⟨hl.1.1, hl.1.2, hl.2⟩, q _ H (Ext.refl _ _) c (.int _)⟩
    · cases e
  · cases e

/-! ### data as the library's data -/
theorem pyAll_map : ∀ ds : List Dt, Dt.pyAll ds = ds.map Dt.py
  | [] => by simp [Dt.pyAll]
  | d :: ds => by rw [Dt.pyAll, pyAll_map ds, List.map_cons]
mutual
theorem plain_py : ∀ d : Dt, d.py.plain = true
  | .ref _ => rfl
  | .scr _ => rfl
  | .non => rfl
  | .bl _ => rfl
  | .int _ => rfl
  | .str _ => rfl
  | .tup xs => by simp only [Dt.py, PyData.plain]; exact plain_pyAll xs
  | .lst xs => by simp only [Dt.py, PyData.plain]; exact plain_pyAll xs
theorem plain_pyAll : ∀ d : List Dt, PyData.plainAll (Dt.pyAll d) = true
  | [] => rfl
  | x :: xs => by simp only [Dt.pyAll, PyData.plainAll, plain_py x, plain_pyAll xs, Bool.and_self]
end
mutual
theorem Rep.dp {K : PySem.W.Frag} {W : Wd} {H : Hp} : ∀ {v : V} {d : Dt}, Rep W H v d → d.pl = true → Dp K H v d.py
  | _, _, .non, _ => .non
  | _, _, .bl b, _ => .bl b
  | _, _, .int i, _ => .int i
  | _, _, .str s, _ => .str s
  | _, _, .tup e d n r, p => by simp only [Dt.py]; simp only [Dt.pl] at p; exact .tup (TupAt.sq ⟨_, e, d⟩) (Reps.dp r p)
  | _, _, .lst e n r, p => by simp only [Dt.py]; simp only [Dt.pl] at p; exact .lst (SqL.of e) (Reps.dp r p)
  | _, _, .ref _, p => by simp only [Dt.pl] at p; cases p
  | _, _, .scr _ _, p => by simp only [Dt.pl] at p; cases p
  | _, _, .scrK _, p => by simp only [Dt.pl] at p; cases p
theorem Reps.dp {K : PySem.W.Frag} {W : Wd} {H : Hp} : ∀ {v : List V} {d : List Dt}, Reps W H v d → Dt.plAll d = true → DpAll K H v (Dt.pyAll d)
  | _, _, .nil, _ => by simp only [Dt.pyAll]; exact .nil
  | _, _, .cons r t, p => by
    simp only [Dt.plAll, Bool.and_eq_true] at p
    simp only [Dt.pyAll]
    exact .cons (Rep.dp r p.1) (Reps.dp t p.2)
end
theorem Red.dp {K : PySem.W.Frag} {W : Wd} {H : Hp} {v : V} {d : Dt} (r : Red W H v d) (p : d.pl = true) : Dp K H v d.py := by
  rcases r with r | ⟨ds, rfl, a, xs, rfl, h, r⟩
  · exact r.dp p
  · simp only [Dt.py]; simp only [Dt.pl] at p; exact .lst (SqL.of h) (r.dp p)

/-! ### comparisons by data -/
def COp.py : COp → CmpOp
  | .eq => .Eq | .ne => .NotEq | .lt => .Lt | .le => .LtE | .gt => .Gt | .ge => .GtE | .isin => .In | .notin => .NotIn
def RC (op : COp) : R2 := fun x y H Q => ∃ W s d1 d2 b, COk W H s ∧ Red W H x d1 ∧ Red W H y d2 ∧ evCmp op d1 d2 = some b ∧ Q (.bl b) H
theorem okq_parts {d e : Dt} (h : okq d e = true) : d.pl = true ∧ e.pl = true ∧ min d.py.depth e.py.depth ≤ 40 := by
  unfold okq at h
  simp only [Bool.and_eq_true, decide_eq_true_eq] at h
  exact ⟨h.1.1, h.1.2, h.2⟩
theorem okqs_parts {d : List Dt} {e : Dt} (h : okqs d e = true) : Dt.plAll d = true ∧ e.pl = true ∧ min (PyData.depthAll (Dt.pyAll d)) e.py.depth ≤ 40 := by
  unfold okqs at h
  simp only [Bool.and_eq_true, decide_eq_true_eq] at h
  exact ⟨h.1.1, h.1.2, h.2⟩
theorem evEq_some {d e : Dt} {b : Bool} (h : evEq d e = some b) : okq d e = true ∧ b = PyData.eqv d.py e.py := by
  unfold evEq at h
  split at h
  · rename_i q; cases h; exact ⟨q, rfl⟩
  · cases h
theorem any_py (ds : List Dt) (d : Dt) : ((Dt.pyAll ds).any fun y => PyData.eqv y d.py) = ds.any fun z => PyData.eqv z.py d.py := by
  rw [pyAll_map, List.any_map]; rfl
theorem in_sound (hu : X.A.units + 64 < cLine) {pins : List (Addr × Obj)} {s : Shared} {σ : L2.St} {H : Hp} {x y : V} {v u : Value} {W : Wd} {d1 d2 : Dt} {b : Bool}
    (I : L2.Inv X pins σ H s) (rx : L2.RelV x v) (ry : L2.RelV y u) (r1 : Red W H x d1) (r2 : Red W H y d2) (e : evIn d1 d2 = some b) (op : CmpOp) (neg : Bool) (ho : op = if neg then .NotIn else .In)
    {Q : VK} (q : Q (.bl (if neg then !b else b)) H) : wpAny (model X.prog X.w) X.A (compareOp op v u) (EP X pins σ Q) X.xe s := by
  unfold evIn at e
  split at e
  · split at e
    · rename_i ds hq
      cases e
      obtain ⟨p1, p2, p3⟩ := okqs_parts hq
      obtain ⟨as, h1⟩ := Dp.reads I d1.py x v (r1.dp p2) rx
      obtain ⟨bs, h2⟩ := Dp.reads I _ y u (r2.dp (by simp only [Dt.pl]; exact p1)) ry
      simp only [Dt.py] at h2
      have room : X.A.units + 1 + min (PyData.depthAll (Dt.pyAll ds)) d1.py.depth < cLine := by omega
      subst ho
      cases neg with
      | true => exact SeqAt.notIn_list_data h2 h1 (plain_pyAll _) (plain_py _) room (by rw [any_py]; exact ⟨.bl _, H, I, rfl, q⟩)
      | false => exact SeqAt.in_list_data h2 h1 (plain_pyAll _) (plain_py _) room (by rw [any_py]; exact ⟨.bl _, H, I, rfl, q⟩)
    · cases e
  · split at e
    · rename_i ds hq
      cases e
      obtain ⟨p1, p2, p3⟩ := okqs_parts hq
      obtain ⟨as, h1⟩ := Dp.reads I d1.py x v (r1.dp p2) rx
      obtain ⟨bs, h2⟩ := Dp.reads I _ y u (r2.dp (by simp only [Dt.pl]; exact p1)) ry
      simp only [Dt.py] at h2
      have room : X.A.units + 1 + min (PyData.depthAll (Dt.pyAll ds)) d1.py.depth < cLine := by omega
      subst ho
      cases neg with
      | true => exact SeqAt.notIn_tuple_data h2 h1 (plain_pyAll _) (plain_py _) room (by rw [any_py]; exact ⟨.bl _, H, I, rfl, q⟩)
      | false => exact SeqAt.in_tuple_data h2 h1 (plain_pyAll _) (plain_py _) room (by rw [any_py]; exact ⟨.bl _, H, I, rfl, q⟩)
    · cases e
  · split at e
    · rename_i z c
      split at e
      · rename_i n hn
        cases e
        have h1 := r1.str_inv; have h2 := r2.str_inv
        subst h1 h2
        have ec : c = ⟨#[n]⟩ := congrArg Str.mk (by rw [← hn])
        subst ec ho
        cases neg with
        | true => exact op_notIn_sign pins s σ H _ _ v u Q I rx ry ⟨n, _, rfl, rfl, q⟩
        | false => exact op_in_sign pins s σ H _ _ v u Q I rx ry ⟨n, _, rfl, rfl, q⟩
      · cases e
    · cases e
  · cases e
theorem op_cmp' (hu : X.A.units + 64 < cLine) (op : COp) : OpR X (compareOp op.py) (RC op) := by
  intro pins s σ H x y v u Q I rx ry h
  obtain ⟨W, st, d1, d2, b, c, r1, r2, e, q⟩ := h
  unfold evCmp at e
  split at e
  · obtain ⟨hq, rfl⟩ := evEq_some e
    obtain ⟨p1, p2, p3⟩ := okq_parts hq
    obtain ⟨as, h1⟩ := Dp.reads I _ x v (r1.dp p1) rx
    obtain ⟨bs, h2⟩ := Dp.reads I _ y u (r2.dp p2) ry
    exact SeqAt.eq_plain h1 h2 (plain_py _) (plain_py _) (by omega) ⟨.bl _, H, I, rfl, q⟩
  · rw [Option.map_eq_some_iff] at e
    obtain ⟨b', e, rfl⟩ := e
    obtain ⟨hq, rfl⟩ := evEq_some e
    obtain ⟨p1, p2, p3⟩ := okq_parts hq
    obtain ⟨as, h1⟩ := Dp.reads I _ x v (r1.dp p1) rx
    obtain ⟨bs, h2⟩ := Dp.reads I _ y u (r2.dp p2) ry
    exact SeqAt.ne_plain h1 h2 (plain_py _) (plain_py _) (by omega) ⟨.bl _, H, I, rfl, q⟩
  · exact in_sound hu I rx ry r1 r2 e _ false rfl q
  · rw [Option.map_eq_some_iff] at e
    obtain ⟨b', e, rfl⟩ := e
    exact in_sound hu I rx ry r1 r2 e _ true rfl q
  · cases e; have h1 := r1.int_inv; have h2 := r2.int_inv; subst h1 h2
    exact op_lt pins s σ H _ _ v u Q I rx ry ⟨_, _, rfl, rfl, q⟩
  · cases e; have h1 := r1.int_inv; have h2 := r2.int_inv; subst h1 h2
    exact op_le pins s σ H _ _ v u Q I rx ry ⟨_, _, rfl, rfl, q⟩
  · cases e; have h1 := r1.int_inv; have h2 := r2.int_inv; subst h1 h2
    exact op_gt pins s σ H _ _ v u Q I rx ry ⟨_, _, rfl, rfl, q⟩
  · cases e; have h1 := r1.int_inv; have h2 := r2.int_inv; subst h1 h2
    exact op_ge pins s σ H _ _ v u Q I rx ry ⟨_, _, rfl, rfl, q⟩
  · cases e; have h1 := r1.str_inv; have h2 := r2.str_inv; subst h1 h2
    exact op_le_str pins s σ H _ _ v u Q I rx ry ⟨_, _, rfl, rfl, q⟩
  · cases e; have h1 := r1.str_inv; have h2 := r2.str_inv; subst h1 h2
    exact op_lt_str pins s σ H _ _ v u Q I rx ry ⟨_, _, rfl, rfl, q⟩
  · cases e

/-! ### is True, is not None .. -/
theorem is_bl {v : V} {u : Value} (r : L2.RelV v u) (b : Bool) {M : Model} {A : Around} {E : Value → Shared → Prop} {s : Shared} {Q : Value → Shared → Prop} (h : Q (.bool (decide (v = .bl b))) s) : wpAny M A (compareOp .Is u (.bool b)) Q E s := by
  by_cases e : v = .bl b
  · subst e
    cases r
    exact wpAny_is_self rfl (by simpa using h)
  · rw [decide_eq_false e] at h
    cases v with
    | bl c => cases r; exact wpAny_is_other rfl (fun z => e (by cases z; rfl)) h
    | non => cases r; exact wpAny_is_other rfl (fun z => by cases z) h
    | int i => obtain ⟨t, rfl⟩ := r; exact wpAny_is_other rfl (fun z => by cases z) h
    | str i => obtain ⟨t, rfl⟩ := r; exact wpAny_is_other rfl (fun z => by cases z) h
    | byt i => obtain ⟨t, rfl⟩ := r; exact wpAny_is_other rfl (fun z => by cases z) h
    | flt i => obtain ⟨t, rfl⟩ := r; exact wpAny_is_other rfl (fun z => by cases z) h
    | ref i => cases r; exact wpAny_is_other rfl (fun z => by cases z) h
    | ty i => cases r; exact wpAny_is_other rfl (fun z => by cases z) h
theorem isnot_bl {v : V} {u : Value} (r : L2.RelV v u) (b : Bool) {M : Model} {A : Around} {E : Value → Shared → Prop} {s : Shared} {Q : Value → Shared → Prop} (h : Q (.bool (!decide (v = .bl b))) s) : wpAny M A (compareOp .IsNot u (.bool b)) Q E s := by
  by_cases e : v = .bl b
  · subst e
    cases r
    exact wpAny_isNot_self rfl (by simpa using h)
  · rw [decide_eq_false e] at h
    cases v with
    | bl c => cases r; exact wpAny_isNot_other rfl (fun z => e (by cases z; rfl)) h
    | non => cases r; exact wpAny_isNot_other rfl (fun z => by cases z) h
    | int i => obtain ⟨t, rfl⟩ := r; exact wpAny_isNot_other rfl (fun z => by cases z) h
    | str i => obtain ⟨t, rfl⟩ := r; exact wpAny_isNot_other rfl (fun z => by cases z) h
    | byt i => obtain ⟨t, rfl⟩ := r; exact wpAny_isNot_other rfl (fun z => by cases z) h
    | flt i => obtain ⟨t, rfl⟩ := r; exact wpAny_isNot_other rfl (fun z => by cases z) h
    | ref i => cases r; exact wpAny_isNot_other rfl (fun z => by cases z) h
    | ty i => cases r; exact wpAny_isNot_other rfl (fun z => by cases z) h
theorem op_isB (b : Bool) : OpR X (compareOp .Is) (fun x y H Q => y = .bl b ∧ Q (.bl (decide (x = .bl b))) H) := by
  intro pins s σ H x y v u Q I rx ry h
  obtain ⟨rfl, q⟩ := h
  cases ry
  exact is_bl rx b ⟨.bl _, H, I, rfl, q⟩
theorem op_notB (b : Bool) : OpR X (compareOp .IsNot) (fun x y H Q => y = .bl b ∧ Q (.bl (!decide (x = .bl b))) H) := by
  intro pins s σ H x y v u Q I rx ry h
  obtain ⟨rfl, q⟩ := h
  cases ry
  exact isnot_bl rx b ⟨.bl _, H, I, rfl, q⟩
theorem rep_non {W : Wd} {H : Hp} {v : V} {d : Dt} (r : Rep W H v d) : decide (v = .non) = d.isNon := by cases r <;> rfl
theorem rep_bl {W : Wd} {H : Hp} {v : V} {d : Dt} (r : Rep W H v d) (b : Bool) : decide (v = .bl b) = d.isBl b := by
  cases r <;> simp [Dt.isBl]
/-- truth -/
theorem tru_of {K : PySem.W.Frag} (hK : K = Glob.K) {W : Wd} {H : Hp} {v : V} {d : Dt} {b : Bool} (r : Red W H v d) (e : evTru d = some b) : TruV K v H b := by
  unfold evTru at e
  split at e
  · cases e; rw [r.non_inv]; rfl
  · cases e; rw [r.bl_inv]; rfl
  · cases e; rw [r.int_inv]; rfl
  · split at e
    · rename_i hl
      cases e; rw [r.str_inv]; exact ⟨by rw [← line_eq]; exact hl, rfl⟩
    · cases e
  · cases e
    obtain ⟨a, xs, rfl, h, _, rr⟩ := r.tup_inv
    refine .inr (.inl ⟨xs, h.sq, ?_⟩)
    cases rr <;> rfl
  · cases e
    obtain ⟨a, xs, rfl, h, rr⟩ := r.lst_inv
    refine .inl ⟨xs, SqL.of h, ?_⟩
    cases rr <;> rfl
  · cases e
    rename_i xs
    obtain ⟨a, rfl, h⟩ := r.scr_inv
    refine .inl ⟨_, by rw [hK]; exact h, ?_⟩
    cases xs <;> rfl
  · cases e
end
end MP
/-! MP4: subscripts, slices, built-in functions, isinstance, methods by data. -/
namespace MP
open PySem L2 PyProof.Rows
variable [Glob]
section
variable {X : Cx}
theorem atI_get {W : Wd} {H : Hp} {xs : List V} {ds : List Dt} {i : Int} {d : Dt} (r : Reps W H xs ds) (e : atI ds i = some d) : ∃ v, atI xs i = some v ∧ Rep W H v d := by
  unfold atI at e ⊢
  rw [r.length]
  cases h : ixN ds.length i with
  | none => rw [h] at e; cases e
  | some j =>
    rw [h] at e
    obtain ⟨v, h1, h2⟩ := r.get (i := j) (d := d) e
    exact ⟨v, h1, h2⟩
theorem atI_map {α β : Type} (f : α → β) (xs : List α) (i : Int) : atI (xs.map f) i = (atI xs i).map f := by
  unfold atI
  rw [List.length_map]
  cases ixN xs.length i with
  | none => rfl
  | some j => simp
def RIx : R2 := fun x y H Q => ∃ W s d1 d2 d, COk W H s ∧ Red W H x d1 ∧ Red W H y d2 ∧ evIx d1 d2 = some d ∧ ∀ v, Rep W H v d → Q v H
theorem ix_ok (hK : X.K = Glob.K) : IxR X RIx := by
  intro value slice pins s σ H x y v u Q I rx ry h hs
  obtain ⟨W, st, d1, d2, d, c, r1, r2, e, q⟩ := h
  unfold evIx at e
  split at e
  · obtain ⟨a, xs, rfl, ha, na, ra⟩ := r1.tup_inv
    have h2 := r2.int_inv
    subst h2
    obtain ⟨w, h1, h2⟩ := atI_get ra e
    exact ix_tup value slice pins s σ H _ _ v u Q I rx ry ⟨a, xs, _, w, rfl, rfl, ha.sq, h1, q w h2⟩ hs
  · obtain ⟨a, xs, rfl, ha, ra⟩ := r1.lst_inv
    have h2 := r2.int_inv
    subst h2
    obtain ⟨w, h1, h2⟩ := atI_get ra e
    exact ix_list value slice pins s σ H _ _ v u Q I rx ry ⟨a, xs, _, w, rfl, rfl, SqL.of ha, h1, q w h2⟩ hs
  · rename_i xs i
    obtain ⟨a, rfl, ha⟩ := r1.scr_inv
    have h2 := r2.int_inv
    subst h2
    rw [Option.map_eq_some_iff] at e
    obtain ⟨n, e, rfl⟩ := e
    exact ix_list value slice pins s σ H _ _ v u Q I rx ry ⟨a, _, _, .int n, rfl, rfl, by rw [hK]; exact ha, by rw [atI_map, e]; rfl, q _ (.int n)⟩ hs
  · split at e
    · rename_i hl
      have h1 := r1.str_inv; have h2 := r2.int_inv
      subst h1 h2
      rw [Option.map_eq_some_iff] at e
      obtain ⟨n, e, rfl⟩ := e
      exact ix_str value slice pins s σ H _ _ v u Q I rx ry ⟨_, _, n, rfl, rfl, by rw [← line_eq]; exact hl, e, q _ (.str _)⟩ hs
    · cases e
  · cases e

theorem cut_reps {W : Wd} {H : Hp} {xs : List V} {ds : List Dt} (r : Reps W H xs ds) (lo hi : Option Int) : Reps W H (cutV xs lo hi) (cutD ds lo hi) := by
  unfold cutV cutD
  rw [r.length]
  exact (r.drop _).take _
def RSl : V → Option Int → Option Int → Hp → VK → Prop := fun x lo hi H Q => ∃ W s d1 d, COk W H s ∧ Red W H x d1 ∧ evSl lo hi d1 = some d ∧ ∀ v H', Ext W H W H' → COk W H' s → Rep W H' v d → Q v H'
theorem sl_ok : SlR X RSl := by
  intro pins s σ H x v vl vu lo hi sl Q I rx hs pl pu h
  obtain ⟨W, st, d1, d, c, r1, e, q⟩ := h
  unfold evSl at e
  split at e
  · rename_i ds
    cases e
    obtain ⟨a, xs, rfl, ha, na, ra⟩ := r1.tup_inv
    refine sl_tupF pins s σ H _ v vl vu lo hi sl Q I rx hs pl pu ⟨a, xs, rfl, ha.sq, fun hw => ?_, fun hw p o n hd => ?_⟩
    · have e1 : cutD ds lo hi = ds := by
        unfold cutD
        rw [← ra.length, hw.1, hw.2, ra.length]
        simp
      rw [e1] at q
      exact q _ H (Ext.refl _ _) c (.tup ha.choose_spec.1 ha.choose_spec.2 na ra)
    · obtain ⟨x1, c1, r⟩ := new_tup c n hd (cut_reps ra lo hi)
      exact q _ _ x1 c1 r
  · cases e
    obtain ⟨a, xs, rfl, ha, ra⟩ := r1.lst_inv
    refine sl_list pins s σ H _ v vl vu lo hi sl Q I rx hs pl pu ⟨a, xs, rfl, SqL.of ha, fun p n => ?_⟩
    obtain ⟨x1, c1, r⟩ := new_lst c n (cut_reps ra lo hi)
    exact q _ _ x1 c1 r
  · split at e
    · rename_i hl
      cases e
      have h1 := r1.str_inv
      subst h1
      exact sl_str pins s σ H _ v vl vu lo hi sl Q I rx hs pl pu ⟨_, rfl, by rw [← line_eq]; exact hl, q _ H (Ext.refl _ _) c (.str _)⟩
    · cases e
  · cases e

/-! ### built-in functions -/
def Reds (W : Wd) (H : Hp) : List V → List Dt → Prop
  | [], [] => True
  | v :: vs, d :: ds => Red W H v d ∧ Reds W H vs ds
  | _, _ => False
theorem Reds.one {W : Wd} {H : Hp} {vs : List V} {d : Dt} (r : Reds W H vs [d]) : ∃ v, vs = [v] ∧ Red W H v d := by
  match vs, r with
  | [v], r => exact ⟨v, rfl, r.1⟩
theorem Reds.two {W : Wd} {H : Hp} {vs : List V} {d e : Dt} (r : Reds W H vs [d, e]) : ∃ v w, vs = [v, w] ∧ Red W H v d ∧ Red W H w e := by
  match vs, r with
  | [v, w], r => exact ⟨v, w, rfl, r.1, r.2.1⟩
theorem reds_deref {W : Wd} {H : Hp} {s : Sta} (c : COk W H s) : ∀ {vs : List V} {ds : List Dt}, Reps W H vs ds → Reds W H vs (ds.map (deref s))
  | _, _, .nil => trivial
  | _, _, .cons r t => ⟨red_deref c r, reds_deref c t⟩
def Bl.val : Bl → Value
  | .len => .builtin "len" | .tupleOf => .type "tuple" | .listOf => .type "list" | .sum => .builtin "sum" | .max1 => .builtin "max" | .min1 => .builtin "min"
  | .max2 => .builtin "max" | .min2 => .builtin "min" | .int1 => .type "int" | .str1 => .type "str" | .all => .builtin "all" | .sorted => .builtin "sorted"
def RBl (b : Bl) : List V → Hp → VK → Prop := fun vs H Q => ∃ W s ds d, COk W H s ∧ Reds W H vs ds ∧ evBl b ds = some d ∧ ∀ v H', Ext W H W H' → COk W H' s → Rep W H' v d → Q v H'
theorem maxI_spec : ∀ (m : Int) (r : List Int), maxI m r ∈ m :: r ∧ ∀ y ∈ m :: r, y ≤ maxI m r
  | m, [] => ⟨by simp [maxI], fun y hy => by simp at hy; simp [maxI, hy]⟩
  | m, a :: r => by
    have ih := maxI_spec (if a > m then a else m) r
    refine ⟨?_, fun y hy => ?_⟩
    · show maxI (if a > m then a else m) r ∈ m :: a :: r
      rcases List.mem_cons.mp ih.1 with e | e
      · rw [e]
        split <;> simp
      · simp [e]
    · show y ≤ maxI (if a > m then a else m) r
      have h0 := ih.2 _ List.mem_cons_self
      have h1 : a ≤ maxI (if a > m then a else m) r ∧ m ≤ maxI (if a > m then a else m) r := by
        by_cases g : a > m
        · rw [if_pos g] at h0 ⊢; omega
        · rw [if_neg g] at h0 ⊢; omega
      rcases List.mem_cons.mp hy with e | hy
      · rw [e]; exact h1.2
      · rcases List.mem_cons.mp hy with e | hy
        · rw [e]; exact h1.1
        · exact ih.2 y (List.mem_cons_of_mem _ hy)
theorem minI_spec : ∀ (m : Int) (r : List Int), minI m r ∈ m :: r ∧ ∀ y ∈ m :: r, minI m r ≤ y
  | m, [] => ⟨by simp [minI], fun y hy => by simp at hy; simp [minI, hy]⟩
  | m, a :: r => by
    have ih := minI_spec (if a < m then a else m) r
    refine ⟨?_, fun y hy => ?_⟩
    · show minI (if a < m then a else m) r ∈ m :: a :: r
      rcases List.mem_cons.mp ih.1 with e | e
      · rw [e]
        split <;> simp
      · simp [e]
    · show minI (if a < m then a else m) r ≤ y
      have h0 := ih.2 _ List.mem_cons_self
      have h1 : minI (if a < m then a else m) r ≤ a ∧ minI (if a < m then a else m) r ≤ m := by
        by_cases g : a < m
        · rw [if_pos g] at h0 ⊢; omega
        · rw [if_neg g] at h0 ⊢; omega
      rcases List.mem_cons.mp hy with e | hy
      · rw [e]; exact h1.2
      · rcases List.mem_cons.mp hy with e | hy
        · rw [e]; exact h1.1
        · exact ih.2 y (List.mem_cons_of_mem _ hy)
theorem foldl_max_spec : ∀ (m : Int) (r : List Int), r.foldl max m ∈ m :: r ∧ ∀ y ∈ m :: r, y ≤ r.foldl max m
  | m, [] => ⟨by simp, fun y hy => by simp at hy; simp [hy]⟩
  | m, a :: r => by
    have ih := foldl_max_spec (max m a) r
    refine ⟨?_, fun y hy => ?_⟩
    · show r.foldl max (max m a) ∈ m :: a :: r
      rcases List.mem_cons.mp ih.1 with e | e
      · rw [e]
        rcases Int.le_total m a with z | z
        · rw [Int.max_eq_right z]; simp
        · rw [Int.max_eq_left z]; simp
      · simp [e]
    · show y ≤ r.foldl max (max m a)
      have h0 := ih.2 _ List.mem_cons_self
      rcases List.mem_cons.mp hy with e | hy
      · rw [e]; omega
      · rcases List.mem_cons.mp hy with e | hy
        · rw [e]; omega
        · exact ih.2 y (List.mem_cons_of_mem _ hy)
theorem sortI_perm (xs : List Int) : (sortI xs).Perm xs := List.mergeSort_perm _ _
theorem sortI_sorted (xs : List Int) : (sortI xs).Pairwise (· ≤ ·) := by
  have h := List.pairwise_mergeSort (le := fun a b : Int => decide (a ≤ b)) (fun a b c h1 h2 => by simp at h1 h2 ⊢; omega) (fun a b => by simp; omega) xs
  exact h.imp fun h => by simpa using h
theorem sorted_unique {a b : List Int} (p : a.Perm b) (ha : a.Pairwise (· ≤ ·)) (hb : b.Pairwise (· ≤ ·)) : a = b := p.eq_of_pairwise (fun x y _ _ h1 h2 => Int.le_antisymm h1 h2) ha hb
theorem py_ints : ∀ ns : List Int, Dt.pyAll (ns.map Dt.int) = ns.map PyData.int
  | [] => by simp [Dt.pyAll]
  | n :: ns => by rw [List.map_cons, Dt.pyAll, py_ints ns]; simp [Dt.py]
theorem dep_ints : ∀ ns : List Int, PyData.depthAll (ns.map PyData.int) = 0
  | [] => by simp [PyData.depthAll]
  | n :: ns => by rw [List.map_cons, PyData.depthAll, dep_ints ns]; simp [PyData.depth]
theorem pl_ints : ∀ ns : List Int, Dt.plAll (ns.map Dt.int) = true
  | [] => by simp [Dt.plAll]
  | n :: ns => by rw [List.map_cons, Dt.plAll, pl_ints ns]; simp [Dt.pl]
theorem alike_ints (ns : List Int) : PySem.W.AlikeAll (ns.map PyData.int) := by
  refine ⟨fun x hx y hy => ?_, fun x hx => ?_⟩
  · obtain ⟨n, _, rfl⟩ := List.mem_map.mp hx
    obtain ⟨m, _, rfl⟩ := List.mem_map.mp hy
    rfl
  · obtain ⟨n, _, rfl⟩ := List.mem_map.mp hx
    exact fun z => nomatch z
/-- max of a tuple of ints -/
theorem max_tup {pins : List (Addr × Obj)} {s : Shared} {σ : L2.St} {H : Hp} {a : Addr} {n : Int} {ns : List Int} {Q : VK} (hc : X.calm = true) (hu : X.A.units + 64 < cLine) (I : L2.Inv X pins σ H s) (h : TupAt H a ((n :: ns).map V.int)) (q : Q (.int (maxI n ns)) H) :
    wpAny (model X.prog X.w) X.A (call (.builtin "max") [.ref a]) (EP X pins σ Q) X.xe s := by
  obtain ⟨its, r, ht, hz⟩ := I.tuple h.sq
  have hd : DpAll X.K H ((n :: ns).map V.int) (Dt.pyAll ((n :: ns).map Dt.int)) := (Reps.of_ints (W := ⟨[], []⟩) (H := H) (n :: ns)).dp (pl_ints _)
  rw [py_ints] at hd
  obtain ⟨as, hr⟩ := Dp.readsAll I _ _ its hd r
  refine PySem.W.max_tuple_data (x := .int n) (xs := ns.map .int) (I.ok.hd hc) (show s.heap.IsTuple a its.toArray from ht) (by simpa using hr) (alike_ints (n :: ns)) (by rw [show (PyData.int n :: ns.map PyData.int) = (n :: ns).map PyData.int from rfl, dep_ints]; omega) fun i v h' tk bs hv hrd hk => ?_
  rw [PySem.W.maxD_ints] at hrd
  have e : ns.foldl max n = maxI n ns := by
    have h1 := foldl_max_spec n ns
    have h2 := maxI_spec n ns
    exact Int.le_antisymm (h2.2 _ h1.1) (h1.2 _ h2.1)
  rw [e] at hrd
  have hv' : its[i]? = some v := by simpa using hv
  obtain ⟨k, hk'⟩ : ∃ t, v = .int (maxI n ns) t := by
    cases hrd with
    | int _ t => exact ⟨t, rfl⟩
  subst hk'
  exact ⟨.int _, H, I.kept (t' := tk) hk, ⟨_, rfl⟩, q⟩
theorem sum_tup {pins : List (Addr × Obj)} {s : Shared} {σ : L2.St} {H : Hp} {a : Addr} {ns : List Int} {Q : VK} (hc : X.calm = true) (I : L2.Inv X pins σ H s) (h : TupAt H a (ns.map V.int)) (q : Q (.int ns.sum) H) :
    wpAny (model X.prog X.w) X.A (call (.builtin "sum") [.ref a]) (EP X pins σ Q) X.xe s := by
  obtain ⟨its, r, ht, hz⟩ := I.tuple h.sq
  have hi := r.ints
  obtain ⟨xs, e⟩ := hi.allInts.items
  have hn : numsOf (intItems xs).toList = ns := by rw [← e]; exact hi.numsOf
  rw [nums_intItems] at hn
  have ht' : s.heap.IsTuple a (intItems xs) := by rw [← e]; exact ht
  refine PySem.W.ktm_sumG (I.ok.hd hc) ht' fun h' tk t' hk => ?_
  rw [preSum_eq, List.take_of_length_le (by simp), hn]
  exact ⟨.int _, H, I.kept (t' := tk) hk, ⟨_, rfl⟩, q⟩
theorem bl_ok (hK : X.K = Glob.K) (hc : X.calm = true) (hu : X.A.units + 64 < cLine) (b : Bl) : CallR X b.val (RBl b) := by
  intro pins s σ H vs us Q I r h
  obtain ⟨W, st, ds, d, c, rd, e, q⟩ := h
  unfold evBl at e
  split at e
  · cases e; obtain ⟨v, rfl, r1⟩ := rd.one
    obtain ⟨a, xs, rfl, ha, na, ra⟩ := r1.tup_inv
    exact call_len_seq pins s σ H _ us Q I r ⟨a, xs, rfl, .inr ha.sq, by rw [ra.length]; exact q _ H (Ext.refl _ _) c (.int _)⟩
  · cases e; obtain ⟨v, rfl, r1⟩ := rd.one
    obtain ⟨a, xs, rfl, ha, ra⟩ := r1.lst_inv
    exact call_len_seq pins s σ H _ us Q I r ⟨a, xs, rfl, .inl (SqL.of ha), by rw [ra.length]; exact q _ H (Ext.refl _ _) c (.int _)⟩
  · cases e; obtain ⟨v, rfl, r1⟩ := rd.one
    obtain ⟨a, rfl, ha⟩ := r1.scr_inv
    exact call_len_seq pins s σ H _ us Q I r ⟨a, _, rfl, .inl (by rw [hK]; exact ha), by rw [List.length_map]; exact q _ H (Ext.refl _ _) c (.int _)⟩
  · split at e
    · rename_i hl
      cases e; obtain ⟨v, rfl, r1⟩ := rd.one
      have h1 := r1.str_inv; subst h1
      exact call_len_str pins s σ H _ us Q I r ⟨_, rfl, by rw [← line_eq]; exact hl, q _ H (Ext.refl _ _) c (.int _)⟩
    · cases e
  · cases e; obtain ⟨v, rfl, r1⟩ := rd.one
    obtain ⟨a, xs, rfl, ha, na, ra⟩ := r1.tup_inv
    exact call_tupleF pins s σ H _ us Q I r ⟨a, xs, rfl, .inr ⟨ha.sq, q _ H (Ext.refl _ _) c (.tup ha.choose_spec.1 ha.choose_spec.2 na ra)⟩⟩
  · cases e; obtain ⟨v, rfl, r1⟩ := rd.one
    obtain ⟨a, xs, rfl, ha, ra⟩ := r1.lst_inv
    refine call_tupleF pins s σ H _ us Q I r ⟨a, xs, rfl, .inl ⟨SqL.of ha, fun p o n hd => ?_⟩⟩
    obtain ⟨x1, c1, r⟩ := new_tup c n hd ra
    exact q _ _ x1 c1 r
  · cases e; obtain ⟨v, rfl, r1⟩ := rd.one
    obtain ⟨a, xs, rfl, ha, na, ra⟩ := r1.tup_inv
    refine call_list_of pins s σ H _ us Q I r ⟨a, xs, rfl, .inr ha.sq, fun p n => ?_⟩
    obtain ⟨x1, c1, r⟩ := new_lst c n ra
    exact q _ _ x1 c1 r
  · cases e; obtain ⟨v, rfl, r1⟩ := rd.one
    obtain ⟨a, xs, rfl, ha, ra⟩ := r1.lst_inv
    refine call_list_of pins s σ H _ us Q I r ⟨a, xs, rfl, .inl (SqL.of ha), fun p n => ?_⟩
    obtain ⟨x1, c1, r⟩ := new_lst c n ra
    exact q _ _ x1 c1 r
  · rw [Option.map_eq_some_iff] at e
    obtain ⟨l, e, rfl⟩ := e
    obtain ⟨v, rfl, r1⟩ := rd.one
    obtain ⟨a, xs, rfl, ha, ra⟩ := r1.lst_inv
    obtain ⟨e1, e2⟩ := ra.ints e
    subst e1
    exact cr_sum hc pins s σ H _ us Q I r ⟨a, l, rfl, SqL.of ha, q _ H (Ext.refl _ _) c (.int _)⟩
  · rw [Option.map_eq_some_iff] at e
    obtain ⟨l, e, rfl⟩ := e
    obtain ⟨v, rfl, r1⟩ := rd.one
    obtain ⟨a, xs, rfl, ha, na, ra⟩ := r1.tup_inv
    obtain ⟨e1, e2⟩ := ra.ints e
    subst e1
    obtain ⟨u, rfl, ru⟩ := vals1 r
    cases ru
    exact sum_tup hc I ha (q _ H (Ext.refl _ _) c (.int _))
  · rw [Option.bind_eq_some_iff] at e
    obtain ⟨l, e, e'⟩ := e
    split at e'
    · cases e'
    · rename_i n l
      cases e'
      obtain ⟨v, rfl, r1⟩ := rd.one
      obtain ⟨a, xs, rfl, ha, ra⟩ := r1.lst_inv
      obtain ⟨e1, e2⟩ := ra.ints e
      subst e1
      refine cr_max hc pins s σ H _ us Q I r ⟨a, n :: l, rfl, SqL.of ha, by simp, fun m h1 h2 => ?_⟩
      have z := maxI_spec n l
      rw [show m = maxI n l from Int.le_antisymm (z.2 m h1) (h2 _ z.1)]
      exact q _ H (Ext.refl _ _) c (.int _)
  · rw [Option.bind_eq_some_iff] at e
    obtain ⟨l, e, e'⟩ := e
    split at e'
    · cases e'
    · rename_i n l
      cases e'
      obtain ⟨v, rfl, r1⟩ := rd.one
      obtain ⟨a, xs, rfl, ha, na, ra⟩ := r1.tup_inv
      obtain ⟨e1, e2⟩ := ra.ints e
      subst e1
      obtain ⟨u, rfl, ru⟩ := vals1 r
      cases ru
      exact max_tup hc hu I ha (q _ H (Ext.refl _ _) c (.int _))
  · rw [Option.bind_eq_some_iff] at e
    obtain ⟨l, e, e'⟩ := e
    split at e'
    · cases e'
    · rename_i n l
      cases e'
      obtain ⟨v, rfl, r1⟩ := rd.one
      obtain ⟨a, xs, rfl, ha, ra⟩ := r1.lst_inv
      obtain ⟨e1, e2⟩ := ra.ints e
      subst e1
      refine cr_min hc pins s σ H _ us Q I r ⟨a, n :: l, rfl, SqL.of ha, by simp, fun m h1 h2 => ?_⟩
      have z := minI_spec n l
      rw [show m = minI n l from Int.le_antisymm (h2 _ z.1) (z.2 m h1)]
      exact q _ H (Ext.refl _ _) c (.int _)
  · cases e; obtain ⟨v, w, rfl, r1, r2⟩ := rd.two
    have h1 := r1.int_inv; have h2 := r2.int_inv; subst h1 h2
    exact call_max2 hc pins s σ H _ us Q I r ⟨_, _, rfl, q _ H (Ext.refl _ _) c (.int _)⟩
  · cases e; obtain ⟨v, w, rfl, r1, r2⟩ := rd.two
    have h1 := r1.int_inv; have h2 := r2.int_inv; subst h1 h2
    exact call_min2 hc pins s σ H _ us Q I r ⟨_, _, rfl, q _ H (Ext.refl _ _) c (.int _)⟩
  · cases e; obtain ⟨v, rfl, r1⟩ := rd.one
    have h1 := r1.int_inv; subst h1
    exact call_int1 pins s σ H _ us Q I r (.inl ⟨_, rfl, q _ H (Ext.refl _ _) c (.int _)⟩)
  · cases e; obtain ⟨v, rfl, r1⟩ := rd.one
    have h1 := r1.bl_inv; subst h1
    exact call_int1 pins s σ H _ us Q I r (.inr ⟨_, rfl, q _ H (Ext.refl _ _) c (.int _)⟩)
  · split at e
    · rename_i hl
      rw [Option.map_eq_some_iff] at e
      obtain ⟨n, e, rfl⟩ := e
      obtain ⟨v, rfl, r1⟩ := rd.one
      have h1 := r1.str_inv; subst h1
      exact call_int_str pins s σ H _ us Q I r ⟨_, n, rfl, e, hl, q _ H (Ext.refl _ _) c (.int _)⟩
    · cases e
  · split at e
    · rename_i hl
      cases e
      obtain ⟨v, rfl, r1⟩ := rd.one
      have h1 := r1.int_inv; subst h1
      exact call_str_int pins s σ H _ us Q I r ⟨_, rfl, hl, q _ H (Ext.refl _ _) c (.str _)⟩
    · cases e
  · cases e; obtain ⟨v, rfl, r1⟩ := rd.one
    have h1 := r1.str_inv; subst h1
    exact SkE.call_str_str pins s σ H _ us Q I r ⟨_, rfl, q _ H (Ext.refl _ _) c (.str _)⟩
  · rw [Option.map_eq_some_iff] at e
    obtain ⟨l, e, rfl⟩ := e
    obtain ⟨v, rfl, r1⟩ := rd.one
    obtain ⟨a, xs, rfl, ha, ra⟩ := r1.lst_inv
    obtain ⟨e1, e2⟩ := ra.bls e
    subst e1
    exact cr_all hc pins s σ H _ us Q I r ⟨a, l, rfl, SqL.of ha, q _ H (Ext.refl _ _) c (.bl _)⟩
  · rw [Option.map_eq_some_iff] at e
    obtain ⟨l, e, rfl⟩ := e
    obtain ⟨v, rfl, r1⟩ := rd.one
    obtain ⟨a, xs, rfl, ha, ra⟩ := r1.lst_inv
    obtain ⟨e1, e2⟩ := ra.ints e
    subst e1
    refine cr_sortedI pins s σ H _ us Q I r ⟨a, l, rfl, SqL.of ha, fun ns' p h1 h2 n => ?_⟩
    rw [show ns' = sortI l from sorted_unique (h1.trans (sortI_perm l).symm) h2 (sortI_sorted l)]
    obtain ⟨x1, c1, r⟩ := new_lst c n (Reps.of_ints (W := W) (H := H) (sortI l))
    exact q _ _ x1 c1 r
  · rw [Option.map_eq_some_iff] at e
    obtain ⟨l, e, rfl⟩ := e
    obtain ⟨v, rfl, r1⟩ := rd.one
    obtain ⟨a, xs, rfl, ha, na, ra⟩ := r1.tup_inv
    obtain ⟨e1, e2⟩ := ra.ints e
    subst e1
    refine cr_sortT pins s σ H _ us Q I r ⟨a, l, rfl, ha, fun ns' p h1 h2 n => ?_⟩
    rw [show ns' = sortI l from sorted_unique (h1.trans (sortI_perm l).symm) h2 (sortI_sorted l)]
    obtain ⟨x1, c1, r⟩ := new_lst c n (Reps.of_ints (W := W) (H := H) (sortI l))
    exact q _ _ x1 c1 r
  · cases e

/-! ### the different ones -/
theorem ddI_mem {x : Int} : ∀ {l : List Int}, x ∈ ddI l ↔ x ∈ l
  | [] => by simp [ddI]
  | [a] => by simp [ddI]
  | a :: b :: r => by
    have ih := ddI_mem (x := x) (l := b :: r)
    unfold ddI
    by_cases e : a = b
    · rw [if_pos e, ih, e]; simp
    · rw [if_neg e, List.mem_cons, ih]; simp
theorem ddI_lt : ∀ {l : List Int}, l.Pairwise (· ≤ ·) → (ddI l).Pairwise (· < ·)
  | [], _ => by simp [ddI]
  | [a], _ => by simp [ddI]
  | a :: b :: r, h => by
    have h1 := List.pairwise_cons.mp h
    have ih := ddI_lt h1.2
    unfold ddI
    by_cases e : a = b
    · rw [if_pos e]; exact ih
    · rw [if_neg e]
      refine List.pairwise_cons.mpr ⟨fun y hy => ?_, ih⟩
      have hy' := ddI_mem.mp hy
      have h2 := h1.1 b List.mem_cons_self
      have h3 : b ≤ y := by
        rcases List.mem_cons.mp hy' with rfl | m
        · exact Int.le_refl _
        · exact (List.pairwise_cons.mp h1.2).1 y m
      omega
theorem uniq_mem {x : Int} {l : List Int} : x ∈ uniqI l ↔ x ∈ l := by unfold uniqI; rw [ddI_mem, (sortI_perm l).mem_iff]
theorem uniq_lt (l : List Int) : (uniqI l).Pairwise (· < ·) := ddI_lt (sortI_sorted l)
theorem nodup_lt {l : List Int} (h : l.Pairwise (· < ·)) : l.Nodup := h.imp fun h => Int.ne_of_lt h
theorem uniq_perm {l ks : List Int} (h : ks.Nodup) (m : ∀ k, k ∈ ks ↔ k ∈ l) : ks.Perm (uniqI l) := (List.perm_ext_iff_of_nodup h (nodup_lt (uniq_lt l))).mpr fun k => by rw [m k, uniq_mem]
theorem uniq_eq {l ks : List Int} (h : ks.Pairwise (· < ·)) (m : ∀ k, k ∈ ks ↔ k ∈ l) : ks = uniqI l := sorted_unique (uniq_perm (nodup_lt h) m) (h.imp fun h => Int.le_of_lt h) ((uniq_lt l).imp fun h => Int.le_of_lt h)

/-! ### isinstance -/
def Ty.nm : Ty → String
  | .int => "int" | .bool => "bool" | .str => "str" | .tuple => "tuple" | .list => "list"
theorem isi_ok {K : PySem.W.Frag} {W : Wd} {H : Hp} {v : V} {d : Dt} {t : Ty} {b : Bool} (r : Red W H v d) (e : evIsi t d = some b) :
    ∃ T : String, TyX K H v (.type T) ∧ PySem.W.kitOne K (.type T) (.type t.nm) = some b := by
  cases d with
  | non =>
    rw [r.non_inv]
    refine ⟨_, .base .non, ?_⟩
    cases t <;> (simp only [evIsi, Option.some.injEq] at e; subst e; exact kit_ty (by decide +kernel))
  | bl c =>
    rw [r.bl_inv]
    refine ⟨_, .base (.bl c), ?_⟩
    cases t <;> (simp only [evIsi, Option.some.injEq] at e; subst e; exact kit_ty (by decide +kernel))
  | int c =>
    rw [r.int_inv]
    refine ⟨_, .base (.int c), ?_⟩
    cases t <;> (simp only [evIsi, Option.some.injEq] at e; subst e; exact kit_ty (by decide +kernel))
  | str c =>
    rw [r.str_inv]
    refine ⟨_, .base (.str c), ?_⟩
    cases t <;> (simp only [evIsi, Option.some.injEq] at e; subst e; exact kit_ty (by decide +kernel))
  | tup ds =>
    obtain ⟨a, xs, rfl, ⟨o, ha, _⟩, _⟩ := r.tup_inv
    refine ⟨_, .fTuple ha, ?_⟩
    cases t <;> (simp only [evIsi, Option.some.injEq] at e; subst e; exact kit_ty (by decide +kernel))
  | lst ds =>
    obtain ⟨a, xs, rfl, ha, _⟩ := r.lst_inv
    refine ⟨_, .base (.lst ha), ?_⟩
    cases t <;> (simp only [evIsi, Option.some.injEq] at e; subst e; exact kit_ty (by decide +kernel))
  | ref k => cases t <;> simp [evIsi] at e
  | scr k => cases t <;> simp [evIsi] at e
def RIsi (t : Ty) : List V → Hp → VK → Prop := fun vs H Q => ∃ W s v d b, vs = [v, .ty t.nm] ∧ COk W H s ∧ Red W H v d ∧ evIsi t d = some b ∧ Q (.bl b) H
theorem call_isi_ok (t : Ty) : CallR X (.builtin "isinstance") (RIsi t) := by
  intro pins s σ H vs us Q I r h
  obtain ⟨W, st, v, d, b, rfl, c, rd, e, q⟩ := h
  obtain ⟨T, h1, h2⟩ := isi_ok (K := X.K) rd e
  exact call_isi pins s σ H _ us Q I r ⟨v, .ty t.nm, .type T, .type t.nm, b, rfl, .ty _, h1, h2, q⟩

/-! ### methods -/
def Mt.nm : Mt → Str
  | .count => "count" | .join => "join" | .split => "split" | .index => "index" | .find => "find"
def RMt (m : Mt) (T : String) : V → List V → Hp → VK → Prop := fun x xs H Q => ∃ W s d ds d', COk W H s ∧ Red W H x d ∧ Reds W H xs ds ∧ evMt m d ds = some d' ∧ tyN T x H ∧ ∀ v H', Ext W H W H' → COk W H' s → Rep W H' v d' → Q v H'
theorem count_py (ds : List Dt) (d : Dt) : ((Dt.pyAll ds).countP fun y => PyData.eqv y d.py) = ds.countP fun z => PyData.eqv z.py d.py := by
  rw [pyAll_map, List.countP_map]; rfl
theorem mt_tcount (hu : X.A.units + 64 < cLine) : MtR X "tuple.count" (RMt .count "tuple") := by
  intro pins s σ H x xs v us Q I rx rxs h
  obtain ⟨W, st, d, ds, d', c, rd, rds, e, ty, q⟩ := h
  unfold evMt at e
  split at e
  · split at e
    · rename_i hq
      cases e
      obtain ⟨w, rfl, r1⟩ := rds.one
      obtain ⟨p1, p2, p3⟩ := okqs_parts hq
      obtain ⟨u, rfl, ru⟩ := vals1 rxs
      obtain ⟨a, ys, rfl, ha, na, ra⟩ := rd.tup_inv
      cases rx
      obtain ⟨its, rv, ht, hz⟩ := I.tuple ha.sq
      obtain ⟨as, h1⟩ := Dp.readsAll I _ ys its (ra.dp p1) rv
      obtain ⟨bs, h2⟩ := Dp.reads I _ w u (r1.dp p2) ru
      refine SeqAt.count_tuple_data (show s.heap.IsTuple a its.toArray from ht) (by simpa using h1) h2 (plain_pyAll _) (plain_py _) (by omega) ?_
      rw [count_py]
      exact ⟨.int _, H, I.tok _, ⟨_, rfl⟩, q _ H (Ext.refl _ _) c (.int _)⟩
    · cases e
  · obtain ⟨a, ys, rfl, ha, ra⟩ := rd.lst_inv
    rcases ty with ⟨z, _⟩ | ⟨_, zs, o, z, _⟩
    · exact absurd z (by decide)
    · rw [ha] at z; cases z
  all_goals (first | contradiction | cases e | (have z := rd.str_inv; subst z; exact absurd (show ("tuple" : String) = "str" from ty) (by decide)))
theorem mt_lcount' (hu : X.A.units + 64 < cLine) : MtR X "list.count" (RMt .count "list") := by
  intro pins s σ H x xs v us Q I rx rxs h
  obtain ⟨W, st, d, ds, d', c, rd, rds, e, ty, q⟩ := h
  unfold evMt at e
  split at e
  · obtain ⟨a, ys, rfl, ⟨o, ha, _⟩, na, ra⟩ := rd.tup_inv
    rcases ty with ⟨_, zs, z⟩ | ⟨z, _⟩
    · rw [ha] at z; cases z
    · exact absurd z (by decide)
  · split at e
    · rename_i hq
      cases e
      obtain ⟨w, rfl, r1⟩ := rds.one
      obtain ⟨p1, p2, p3⟩ := okqs_parts hq
      obtain ⟨u, rfl, ru⟩ := vals1 rxs
      obtain ⟨a, ys, rfl, ha, ra⟩ := rd.lst_inv
      cases rx
      obtain ⟨its, rv, ht, hz⟩ := I.list (SqL.of ha)
      obtain ⟨as, h1⟩ := Dp.readsAll I _ ys its (ra.dp p1) rv
      obtain ⟨bs, h2⟩ := Dp.reads I _ w u (r1.dp p2) ru
      refine SeqAt.count_list_data ht.isList (by simpa using h1) h2 (plain_pyAll _) (plain_py _) (by omega) ?_
      rw [count_py]
      exact ⟨.int _, H, I.tok _, ⟨_, rfl⟩, q _ H (Ext.refl _ _) c (.int _)⟩
    · cases e
  all_goals (first | contradiction | cases e | (have z := rd.str_inv; subst z; exact absurd (show ("list" : String) = "str" from ty) (by decide)))
theorem mt_join' : MtR X "str.join" (RMt .join "str") := by
  intro pins s σ H x xs v us Q I rx rxs h
  obtain ⟨W, st, d, ds, d', c, rd, rds, e, ty, q⟩ := h
  unfold evMt at e
  split at e
  · contradiction
  · contradiction
  · rw [Option.bind_eq_some_iff] at e
    obtain ⟨l, e, e'⟩ := e
    split at e'
    · rename_i hl
      cases e'
      obtain ⟨w, rfl, r1⟩ := rds.one
      have h1 := rd.str_inv; subst h1
      obtain ⟨a, ys, rfl, ha, ra⟩ := r1.lst_inv
      obtain ⟨e1, e2⟩ := ra.strs e
      subst e1
      exact mt_join pins s σ H _ _ v us Q I rx rxs ⟨_, a, l, rfl, rfl, .inl (SqL.of ha), hl, q _ H (Ext.refl _ _) c (.str _)⟩
    · cases e'
  all_goals (first | contradiction | cases e)
theorem mt_split' : MtR X "str.split" (RMt .split "str") := by
  intro pins s σ H x xs v us Q I rx rxs h
  obtain ⟨W, st, d, ds, d', c, rd, rds, e, ty, q⟩ := h
  unfold evMt at e
  split at e
  · contradiction
  · contradiction
  · contradiction
  · split at e
    · rename_i hl
      cases e
      obtain ⟨w, rfl, r1⟩ := rds.one
      have h1 := rd.str_inv; subst h1
      have h2 := r1.str_inv; subst h2
      refine mt_split pins s σ H _ _ v us Q I rx rxs ⟨_, _, rfl, rfl, hl.1, by rw [← line_eq]; exact hl.2, fun p n => ?_⟩
      obtain ⟨x1, c1, r⟩ := new_lst c n (Reps.of_strs (W := W) (H := H) _)
      exact q _ _ x1 c1 r
    · cases e
  all_goals (first | contradiction | cases e)
theorem mt_find' : MtR X "str.find" (RMt .find "str") := by
  intro pins s σ H x xs v us Q I rx rxs h
  obtain ⟨W, st, d, ds, d', c, rd, rds, e, ty, q⟩ := h
  unfold evMt at e
  split at e
  · contradiction
  · contradiction
  · contradiction
  · contradiction
  · cases e
    obtain ⟨w, rfl, r1⟩ := rds.one
    have h1 := rd.str_inv; subst h1
    have h2 := r1.str_inv; subst h2
    exact mt_find pins s σ H _ _ v us Q I rx rxs ⟨_, _, rfl, rfl, q _ H (Ext.refl _ _) c (.int _)⟩
  · cases e
/-- the method that a receiver of that kind has -/
theorem mt_of (hu : X.A.units + 64 < cLine) {W : Wd} {H : Hp} {v : V} {d : Dt} {m : Mt} (r : Red W H v d) (e : okMt m d = true) :
    ∃ T id, PlainAttrs T ∧ Slot T m.nm id ∧ typeOf (.builtin id) = pure (.type "method_descriptor") ∧ MtR X id (RMt m T) ∧ tyN T v H := by
  unfold okMt at e
  split at e
  · obtain ⟨a, xs, rfl, ha, _⟩ := r.tup_inv
    exact ⟨"tuple", _, PySem.F.plainAttrs_tuple, PySem.F.slot_tuple_count, PySem.F.type_tuple_count, mt_tcount hu, .inr ⟨rfl, xs, ha⟩⟩
  · obtain ⟨a, xs, rfl, ha, _⟩ := r.lst_inv
    exact ⟨"list", _, PySem.F.plainAttrs_list, PySem.F.slot_list_count, PySem.F.type_list_count, mt_lcount' hu, .inl ⟨rfl, xs, ha⟩⟩
  · have h1 := r.str_inv; subst h1
    exact ⟨"str", _, PySem.F.plainAttrs_str, PySem.F.slot_str_join, PySem.F.type_str_join, mt_join', rfl⟩
  · have h1 := r.str_inv; subst h1
    exact ⟨"str", _, PySem.F.plainAttrs_str, PySem.F.slot_str_split, PySem.F.type_str_split, mt_split', rfl⟩
  · have h1 := r.str_inv; subst h1
    exact ⟨"str", _, PySem.F.plainAttrs_str, PySem.F.slot_str_find, PySem.F.type_str_find, mt_find', rfl⟩
  · cases e
end
end MP
/-! MP5: a term of the text's own and our term: when they match, the text's term does what ours comes to. -/
namespace MP
open PySem L2 PyProof.Rows
variable [Glob]

/-- what is known where a term stands: names by slot, the scope, the text's own functions by number -/
structure Gm where
  N : List Str
  sc : Scope
  fs : List (Str × Nat)
def Gm.vis (Γ : Gm) (x : Str) : Bool := match Γ.sc.names.lookup x with
  | some .local => true
  | some .cell => true
  | some .free => true
  | _ => false
def Gm.glo (Γ : Gm) (x : Str) : Bool := match Γ.sc.names.lookup x with
  | some .globalImplicit => true
  | _ => false
def Gm.loc (Γ : Gm) (x : Str) : Bool := match Γ.sc.names.lookup x with
  | some .local => true
  | some .cell => true
  | _ => false
def notStar : Expr → Bool
  | .Starred _ _ => false
  | _ => true
def mOp : BOp → Operator → Bool
  | .add, .Add => true | .sub, .Sub => true | .mul, .Mult => true | .mod, .Mod => true | .fdiv, .FloorDiv => true | .shl, .LShift => true | _, _ => false
def mCop : COp → CmpOp → Bool
  | .eq, .Eq => true | .ne, .NotEq => true | .lt, .Lt => true | .le, .LtE => true | .gt, .Gt => true | .ge, .GtE => true | .isin, .In => true | .notin, .NotIn => true | _, _ => false
theorem mOp_eq {a : BOp} {b : Operator} (h : mOp a b = true) : b = a.py := by cases a <;> cases b <;> first | rfl | cases h
theorem mCop_eq {a : COp} {b : CmpOp} (h : mCop a b = true) : b = a.py := by cases a <;> cases b <;> first | rfl | cases h
def Bl.nm : Bl → Str
  | .len => "len" | .tupleOf => "tuple" | .listOf => "list" | .sum => "sum" | .max1 => "max" | .min1 => "min"
  | .max2 => "max" | .min2 => "min" | .int1 => "int" | .str1 => "str" | .all => "all" | .sorted => "sorted"
def Ty.sn : Ty → Str
  | .int => "int" | .bool => "bool" | .str => "str" | .tuple => "tuple" | .list => "list"
/-- as a test: where the text's test is no conditional expression -/
def E.tst : E → Bool
  | .ite _ _ _ => false
  | .and a b => a.tst && b.tst
  | .or a b => a.tst && b.tst
  | .not a => a.tst
  | _ => true
def mTg (Γ : Gm) : Tg → Expr → Bool
  | .nm i, .Name x _ => decide (Γ.N[i]? = some x) && Γ.loc x
  | .tup is, .Tuple es _ _ => mNms Γ is es
  | _, _ => false
where mNms (Γ : Gm) : List Nat → List Expr → Bool
  | [], [] => true
  | i :: is, .Name x _ :: es => decide (Γ.N[i]? = some x) && Γ.loc x && mNms Γ is es
  | _, _ => false
def ownOf (Γ : Gm) (own : List Nat) : List (Str × Nat) := own.filterMap fun i => (Γ.N[i]?).map fun x => (x, i)
def Gm.blk (Γ : Gm) (scope : Scope) : Gm := { Γ with sc := relS scope Γ.sc }
def isTupTg : Expr → Bool
  | .Tuple _ _ _ => true
  | _ => false
/-- targets that are a block's own -/
def tgOk (scope : Scope) : Expr → Bool
  | .Name x _ => match scope.names.lookup x with
    | some .local => true
    | some .cell => true
    | _ => false
  | .Tuple es _ _ => go es
  | _ => false
where go : List Expr → Bool
  | [] => true
  | .Name x _ :: es => (match scope.names.lookup x with
    | some .local => true
    | some .cell => true
    | _ => false) && go es
  | _ :: _ => false
def notSet : Expr → Bool
  | .Set _ _ _ => false
  | _ => true
def oneComp : List Comprehension → Option (Expr × Expr × List Expr)
  | [⟨t, i, ifs, 0⟩] => some (t, i, ifs)
  | _ => none
theorem oneComp_eq {l : List Comprehension} {x : Expr × Expr × List Expr} (h : oneComp l = some x) : l = [⟨x.1, x.2.1, x.2.2, 0⟩] := by
  unfold oneComp at h
  split at h
  · cases h; rfl
  · cases h
def oneNm : List Comprehension → Option (Expr × Str × Pos × List Expr)
  | [⟨t, .Name x p, ifs, 0⟩] => some (t, x, p, ifs)
  | _ => none
theorem oneNm_eq {l : List Comprehension} {x : Expr × Str × Pos × List Expr} (h : oneNm l = some x) : l = [⟨x.1, .Name x.2.1 x.2.2.1, x.2.2.2, 0⟩] := by
  unfold oneNm at h
  split at h
  · cases h; rfl
  · cases h
def Gm.var (Γ : Gm) (i : Nat) (x : Str) : Bool := decide (Γ.N[i]? = some x) && Γ.vis x && !(x == ("__debug__" : Str)) && !(x == ("__classdict__" : Str))
mutual
def mE (Γ : Gm) : E → Expr → Bool
  | .var i, .Name x _ => decide (Γ.N[i]? = some x) && Γ.vis x && !(x == ("__debug__" : Str)) && !(x == ("__classdict__" : Str))
  | .non, .Constant .none _ _ => true
  | .bl b, .Constant (.bool c) _ _ => decide (b = c)
  | .int i, .Constant (.int j) _ _ => decide (i = j)
  | .neg i, .UnaryOp .USub (.Constant (.int j) _ _) _ => decide (i = j)
  | .str a, .Constant (.str b) _ _ => decide (a = b)
  | .tup es, .Tuple ps _ _ => mEs Γ es ps
  | .lst es, .List ps _ => mEs Γ es ps
  | .mlst es, .List ps _ => mEs Γ es ps
  | .mrep es k, .BinOp (.List ps _) .Mult q _ => mEs Γ es ps && mE Γ k q
  | .bin op a b, .BinOp p o q _ => mOp op o && mE Γ a p && mE Γ b q
  | .cmp op a b, .Compare p [o] [q] _ => mCop op o && mE Γ a p && mE Γ b q && !behindInMarks o q
  | .cmp2 op op' a b c, .Compare p [o, o'] [q, r] _ => mCop op o && mCop op' o' && mE Γ a p && mE Γ b q && mE Γ c r && !lastMarks [o, o'] [q, r]
  | .isNon a, .Compare p [.Is] [.Constant .none _ _] _ => mE Γ a p
  | .notNon a, .Compare p [.IsNot] [.Constant .none _ _] _ => mE Γ a p
  | .isBl b a, .Compare p [.Is] [.Constant (.bool c) _ _] _ => decide (b = c) && mE Γ a p
  | .notBl b a, .Compare p [.IsNot] [.Constant (.bool c) _ _] _ => decide (b = c) && mE Γ a p
  | .and a b, .BoolOp .And (p :: q :: r) pos => mE Γ a p && mE Γ b (match r with | [] => q | _ :: _ => .BoolOp .And (q :: r) pos)
  | .or a b, .BoolOp .Or (p :: q :: r) pos => mE Γ a p && mE Γ b (match r with | [] => q | _ :: _ => .BoolOp .Or (q :: r) pos)
  | .not a, .UnaryOp .Not p _ => mE Γ a p
  | .ite c a b, .IfExp r p q _ => mE Γ c r && c.tst && mE Γ a p && mE Γ b q
  | .ix a i, .Subscript p q _ => mE Γ a p && mE Γ i q && (match q with | .Slice _ _ _ _ => false | _ => true)
  | .slHi a h, .Subscript p (.Slice none (some q) none _) _ => mE Γ a p && mE Γ h q
  | .slLo a l, .Subscript p (.Slice (some q) none none _) _ => mE Γ a p && mE Γ l q
  | .slLH a l h, .Subscript p (.Slice (some q) (some r) none _) _ => mE Γ a p && mE Γ l q && mE Γ h r
  | .call f es, .Call (.Name x _) ps [] _ => decide (Γ.fs.lookup x = some f) && decide (f < 1000) && Γ.glo x && !(x == ("__debug__" : Str)) && !es.isEmpty && mEs Γ es ps
  | .blt b es, .Call (.Name x _) ps [] _ => decide (x = b.nm) && Γ.glo x && !es.isEmpty && mEs Γ es ps
  | .isi t a, .Call (.Name x _) [p, .Name y _] [] _ => decide (x = "isinstance") && Γ.glo x && decide (y = t.sn) && Γ.glo y && mE Γ a p
  | .mth m o es, .Call (.Attribute p x apos) ps [] cpos => decide (x = m.nm) && mE Γ o p && !es.isEmpty && mEs Γ es ps && (apos.endLine == cpos.line) && decide (ps.length < 30)
  | .lrng1 b, .Call (.Name x _) [.Call (.Name y _) [q] [] _] [] _ => decide (x = "list") && Γ.glo x && decide (y = "range") && Γ.glo y && mE Γ b q
  | .lrng a b, .Call (.Name x _) [.Call (.Name y _) [p, q] [] _] [] _ => decide (x = "list") && Γ.glo x && decide (y = "range") && Γ.glo y && mE Γ a p && mE Γ b q
  | .trng a b, .Call (.Name x _) [.Call (.Name y _) [p, q] [] _] [] _ => decide (x = "tuple") && Γ.glo x && decide (y = "range") && Γ.glo y && mE Γ a p && mE Γ b q
  | .app x e, .Call (.Attribute p n apos) [q] [] cpos => decide (n = "append") && mE Γ x p && mE Γ e q && (apos.endLine == cpos.line)
  | .ext x e, .Call (.Attribute p n apos) [q] [] cpos => decide (n = "extend") && mE Γ x p && mE Γ e q && (apos.endLine == cpos.line)
  | .pop x, .Call (.Attribute p n apos) [] [] cpos => decide (n = "pop") && mE Γ x p && (apos.endLine == cpos.line)
  | .lc elt tg it own ifs, .ListComp p gs scope _ => match oneComp gs with
    | some (t, q, cs) => decide ((ownOf Γ own).map (·.2) = own) && blkC Γ.N Γ.sc scope (ownOf Γ own) && notSet q && mI Γ (isTupTg t) it q && mTg (Γ.blk scope) tg t && tgOk scope t && (match tg with | .nm i => decide (i ∈ own) | .tup is => is.all fun i => decide (i ∈ own))
        && mEs (Γ.blk scope) ifs cs && (ifs.all E.tst) && decide (ifs.length ≤ 1) && mE (Γ.blk scope) elt p
    | none => false
  | .rev a, .Subscript p (.Slice none none (some (.UnaryOp .USub (.Constant (.int 1) _ _) _)) _) _ => mE Γ a p
  | .lenSet a, .Call (.Name x _) [.Call (.Name y _) [p] [] _] [] _ => decide (x = "len") && Γ.glo x && decide (y = "set") && Γ.glo y && mE Γ a p
  | .sortSet a, .Call (.Name x _) [.Call (.Name y _) [p] [] _] [] _ => decide (x = "sorted") && Γ.glo x && decide (y = "set") && Γ.glo y && mE Γ a p
  | .lcC elt tg i own ifs, .ListComp p gs scope _ => match oneNm gs with
    | some (t, x, _, cs) => decide ((ownOf Γ own).map (·.2) = own) && blkC Γ.N Γ.sc scope (ownOf Γ own) && Γ.var i x && mTg (Γ.blk scope) tg t && tgOk scope t && (match tg with | .nm i => decide (i ∈ own) | .tup is => is.all fun i => decide (i ∈ own))
        && mEs (Γ.blk scope) ifs cs && (ifs.all E.tst) && decide (ifs.length ≤ 1) && mE (Γ.blk scope) elt p
    | none => false
  | _, _ => false
def mEs (Γ : Gm) : List E → List Expr → Bool
  | [], [] => true
  | e :: es, p :: ps => mE Γ e p && mEs Γ es ps
  | _, _ => false
def mI (Γ : Gm) (tt : Bool) : I → Expr → Bool
  | .rng1 a, .Call (.Name x _) [p] [] _ => decide (x = "range") && Γ.glo x && mE Γ a p
  | .rng2 a b, .Call (.Name x _) [p, q] [] _ => decide (x = "range") && Γ.glo x && mE Γ a p && mE Γ b q
  | .enum a, .Call (.Name x _) [p] [] _ => decide (x = "enumerate") && Γ.glo x && tt && mE Γ a p
  | .zip a b, .Call (.Name x _) [p, q] [] _ => decide (x = "zip") && Γ.glo x && tt && mE Γ a p && mE Γ b q
  | .e a, p => mE Γ a p
  | _, _ => false
end
theorem mE_ns {Γ : Gm} {e : E} {p : Expr} (h : mE Γ e p = true) : notStar p = true := by
  cases p <;> first | rfl | skip
  exfalso
  cases e <;> (simp [mE] at h)
theorem star_cons {e : Expr} {es : List Expr} {env : PySem.Env} (h : notStar e = true) : starEach (e :: es) env = (false, eval e env) :: starEach es env := by
  cases e <;> first | rfl | cases h
theorem mEs_star {Γ : Gm} {env : PySem.Env} {pos : Pos} : ∀ {es : List E} {ps : List Expr}, mEs Γ es ps = true → (backTo pos (starEach ps env)).any (·.1) = false
  | [], [], _ => rfl
  | [], _ :: _, h => by simp [mEs] at h
  | _ :: _, [], h => by simp [mEs] at h
  | e :: es, p :: ps, h => by
    simp only [mEs, Bool.and_eq_true] at h
    rw [star_cons (mE_ns h.1)]
    have ih := mEs_star (env := env) (pos := pos) h.2
    unfold backTo at ih ⊢
    simp only [List.map_cons, List.any_cons, ih, Bool.or_false]
theorem mEs_all {Γ : Gm} {env : PySem.Env} {pos : Pos} {es : List E} {ps : List Expr} (h : mEs Γ es ps = true) : (backTo pos (starEach ps env)).all (fun x => !x.1) = true := by
  have := mEs_star (env := env) (pos := pos) h
  rw [List.any_eq_false] at this
  rw [List.all_eq_true]
  intro x hx
  have := this x hx
  simpa using this
end MP
/-! MP6: terms: soundness. -/
namespace MP
open PySem L2 PyProof.Rows
variable [Glob]

/-- a def's promise: what its mirror tells -/
def spF (n : Nat) (m : List Dt → Sta → Res Dt) : Sp := fun vs H Q E => vs.length = n ∧ ∃ W ds s, COk W H s ∧ Reps W H vs ds ∧
  match m ds s with
  | .ok d s' => ∀ v W' H', Ext W H W' H' → COk W' H' s' → Rep W' H' v d → Q v H'
  | .exc x s' => ∀ cls dx W' H', Ext W H W' H' → COk W' H' s' → XRep W' H' x cls dx → E cls dx H'
  | .stuck => False
def bltNames : List Str := ["len", "tuple", "list", "sum", "max", "min", "int", "str", "all", "sorted", "isinstance", "bool", "range", "enumerate", "zip", "set"]
/-- an own class of errors, its number c: ValueError's heir, no __init__ of its own -/
structure ExcAt (mg : Str → Option Value) (x : Str) (c : Nat) : Prop where
  g : mg x = some (.ref (Glob.xc c))
  kp : PySem.W.keepIn Glob.K (.ref (Glob.xc c)) = true
  q : PySem.W.excIn Glob.K (Glob.xc c) [.type "ValueError", .type "Exception", .type "BaseException", .type "object"] "ValueError.__new__" = true
  sub : PySem.W.subIn Glob.K (.ref (Glob.xc c)) (.type "BaseException") = some true
  ty : PySem.W.typeIn Glob.K (.ref (Glob.xc c)) = some (.type "type")
  xm : ∀ d ∈ Glob.hd, PySem.W.exmOne Glob.K (.ref (Glob.xc c)) (.ref (Glob.xc d)) = some (c == d || d == 0)
  mem : c ∈ Glob.hd
  lt : c < 9
structure CO (X : Cx) (Γ : Gm) (F : FT) (XW : WX) : Prop where
  N : X.N = Γ.N
  nd : X.N.Nodup
  sc : X.env.scope = Γ.sc
  calm : X.calm = true
  hu : X.A.units + 80 < cLine
  tk : Takes X XW
  xn : ∀ x c, Γ.fs.lookup x = some (1000 + c) → ExcAt X.mg x c
  fn : ∀ x g, Γ.fs.lookup x = some g → g < 1000 → ∃ k f fd ps, FnOk X.prog X.w X.K X.mg X.base (L2.CX X.prog X.w) k f fd ps (spF ps.length (F g)) ∧ Room k X.A ∧ X.mg x = some (.ref f) ∧ PySem.W.keepIn X.K (.ref f) = true ∧ Binds X.K fd ps [] ∧ ∀ ds s, ds.length ≠ ps.length → F g ds s = .stuck
  K : X.K = Glob.K
  bl : ∀ x ∈ bltNames, X.mg x = none
theorem takes_false (X : Cx) : Takes X (fun _ _ _ _ => False) := fun u s' ⟨_, _, _, _, _, _, _, _, _, _, _, _, _, _, _, _, w⟩ => w.elim
theorem CO.blk {X : Cx} {Γ : Gm} {F : FT} {XW : WX} (h : CO X Γ F XW) (s : Shared) (H : Hp) (scope : Scope) (C : Addr) (cl : List (Str × Addr)) (fp : List Addr) :
    CO (X.blk s H scope (compEnvC scope cl C X.env) fp) (Γ.blk scope) F (fun _ _ _ _ => False) :=
  ⟨h.N, h.nd, show relS scope X.env.scope = relS scope Γ.sc by rw [h.sc], h.calm, h.hu, takes_false _, h.xn, h.fn, h.K, h.bl⟩
section
variable {X : Cx} {Γ : Gm} {F : FT} {XW : WX}
theorem CO.gl (h : CO X Γ F XW) {x : Str} (g : Γ.glo x = true) : Gl X x := by
  unfold Gm.glo at g
  show X.env.scope.names.lookup x = some .globalImplicit
  rw [h.sc]
  split at g
  · assumption
  · cases g
theorem CO.vs (h : CO X Γ F XW) {x : Str} (g : Γ.vis x = true) : Vis X.env.scope x := by
  unfold Gm.vis at g
  unfold Vis
  rw [h.sc]
  split at g
  · exact .inl (by assumption)
  · exact .inr (.inl (by assumption))
  · exact .inr (.inr (by assumption))
  · cases g
theorem CO.lc (h : CO X Γ F XW) {x : Str} (g : Γ.loc x = true) : L2.Loc X.env.scope x := by
  unfold Gm.loc at g
  unfold L2.Loc
  rw [h.sc]
  split at g
  · exact .inl (by assumption)
  · exact .inr (by assumption)
  · cases g

/-! ### one lemma a form -/
theorem s_var (h : CO X Γ F XW) {i : Nat} {x : Str} {pos : Pos} (h1 : Γ.N[i]? = some x) (h2 : Γ.vis x = true) (h3 : (x == ("__debug__" : Str)) = false) (h4 : (x == ("__classdict__" : Str)) = false) : PE X (.Name x pos) (tE F XW (.var i)) := by
  refine PE.imp (pe_var (by rw [h.N]; exact h1) (h.vs h2) h3 h4) fun σ H Q ⟨W, ρ, s, ok, post⟩ => ?_
  rw [evE] at post
  cases e : ρ[i]? with
  | none => simp only [e] at post; exact post.elim
  | some o =>
    cases o with
    | none => simp only [e] at post; exact post.elim
    | some d =>
      simp only [e] at post
      obtain ⟨v, e1, r⟩ := ok.e.2 i d e
      exact ⟨v, e1, post v W H (Ext.refl _ _) ok r⟩
theorem s_cst {e : E} {pe : Expr} {v : V} {d : Dt} (hp : PE X pe (tC v)) (he : ∀ ρ s, evE F ρ e s = .ok d s) (hr : ∀ W H, Rep W H v d) : PE X pe (tE F XW e) := by
  refine PE.imp hp fun σ H Q ⟨W, ρ, s, ok, post⟩ => ?_
  rw [he] at post
  exact post v W H (Ext.refl _ _) ok (hr W H)
theorem s_neg {i : Int} {k pos pos'} : PE X (.UnaryOp .USub (.Constant (.int i) k pos) pos') (tE F XW (.neg i)) := by
  refine PE.imp (pe_un un_neg pe_int) fun σ H Q ⟨W, ρ, s, ok, post⟩ => ?_
  rw [evE] at post
  exact ⟨i, rfl, post _ W H (Ext.refl _ _) ok (.int _)⟩
theorem s_nil : PA X [] (tEs F XW []) := by
  refine PA.imp pa_nil fun σ H Q ⟨W, ρ, s, ok, post⟩ => ?_
  rw [evEs] at post
  exact post [] W H (Ext.refl _ _) ok .nil
theorem s_cons {e : E} {es : List E} {p : Expr} {ps : List Expr} (hn : notStar p = true) (h1 : PE X p (tE F XW e)) (h2 : PA X ps (tEs F XW es)) : PA X (p :: ps) (tEs F XW (e :: es)) := by
  refine PA.imp (pa_cons h1 h2 (star_cons hn)) fun σ H Q ⟨W, ρ, s, ok, post⟩ => ?_
  rw [evEs] at post
  refine ⟨W, ρ, s, ok, (post.bind (rel := Rep)).imp fun x1 s1 v1 W1 H1 e1 ok1 r1 k1 => ?_⟩
  refine ⟨W1, ρ, s1, ok1, (k1.bind (rel := Reps)).imp fun x2 s2 v2 W2 H2 e2 ok2 r2 k2 => ?_⟩
  exact k2 _ W2 H2 (Ext.refl _ _) ok2 (.cons (r1.ext e2.toExt0) r2)
/-- the end of a step that asks nothing of the state -/
theorem of_some {s : Sta} {o : Option Dt} {W : Wd} {H : Hp} {ρ : Env} {σ : L2.St} {KQ : Dt → Sta → V → Wd → Hp → Prop} (h : PostR Rep (Res.of s o) W H ρ σ KQ XW) : ∃ d, o = some d ∧ ∀ v W' H', Ext W H W' H' → Ok W' H' ρ σ s → Rep W' H' v d → KQ d s v W' H' := by
  cases o with
  | none => exact h.elim
  | some d => exact ⟨d, rfl, h⟩
theorem fin_ok {W W' : Wd} {H H' : Hp} {ρ : Env} {σ : L2.St} {s : Sta} (ok : Ok W H ρ σ s) (x : Ext W H W' H') {s' : Sta} (c : COk W' H' s') : Ok W' H' ρ σ s' := ⟨c, ok.e.ext x.toExt0⟩
theorem s_tup {es : List E} {ps : List Expr} {k : Nat} {pos : Pos} (h : PA X ps (tEs F XW es)) : PE X (.Tuple ps k pos) (tE F XW (.tup es)) := by
  refine PE.imp (pe_tupF h) fun σ H Q ⟨W, ρ, s, ok, post⟩ => ?_
  rw [evE] at post
  refine ⟨W, ρ, s, ok, (post.bind (rel := Reps)).imp fun x1 s1 v1 W1 H1 e1 ok1 r1 k1 => ?_⟩
  split at k1
  · rename_i hl
    refine ⟨by rw [r1.length, ← line_eq]; exact hl, fun p o n hd => ?_⟩
    obtain ⟨x, c, r⟩ := new_tup ok1.c n hd r1
    exact k1 _ W1 _ x (fin_ok ok1 x c) r
  · exact k1.elim
theorem s_lst {es : List E} {ps : List Expr} {pos : Pos} (h : PA X ps (tEs F XW es)) : PE X (.List ps pos) (tE F XW (.lst es)) := by
  refine PE.imp (pe_lst h) fun σ H Q ⟨W, ρ, s, ok, post⟩ => ?_
  rw [evE] at post
  refine ⟨W, ρ, s, ok, (post.bind (rel := Reps)).imp fun x1 s1 v1 W1 H1 e1 ok1 r1 k1 => ?_⟩
  split at k1
  · rename_i hl
    refine ⟨by rw [r1.length, ← line_eq]; exact hl, fun p n => ?_⟩
    obtain ⟨x, c, r⟩ := new_lst ok1.c n r1
    exact k1 _ W1 _ x (fin_ok ok1 x c) r
  · exact k1.elim
theorem s_mlst {es : List E} {ps : List Expr} {pos : Pos} (h : PA X ps (tEs F XW es)) : PE X (.List ps pos) (tE F XW (.mlst es)) := by
  refine PE.imp (pe_lst h) fun σ H Q ⟨W, ρ, s, ok, post⟩ => ?_
  rw [evE] at post
  refine ⟨W, ρ, s, ok, (post.bind (rel := Reps)).imp fun x1 s1 v1 W1 H1 e1 ok1 r1 k1 => ?_⟩
  split at k1
  · rename_i hl
    rw [Bool.and_eq_true, decide_eq_true_eq] at hl
    refine ⟨by rw [r1.length, ← line_eq]; exact hl.1, fun p n => ?_⟩
    obtain ⟨c, x⟩ := ok1.c.newLst n r1 hl.2
    exact k1 _ _ _ x (fin_ok ok1 x c) (.ref (p := (p, [])) (by show (W1.la ++ [(p, [])])[s1.length]? = _; rw [← ok1.c.len, List.getElem?_append_right (Nat.le_refl _)]; simp))
  · exact k1.elim
theorem s_mrep {es : List E} {k : E} {ps : List Expr} {q : Expr} {pos pos' : Pos} (h : PA X ps (tEs F XW es)) (h2 : PE X q (tE F XW k)) : PE X (.BinOp (.List ps pos) .Mult q pos') (tE F XW (.mrep es k)) := by
  refine PE.imp (pe_op op_rep (pe_lst h) h2) fun σ H Q ⟨W, ρ, s, ok, post⟩ => ?_
  rw [evE] at post
  refine ⟨W, ρ, s, ok, (post.bind (rel := Reps)).imp fun x1 s1 v1 W1 H1 e1 ok1 r1 k1 => ?_⟩
  split at k1
  · rename_i hl
    refine ⟨by rw [r1.length, sizeLine_eq]; omega, fun p n => ?_⟩
    obtain ⟨xx, cc, rr⟩ := new_lst ok1.c n r1
    have okk := fin_ok ok1 xx cc
    refine ⟨W1, ρ, s1, okk, ((PostR.ext k1 xx).bind (rel := Rep)).imp fun x2 s2 v2 W2 H2 e2 ok2 r2 k2 => ?_⟩
    cases x2 with
    | int k =>
      simp only at k2
      split at k2
      · rename_i hk
        simp only [Bool.and_eq_true, decide_eq_true_eq] at hk
        obtain ⟨a, xs', ea, ha, na, ra⟩ := (rr.ext e2.toExt0).lst_inv
        cases ea
        have h2 := r2.int_inv
        subst h2
        have zr := Reps.rep ra k.toNat
        refine ⟨p, k, xs', rfl, rfl, ha, by omega, by omega, ?_, fun p' n' => ?_⟩
        · rw [ra.length, sizeLine_eq]
          exact Nat.le_trans (Nat.mul_le_mul hl (show k.toNat ≤ 1000 by omega)) (by decide)
        · obtain ⟨c, x⟩ := ok2.c.newLst n' zr hk.2
          exact k2 _ _ _ x (fin_ok ok2 x c) (.ref (p := (p', [])) (by show (W2.la ++ [(p', [])])[s2.length]? = _; rw [← ok2.c.len, List.getElem?_append_right (Nat.le_refl _)]; simp))
      · exact k2.elim
    | _ => exact k2.elim
  · exact k1.elim
theorem s_bin {op : BOp} {a b : E} {p q : Expr} {pos : Pos} (ha : PE X p (tE F XW a)) (hb : PE X q (tE F XW b)) : PE X (.BinOp p op.py q pos) (tE F XW (.bin op a b)) := by
  refine PE.imp (pe_op (op_bin op) ha hb) fun σ H Q ⟨W, ρ, s, ok, post⟩ => ?_
  rw [evE] at post
  refine ⟨W, ρ, s, ok, (post.bind (rel := Rep)).imp fun x1 s1 v1 W1 H1 e1 ok1 r1 k1 => ?_⟩
  refine ⟨W1, ρ, s1, ok1, (k1.bind (rel := Rep)).imp fun x2 s2 v2 W2 H2 e2 ok2 r2 k2 => ?_⟩
  obtain ⟨d, ed, k3⟩ := of_some k2
  exact ⟨W2, s2, _, _, d, ok2.c, red_deref ok2.c (r1.ext e2.toExt0), red_deref ok2.c r2, ed, fun v H' x c r => k3 v W2 H' x (fin_ok ok2 x c) r⟩
theorem i_cmp {op : COp} {a b : E} : ∀ σ H Q, tE F XW (.cmp op a b) σ H Q → tOp (RC op) (tE F XW a) (tE F XW b) σ H Q := fun σ H Q ⟨W, ρ, s, ok, post⟩ => by
  rw [evE] at post
  refine ⟨W, ρ, s, ok, (post.bind (rel := Rep)).imp fun x1 s1 v1 W1 H1 e1 ok1 r1 k1 => ?_⟩
  refine ⟨W1, ρ, s1, ok1, (k1.bind (rel := Rep)).imp fun x2 s2 v2 W2 H2 e2 ok2 r2 k2 => ?_⟩
  obtain ⟨d, ed, k3⟩ := of_some k2
  rw [Option.map_eq_some_iff] at ed
  obtain ⟨c, ec, rfl⟩ := ed
  exact ⟨W2, s2, _, _, c, ok2.c, red_deref ok2.c (r1.ext e2.toExt0), red_deref ok2.c r2, ec, k3 _ W2 H2 (Ext.refl _ _) ok2 (.bl _)⟩
theorem s_cmp (h : CO X Γ F XW) {op : COp} {a b : E} {p q : Expr} {pos : Pos} (ha : PE X p (tE F XW a)) (hb : PE X q (tE F XW b)) (hm : behindInMarks op.py q = false) : PE X (.Compare p [op.py] [q] pos) (tE F XW (.cmp op a b)) := by
  exact PE.imp (pe_cmpR (op_cmp' (by have := h.hu; omega) op) ha hb hm) i_cmp
theorem i_cmp2 {op op' : COp} {a b c : E} : ∀ σ H Q, tE F XW (.cmp2 op op' a b c) σ H Q → tChain (RC op) (RC op') (tE F XW a) (tE F XW b) (tE F XW c) σ H Q := fun σ H Q ⟨W, ρ, s, ok, post⟩ => by
  rw [evE] at post
  refine ⟨W, ρ, s, ok, (post.bind (rel := Rep)).imp fun x1 s1 v1 W1 H1 e1 ok1 r1 k1 => ?_⟩
  refine ⟨W1, ρ, s1, ok1, (k1.bind (rel := Rep)).imp fun x2 s2 v2 W2 H2 e2 ok2 r2 k2 => ?_⟩
  cases ec : evCmp op (deref s2 x1) (deref s2 x2) with
  | none => simp only [ec] at k2; exact k2.elim
  | some b =>
    refine ⟨W2, s2, _, _, b, ok2.c, red_deref ok2.c (r1.ext e2.toExt0), red_deref ok2.c r2, ec, b, rfl, ?_⟩
    cases b with
    | false => simp only [ec] at k2; exact k2 _ W2 H2 (Ext.refl _ _) ok2 (.bl _)
    | true =>
      simp only [ec] at k2
      rw [if_pos rfl]
      refine ⟨W2, ρ, s2, ok2, (k2.bind (rel := Rep)).imp fun x3 s3 v3 W3 H3 e3 ok3 r3 k3 => ?_⟩
      obtain ⟨d, ed, k4⟩ := of_some k3
      rw [Option.map_eq_some_iff] at ed
      obtain ⟨c, ec, rfl⟩ := ed
      exact ⟨W3, s3, _, _, c, ok3.c, red_deref ok3.c (r2.ext e3.toExt0), red_deref ok3.c r3, ec, k4 _ W3 H3 (Ext.refl _ _) ok3 (.bl _)⟩
theorem s_cmp2 (h : CO X Γ F XW) {op op' : COp} {a b c : E} {p q r : Expr} {pos : Pos} (ha : PE X p (tE F XW a)) (hb : PE X q (tE F XW b)) (hc : PE X r (tE F XW c)) (hm : lastMarks [op.py, op'.py] [q, r] = false) :
    PE X (.Compare p [op.py, op'.py] [q, r] pos) (tE F XW (.cmp2 op op' a b c)) := by
  exact PE.imp (pe_chain (op_cmp' (by have := h.hu; omega) op) (op_cmp' (by have := h.hu; omega) op') ha hb hc hm) i_cmp2
theorem i_isNon {a : E} : ∀ σ H Q, tE F XW (.isNon a) σ H Q → tIsN (tE F XW a) σ H Q := fun σ H Q ⟨W, ρ, s, ok, post⟩ => by
  rw [evE] at post
  refine ⟨W, ρ, s, ok, (post.bind (rel := Rep)).imp fun x1 s1 v1 W1 H1 e1 ok1 r1 k1 => ?_⟩
  show Q (.bl (decide (v1 = .non))) H1
  rw [rep_non r1]
  exact k1 _ W1 H1 (Ext.refl _ _) ok1 (.bl _)
theorem s_isNon {a : E} {p : Expr} {j pos pos'} (ha : PE X p (tE F XW a)) : PE X (.Compare p [.Is] [.Constant .none j pos'] pos) (tE F XW (.isNon a)) := by
  exact PE.imp (pe_cmp (pc_isN ha)) i_isNon
theorem i_notNon {a : E} : ∀ σ H Q, tE F XW (.notNon a) σ H Q → tNotN (tE F XW a) σ H Q := fun σ H Q ⟨W, ρ, s, ok, post⟩ => by
  rw [evE] at post
  refine ⟨W, ρ, s, ok, (post.bind (rel := Rep)).imp fun x1 s1 v1 W1 H1 e1 ok1 r1 k1 => ?_⟩
  show Q (.bl (!decide (v1 = .non))) H1
  rw [rep_non r1]
  exact k1 _ W1 H1 (Ext.refl _ _) ok1 (.bl _)
theorem s_notNon {a : E} {p : Expr} {j pos pos'} (ha : PE X p (tE F XW a)) : PE X (.Compare p [.IsNot] [.Constant .none j pos'] pos) (tE F XW (.notNon a)) := by
  exact PE.imp (pe_cmp (pc_notN ha)) i_notNon
theorem i_isBl {b : Bool} {a : E} : ∀ σ H Q, tE F XW (.isBl b a) σ H Q → tOp (fun x y H Q => y = V.bl b ∧ Q (.bl (decide (x = V.bl b))) H) (tE F XW a) (tC (.bl b)) σ H Q := fun σ H Q ⟨W, ρ, s, ok, post⟩ => by
  rw [evE] at post
  refine ⟨W, ρ, s, ok, (post.bind (rel := Rep)).imp fun x1 s1 v1 W1 H1 e1 ok1 r1 k1 => ⟨rfl, ?_⟩⟩
  rw [rep_bl r1]
  exact k1 _ W1 H1 (Ext.refl _ _) ok1 (.bl _)
theorem s_isBl {b : Bool} {a : E} {p : Expr} {j pos pos'} (ha : PE X p (tE F XW a)) : PE X (.Compare p [.Is] [.Constant (.bool b) j pos'] pos) (tE F XW (.isBl b a)) := by
  exact PE.imp (pe_cmpR (op_isB b) ha pe_bl (nomark _)) i_isBl
theorem i_notBl {b : Bool} {a : E} : ∀ σ H Q, tE F XW (.notBl b a) σ H Q → tOp (fun x y H Q => y = V.bl b ∧ Q (.bl (!decide (x = V.bl b))) H) (tE F XW a) (tC (.bl b)) σ H Q := fun σ H Q ⟨W, ρ, s, ok, post⟩ => by
  rw [evE] at post
  refine ⟨W, ρ, s, ok, (post.bind (rel := Rep)).imp fun x1 s1 v1 W1 H1 e1 ok1 r1 k1 => ⟨rfl, ?_⟩⟩
  rw [rep_bl r1]
  exact k1 _ W1 H1 (Ext.refl _ _) ok1 (.bl _)
theorem s_notBl {b : Bool} {a : E} {p : Expr} {j pos pos'} (ha : PE X p (tE F XW a)) : PE X (.Compare p [.IsNot] [.Constant (.bool b) j pos'] pos) (tE F XW (.notBl b a)) := by
  exact PE.imp (pe_cmpR (op_notB b) ha pe_bl (nomark _)) i_notBl
theorem s_and (hK : X.K = Glob.K) {a b : E} {p q : Expr} {r : List Expr} {pos : Pos} (ha : PE X p (tE F XW a)) (hb : PE X (.BoolOp .And (q :: r) pos) (tE F XW b)) : PE X (.BoolOp .And (p :: q :: r) pos) (tE F XW (.and a b)) := by
  refine PE.imp (pe_andT ha hb) fun σ H Q ⟨W, ρ, s, ok, post⟩ => ?_
  rw [evE] at post
  refine ⟨W, ρ, s, ok, (post.bind (rel := Rep)).imp fun x1 s1 v1 W1 H1 e1 ok1 r1 k1 => ?_⟩
  cases et : evTru (deref s1 x1) with
  | none => simp only [et] at k1; exact k1.elim
  | some b =>
    refine ⟨b, tru_of hK (red_deref ok1.c r1) et, ?_⟩
    cases b with
    | true => simp only [et] at k1; rw [if_pos rfl]; exact ⟨W1, ρ, s1, ok1, k1⟩
    | false => simp only [et] at k1; rw [if_neg Bool.false_ne_true]; exact k1 _ W1 H1 (Ext.refl _ _) ok1 r1
theorem s_or (hK : X.K = Glob.K) {a b : E} {p q : Expr} {r : List Expr} {pos : Pos} (ha : PE X p (tE F XW a)) (hb : PE X (.BoolOp .Or (q :: r) pos) (tE F XW b)) : PE X (.BoolOp .Or (p :: q :: r) pos) (tE F XW (.or a b)) := by
  refine PE.imp (pe_orT ha hb) fun σ H Q ⟨W, ρ, s, ok, post⟩ => ?_
  rw [evE] at post
  refine ⟨W, ρ, s, ok, (post.bind (rel := Rep)).imp fun x1 s1 v1 W1 H1 e1 ok1 r1 k1 => ?_⟩
  cases et : evTru (deref s1 x1) with
  | none => simp only [et] at k1; exact k1.elim
  | some b =>
    refine ⟨b, tru_of hK (red_deref ok1.c r1) et, ?_⟩
    cases b with
    | true => simp only [et] at k1; rw [if_pos rfl]; exact k1 _ W1 H1 (Ext.refl _ _) ok1 r1
    | false => simp only [et] at k1; rw [if_neg Bool.false_ne_true]; exact ⟨W1, ρ, s1, ok1, k1⟩
theorem s_not (hK : X.K = Glob.K) {a : E} {p : Expr} {pos : Pos} (ha : PE X p (tE F XW a)) : PE X (.UnaryOp .Not p pos) (tE F XW (.not a)) := by
  refine PE.imp (pe_notT ha) fun σ H Q ⟨W, ρ, s, ok, post⟩ => ?_
  rw [evE] at post
  refine ⟨W, ρ, s, ok, (post.bind (rel := Rep)).imp fun x1 s1 v1 W1 H1 e1 ok1 r1 k1 => ?_⟩
  obtain ⟨d, ed, k3⟩ := of_some k1
  rw [Option.map_eq_some_iff] at ed
  obtain ⟨b, et, rfl⟩ := ed
  exact ⟨b, tru_of hK (red_deref ok1.c r1) et, k3 _ W1 H1 (Ext.refl _ _) ok1 (.bl _)⟩
theorem s_ite {c a b : E} {r p q : Expr} {pos : Pos} (hc : PT X r (tT F XW c)) (ha : PE X p (tE F XW a)) (hb : PE X q (tE F XW b)) : PE X (.IfExp r p q pos) (tE F XW (.ite c a b)) := by
  refine PE.imp (pe_ifExp hc ha hb) fun σ H Q ⟨W, ρ, s, ok, post⟩ => ?_
  rw [evE] at post
  refine ⟨W, ρ, s, ok, ?_⟩
  cases R : evE F ρ c s with
  | stuck => rw [R] at post; exact post.elim
  | exc x s1 => rw [R] at post; exact post
  | ok x1 s1 =>
    rw [R] at post
    cases et : evTru (deref s1 x1) with
    | none => simp only [Res.bind, et] at post; exact post.elim
    | some b =>
      show PostR _ (Res.of s1 (evTru (deref s1 x1))) _ _ _ _ _ _
      rw [et]
      intro b' W1 H1 e1 ok1 eb
      subst eb
      cases b' with
      | true => simp only [Res.bind, et] at post; rw [if_pos rfl]; exact ⟨W1, ρ, s1, ok1, PostR.ext post e1⟩
      | false => simp only [Res.bind, et] at post; rw [if_neg Bool.false_ne_true]; exact ⟨W1, ρ, s1, ok1, PostR.ext post e1⟩
theorem s_ix (hK : X.K = Glob.K) {a i : E} {p q : Expr} {pos : Pos} (ha : PE X p (tE F XW a)) (hi : PE X q (tE F XW i)) (hs : PlainIx q) : PE X (.Subscript p q pos) (tE F XW (.ix a i)) := by
  refine PE.imp (pe_ix (ix_ok hK) ha hi hs) fun σ H Q ⟨W, ρ, s, ok, post⟩ => ?_
  rw [evE] at post
  refine ⟨W, ρ, s, ok, (post.bind (rel := Rep)).imp fun x1 s1 v1 W1 H1 e1 ok1 r1 k1 => ?_⟩
  refine ⟨W1, ρ, s1, ok1, (k1.bind (rel := Rep)).imp fun x2 s2 v2 W2 H2 e2 ok2 r2 k2 => ?_⟩
  obtain ⟨d, ed, k3⟩ := of_some k2
  exact ⟨W2, s2, _, _, d, ok2.c, red_deref ok2.c (r1.ext e2.toExt0), .inl r2, ed, fun v r => k3 v W2 H2 (Ext.refl _ _) ok2 r⟩
theorem s_slHi {a i : E} {p q : Expr} {p2 pos : Pos} (ha : PE X p (tE F XW a)) (hi : PE X q (tE F XW i)) : PE X (.Subscript p (.Slice none (some q) none p2) pos) (tE F XW (.slHi a i)) := by
  refine PE.imp (pe_slice sl_ok ha po_none (po_some hi)) fun σ H Q ⟨W, ρ, s, ok, post⟩ => ?_
  rw [evE] at post
  refine ⟨W, ρ, s, ok, (post.bind (rel := Rep)).imp fun x1 s1 v1 W1 H1 e1 ok1 r1 k1 => ?_⟩
  refine ⟨W1, ρ, s1, ok1, (k1.bind (rel := Rep)).imp fun x2 s2 v2 W2 H2 e2 ok2 r2 k2 => ?_⟩
  cases x2 with
  | int j =>
    obtain ⟨d, ed, k3⟩ := of_some k2
    exact ⟨j, r2.int_inv, W2, s2, _, d, ok2.c, red_deref ok2.c (r1.ext e2.toExt0), ed, fun v H' x c r => k3 v W2 H' x (fin_ok ok2 x c) r⟩
  | _ => exact k2.elim
theorem s_slLo {a i : E} {p q : Expr} {p2 pos : Pos} (ha : PE X p (tE F XW a)) (hi : PE X q (tE F XW i)) : PE X (.Subscript p (.Slice (some q) none none p2) pos) (tE F XW (.slLo a i)) := by
  refine PE.imp (pe_slice sl_ok ha (po_some hi) po_none) fun σ H Q ⟨W, ρ, s, ok, post⟩ => ?_
  rw [evE] at post
  refine ⟨W, ρ, s, ok, (post.bind (rel := Rep)).imp fun x1 s1 v1 W1 H1 e1 ok1 r1 k1 => ?_⟩
  refine ⟨W1, ρ, s1, ok1, (k1.bind (rel := Rep)).imp fun x2 s2 v2 W2 H2 e2 ok2 r2 k2 => ?_⟩
  cases x2 with
  | int j =>
    obtain ⟨d, ed, k3⟩ := of_some k2
    exact ⟨j, r2.int_inv, W2, s2, _, d, ok2.c, red_deref ok2.c (r1.ext e2.toExt0), ed, fun v H' x c r => k3 v W2 H' x (fin_ok ok2 x c) r⟩
  | _ => exact k2.elim
theorem s_slLH {a i j : E} {p q r : Expr} {p2 pos : Pos} (ha : PE X p (tE F XW a)) (hi : PE X q (tE F XW i)) (hj : PE X r (tE F XW j)) : PE X (.Subscript p (.Slice (some q) (some r) none p2) pos) (tE F XW (.slLH a i j)) := by
  refine PE.imp (pe_slice sl_ok ha (po_some hi) (po_some hj)) fun σ H Q ⟨W, ρ, s, ok, post⟩ => ?_
  rw [evE] at post
  refine ⟨W, ρ, s, ok, (post.bind (rel := Rep)).imp fun x1 s1 v1 W1 H1 e1 ok1 r1 k1 => ?_⟩
  refine ⟨W1, ρ, s1, ok1, (k1.bind (rel := Rep)).imp fun x2 s2 v2 W2 H2 e2 ok2 r2 k2 => ?_⟩
  cases x2 with
  | int j2 =>
    refine ⟨j2, r2.int_inv, W2, ρ, s2, ok2, (k2.bind (rel := Rep)).imp fun x3 s3 v3 W3 H3 e3 ok3 r3 k3 => ?_⟩
    cases x3 with
    | int j3 =>
      obtain ⟨d, ed, k4⟩ := of_some k3
      exact ⟨j3, r3.int_inv, W3, s3, _, d, ok3.c, red_deref ok3.c (r1.ext (e2.trans e3).toExt0), ed, fun v H' x c r => k4 v W3 H' x (fin_ok ok3 x c) r⟩
    | _ => exact k3.elim
  | _ => exact k2.elim
end
end MP
/-! MP7: calls, methods, iterables, comprehensions: soundness; all terms. -/
namespace MP
open PySem L2 PyProof.Rows
variable [Glob]
section
variable {X : Cx} {Γ : Gm} {F : FT} {XW : WX}
theorem s_call (h : CO X Γ F XW) {f : Nat} {e : E} {es : List E} {p : Expr} {ps : List Expr} {x : Str} {pos pos' : Pos} (hf : Γ.fs.lookup x = some f) (hlt : f < 1000) (hg : Γ.glo x = true) (hd : (x == ("__debug__" : Str)) = false)
    (hn : notStar p = true) (hpl : (backTo pos' (starEach ps X.env)).any (·.1) = false) (ha : PA X (p :: ps) (tEs F XW (e :: es))) : PE X (.Call (.Name x pos) (p :: ps) [] pos') (tE F XW (.call f (e :: es))) := by
  obtain ⟨k, a, fd, prs, hF, hr, hm, hk, hb, har⟩ := h.fn x f hf hlt
  refine PE.imp (pe_callS (E := WE XW) hF hr (h.gl hg) hm hk hb (fun σ => passAt h.tk σ) ha hd (star_cons hn) hpl) fun σ H Q ⟨W, ρ, s, ok, post⟩ => ?_
  rw [evE] at post
  refine ⟨W, ρ, s, ok, (post.bind (rel := Reps)).imp fun x1 s1 v1 W1 H1 e1 ok1 r1 k1 => ?_⟩
  by_cases hlen : v1.length = prs.length
  · refine ⟨hlen, W1, x1, s1, ok1.c, r1, ?_⟩
    cases R : F f x1 s1 with
    | ok d s' => rw [R] at k1; exact fun v W' H' x c r => k1 v W' H' x (fin_ok ok1 x c) r
    | exc y s' => rw [R] at k1; exact fun cls dx W' H' x c r => k1 cls dx W' H' x (fin_ok ok1 x c) r
    | stuck => rw [R] at k1; exact k1
  · rw [har x1 s1 (by rw [← r1.length]; exact hlen)] at k1
    exact k1.elim
theorem mgb (h : CO X Γ F XW) (b : Bl) : X.mg b.nm = none := h.bl _ (by cases b <;> decide +kernel)
theorem s_blt (h : CO X Γ F XW) {b : Bl} {e : E} {es : List E} {p : Expr} {ps : List Expr} {pos pos' : Pos} (hg : Γ.glo b.nm = true)
    (hn : notStar p = true) (hpl : (backTo pos' (starEach ps X.env)).any (·.1) = false) (ha : PA X (p :: ps) (tEs F XW (e :: es))) : PE X (.Call (.Name b.nm pos) (p :: ps) [] pos') (tE F XW (.blt b (e :: es))) := by
  have main : PE X (.Call (.Name b.nm pos) (p :: ps) [] pos') (tCB (RBl b) (tEs F XW (e :: es))) := by
    have hc := bl_ok (X := X) h.K h.calm (by have := h.hu; omega) b
    have hm := mgb h b
    have hgl := h.gl hg
    cases b with
    | len => exact pe_callB hc hgl hm (by decide +kernel) ha (by decide +kernel) (by decide +kernel) (star_cons hn) hpl
    | sum => exact pe_callB hc hgl hm (by decide +kernel) ha (by decide +kernel) (by decide +kernel) (star_cons hn) hpl
    | max1 => exact pe_callB hc hgl hm (by decide +kernel) ha (by decide +kernel) (by decide +kernel) (star_cons hn) hpl
    | min1 => exact pe_callB hc hgl hm (by decide +kernel) ha (by decide +kernel) (by decide +kernel) (star_cons hn) hpl
    | max2 => exact pe_callB hc hgl hm (by decide +kernel) ha (by decide +kernel) (by decide +kernel) (star_cons hn) hpl
    | min2 => exact pe_callB hc hgl hm (by decide +kernel) ha (by decide +kernel) (by decide +kernel) (star_cons hn) hpl
    | all => exact pe_callB hc hgl hm (by decide +kernel) ha (by decide +kernel) (by decide +kernel) (star_cons hn) hpl
    | sorted => exact pe_callB hc hgl hm (by decide +kernel) ha (by decide +kernel) (by decide +kernel) (star_cons hn) hpl
    | tupleOf => exact pe_callTy hc hgl hm (by decide +kernel) ha (by decide +kernel) (by decide +kernel) (star_cons hn) hpl
    | listOf => exact pe_callTy hc hgl hm (by decide +kernel) ha (by decide +kernel) (by decide +kernel) (star_cons hn) hpl
    | int1 => exact pe_callTy hc hgl hm (by decide +kernel) ha (by decide +kernel) (by decide +kernel) (star_cons hn) hpl
    | str1 => exact pe_callTy hc hgl hm (by decide +kernel) ha (by decide +kernel) (by decide +kernel) (star_cons hn) hpl
  refine PE.imp main fun σ H Q ⟨W, ρ, s, ok, post⟩ => ?_
  rw [evE] at post
  refine ⟨W, ρ, s, ok, (post.bind (rel := Reps)).imp fun x1 s1 v1 W1 H1 e1 ok1 r1 k1 => ?_⟩
  obtain ⟨d, ed, k3⟩ := of_some k1
  exact ⟨W1, s1, _, d, ok1.c, reds_deref ok1.c r1, ed, fun v H' x c r => k3 v W1 H' x (fin_ok ok1 x c) r⟩
theorem s_isi (h : CO X Γ F XW) {t : Ty} {a : E} {p : Expr} {pos pos' pos2 : Pos} (hg : Γ.glo "isinstance" = true) (hg2 : Γ.glo t.sn = true) (hn : notStar p = true) (ha : PE X p (tE F XW a)) :
    PE X (.Call (.Name "isinstance" pos) [p, .Name t.sn pos2] [] pos') (tE F XW (.isi t a)) := by
  have hm : X.mg "isinstance" = none := h.bl _ (by decide +kernel)
  have hm2 : X.mg t.sn = none := h.bl _ (by cases t <;> decide +kernel)
  have pt : PE X (.Name t.sn pos2) (tC (.ty t.nm)) := by
    cases t <;> exact pe_bltn (h.gl hg2) hm2 (by decide +kernel) (u := .type _) rfl (by decide +kernel) (by decide +kernel)
  refine PE.imp (pe_callB (call_isi_ok t) (h.gl hg) hm boot_isinstance (pa_cons ha (pa_cons pt pa_nil) (star_cons hn)) (by decide +kernel) (by decide +kernel) (star_cons hn) rfl) fun σ H Q ⟨W, ρ, s, ok, post⟩ => ?_
  rw [evE] at post
  refine ⟨W, ρ, s, ok, (post.bind (rel := Rep)).imp fun x1 s1 v1 W1 H1 e1 ok1 r1 k1 => ?_⟩
  obtain ⟨d, ed, k3⟩ := of_some k1
  rw [Option.map_eq_some_iff] at ed
  obtain ⟨b, et, rfl⟩ := ed
  exact ⟨W1, s1, v1, _, b, rfl, ok1.c, red_deref ok1.c r1, et, k3 _ W1 H1 (Ext.refl _ _) ok1 (.bl _)⟩
/-- a receiver that is no call of super -/
theorem base_of {Γ : Gm} {o : E} {p : Expr} {name : Str} {env : PySem.Env} (h : mE Γ o p = true) : attributeBase p name env (eval p env) = eval p env := by
  cases p <;> first | rfl | skip
  rename_i f as ks pos
  cases f <;> first | rfl | skip
  cases as <;> first | rfl | skip
  cases ks <;> first | rfl | skip
  exfalso
  cases o with
  | call f es => cases es with
    | nil => simp [mE] at h
    | cons e es => simp [mE, mEs] at h
  | blt f es => cases es with
    | nil => simp [mE] at h
    | cons e es => simp [mE, mEs] at h
  | _ => simp [mE] at h
theorem tyN_ext {T : String} {v : V} {W W' : Wd} {H H' : Hp} {d d2 : Dt} {ds : List Dt} {m : Mt} {s s' : Sta} (c : COk W H s) (c' : COk W' H' s') (x : Ext W H W' H') (r : Rep W H v d) (ty : tyN T v H) (hm : okMt m (deref s d) = true) (e2 : evMt m (deref s' d) ds = some d2) : tyN T v H' := by
  cases r with
  | non => exact ty
  | bl b => exact ty
  | int i => exact ty
  | str i => exact ty
  | tup e d n r =>
    rcases ty with ⟨_, xs, z⟩ | ⟨t, xs, o, z, zd⟩
    · rw [e] at z; cases z
    · exact .inr ⟨t, xs, o, (x.keep _ _ z n).1, zd⟩
  | lst e n r =>
    rcases ty with ⟨t, xs, z⟩ | ⟨t, xs, o, z, zd⟩
    · exact .inl ⟨t, xs, (x.keep _ _ z n).1⟩
    · rw [e] at z; cases z
  | scr e n =>
    rcases ty with ⟨_, xs, z⟩ | ⟨t, xs, o, z, zd⟩
    · rw [e] at z; cases z
    · rw [e] at z; cases z
  | scrK e => cases m <;> simp [okMt, deref] at hm
  | ref e =>
    rename_i k p
    have h1 := red_deref c (Rep.ref (W := W) (H := H) e)
    have h2 := red_deref c' ((Rep.ref (W := W) (H := H) e).ext x.toExt0)
    have z : ∀ t : Sta, (∃ es, deref t (.ref k) = .lst es) ∨ deref t (.ref k) = .ref k := fun t => by
      cases hk : t[k]? with
      | none => exact .inr (by simp only [deref, hk])
      | some c =>
        cases c with
        | lst es => exact .inl ⟨es, by simp only [deref, hk]⟩
        | tab t => exact .inr (by simp only [deref, hk])
    rcases z s with ⟨es, q1⟩ | q1
    · rw [q1] at h1
      obtain ⟨a, xs, ea, ha, _⟩ := h1.lst_inv
      cases ea
      rcases z s' with ⟨es', q2⟩ | q2
      · rw [q2] at h2
        obtain ⟨a, xs', ea, ha', _⟩ := h2.lst_inv
        cases ea
        rcases ty with ⟨t, _⟩ | ⟨t, ys, o, z, zd⟩
        · exact .inl ⟨t, xs', ha'⟩
        · rw [ha] at z; cases z
      · rw [q2] at e2
        cases m <;> simp [evMt] at e2
    · rw [q1] at hm
      cases m <;> simp [okMt] at hm
theorem s_mth (h : CO X Γ F XW) {m : Mt} {o e : E} {es : List E} {po p : Expr} {ps : List Expr} {apos cpos : Pos} (ho : mE Γ o po = true) (hl : (apos.endLine == cpos.line) = true) (hz : (p :: ps).length < 30)
    (hn : notStar p = true) (hpl : (backTo cpos (starEach ps X.env)).any (·.1) = false) (hal : (backTo cpos (starEach (p :: ps) X.env)).all (fun x => !x.1) = true)
    (h1 : PE X po (tE F XW o)) (ha : PA X (p :: ps) (tEs F XW (e :: es))) : PE X (.Call (.Attribute po m.nm apos) (p :: ps) [] cpos) (tE F XW (.mth m o (e :: es))) := by
  have hu : X.A.units + 64 < cLine := by have := h.hu; omega
  refine PE.imp (pe_mg h1 ha (base_of ho) (by rw [hal]; exact decide_eq_true (show (p :: ps).length + 0 + 0 < 30 from hz)) hl (star_cons hn) hpl) fun σ H Q ⟨W, ρ, s, ok, post⟩ => ?_
  rw [evE] at post
  refine ⟨W, ρ, s, ok, (post.bind (rel := Rep)).imp fun x1 s1 v1 W1 H1 e1 ok1 r1 k1 => ?_⟩
  split at k1
  · rename_i hm
    obtain ⟨T, id, pa, sl, ty, mr, tn⟩ := mt_of hu (red_deref ok1.c r1) hm
    refine ⟨T, id, RMt m T, pa, sl, ty, mr, tn, W1, ρ, s1, ok1, (k1.bind (rel := Reps)).imp fun x2 s2 v2 W2 H2 e2 ok2 r2 k2 => ?_⟩
    obtain ⟨d, ed, k3⟩ := of_some k2
    exact ⟨W2, s2, _, _, d, ok2.c, red_deref ok2.c (r1.ext e2.toExt0), reds_deref ok2.c r2, ed, tyN_ext ok1.c ok2.c e2 r1 tn hm ed, fun v H' x c r => k3 v W2 H' x (fin_ok ok2 x c) r⟩
  · exact k1.elim
theorem rg_ok {a b : Int} (h : okRng a b = true) : RgOk a b := by
  unfold okRng at h
  simp only [Bool.and_eq_true, decide_eq_true_eq] at h
  refine ⟨by omega, by omega, by omega, by omega, ?_⟩
  have := h.2
  unfold lineM at this
  omega
theorem rgd {W : Wd} {H : Hp} (a b : Int) : Reps W H (rgV a b) (rngD a b) := by
  have e1 : rgV a b = ((List.range (b - a).toNat).map fun i => a + ((i : Nat) : Int)).map V.int := by unfold rgV; rw [List.map_map]; rfl
  have e2 : rngD a b = ((List.range (b - a).toNat).map fun i => a + ((i : Nat) : Int)).map Dt.int := by unfold rngD; rw [List.map_map]; rfl
  rw [e1, e2]
  exact Reps.of_ints _
theorem s_lrng1 (h : CO X Γ F XW) {b : E} {q : Expr} {p1 p2 p3 p4 : Pos} (hg : Γ.glo "list" = true) (hg2 : Γ.glo "range" = true) (hn : notStar q = true) (hb : PE X q (tE F XW b)) :
    PE X (.Call (.Name "list" p1) [.Call (.Name "range" p2) [q] [] p3] [] p4) (tE F XW (.lrng1 b)) := by
  refine PE.imp (pe_listRg h.calm (h.gl hg) (h.bl _ (by decide +kernel)) (prg_1 (h.gl hg2) (h.bl _ (by decide +kernel)) hb (star_cons hn))) fun σ H Q ⟨W, ρ, s, ok, post⟩ => ?_
  rw [evE] at post
  refine ⟨W, ρ, s, ok, (post.bind (rel := Rep)).imp fun x1 s1 v1 W1 H1 e1 ok1 r1 k1 => ?_⟩
  cases x1 with
  | int j =>
    simp only at k1
    split at k1
    · rename_i hr
      refine ⟨j, r1.int_inv, rg_ok hr, fun p n => ?_⟩
      obtain ⟨x, c, r⟩ := new_lst ok1.c n (rgd 0 j)
      exact k1 _ W1 _ x (fin_ok ok1 x c) r
    · exact k1.elim
  | _ => exact k1.elim
theorem s_lrng (h : CO X Γ F XW) {a b : E} {p q : Expr} {p1 p2 p3 p4 : Pos} (hg : Γ.glo "list" = true) (hg2 : Γ.glo "range" = true) (hp : notStar p = true) (hn : notStar q = true) (ha : PE X p (tE F XW a)) (hb : PE X q (tE F XW b)) :
    PE X (.Call (.Name "list" p1) [.Call (.Name "range" p2) [p, q] [] p3] [] p4) (tE F XW (.lrng a b)) := by
  refine PE.imp (pe_listRg h.calm (h.gl hg) (h.bl _ (by decide +kernel)) (prg_2 (h.gl hg2) (h.bl _ (by decide +kernel)) ha hb (star_cons hp) (star_cons hn) (by rw [star_cons hn]; rfl))) fun σ H Q ⟨W, ρ, s, ok, post⟩ => ?_
  rw [evE] at post
  refine ⟨W, ρ, s, ok, (post.bind (rel := Rep)).imp fun x1 s1 v1 W1 H1 e1 ok1 r1 k1 => ?_⟩
  refine ⟨W1, ρ, s1, ok1, (k1.bind (rel := Rep)).imp fun x2 s2 v2 W2 H2 e2 ok2 r2 k2 => ?_⟩
  cases x1 with
  | int i =>
    cases x2 with
    | int j =>
      simp only at k2
      split at k2
      · rename_i hr
        refine ⟨i, j, r1.int_inv, r2.int_inv, rg_ok hr, fun p n => ?_⟩
        obtain ⟨x, c, r⟩ := new_lst ok2.c n (rgd i j)
        exact k2 _ W2 _ x (fin_ok ok2 x c) r
      · exact k2.elim
    | _ => exact k2.elim
  | _ => exact k2.elim
theorem s_trng (h : CO X Γ F XW) {a b : E} {p q : Expr} {p1 p2 p3 p4 : Pos} (hg : Γ.glo "tuple" = true) (hg2 : Γ.glo "range" = true) (hp : notStar p = true) (hn : notStar q = true) (ha : PE X p (tE F XW a)) (hb : PE X q (tE F XW b)) :
    PE X (.Call (.Name "tuple" p1) [.Call (.Name "range" p2) [p, q] [] p3] [] p4) (tE F XW (.trng a b)) := by
  refine PE.imp (pe_tupRgF h.calm (h.gl hg) (h.bl _ (by decide +kernel)) (prg_2 (h.gl hg2) (h.bl _ (by decide +kernel)) ha hb (star_cons hp) (star_cons hn) (by rw [star_cons hn]; rfl))) fun σ H Q ⟨W, ρ, s, ok, post⟩ => ?_
  rw [evE] at post
  refine ⟨W, ρ, s, ok, (post.bind (rel := Rep)).imp fun x1 s1 v1 W1 H1 e1 ok1 r1 k1 => ?_⟩
  refine ⟨W1, ρ, s1, ok1, (k1.bind (rel := Rep)).imp fun x2 s2 v2 W2 H2 e2 ok2 r2 k2 => ?_⟩
  cases x1 with
  | int i =>
    cases x2 with
    | int j =>
      simp only at k2
      split at k2
      · rename_i hr
        refine ⟨i, j, r1.int_inv, r2.int_inv, rg_ok hr, fun p o n hd => ?_⟩
        obtain ⟨x, c, r⟩ := new_tup ok2.c n hd (rgd i j)
        exact k2 _ W2 _ x (fin_ok ok2 x c) r
      · exact k2.elim
    | _ => exact k2.elim
  | _ => exact k2.elim

/-! ### cells that grow and shrink -/
theorem rowed {W : Wd} {H : Hp} {s : Sta} {v : V} {k : Nat} {ds : List Dt} (c : COk W H s) (r : Rep W H v (.ref k)) (e : s[k]? = some (.lst ds)) : ∃ p xs, W.la[k]? = some p ∧ v = .ref p.1 ∧ H p.1 = some (.lst xs) ∧ Reps W H xs ds := by
  cases r with
  | ref hp =>
    obtain ⟨⟨_, xs, h, rr⟩, _⟩ := c.cell k _ _ hp e
    exact ⟨_, xs, hp, rfl, h, rr⟩
theorem loAll_append : ∀ (n : Nat) (xs ys : List Dt), Dt.loAll n (xs ++ ys) = (Dt.loAll n xs && Dt.loAll n ys)
  | _, [], _ => by simp [Dt.loAll]
  | n, x :: xs, ys => by simp only [List.cons_append, Dt.loAll, loAll_append n xs ys, Bool.and_assoc]
theorem cell_lo {W : Wd} {H : Hp} {s : Sta} {k : Nat} {p : Addr × List Addr} {ds : List Dt} (c : COk W H s) (hp : W.la[k]? = some p) (e : s[k]? = some (.lst ds)) : Dt.loAll k ds = true := (c.cell k p _ hp e).2
theorem loAll_dropLast {n : Nat} : ∀ {xs : List Dt}, Dt.loAll n xs = true → Dt.loAll n xs.dropLast = true
  | [], _ => rfl
  | [_], _ => rfl
  | x :: y :: xs, h => by
    simp only [Dt.loAll, Bool.and_eq_true] at h
    show (Dt.lo n x && Dt.loAll n (y :: xs).dropLast) = true
    rw [Bool.and_eq_true]
    exact ⟨h.1, loAll_dropLast (by simp only [Dt.loAll, Bool.and_eq_true]; exact h.2)⟩
theorem isCell_inv {s : Sta} {o : Dt} (h : isCell s o = true) : ∃ k ds, o = .ref k ∧ s[k]? = some (.lst ds) := by
  unfold isCell at h
  split at h
  · split at h
    · exact ⟨_, _, rfl, by assumption⟩
    · cases h
  · cases h
theorem s_app {x e : E} {px p : Expr} {apos cpos : Pos} (hx : mE Γ x px = true) (hl : (apos.endLine == cpos.line) = true) (hn : notStar p = true) (h1 : PE X px (tE F XW x)) (h2 : PE X p (tE F XW e)) :
    PE X (.Call (.Attribute px "append" apos) [p] [] cpos) (tE F XW (.app x e)) := by
  refine PE.imp (pe_mg h1 (pa_cons h2 pa_nil (star_cons hn)) (base_of hx) (by rw [star_cons hn]; rfl) hl (star_cons hn) rfl) fun σ H Q ⟨W, ρ, s, ok, post⟩ => ?_
  rw [evE] at post
  refine ⟨W, ρ, s, ok, (post.bind (rel := Rep)).imp fun x1 s1 v1 W1 H1 e1 ok1 r1 k1 => ?_⟩
  split at k1
  · rename_i hc
    obtain ⟨k, ds, rfl, hs⟩ := isCell_inv hc
    obtain ⟨pa, xs, hp, rfl, ha, ra⟩ := rowed ok1.c r1 hs
    refine ⟨"list", _, rAppend, PySem.F.plainAttrs_list, PySem.F.slot_list_append, PySem.F.type_list_append, mt_append, .inl ⟨rfl, xs, ha⟩, W1, ρ, s1, ok1, (k1.bind (rel := Rep)).imp fun x2 s2 v2 W2 H2 e2 ok2 r2 k2 => ?_⟩
    have hp2 := prefix_get e2.la hp
    simp only at k2
    cases hs2 : s2[k]? with
    | none => simp only [hs2] at k2; exact k2.elim
    | some ce =>
      cases ce with
      | tab t => simp only [hs2] at k2; exact k2.elim
      | lst ds2 =>
        simp only [hs2] at k2
        split at k2
        · rename_i hz
          rw [Bool.and_eq_true, decide_eq_true_eq] at hz
          obtain ⟨⟨_, xs2, ha2, ra2⟩, _⟩ := ok2.c.cell k pa _ hp2 hs2
          obtain ⟨c, xx⟩ := ok2.c.setLst hp2 hs2 (ra2.append (.cons r2 .nil)) (by rw [loAll_append, cell_lo ok2.c hp2 hs2]; simp [Dt.loAll, hz.2])
          exact ⟨pa.1, xs2, v2, rfl, rfl, ha2, by rw [ra2.length, ← line_eq]; exact hz.1, k2 _ W2 _ xx (fin_ok ok2 xx c) .non⟩
        · exact k2.elim
  · exact k1.elim
def rExtA : V → List V → Hp → VK → Prop := fun x vs H Q => rExtend x vs H Q ∨ rExtT x vs H Q
theorem mt_extA : MtR X "list.extend" rExtA := by
  intro pins s σ H x xs v us Q I rx rxs h
  rcases h with h | h
  · exact mt_extend pins s σ H x xs v us Q I rx rxs h
  · exact mt_extT pins s σ H x xs v us Q I rx rxs h
theorem s_ext {x e : E} {px p : Expr} {apos cpos : Pos} (hx : mE Γ x px = true) (hl : (apos.endLine == cpos.line) = true) (hn : notStar p = true) (h1 : PE X px (tE F XW x)) (h2 : PE X p (tE F XW e)) :
    PE X (.Call (.Attribute px "extend" apos) [p] [] cpos) (tE F XW (.ext x e)) := by
  refine PE.imp (pe_mg h1 (pa_cons h2 pa_nil (star_cons hn)) (base_of hx) (by rw [star_cons hn]; rfl) hl (star_cons hn) rfl) fun σ H Q ⟨W, ρ, s, ok, post⟩ => ?_
  rw [evE] at post
  refine ⟨W, ρ, s, ok, (post.bind (rel := Rep)).imp fun x1 s1 v1 W1 H1 e1 ok1 r1 k1 => ?_⟩
  split at k1
  · rename_i hc
    obtain ⟨k, ds, rfl, hs⟩ := isCell_inv hc
    obtain ⟨pa, xs, hp, rfl, ha, ra⟩ := rowed ok1.c r1 hs
    refine ⟨"list", _, rExtA, PySem.F.plainAttrs_list, PySem.F.slot_list_extend, PySem.F.type_list_extend, mt_extA, .inl ⟨rfl, xs, ha⟩, W1, ρ, s1, ok1, (k1.bind (rel := Rep)).imp fun x2 s2 v2 W2 H2 e2 ok2 r2 k2 => ?_⟩
    have hp2 := prefix_get e2.la hp
    have hr := red_deref ok2.c r2
    cases hd : deref s2 x2 with
    | lst es =>
      simp only [hd] at k2
      rw [hd] at hr
      obtain ⟨b, zs, rfl, hb, rb⟩ := hr.lst_inv
      cases hs2 : s2[k]? with
      | none => simp only [hs2] at k2; exact k2.elim
      | some ce =>
        cases ce with
        | tab t => simp only [hs2] at k2; exact k2.elim
        | lst ds2 =>
          simp only [hs2] at k2
          split at k2
          · rename_i hz
            rw [Bool.and_eq_true, decide_eq_true_eq] at hz
            obtain ⟨⟨_, xs2, ha2, ra2⟩, _⟩ := ok2.c.cell k pa _ hp2 hs2
            obtain ⟨c, xx⟩ := ok2.c.setLst hp2 hs2 (ra2.append rb) (by rw [loAll_append, cell_lo ok2.c hp2 hs2, hz.2]; rfl)
            exact .inl ⟨pa.1, b, xs2, zs, rfl, rfl, ha2, hb, by rw [ra2.length, rb.length, ← line_eq]; exact hz.1, k2 _ W2 _ xx (fin_ok ok2 xx c) .non⟩
          · exact k2.elim
    | tup es =>
      simp only [hd] at k2
      rw [hd] at hr
      obtain ⟨b, zs, rfl, hb, _, rb⟩ := hr.tup_inv
      cases hs2 : s2[k]? with
      | none => simp only [hs2] at k2; exact k2.elim
      | some ce =>
        cases ce with
        | tab t => simp only [hs2] at k2; exact k2.elim
        | lst ds2 =>
          simp only [hs2] at k2
          split at k2
          · rename_i hz
            rw [Bool.and_eq_true, decide_eq_true_eq] at hz
            obtain ⟨⟨_, xs2, ha2, ra2⟩, _⟩ := ok2.c.cell k pa _ hp2 hs2
            obtain ⟨c, xx⟩ := ok2.c.setLst hp2 hs2 (ra2.append rb) (by rw [loAll_append, cell_lo ok2.c hp2 hs2, hz.2]; rfl)
            exact .inr ⟨pa.1, b, xs2, zs, rfl, rfl, ha2, hb, by rw [ra2.length, rb.length, ← line_eq]; exact hz.1, k2 _ W2 _ xx (fin_ok ok2 xx c) .non⟩
          · exact k2.elim
    | _ => simp only [hd] at k2; exact k2.elim
  · exact k1.elim
theorem s_rev {a : E} {p : Expr} {k : Nat} {p1 p2 p3 pos : Pos} (ha : PE X p (tE F XW a)) : PE X (.Subscript p (.Slice none none (some (.UnaryOp .USub (.Constant (.int 1) k p1) p2)) p3) pos) (tE F XW (.rev a)) := by
  refine PE.imp (pe_rev ha) fun σ H Q ⟨W, ρ, s, ok, post⟩ => ?_
  rw [evE] at post
  refine ⟨W, ρ, s, ok, (post.bind (rel := Rep)).imp fun x1 s1 v1 W1 H1 e1 ok1 r1 k1 => ?_⟩
  obtain ⟨d, ed, k3⟩ := of_some k1
  have hr := red_deref ok1.c r1
  unfold evRev at ed
  split at ed
  · rename_i ds hd
    cases ed
    rw [hd] at hr
    obtain ⟨b, zs, rfl, hb, _, rb⟩ := hr.tup_inv
    refine .inr ⟨b, zs, rfl, hb, fun p o n hd => ?_⟩
    obtain ⟨x, c, r⟩ := new_tup ok1.c n hd rb.rev
    exact k3 _ W1 _ x (fin_ok ok1 x c) r
  · rename_i ds hd
    cases ed
    rw [hd] at hr
    obtain ⟨b, zs, rfl, hb, rb⟩ := hr.lst_inv
    refine .inl ⟨b, zs, rfl, SqL.of hb, fun p n => ?_⟩
    obtain ⟨x, c, r⟩ := new_lst ok1.c n rb.rev
    exact k3 _ W1 _ x (fin_ok ok1 x c) r
  · cases ed
theorem set_parts {W : Wd} {H : Hp} {v : V} {d : Dt} {l : List Int} (r : Rep W H v d) (e : evSet d = some l) : ∃ a ns, v = .ref a ∧ TupAt H a (ns.map V.int) ∧ ns.length < 64 ∧ l = uniqI ns := by
  unfold evSet at e
  split at e
  · rename_i ds
    rw [Option.bind_eq_some_iff] at e
    obtain ⟨ns, e1, e2⟩ := e
    split at e2
    · rename_i hl
      cases e2
      obtain ⟨a, xs, rfl, ha, _, ra⟩ := r.tup_inv
      obtain ⟨z1, z2⟩ := ra.ints e1
      subst z1
      exact ⟨a, ns, rfl, ha, hl, rfl⟩
    · cases e2
  · cases e
theorem s_lenSet (h : CO X Γ F XW) {a : E} {p : Expr} {p1 p2 p3 p4 : Pos} (hg : Γ.glo "len" = true) (hg2 : Γ.glo "set" = true) (hn : notStar p = true) (ha : PE X p (tE F XW a)) :
    PE X (.Call (.Name "len" p1) [.Call (.Name "set" p2) [p] [] p3] [] p4) (tE F XW (.lenSet a)) := by
  have inner := pe_callTy (pos := p3) (p := p2) (call_setT h.calm) (h.gl hg2) (h.bl _ (by decide +kernel)) PyProof.Rows.boot_set (pa_cons ha pa_nil (star_cons hn)) (by decide +kernel) (by decide +kernel) (star_cons hn) rfl
  refine PE.imp (pe_callB cr_lenSet (h.gl hg) (h.bl _ (by decide +kernel)) PySem.boot_len (pa_cons inner pa_nil rfl) (by decide +kernel) (by decide +kernel) rfl rfl) fun σ H Q ⟨W, ρ, s, ok, post⟩ => ?_
  rw [evE] at post
  refine ⟨W, ρ, s, ok, (post.bind (rel := Rep)).imp fun x1 s1 v1 W1 H1 e1 ok1 r1 k1 => ?_⟩
  obtain ⟨d, ed, k3⟩ := of_some k1
  rw [Option.map_eq_some_iff] at ed
  obtain ⟨l, el, rfl⟩ := ed
  obtain ⟨b, ns, rfl, hb, hl, rfl⟩ := set_parts r1 el
  refine ⟨b, ns, rfl, hb, hl, fun q n ks nd m hk h64 nq => ⟨q, _, n, rfl, upd_same, h64, ?_⟩⟩
  obtain ⟨ok2, x2, _⟩ := ok1.new nq (SetO X.w q (fun j => decide (j ∈ ns)) n)
  have hn : (uniqI ns).length = n := by rw [← hk, (uniq_perm nd m).length_eq]
  rw [hn] at k3
  exact k3 _ W1 _ x2 ok2 (.int _)
theorem s_sortSet (h : CO X Γ F XW) {a : E} {p : Expr} {p1 p2 p3 p4 : Pos} (hg : Γ.glo "sorted" = true) (hg2 : Γ.glo "set" = true) (hn : notStar p = true) (ha : PE X p (tE F XW a)) :
    PE X (.Call (.Name "sorted" p1) [.Call (.Name "set" p2) [p] [] p3] [] p4) (tE F XW (.sortSet a)) := by
  have inner := pe_callTy (pos := p3) (p := p2) (call_setT h.calm) (h.gl hg2) (h.bl _ (by decide +kernel)) PyProof.Rows.boot_set (pa_cons ha pa_nil (star_cons hn)) (by decide +kernel) (by decide +kernel) (star_cons hn) rfl
  refine PE.imp (pe_callB (cr_sortedSet h.calm) (h.gl hg) (h.bl _ (by decide +kernel)) (by decide +kernel) (pa_cons inner pa_nil rfl) (by decide +kernel) (by decide +kernel) rfl rfl) fun σ H Q ⟨W, ρ, s, ok, post⟩ => ?_
  rw [evE] at post
  refine ⟨W, ρ, s, ok, (post.bind (rel := Rep)).imp fun x1 s1 v1 W1 H1 e1 ok1 r1 k1 => ?_⟩
  obtain ⟨d, ed, k3⟩ := of_some k1
  rw [Option.map_eq_some_iff] at ed
  obtain ⟨l, el, rfl⟩ := ed
  obtain ⟨b, ns, rfl, hb, hl, rfl⟩ := set_parts r1 el
  refine ⟨b, ns, rfl, hb, hl, fun q n ks nd m hk h64 nq => ⟨q, _, n, rfl, upd_same, h64, fun ys z hlt hm hz nz => ?_⟩⟩
  obtain ⟨ok2, x2, _⟩ := ok1.new nq (SetO X.w q (fun j => decide (j ∈ ns)) n)
  rw [uniq_eq (l := ns) hlt fun k => by rw [hm k, decide_eq_true_eq]]
  obtain ⟨x3, c3, r3⟩ := new_lst ok2.c nz (Reps.of_ints (W := W1) (H := upd H1 q (SetO X.w q (fun j => decide (j ∈ ns)) n)) (uniqI ns))
  exact k3 _ W1 _ (x2.trans x3) ⟨c3, (ok2.e.ext x3.toExt0)⟩ r3
theorem s_pop {x : E} {px : Expr} {apos cpos : Pos} (hx : mE Γ x px = true) (hl : (apos.endLine == cpos.line) = true) (h1 : PE X px (tE F XW x)) : PE X (.Call (.Attribute px "pop" apos) [] [] cpos) (tE F XW (.pop x)) := by
  refine PE.imp (pe_mg0 h1 (base_of hx) hl) fun σ H Q ⟨W, ρ, s, ok, post⟩ => ?_
  rw [evE] at post
  refine ⟨W, ρ, s, ok, (post.bind (rel := Rep)).imp fun x1 s1 v1 W1 H1 e1 ok1 r1 k1 => ?_⟩
  cases x1 with
  | ref k =>
    simp only at k1
    cases hs : s1[k]? with
    | none => simp only [hs] at k1; exact k1.elim
    | some ce =>
      cases ce with
      | tab t => simp only [hs] at k1; exact k1.elim
      | lst ds =>
        simp only [hs] at k1
        cases hg : ds.getLast? with
        | none => simp only [hg] at k1; exact k1.elim
        | some d =>
          simp only [hg] at k1
          obtain ⟨pa, xs, hp, rfl, ha, ra⟩ := rowed ok1.c r1 hs
          have hd : ds[ds.length - 1]? = some d := by rw [← List.getLast?_eq_getElem?]; exact hg
          obtain ⟨y, hy, ry⟩ := ra.get hd
          have rl : Reps W1 H1 xs.dropLast ds.dropLast := by
            rw [List.dropLast_eq_take, List.dropLast_eq_take, ra.length]
            exact ra.take _
          obtain ⟨c, xx⟩ := ok1.c.setLst hp hs rl (loAll_dropLast (cell_lo ok1.c hp hs))
          exact ⟨"list", _, rPop, PySem.F.plainAttrs_list, PySem.F.slot_list_pop, PySem.F.type_list_pop, mt_pop, .inl ⟨rfl, xs, ha⟩, pa.1, xs, y, rfl, rfl, ha, by rw [ra.length]; exact hy, k1 _ W1 _ xx (fin_ok ok1 xx c) (ry.ext xx.toExt0)⟩
  | _ => exact k1.elim

/-! ### tests -/
theorem t_of (hK : X.K = Glob.K) {e : E} {p : Expr} (h : PE X p (tE F XW e)) (he : ∀ whole, isTrue p X.env whole = (do let v ← whole; standAt p.pos; holding [v] (truthy v))) : PT X p (tT F XW e) := by
  refine PT.imp (pt_truth h he) fun σ H Q ⟨W, ρ, s, ok, post⟩ => ?_
  refine ⟨W, ρ, s, ok, (post.bind (rel := Rep)).imp fun x1 s1 v1 W1 H1 e1 ok1 r1 k1 => ?_⟩
  cases et : evTru (deref s1 x1) with
  | none => rw [et] at k1; exact k1.elim
  | some b =>
    rw [et] at k1
    exact ⟨b, tru_of hK (red_deref ok1.c r1) et, k1 b W1 H1 (Ext.refl _ _) ok1 rfl⟩
/-- a test whose value is True or False -/
theorem t_bool {e : E} {p : Expr} {t : TE} (h : PT X p (tB t)) (hp : ∀ σ H Q, tE F XW e σ H Q → t σ H Q) (hb : ∀ ρ s, ∀ d s', evE F ρ e s = .ok d s' → ∃ b, d = .bl b) : PT X p (tT F XW e) := by
  refine PT.imp h fun σ H Q ⟨W, ρ, s, ok, post⟩ => hp σ H _ ⟨W, ρ, s, ok, ?_⟩
  cases R : evE F ρ e s with
  | stuck => rw [R] at post; exact post.elim
  | exc x s1 => rw [R] at post; exact post
  | ok d s1 =>
    rw [R] at post
    obtain ⟨b, rfl⟩ := hb ρ s d s1 R
    intro v W' H' x ok' r
    exact ⟨b, r.bl_inv, post b W' H' x ok' rfl⟩
theorem b_cmp {op : COp} {a b : E} {ρ : Env} {s : Sta} {d : Dt} {s' : Sta} (h : evE F ρ (.cmp op a b) s = .ok d s') : ∃ b, d = .bl b := by
  rw [evE] at h
  cases R1 : evE F ρ a s with
  | ok x s1 =>
    rw [R1] at h
    simp only [Res.bind] at h
    cases R2 : evE F ρ b s1 with
    | ok y s2 =>
      rw [R2] at h
      simp only [Res.bind] at h
      cases R3 : evCmp op (deref s2 x) (deref s2 y) with
      | none => rw [R3] at h; cases h
      | some c => rw [R3] at h; cases h; exact ⟨_, rfl⟩
    | exc _ _ => rw [R2] at h; cases h
    | stuck => rw [R2] at h; cases h
  | exc _ _ => rw [R1] at h; cases h
  | stuck => rw [R1] at h; cases h
theorem b_cmp2 {op op' : COp} {a b c : E} {ρ : Env} {s : Sta} {d : Dt} {s' : Sta} (h : evE F ρ (.cmp2 op op' a b c) s = .ok d s') : ∃ b, d = .bl b := by
  rw [evE] at h
  cases R1 : evE F ρ a s with
  | ok x s1 =>
    rw [R1] at h
    simp only [Res.bind] at h
    cases R2 : evE F ρ b s1 with
    | ok y s2 =>
      rw [R2] at h
      simp only [Res.bind] at h
      cases R3 : evCmp op (deref s2 x) (deref s2 y) with
      | none => rw [R3] at h; cases h
      | some c' =>
        rw [R3] at h
        cases c' with
        | false => cases h; exact ⟨_, rfl⟩
        | true =>
          simp only at h
          cases R4 : evE F ρ c s2 with
          | ok z s3 =>
            rw [R4] at h
            simp only [Res.bind] at h
            cases R5 : evCmp op' (deref s3 y) (deref s3 z) with
            | none => rw [R5] at h; cases h
            | some c => rw [R5] at h; cases h; exact ⟨_, rfl⟩
          | exc _ _ => rw [R4] at h; cases h
          | stuck => rw [R4] at h; cases h
    | exc _ _ => rw [R2] at h; cases h
    | stuck => rw [R2] at h; cases h
  | exc _ _ => rw [R1] at h; cases h
  | stuck => rw [R1] at h; cases h
theorem b_un {a : E} {f : Dt → Bool} {ρ : Env} {s : Sta} {d : Dt} {s' : Sta} (h : ((evE F ρ a s).bind fun x s => .ok (.bl (f x)) s) = .ok d s') : ∃ b, d = .bl b := by
  cases R1 : evE F ρ a s with
  | ok x s1 => rw [R1] at h; cases h; exact ⟨_, rfl⟩
  | exc _ _ => rw [R1] at h; cases h
  | stuck => rw [R1] at h; cases h
/-- and, or, not as tests -/
theorem tw_and {a b : E} {p q : Expr} {r : List Expr} {pos : Pos} (ha : PT X p (tT F XW a)) (hb : PW X (.BoolOp .And (q :: r) pos) (tT F XW b)) : PW X (.BoolOp .And (p :: q :: r) pos) (tT F XW (.and a b)) := by
  refine PW.imp (pw_and ha hb) fun σ H Q ⟨W, ρ, s, ok, post⟩ => ?_
  refine ⟨W, ρ, s, ok, ?_⟩
  rw [evE] at post
  cases R : evE F ρ a s with
  | stuck => rw [R] at post; exact post.elim
  | exc x s1 => rw [R] at post; exact post
  | ok x1 s1 =>
    rw [R] at post
    cases et : evTru (deref s1 x1) with
    | none => simp only [Res.bind, et] at post; exact post.elim
    | some b' =>
      show PostR _ (Res.of s1 (evTru (deref s1 x1))) _ _ _ _ _ _
      rw [et]
      intro c W1 H1 e1 ok1 eb
      subst eb
      cases c with
      | true => simp only [Res.bind, et] at post; rw [if_pos rfl]; exact ⟨W1, ρ, s1, ok1, PostR.ext post e1⟩
      | false => simp only [Res.bind, et] at post; rw [if_neg Bool.false_ne_true]; exact post false W1 H1 e1 ok1 rfl
theorem tw_or {a b : E} {p q : Expr} {r : List Expr} {pos : Pos} (ha : PT X p (tT F XW a)) (hb : PW X (.BoolOp .Or (q :: r) pos) (tT F XW b)) : PW X (.BoolOp .Or (p :: q :: r) pos) (tT F XW (.or a b)) := by
  refine PW.imp (pw_or ha hb) fun σ H Q ⟨W, ρ, s, ok, post⟩ => ?_
  refine ⟨W, ρ, s, ok, ?_⟩
  rw [evE] at post
  cases R : evE F ρ a s with
  | stuck => rw [R] at post; exact post.elim
  | exc x s1 => rw [R] at post; exact post
  | ok x1 s1 =>
    rw [R] at post
    cases et : evTru (deref s1 x1) with
    | none => simp only [Res.bind, et] at post; exact post.elim
    | some b' =>
      show PostR _ (Res.of s1 (evTru (deref s1 x1))) _ _ _ _ _ _
      rw [et]
      intro c W1 H1 e1 ok1 eb
      subst eb
      cases c with
      | true => simp only [Res.bind, et] at post; rw [if_pos rfl]; exact post true W1 H1 e1 ok1 rfl
      | false => simp only [Res.bind, et] at post; rw [if_neg Bool.false_ne_true]; exact ⟨W1, ρ, s1, ok1, PostR.ext post e1⟩
theorem tt_not {a : E} {p : Expr} {pos : Pos} (ha : PT X p (tT F XW a)) : PT X (.UnaryOp .Not p pos) (tT F XW (.not a)) := by
  refine PT.imp (pt_not ha) fun σ H Q ⟨W, ρ, s, ok, post⟩ => ?_
  refine ⟨W, ρ, s, ok, ?_⟩
  rw [evE] at post
  cases R : evE F ρ a s with
  | stuck => rw [R] at post; exact post.elim
  | exc x s1 => rw [R] at post; exact post
  | ok x1 s1 =>
    rw [R] at post
    cases et : evTru (deref s1 x1) with
    | none => simp only [Res.bind, et] at post; exact post.elim
    | some b' =>
      show PostR _ (Res.of s1 (evTru (deref s1 x1))) _ _ _ _ _ _
      rw [et]
      intro c W1 H1 e1 ok1 eb
      subst eb
      simp only [Res.bind, et] at post
      exact post (!c) W1 H1 e1 ok1 rfl
end
end MP
/-! MP8: what loops and comprehensions walk; comprehensions; all terms. -/
namespace MP
open PySem L2 PyProof.Rows RZ
variable [Glob]
/-- an item as a walk hands it out: in place, or in a pair made for it -/
def ItemRep (pr : Bool) (W : Wd) (H : Hp) (v : V) (d : Dt) : Prop := Rep W H v d ∨ (pr = true ∧ ∃ T xs ds, v = .ref T ∧ d = .tup ds ∧ H T = some (.tup xs) ∧ Reps W H xs ds)
/-- the walk J tells these items -/
structure Feeds (pr : Bool) (J : It) (W : Wd) (H : Hp) (ds : List Dt) : Prop where
  item : ∀ i d W' H' s, Ext0 W H W' H' → COk W' H' s → ds[i]? = some d → J.go i H' ∧ ∀ x H'', J.yld i H' x H'' → Same H' H'' ∧ ItemRep pr W' H'' x d
  stop : ∀ W' H' i, Ext0 W H W' H' → ds.length ≤ i → J.stop i H'
/-- the same, as long as g holds of the state -/
structure FeedsG (g : Sta → Bool) (pr : Bool) (J : It) (W : Wd) (H : Hp) (ds : List Dt) : Prop where
  item : ∀ i d W' H' s, Ext0 W H W' H' → COk W' H' s → g s = true → ds[i]? = some d → J.go i H' ∧ ∀ x H'', J.yld i H' x H'' → Same H' H'' ∧ ItemRep pr W' H'' x d
  stop : ∀ W' H' s i, Ext0 W H W' H' → COk W' H' s → g s = true → ds.length ≤ i → J.stop i H'
theorem Feeds.g {pr : Bool} {J : It} {W : Wd} {H : Hp} {ds : List Dt} (f : Feeds pr J W H ds) : FeedsG (fun _ => true) pr J W H ds := ⟨fun i d W' H' s x c _ e => f.item i d W' H' s x c e, fun W' H' s i x _ _ l => f.stop W' H' i x l⟩
theorem cellIs_eq {s : Sta} {k : Nat} {ds : List Dt} (h : cellIs s k ds = true) : s[k]? = some (.lst ds) := by
  unfold cellIs at h
  split at h
  · rename_i es e
    rw [e, eqbs_eq h]
  · cases h
theorem cellOf_eq {ρ : Env} {s : Sta} {x k : Nat} {ds : List Dt} (h : cellOf ρ s x = some (k, ds)) : ρ[x]? = some (some (.ref k)) ∧ s[k]? = some (.lst ds) := by
  unfold cellOf at h
  split at h
  · rename_i k' e
    split at h
    · rename_i ds' e2
      cases h
      exact ⟨e, e2⟩
    · cases h
  · cases h
theorem feeds_cell {pr : Bool} {K : PySem.W.Frag} {W : Wd} {H : Hp} {k : Nat} {p : Addr × List Addr} {ds : List Dt} (hp : W.la[k]? = some p) : FeedsG (fun s => cellIs s k ds) pr (Itl K p.1) W H ds where
  item := fun i d W' H' s x c hg e => by
    obtain ⟨⟨_, xs, h, r⟩, _⟩ := c.cell k p _ (prefix_get x.la hp) (cellIs_eq hg)
    obtain ⟨v, hv, rv⟩ := r.get e
    refine ⟨⟨xs, v, SqL.of h, hv⟩, fun y H'' ⟨e1, e2⟩ => ?_⟩
    subst e1
    have z := e2 xs (SqL.of h)
    rw [hv] at z; cases z
    exact ⟨fun _ _ e => e, .inl rv⟩
  stop := fun W' H' s i x c hg l => by
    obtain ⟨⟨_, xs, h, r⟩, _⟩ := c.cell k p _ (prefix_get x.la hp) (cellIs_eq hg)
    exact ⟨xs, SqL.of h, by rw [r.length]; exact l⟩
section
variable {X : Cx} {Γ : Gm} {F : FT} {XW : WX}
def tI (pr : Bool) (F : FT) (XW : WX) (it : I) : TI := fun σ H R => ∃ W ρ s, Ok W H ρ σ s ∧ PostR (fun W H J ds => Feeds pr J W H ds) (evI F ρ it s) W H ρ σ (fun _ _ J _ H' => R J H') XW
theorem feeds_list {pr : Bool} {K : PySem.W.Frag} {W : Wd} {H : Hp} {a : Addr} {xs : List V} {ds : List Dt} (h : H a = some (.lst xs)) (n : a ∉ W.vol) (r : Reps W H xs ds) : Feeds pr (Itl K a) W H ds where
  item := fun i d W' H' s x c e => by
    have h' := (x.keep a _ h n).1
    obtain ⟨v, hv, rv⟩ := (r.ext x).get e
    refine ⟨⟨xs, v, SqL.of h', hv⟩, fun y H'' ⟨e1, e2⟩ => ?_⟩
    subst e1
    have z := e2 xs (SqL.of h')
    rw [hv] at z; cases z
    exact ⟨fun _ _ e => e, .inl rv⟩
  stop := fun W' H' i x l => ⟨xs, SqL.of (x.keep a _ h n).1, by rw [r.length]; exact l⟩
theorem feeds_tup {pr : Bool} {K : PySem.W.Frag} {W : Wd} {H : Hp} {a : Addr} {xs : List V} {ds : List Dt} (h : TupAt H a xs) (n : a ∉ W.vol) (r : Reps W H xs ds) : Feeds pr (Itt K a) W H ds where
  item := fun i d W' H' s x c e => by
    obtain ⟨o, h, hd⟩ := h
    have h' : TupAt H' a xs := ⟨o, (x.keep a _ h n).1, hd⟩
    obtain ⟨v, hv, rv⟩ := (r.ext x).get e
    refine ⟨⟨xs, v, h'.sq, hv⟩, fun y H'' ⟨e1, e2⟩ => ?_⟩
    subst e1
    have z := e2 xs h'.sq
    rw [hv] at z; cases z
    exact ⟨fun _ _ e => e, .inl rv⟩
  stop := fun W' H' i x l => by
    obtain ⟨o, h, hd⟩ := h
    exact ⟨xs, TupAt.sq ⟨o, (x.keep a _ h n).1, hd⟩, by rw [r.length]; exact l⟩
theorem feeds_str {pr : Bool} {W : Wd} {H : Hp} {z : Str} : Feeds pr (Its z) W H (z.cps.toList.map fun c => .str ⟨#[c]⟩) where
  item := fun i d W' H' s x c e => by
    rw [List.getElem?_map, Option.map_eq_some_iff] at e
    obtain ⟨n, e, rfl⟩ := e
    rw [Array.getElem?_toList] at e
    refine ⟨(Array.getElem?_eq_some_iff.mp e).1, fun y H'' ⟨e1, m, e2, e3⟩ => ?_⟩
    subst e1 e3
    rw [e] at e2; cases e2
    exact ⟨fun _ _ e => e, .inl (.str _)⟩
  stop := fun W' H' i x l => by
    rw [List.length_map, Array.length_toList] at l
    exact l
theorem feeds_rng {pr : Bool} {W : Wd} {H : Hp} {a b : Int} : Feeds pr (Itr a (b - a).toNat) W H (rngD a b) where
  item := fun i d W' H' s x c e => by
    unfold rngD at e
    rw [List.getElem?_map, Option.map_eq_some_iff] at e
    obtain ⟨n, e, rfl⟩ := e
    obtain ⟨l, e1⟩ := List.getElem?_eq_some_iff.mp e
    rw [List.length_range] at l
    rw [List.getElem_range] at e1
    subst e1
    refine ⟨l, fun y H'' ⟨e1, e2⟩ => ?_⟩
    subst e1 e2
    exact ⟨fun _ _ e => e, .inl (.int _)⟩
  stop := fun W' H' i x l => by
    unfold rngD at l
    rw [List.length_map, List.length_range] at l
    exact l
theorem pair_rep {W : Wd} {H : Hp} {T : Addr} {x y : V} {d e : Dt} {s : Sta} (c : COk W H s) (n : H T = none) (r1 : Rep W H x d) (r2 : Rep W H y e) : Same H (upd H T (.tup [x, y])) ∧ ItemRep true W (upd H T (.tup [x, y])) (.ref T) (.tup [d, e]) := by
  obtain ⟨_, xx⟩ := c.grow (same_upd (o := .tup [x, y]) n)
  exact ⟨same_upd n, .inr ⟨rfl, T, [x, y], [d, e], rfl, rfl, upd_same, .cons (r1.ext xx.toExt0) (.cons (r2.ext xx.toExt0) .nil)⟩⟩
theorem enum_get : ∀ (ds : List Dt) (k i : Nat), (enumD k ds)[i]? = (ds[i]?).map fun d => .tup [.int ((k + i : Nat) : Int), d]
  | [], _, _ => by simp [enumD]
  | d :: ds, k, 0 => by simp [enumD]
  | d :: ds, k, i + 1 => by
    simp only [enumD, List.getElem?_cons_succ]
    rw [enum_get ds (k + 1) i]
    congr 1
    funext x
    rw [show k + 1 + i = k + (i + 1) by omega]
theorem enum_len : ∀ (ds : List Dt) (k : Nat), (enumD k ds).length = ds.length
  | [], _ => rfl
  | d :: ds, k => by simp [enumD, enum_len ds (k + 1)]
theorem feeds_enum {K : PySem.W.Frag} {W : Wd} {H : Hp} {a : Addr} {xs : List V} {ds : List Dt} (h : H a = some (.lst xs)) (n : a ∉ W.vol) (r : Reps W H xs ds) : Feeds true (Ite K a) W H (enumD 0 ds) where
  item := fun i d W' H' s x c e => by
    have h' := (x.keep a _ h n).1
    rw [enum_get, Option.map_eq_some_iff] at e
    obtain ⟨d', e, rfl⟩ := e
    obtain ⟨v, hv, rv⟩ := (r.ext x).get e
    refine ⟨⟨xs, v, SqL.of h', hv⟩, fun y H'' ⟨T, z, e1, e2, e3, e4⟩ => ?_⟩
    subst e1 e3
    have q := e4 xs (SqL.of h')
    rw [hv] at q; cases q
    rw [Nat.zero_add]
    exact pair_rep c e2 (.int _) rv
  stop := fun W' H' i x l => ⟨xs, SqL.of (x.keep a _ h n).1, by rw [r.length]; rw [enum_len] at l; exact l⟩
theorem feeds_enumT {W : Wd} {H : Hp} {a : Addr} {xs : List V} {ds : List Dt} (h : TupAt H a xs) (n : a ∉ W.vol) (r : Reps W H xs ds) : Feeds true (IteT a) W H (enumD 0 ds) where
  item := fun i d W' H' s x c e => by
    obtain ⟨o, h, hd⟩ := h
    have h' : TupAt H' a xs := ⟨o, (x.keep a _ h n).1, hd⟩
    rw [enum_get, Option.map_eq_some_iff] at e
    obtain ⟨d', e, rfl⟩ := e
    obtain ⟨v, hv, rv⟩ := (r.ext x).get e
    refine ⟨⟨xs, v, h', hv⟩, fun y H'' ⟨T, z, e1, e2, e3, e4⟩ => ?_⟩
    subst e1 e3
    have q := e4 xs h'
    rw [hv] at q; cases q
    rw [Nat.zero_add]
    exact pair_rep c e2 (.int _) rv
  stop := fun W' H' i x l => by
    obtain ⟨o, h, hd⟩ := h
    exact ⟨xs, ⟨o, (x.keep a _ h n).1, hd⟩, by rw [r.length]; rw [enum_len] at l; exact l⟩
theorem zip_get : ∀ (ds es : List Dt) (i : Nat) (d : Dt), (zipD ds es)[i]? = some d → ∃ x y, ds[i]? = some x ∧ es[i]? = some y ∧ d = .tup [x, y]
  | [], _, _, _, h => by simp [zipD] at h
  | _ :: _, [], _, _, h => by simp [zipD] at h
  | x :: ds, y :: es, 0, d, h => by simp [zipD] at h; exact ⟨x, y, rfl, rfl, h.symm⟩
  | x :: ds, y :: es, i + 1, d, h => by simp only [zipD, List.getElem?_cons_succ] at h ⊢; exact zip_get ds es i d h
theorem zip_len : ∀ (ds es : List Dt), (zipD ds es).length = min ds.length es.length
  | [], _ => by simp [zipD]
  | _ :: _, [] => by simp [zipD]
  | x :: ds, y :: es => by simp [zipD, zip_len ds es]
theorem feeds_zipL {K : PySem.W.Frag} {W : Wd} {H : Hp} {a b : Addr} {xs ys : List V} {ds es : List Dt} (h : H a = some (.lst xs)) (n : a ∉ W.vol) (r : Reps W H xs ds) (h2 : H b = some (.lst ys)) (n2 : b ∉ W.vol) (r2 : Reps W H ys es) : Feeds true (Itz K a b) W H (zipD ds es) where
  item := fun i d W' H' s x c e => by
    have h' := (x.keep a _ h n).1
    have h2' := (x.keep b _ h2 n2).1
    obtain ⟨d1, d2, e1, e2, rfl⟩ := zip_get _ _ _ _ e
    obtain ⟨v, hv, rv⟩ := (r.ext x).get e1
    obtain ⟨u, hu, ru⟩ := (r2.ext x).get e2
    refine ⟨⟨xs, ys, v, u, SqL.of h', SqL.of h2', hv, hu⟩, fun y H'' ⟨T, z, z2, q1, q2, q3, q4, q5⟩ => ?_⟩
    subst q1 q3
    have q := q4 xs (SqL.of h')
    rw [hv] at q; cases q
    have q := q5 ys (SqL.of h2')
    rw [hu] at q; cases q
    exact pair_rep c q2 rv ru
  stop := fun W' H' i x l => ⟨xs, ys, SqL.of (x.keep a _ h n).1, SqL.of (x.keep b _ h2 n2).1, by rw [zip_len] at l; rw [r.length, r2.length]; omega⟩
theorem feeds_zipT {K : PySem.W.Frag} {W : Wd} {H : Hp} {a b : Addr} {xs ys : List V} {ds es : List Dt} (h : TupAt H a xs) (n : a ∉ W.vol) (r : Reps W H xs ds) (h2 : TupAt H b ys) (n2 : b ∉ W.vol) (r2 : Reps W H ys es) : Feeds true (ItzT K a b) W H (zipD ds es) where
  item := fun i d W' H' s x c e => by
    obtain ⟨o, h, hd⟩ := h
    obtain ⟨o2, h2, hd2⟩ := h2
    have h' : TupAt H' a xs := ⟨o, (x.keep a _ h n).1, hd⟩
    have h2' : TupAt H' b ys := ⟨o2, (x.keep b _ h2 n2).1, hd2⟩
    obtain ⟨d1, d2, e1, e2, rfl⟩ := zip_get _ _ _ _ e
    obtain ⟨v, hv, rv⟩ := (r.ext x).get e1
    obtain ⟨u, hu, ru⟩ := (r2.ext x).get e2
    refine ⟨⟨xs, ys, v, u, h'.sq, h2'.sq, hv, hu⟩, fun y H'' ⟨T, z, z2, q1, q2, q3, q4, q5⟩ => ?_⟩
    subst q1 q3
    have q := q4 xs h'.sq
    rw [hv] at q; cases q
    have q := q5 ys h2'.sq
    rw [hu] at q; cases q
    exact pair_rep c q2 rv ru
  stop := fun W' H' i x l => by
    obtain ⟨o, h, hd⟩ := h
    obtain ⟨o2, h2, hd2⟩ := h2
    exact ⟨xs, ys, TupAt.sq ⟨o, (x.keep a _ h n).1, hd⟩, TupAt.sq ⟨o2, (x.keep b _ h2 n2).1, hd2⟩, by rw [zip_len] at l; rw [r.length, r2.length]; omega⟩

/-! ### iterables -/
/-- a list, a tuple, a text: seen as it runs -/
def iAny (K : PySem.W.Frag) (tl : TE) : TI := fun σ H R => tl σ H fun x H1 => (∃ a, x = .ref a ∧ (∃ xs, SqL K H1 a xs) ∧ R (Itl K a) H1) ∨ (∃ a, x = .ref a ∧ (∃ xs, SqT K H1 a xs) ∧ R (Itt K a) H1) ∨ ∃ z, x = .str z ∧ R (Its z) H1
theorem pi_any {tg l : Expr} {tl : TE} (hl : PE X l tl) : PI X tg l (iAny X.K tl) := by
  refine ⟨fun pins s σ H R I h => ?_⟩
  refine thn (hl.run pins s σ H _ I h) fun v s1 ⟨x, H1, I1, r1, q1⟩ => ?_
  rcases q1 with ⟨a, e, ⟨xs, hq⟩, q⟩ | ⟨a, e, ⟨xs, hq⟩, q⟩ | ⟨z, e, q⟩
  · subst e
    cases r1
    obtain ⟨its, rv, p, hz⟩ := I1.list hq
    refine wpAny_pyIter_list p.isList ?_
    refine ⟨s1.heap.objs.size, [s1.heap.objs.size], _, _, H1, rfl, I1.kept (t' := s1.toks) fun b o e => Heap.get?_push_of_some _ e, turn_list a _, ⟨_, Heap.get?_push_size _ rfl, rfl, rfl⟩, fun b hb => ?_, q⟩
    have e : b = s1.heap.objs.size := by simpa using hb
    subst e
    exact I1.fpOk (Nat.le_refl _) (I1.hok.fresh (Nat.le_refl _))
  · subst e
    cases r1
    obtain ⟨its, rv, p, hz⟩ := I1.tuple hq
    refine wpAny_pyIter_tuple (show s1.heap.IsTuple a its.toArray from p) ?_
    refine ⟨s1.heap.objs.size, [s1.heap.objs.size], _, _, H1, rfl, I1.kept (t' := s1.toks) fun b o e => Heap.get?_push_of_some _ e, turn_tuple a _, ⟨_, Heap.get?_push_size _ rfl, rfl, rfl⟩, fun b hb => ?_, q⟩
    have e : b = s1.heap.objs.size := by simpa using hb
    subst e
    exact I1.fpOk (Nat.le_refl _) (I1.hok.fresh (Nat.le_refl _))
  · subst e
    obtain ⟨t, rfl⟩ := r1
    cases ha : z.cps.all (· < 128)
    · exact wpAny_pyIter_wide ha (pi_one (tk := s1.toks) I1 _ (turn_str _ z t "str_iterator" (.inr rfl)) ⟨_, Heap.get?_push_size _ rfl, rfl, rfl⟩ q)
    · exact wpAny_pyIter_ascii ha (pi_one (tk := s1.toks) I1 _ (turn_str _ z t "str_ascii_iterator" (.inl rfl)) ⟨_, Heap.get?_push_size _ rfl, rfl, rfl⟩ q)
theorem si_e {pr : Bool} {a : E} {p tg : Expr} (h : PE X p (tE F XW a)) : PI X tg p (tI pr F XW (.e a)) := by
  refine PI.imp (pi_any h) fun σ H R ⟨W, ρ, s, ok, post⟩ => ?_
  rw [evI] at post
  refine ⟨W, ρ, s, ok, (post.bind (rel := Rep)).imp fun x1 s1 v1 W1 H1 e1 ok1 r1 k1 => ?_⟩
  cases r1 with
  | tup e d n r => exact .inr (.inl ⟨_, rfl, ⟨_, TupAt.sq ⟨_, e, d⟩⟩, k1 _ W1 H1 (Ext.refl _ _) ok1 (feeds_tup ⟨_, e, d⟩ n r)⟩)
  | lst e n r => exact .inl ⟨_, rfl, ⟨_, SqL.of e⟩, k1 _ W1 H1 (Ext.refl _ _) ok1 (feeds_list e n r)⟩
  | str z => exact .inr (.inr ⟨_, rfl, k1 _ W1 H1 (Ext.refl _ _) ok1 feeds_str⟩)
  | _ => exact k1.elim
theorem si_rng1 {pr : Bool} (h : CO X Γ F XW) {a : E} {p tg : Expr} {p1 p2 : Pos} (hg : Γ.glo "range" = true) (hn : notStar p = true) (ha : PE X p (tE F XW a)) : PI X tg (.Call (.Name "range" p1) [p] [] p2) (tI pr F XW (.rng1 a)) := by
  refine PI.imp (pi_range1 (h.gl hg) (h.bl _ (by decide +kernel)) (pa_cons ha pa_nil (star_cons hn)) (by rw [star_cons hn]; rfl)) fun σ H R ⟨W, ρ, s, ok, post⟩ => ?_
  rw [evI] at post
  refine ⟨W, ρ, s, ok, (post.bind (rel := Rep)).imp fun x1 s1 v1 W1 H1 e1 ok1 r1 k1 => ?_⟩
  cases x1 with
  | int j =>
    simp only at k1
    split at k1
    · rename_i hr
      obtain ⟨_, _, z1, z2, _⟩ := rg_ok hr
      have z := k1 (Itr 0 (j - 0).toNat) W1 H1 (Ext.refl _ _) ok1 feeds_rng
      rw [Int.sub_zero] at z
      exact ⟨j, by rw [r1.int_inv], z1, z2, z⟩
    · exact k1.elim
  | _ => exact k1.elim
theorem si_rng2 {pr : Bool} (h : CO X Γ F XW) {a b : E} {p q tg : Expr} {p1 p2 : Pos} (hg : Γ.glo "range" = true) (hp : notStar p = true) (hn : notStar q = true) (ha : PE X p (tE F XW a)) (hb : PE X q (tE F XW b)) : PI X tg (.Call (.Name "range" p1) [p, q] [] p2) (tI pr F XW (.rng2 a b)) := by
  refine PI.imp (pi_range2 (h.gl hg) (h.bl _ (by decide +kernel)) (pa_cons ha (pa_cons hb pa_nil (star_cons hn)) (star_cons hp)) (by rw [star_cons hp, star_cons hn]; rfl) (by rw [star_cons hn]; rfl)) fun σ H R ⟨W, ρ, s, ok, post⟩ => ?_
  rw [evI] at post
  refine ⟨W, ρ, s, ok, (post.bind (rel := Rep)).imp fun x1 s1 v1 W1 H1 e1 ok1 r1 k1 => ?_⟩
  refine ⟨W1, ρ, s1, ok1, (k1.bind (rel := Rep)).imp fun x2 s2 v2 W2 H2 e2 ok2 r2 k2 => ?_⟩
  cases x1 with
  | int i =>
    cases x2 with
    | int j =>
      simp only at k2
      split at k2
      · rename_i hr
        obtain ⟨z1, z2, z3, z4, _⟩ := rg_ok hr
        exact ⟨i, j, by rw [r1.int_inv, r2.int_inv], ⟨z1, z2, z3, z4⟩, k2 _ W2 H2 (Ext.refl _ _) ok2 feeds_rng⟩
      · exact k2.elim
    | _ => exact k2.elim
  | _ => exact k2.elim
theorem si_enum (h : CO X Γ F XW) {a : E} {p : Expr} {elts : List Expr} {kk : Nat} {p1 p2 p3 : Pos} (hg : Γ.glo "enumerate" = true) (hn : notStar p = true) (ha : PE X p (tE F XW a)) : PI X (.Tuple elts kk p3) (.Call (.Name "enumerate" p1) [p] [] p2) (tI true F XW (.enum a)) := by
  refine PI.imp (pi_enumA (h.gl hg) (h.bl _ (by decide +kernel)) (pa_cons ha pa_nil (star_cons hn)) (by rw [star_cons hn]; rfl)) fun σ H R ⟨W, ρ, s, ok, post⟩ => ?_
  rw [evI] at post
  refine ⟨W, ρ, s, ok, (post.bind (rel := Rep)).imp fun x1 s1 v1 W1 H1 e1 ok1 r1 k1 => ?_⟩
  cases r1 with
  | lst e n r => exact ⟨_, rfl, .inl ⟨_, SqL.of e, k1 _ W1 H1 (Ext.refl _ _) ok1 (feeds_enum e n r)⟩⟩
  | tup e d n r => exact ⟨_, rfl, .inr ⟨_, ⟨_, e, d⟩, k1 _ W1 H1 (Ext.refl _ _) ok1 (feeds_enumT ⟨_, e, d⟩ n r)⟩⟩
  | _ => exact k1.elim
theorem si_zip (h : CO X Γ F XW) {a b : E} {p q : Expr} {elts : List Expr} {kk : Nat} {p1 p2 p3 : Pos} (hg : Γ.glo "zip" = true) (hp : notStar p = true) (hn : notStar q = true) (ha : PE X p (tE F XW a)) (hb : PE X q (tE F XW b)) :
    PI X (.Tuple elts kk p3) (.Call (.Name "zip" p1) [p, q] [] p2) (tI true F XW (.zip a b)) := by
  refine PI.imp (pi_zipA (h.gl hg) (h.bl _ (by decide +kernel)) (pa_cons ha (pa_cons hb pa_nil (star_cons hn)) (star_cons hp)) (by rw [star_cons hp]) (by rw [star_cons hn]; rfl)) fun σ H R ⟨W, ρ, s, ok, post⟩ => ?_
  rw [evI] at post
  refine ⟨W, ρ, s, ok, (post.bind (rel := Rep)).imp fun x1 s1 v1 W1 H1 e1 ok1 r1 k1 => ?_⟩
  refine ⟨W1, ρ, s1, ok1, (k1.bind (rel := Rep)).imp fun x2 s2 v2 W2 H2 e2 ok2 r2 k2 => ?_⟩
  have r1' := r1.ext e2.toExt0
  cases r1' with
  | lst e n r =>
    cases r2 with
    | lst e' n' r' => exact ⟨_, _, _, _, rfl, .inl ⟨SqL.of e, SqL.of e', k2 _ W2 H2 (Ext.refl _ _) ok2 (feeds_zipL e n r e' n' r')⟩⟩
    | _ => exact k2.elim
  | tup e d n r =>
    cases r2 with
    | tup e' d' n' r' => exact ⟨_, _, _, _, rfl, .inr ⟨TupAt.sq ⟨_, e, d⟩, TupAt.sq ⟨_, e', d'⟩, k2 _ W2 H2 (Ext.refl _ _) ok2 (feeds_zipT ⟨_, e, d⟩ n r ⟨_, e', d'⟩ n' r')⟩⟩
    | _ => exact k2.elim
  | _ => cases r2 <;> exact k2.elim
end
end MP
/-! MP9: targets, comprehensions. -/
namespace MP
open PySem L2 PyProof.Rows RZ
variable [Glob]
/-! ### slots -/
theorem wipe_get {σ : L2.St} : ∀ {vs : List Nat} {i : Nat}, (wipe σ vs)[i]? = if i ∈ vs then (σ[i]?).map (fun _ => none) else σ[i]?
  | [], i => by simp [wipe]
  | v :: vs, i => by
    unfold wipe
    by_cases e : v = i
    · subst e
      rw [if_pos List.mem_cons_self]
      cases h : σ[v]? with
      | none =>
        rw [List.getElem?_eq_none]; rfl
        rw [List.length_set, wipe_length]
        exact List.getElem?_eq_none_iff.mp h
      | some x =>
        rw [List.getElem?_set_self (by rw [wipe_length]; exact (List.getElem?_eq_some_iff.mp h).1)]; rfl
    · rw [List.getElem?_set_ne e, wipe_get]
      by_cases m : i ∈ vs
      · rw [if_pos m, if_pos (List.mem_cons_of_mem _ m)]
      · rw [if_neg m, if_neg (by simp only [List.mem_cons, not_or]; exact ⟨fun z => e z.symm, m⟩)]
theorem wipe_set {σ : L2.St} {vs : List Nat} {i : Nat} {x : Option V} (h : i ∈ vs) : wipe (σ.set i x) vs = wipe σ vs := by
  refine List.ext_getElem? fun j => ?_
  rw [wipe_get, wipe_get]
  by_cases m : j ∈ vs
  · rw [if_pos m, if_pos m]
    by_cases e : i = j
    · subst e
      by_cases l : i < σ.length
      · rw [List.getElem?_set_self l]
        rw [List.getElem?_eq_getElem l]; rfl
      · rw [List.getElem?_eq_none (by rw [List.length_set]; omega), List.getElem?_eq_none (by omega)]
    · rw [List.getElem?_set_ne e]
  · rw [if_neg m, if_neg m, List.getElem?_set_ne (fun z : i = j => m (by rw [← z]; exact h))]
theorem wipe_wipe {σ : L2.St} {vs : List Nat} : wipe (wipe σ vs) vs = wipe σ vs := by
  refine List.ext_getElem? fun j => ?_
  rw [wipe_get, wipe_get]
  by_cases m : j ∈ vs
  · rw [if_pos m, if_pos m]; cases σ[j]? <;> rfl
  · rw [if_neg m, if_neg m]
theorem wipeE_length (ρ : Env) : ∀ vs : List Nat, (wipeE ρ vs).length = ρ.length
  | [] => rfl
  | v :: vs => by unfold wipeE; rw [List.length_set, wipeE_length ρ vs]
theorem wipeE_some {ρ : Env} {i : Nat} {x : Dt} : ∀ {vs : List Nat}, (wipeE ρ vs)[i]? = some (some x) → ρ[i]? = some (some x) ∧ i ∉ vs
  | [], h => ⟨h, by simp⟩
  | v :: vs, h => by
    unfold wipeE at h
    by_cases e : v = i
    · subst e
      by_cases hv : v < (wipeE ρ vs).length
      · rw [List.getElem?_set_self hv] at h; cases h
      · rw [List.getElem?_eq_none (by rw [List.length_set]; omega)] at h; cases h
    · rw [List.getElem?_set_ne e] at h
      obtain ⟨h1, h2⟩ := wipeE_some h
      exact ⟨h1, by simp only [List.mem_cons, not_or]; exact ⟨fun z => e z.symm, h2⟩⟩
theorem EOk.wiped {W : Wd} {H : Hp} {ρ : Env} {σ : L2.St} (h : EOk W H ρ σ) (vs : List Nat) : EOk W H (wipeE ρ vs) (wipe σ vs) :=
  ⟨by rw [wipeE_length, wipe_length]; exact h.1, fun i d e => by
    obtain ⟨e1, n⟩ := wipeE_some e
    obtain ⟨v, e2, r⟩ := h.2 i d e1
    exact ⟨v, by rw [wipe_get, if_neg n]; exact e2, r⟩⟩
theorem EOk.set {W : Wd} {H : Hp} {ρ : Env} {σ : L2.St} (h : EOk W H ρ σ) {v : V} {d : Dt} (r : Rep W H v d) (i : Nat) : EOk W H (ρ.set i (some d)) (σ.set i (some v)) :=
  ⟨by rw [List.length_set, List.length_set]; exact h.1, fun j e q => by
    by_cases z : i = j
    · subst z
      by_cases l : i < ρ.length
      · rw [List.getElem?_set_self l] at q
        cases q
        exact ⟨v, List.getElem?_set_self (by rw [← h.1]; exact l), r⟩
      · rw [List.getElem?_eq_none (by rw [List.length_set]; omega)] at q; cases q
    · rw [List.getElem?_set_ne z] at q ⊢
      exact h.2 j e q⟩

/-! ### targets -/
def gNames : List Nat → TGs
  | [] => gNil
  | i :: is => gCons (gName i) (gNames is)
def tG (K : PySem.W.Frag) : Tg → TG
  | .nm i => gName i
  | .tup is => fun v σ H Q => gTup K is.length (gNames is) v σ H Q ∨ gUnl K is.length (gNames is) v σ H Q
def Tg.has (tg : Tg) (i : Nat) : Prop := match tg with
  | .nm j => i = j
  | .tup is => i ∈ is
section
variable {X : Cx} {Γ : Gm} {F : FT} {XW : WX}
theorem pgs_names (h : CO X Γ F XW) : ∀ {is : List Nat} {es : List Expr}, mTg.mNms Γ is es = true → (∀ x pos, Expr.Name x pos ∈ es → X.fn x = true ∨ X.env.scope.names.lookup x = some .local) →
    PGs X es (gNames is) ∧ (assignEach es X.env).length = is.length ∧ (assignEach es X.env).findIdx? (·.1) = none
  | [], [], _, _ => ⟨pgs_nil, rfl, rfl⟩
  | [], _ :: _, q, _ => by simp [mTg.mNms] at q
  | _ :: _, [], q, _ => by simp [mTg.mNms] at q
  | i :: is, e :: es, q, hf => by
    cases e <;> (try (simp [mTg.mNms] at q; done))
    rename_i x pos
    simp only [mTg.mNms, Bool.and_eq_true, decide_eq_true_eq] at q
    obtain ⟨p1, p2, p3⟩ := pgs_names h q.2 fun x pos m => hf x pos (List.mem_cons_of_mem _ m)
    have hh := hf x pos List.mem_cons_self
    refine ⟨pgs_cons (pg_name h.nd (by rw [h.N]; exact q.1.1) (h.lc q.1.2) hh) p1 rfl, ?_, ?_⟩
    · show (assignEach es X.env).length + 1 = _
      rw [p2]; rfl
    · show List.findIdx? (·.1) ((false, assign (.Name x pos) X.env) :: assignEach es X.env) = none
      rw [List.findIdx?_cons, p3]; rfl
def tgNames : Expr → List Expr
  | .Tuple es _ _ => es
  | e => [e]
theorem pg_of (h : CO X Γ F XW) {tg : Tg} {t : Expr} (m : mTg Γ tg t = true) (hf : ∀ x pos, Expr.Name x pos ∈ tgNames t → X.fn x = true ∨ X.env.scope.names.lookup x = some .local) : PG X t (tG X.K tg) := by
  cases tg with
  | nm i =>
    cases t <;> (try (simp [mTg] at m; done))
    rename_i x pos
    simp only [mTg, Bool.and_eq_true, decide_eq_true_eq] at m
    have hh := hf x pos List.mem_cons_self
    exact pg_name h.nd (by rw [h.N]; exact m.1) (h.lc m.2) hh
  | tup is =>
    cases t <;> (try (simp [mTg] at m; done))
    rename_i es k pos
    simp only [mTg] at m
    obtain ⟨p1, p2, p3⟩ := pgs_names h m hf
    exact ⟨fun pins s σ H v u Q I r q => q.elim (fun q => (pg_tup h.calm p1 p2 p3).run pins s σ H v u Q I r q) fun q => (pg_unl h.calm p1 p2 p3).run pins s σ H v u Q I r q⟩
theorem gNames_ok {W : Wd} {H : Hp} {Q : L2.St → Hp → Prop} : ∀ {is : List Nat} {xs : List V} {ds : List Dt} {ρ ρ' : Env} {σ : L2.St}, EOk W H ρ σ → Reps W H xs ds → setAll is ds ρ = some ρ' →
    (∀ σ', EOk W H ρ' σ' → (∀ vs : List Nat, (∀ i ∈ is, i ∈ vs) → wipe σ' vs = wipe σ vs) → Q σ' H) → gNames is xs σ H Q
  | [], _, _, ρ, ρ', σ, h, .nil, e, q => by
    simp only [setAll] at e
    cases e
    exact ⟨rfl, q σ h fun _ _ => rfl⟩
  | [], _, _, ρ, ρ', σ, h, .cons _ _, e, q => by simp [setAll] at e
  | i :: is, _, _, ρ, ρ', σ, h, .nil, e, q => by simp [setAll] at e
  | i :: is, _, _, ρ, ρ', σ, h, .cons r t, e, q => by
    simp only [setAll] at e
    refine ⟨_, _, rfl, gNames_ok (h.set r i) t e fun σ' h' w => q σ' h' fun vs m => ?_⟩
    rw [w vs fun j hj => m j (List.mem_cons_of_mem _ hj), wipe_set (m i List.mem_cons_self)]
theorem setAll_len : ∀ {is : List Nat} {ds : List Dt} {ρ ρ' : Env}, setAll is ds ρ = some ρ' → ds.length = is.length
  | [], [], _, _, _ => rfl
  | [], _ :: _, _, _, e => by simp [setAll] at e
  | _ :: _, [], _, _, e => by simp [setAll] at e
  | i :: is, d :: ds, _, _, e => by simp only [setAll] at e; simp [setAll_len e]
theorem tG_ok {pr : Bool} {K : PySem.W.Frag} {W : Wd} {H : Hp} {Q : L2.St → Hp → Prop} {tg : Tg} {v : V} {d : Dt} {ρ ρ' : Env} {σ : L2.St} (hp : pr = true → ∃ is, tg = .tup is) (h : EOk W H ρ σ) (r : ItemRep pr W H v d) (e : bindTg tg d ρ = some ρ')
    (q : ∀ σ', EOk W H ρ' σ' → (∀ vs : List Nat, (∀ i, tg.has i → i ∈ vs) → wipe σ' vs = wipe σ vs) → Q σ' H) : tG K tg v σ H Q := by
  cases tg with
  | nm i =>
    rcases r with r | ⟨z, _⟩
    · simp only [bindTg] at e
      cases e
      exact q _ (h.set r i) fun vs m => wipe_set (m i rfl)
    · obtain ⟨_, z⟩ := hp z
      cases z
  | tup is =>
    cases d <;> (try (simp [bindTg] at e; done))
    rename_i ds
    simp only [bindTg] at e
    rcases r with r | ⟨_, T, xs, ds', e1, e2, hT, rr⟩
    · obtain ⟨a, xs, ea, ht, n, rr⟩ := r.tup_inv
      exact .inl ⟨a, xs, ea, ht.sq, by rw [rr.length, setAll_len e], gNames_ok h rr e fun σ' h' w => q σ' h' fun vs m => w vs fun i hi => m i hi⟩
    · cases e2
      exact .inl ⟨T, xs, e1, SqT.of hT, by rw [rr.length, setAll_len e], gNames_ok h rr e fun σ' h' w => q σ' h' fun vs m => w vs fun i hi => m i hi⟩
end
end MP
/-! MP10: comprehensions. -/
namespace MP
open PySem L2 PyProof.Rows RZ
variable [Glob]
theorem CellOk.mv {W W' : Wd} {H H' : Hp} {q : Addr × List Addr} {ce : Cell} (h : CellOk W H q ce) (x : Ext0 W H W' H') (k : ∀ a ∈ q.1 :: q.2, ∀ o, H a = some o → H' a = some o) : CellOk W' H' q ce := by
  cases ce with
  | lst es => obtain ⟨e0, ys, h, rr⟩ := h; exact ⟨e0, ys, k _ List.mem_cons_self _ h, rr.ext x⟩
  | tab t =>
    obtain ⟨dx, ld, lu, vr, vm, vn, vw, xd, xu, e0, h1, h2, h3, h4, r1, r2, r3, r4, r5, r6⟩ := h
    have m1 : dx ∈ q.1 :: q.2 := by rw [e0]; simp
    have m2 : ld ∈ q.1 :: q.2 := by rw [e0]; simp
    have m3 : lu ∈ q.1 :: q.2 := by rw [e0]; simp
    exact ⟨dx, ld, lu, vr, vm, vn, vw, xd, xu, e0, k _ List.mem_cons_self _ h1, k _ m1 _ h2, k _ m2 _ h3, k _ m3 _ h4, r1.ext x, r2.ext x, r3.ext x, r4.ext x, r5.ext x, r6.ext x⟩
/-- behind a world, with one more address that may change -/
structure ExtD (W : Wd) (H : Hp) (D : Addr) (W' : Wd) (H' : Hp) : Prop extends Ext0 W H W' H' where
  ex : W'.ex = D :: W.ex
  exk : ∀ a ∈ W.ex, ∀ o, H a = some o → H' a = some o
theorem ExtD.trans {W W1 W2 : Wd} {H H1 H2 : Hp} {D : Addr} (a : ExtD W H D W1 H1) (b : Ext W1 H1 W2 H2) : ExtD W H D W2 H2 :=
  ⟨⟨a.la.trans b.la, fun c o e n => let ⟨e1, n1⟩ := a.keep c o e n; b.keep c o e1 n1⟩, b.ex.trans a.ex, fun c h o e => b.exk c (by rw [a.ex]; exact List.mem_cons_of_mem _ h) o (a.exk c h o e)⟩
theorem ExtD.mem {W W' : Wd} {H H' : Hp} {D : Addr} (x : ExtD W H D W' H') : D ∈ W'.ex := by rw [x.ex]; exact List.mem_cons_self
theorem ExtD.vol {W W' : Wd} {H H' : Hp} {D : Addr} (x : ExtD W H D W' H') : D ∈ W'.vol := List.mem_append_right _ x.mem
theorem ExtD.start {W : Wd} {H : Hp} {s : Sta} (c : COk W H s) {D : Addr} (n : H D = none) : COk { W with ex := D :: W.ex } (upd H D (.lst [])) s ∧ ExtD W H D { W with ex := D :: W.ex } (upd H D (.lst [])) := by
  have nv := c.fresh n
  have hv : ∀ a, a ∈ ({ W with ex := D :: W.ex } : Wd).vol ↔ a = D ∨ a ∈ W.vol := fun a => by
    unfold Wd.vol
    simp only [List.mem_append, List.mem_cons]
    constructor
    · rintro (h | h | h)
      · exact .inr (.inl h)
      · exact .inl h
      · exact .inr (.inr h)
    · rintro (h | h | h)
      · exact .inr (.inl h)
      · exact .inl h
      · exact .inr (.inr h)
  have kp : ∀ a o, H a = some o → upd H D (.lst []) a = some o := fun a o e => by rw [upd_ne (ne_of_none e n)]; exact e
  have x : ExtD W H D { W with ex := D :: W.ex } (upd H D (.lst [])) :=
    ⟨⟨List.prefix_refl _, fun a o e na => ⟨kp a o e, fun h => ((hv a).mp h).elim (fun z => ne_of_none e n z) na⟩⟩, rfl, fun a _ o e => kp a o e⟩
  refine ⟨⟨c.len, ?_, fun a h => ?_, fun k p ce h1 h2 => ?_⟩, x⟩
  · have h := List.nodup_append.mp c.nd
    refine List.nodup_append.mpr ⟨h.1, List.nodup_cons.mpr ⟨fun m => nv (List.mem_append_right _ m), h.2.1⟩, fun a ha b hb e => ?_⟩
    rcases List.mem_cons.mp hb with z | z
    · exact nv (List.mem_append_left _ (by rw [← z, ← e]; exact ha))
    · exact h.2.2 a ha b z e
  · rcases (hv a).mp h with e | e
    · rw [e]; exact ⟨_, upd_same⟩
    · obtain ⟨o, e⟩ := c.al a e
      exact ⟨o, kp a o e⟩
  · obtain ⟨q, lo⟩ := c.cell k p ce h1 h2
    exact ⟨q.mv x.toExt0 fun a _ o e => kp a o e, lo⟩
theorem ExtD.fin {W W' : Wd} {H H' : Hp} {D : Addr} {s' : Sta} (x : ExtD W H D W' H') (c : COk W' H' s') :
    COk { W' with ex := W.ex } H' s' ∧ Ext W H { W' with ex := W.ex } H' ∧ Ext0 W' H' { W' with ex := W.ex } H' ∧ D ∉ ({ W' with ex := W.ex } : Wd).vol := by
  have hv : W'.vol = (W'.la.flatMap fun p => p.1 :: p.2) ++ D :: W.ex := by unfold Wd.vol; rw [x.ex]
  have sub : ∀ a, a ∈ ({ W' with ex := W.ex } : Wd).vol → a ∈ W'.vol := fun a h => by
    rw [hv]
    rcases List.mem_append.mp h with h | h
    · exact List.mem_append_left _ h
    · exact List.mem_append_right _ (List.mem_cons_of_mem _ h)
  have nd := c.nd
  rw [hv] at nd
  have h := List.nodup_append.mp nd
  have h2 := List.nodup_cons.mp h.2.1
  have y : Ext0 W' H' { W' with ex := W.ex } H' := ⟨List.prefix_refl _, fun a o e n => ⟨e, fun m => n (sub a m)⟩⟩
  refine ⟨⟨c.len, List.nodup_append.mpr ⟨h.1, h2.2, fun a ha b hb => h.2.2 a ha b (List.mem_cons_of_mem _ hb)⟩, fun a ha => c.al a (sub a ha), fun k p ce h1 h2 => ?_⟩, ?_, y, fun m => ?_⟩
  · obtain ⟨q, lo⟩ := c.cell k p ce h1 h2
    exact ⟨q.mv y fun a _ o e => e, lo⟩
  · exact ⟨⟨x.la, fun a o e n => ⟨(x.keep a o e n).1, fun m => (x.keep a o e n).2 (sub a m)⟩⟩, rfl, x.exk⟩
  · rcases List.mem_append.mp m with m | m
    · exact h.2.2 D m D List.mem_cons_self rfl
    · exact h2.1 m
/-- the new list's items -/
theorem COk.setEx {W : Wd} {H : Hp} {s : Sta} (c : COk W H s) {D : Addr} (m : D ∈ W.ex) (o : HO) : COk W (upd H D o) s ∧ Ext0 W H W (upd H D o) := by
  have x0 : Ext0 W H W (upd H D o) := ext0_vol (List.mem_append_right _ m)
  refine ⟨⟨c.len, c.nd, fun a ha => ?_, fun j q ce h1 h2 => ?_⟩, x0⟩
  · by_cases e : a = D
    · rw [e]; exact ⟨_, upd_same⟩
    · rw [upd_ne e]; exact c.al a ha
  · obtain ⟨q1, l1⟩ := c.cell j q ce h1 h2
    refine ⟨q1.mv x0 fun a ha o' e => ?_, l1⟩
    rw [upd_ne (fun z => la_ex c.nd h1 ha (by rw [z]; exact m))]; exact e
theorem ExtD.push {W W' : Wd} {H H' : Hp} {D : Addr} {s s' : Sta} (x : ExtD W H D W' H') (c : COk W' H' s') (n : D ∉ W.ex) (o : HO) : ExtD W H D W' (upd H' D o) :=
  ⟨⟨x.la, fun a u e na => by
    obtain ⟨e1, n1⟩ := x.keep a u e na
    exact ⟨by rw [upd_ne (fun z => n1 (by rw [z]; exact x.vol))]; exact e1, n1⟩⟩, x.ex, fun a ha u e => by rw [upd_ne (fun z => n (by rw [← z]; exact ha))]; exact x.exk a ha u e⟩

section
variable {X : Cx} {Γ : Gm} {F : FT} {XW : WX}
theorem PTs.imp {ifs : List Expr} {t t' : TT} (h : PTs X ifs t) (f : ∀ σ H Q, t' σ H Q → t σ H Q) : PTs X ifs t' := ⟨fun pins s σ H Q I q => h.run pins s σ H Q I (f σ H Q q)⟩
/-- a clause's tests -/
def tIfs (F : FT) (XW : WX) (es : List E) : TT := fun σ H Q => ∃ W ρ s, Ok W H ρ σ s ∧ PostR (fun _ _ (b : Bool) (c : Bool) => b = c) (evIfs F ρ es s) W H ρ σ (fun _ _ b _ H' => Q b H') XW
theorem sifs_nil : PTs X [] (tIfs F XW []) := by
  refine PTs.imp pts_nil fun σ H Q ⟨W, ρ, s, ok, post⟩ => ?_
  rw [evIfs] at post
  exact post true W H (Ext.refl _ _) ok rfl
theorem sifs_one {c : E} {p : Expr} (h : PT X p (tT F XW c)) : PTs X [p] (tIfs F XW [c]) := by
  refine PTs.imp (pts_one h) fun σ H Q ⟨W, ρ, s, ok, post⟩ => ⟨W, ρ, s, ok, ?_⟩
  rw [evIfs] at post
  exact post
theorem lcGo_ok {one : Dt → Sta → Res (Option Dt)} : ∀ {ds : List Dt} {s : Sta}, (∃ r s', lcGo one ds s = .ok r s') ∨ lcGo one ds s = .stuck
  | [], s => .inl ⟨[], s, rfl⟩
  | d :: ds, s => by
    rw [lcGo]
    cases one d s with
    | ok o s1 =>
      rcases lcGo_ok (one := one) (ds := ds) (s := s1) with ⟨r, s', e⟩ | e
      · simp only [e]; exact .inl ⟨_, _, rfl⟩
      · right; simp [e]
    | exc _ _ => right; simp
    | stuck => right; simp
theorem lcGoG_ok {g : Sta → Bool} {one : Dt → Sta → Res (Option Dt)} : ∀ {ds : List Dt} {s : Sta}, (∃ r s', lcGoG g one ds s = .ok r s') ∨ lcGoG g one ds s = .stuck
  | [], s => by
    unfold lcGoG
    split
    · exact .inl ⟨[], s, rfl⟩
    · exact .inr rfl
  | d :: ds, s => by
    rw [lcGoG]
    split
    · cases one d s with
      | ok o s1 =>
        rcases lcGoG_ok (g := g) (one := one) (ds := ds) (s := s1) with ⟨r, s', e⟩ | e
        · simp only [e]; exact .inl ⟨_, _, rfl⟩
        · right; simp [e]
      | exc _ _ => right; simp
      | stuck => right; simp
    · exact .inr rfl
theorem lcGo_g {one : Dt → Sta → Res (Option Dt)} : ∀ (ds : List Dt) (s : Sta), lcGoG (fun _ => true) one ds s = lcGo one ds s
  | [], s => by rw [lcGoG, lcGo, if_pos rfl]
  | d :: ds, s => by
    rw [lcGoG, lcGo, if_pos rfl]
    cases one d s with
    | ok o s1 => simp only [lcGo_g ds s1]
    | exc _ _ => rfl
    | stuck => rfl
abbrev XF : WX := fun _ _ _ _ => False
/-- one item -/
def lcOneE (F : FT) (ρ : Env) (elt : E) (tg : Tg) (own : List Nat) (ifs : List E) : Dt → Sta → Res (Option Dt) := fun d s => match bindTg tg d (wipeE ρ own) with
      | none => Res.stuck
      | some ρ' => match evIfs F ρ' ifs s with
        | .ok true s1 => (evE F ρ' elt s1).bind fun x s2 => .ok (some x) s2
        | .ok false s1 => .ok none s1
        | _ => .stuck
theorem mlc_core {g : Sta → Bool} {elt : E} {tg : Tg} {own : List Nat} {ifs : List E} {K : PySem.W.Frag} {pr : Bool} {J : It} {ds : List Dt} {W1 : Wd} {H1 : Hp} {ρ : Env} {σ : L2.St} {s1 : Sta} {Q : VK} (hpr : pr = true → ∃ is, tg = .tup is) (hown : ∀ i, tg.has i → i ∈ own)
    (ok1 : Ok W1 H1 ρ σ s1) (fd : FeedsG g pr J W1 H1 ds) (k1 : PostR Rep ((lcGoG g (lcOneE F ρ elt tg own ifs) ds s1).bind fun r s => if ds.length < lineM then .ok (.lst r) s else .stuck) W1 H1 ρ σ (fun _ _ v _ H' => Q v H') XW) :
    tLc (fun _ H R => R J H) (tG K tg) (tIfs F XF ifs) (tE F XF elt) own σ H1 Q := by
  intro D hD
  generalize hone : lcOneE F ρ elt tg own ifs = one at k1
  unfold lcOneE at hone
  rcases lcGoG_ok (g := g) (one := one) (ds := ds) (s := s1) with ⟨R, S, eR⟩ | e
  rotate_left
  · simp only [e] at k1; exact k1.elim
  simp only [eR, Res.bind] at k1
  split at k1
  rotate_left
  · exact k1.elim
  rename_i hlen
  obtain ⟨c0, x0⟩ := ExtD.start ok1.c hD
  have nex : D ∉ W1.ex := fun m => ok1.c.fresh hD (List.mem_append_right _ m)
  refine ⟨fun i m H' => m = ds.length - i ∧ i ≤ ds.length ∧ ∃ W' s' acc accd r, ExtD W1 H1 D W' H' ∧ COk W' H' s' ∧ H' D = some (.lst acc) ∧ Reps W' H' acc accd ∧ accd.length ≤ i ∧ lcGoG g one (ds.drop i) s' = .ok r S ∧ accd ++ r = R,
    ⟨ds.length, by omega, Nat.zero_le _, _, s1, [], [], R, x0, c0, upd_same, .nil, Nat.le_refl _, eR, rfl⟩, ?_⟩
  rintro i m H' ⟨rfl, hi, W', s', acc, accd, r, x, c, hacc, racc, hal, er, eR'⟩
  by_cases hg : g s' = true
  rotate_left
  · cases hdr : ds.drop i with
    | nil => rw [hdr, lcGoG, if_neg hg] at er; cases er
    | cons _ _ => rw [hdr, lcGoG, if_neg hg] at er; cases er
  by_cases hlt : i < ds.length
  rotate_left
  · -- the end
    have hi' : i = ds.length := by omega
    subst hi'
    refine .inl ⟨fd.stop _ _ s' _ x.toExt0 c hg (Nat.le_refl _), ?_⟩
    rw [List.drop_length, lcGoG, if_pos hg] at er
    cases er
    obtain ⟨c2, x2, y2, nD⟩ := x.fin c
    rw [List.append_nil] at eR'
    subst eR'
    exact k1 _ _ _ x2 ⟨c2, ok1.e.ext x2.toExt0⟩ (.lst hacc nD (racc.ext y2))
  have hd : ds[i]? = some ds[i] := List.getElem?_eq_getElem hlt
  generalize ds[i] = d at hd
  have hdrop : ds.drop i = d :: ds.drop (i + 1) := by
    rw [List.drop_eq_getElem_cons hlt]
    rw [List.getElem?_eq_getElem hlt] at hd
    cases hd; rfl
  rw [hdrop, lcGoG, if_pos hg] at er
  obtain ⟨go, yl⟩ := fd.item i d W' H' s' x.toExt0 c hg hd
  refine .inr ⟨go, fun H2 => i + 1 ≤ ds.length ∧ ∃ W' s' acc accd r, ExtD W1 H1 D W' H2 ∧ COk W' H2 s' ∧ H2 D = some (.lst acc) ∧ Reps W' H2 acc accd ∧ accd.length ≤ i + 1 ∧ lcGoG g one (ds.drop (i + 1)) s' = .ok r S ∧ accd ++ r = R,
    fun H2 hN => ⟨ds.length - (i + 1), by omega, rfl, hN⟩, fun y H2 hy => ?_⟩
  obtain ⟨same, ri⟩ := yl y H2 hy
  obtain ⟨c2, x2⟩ := c.grow same
  have xx2 := x.trans x2
  -- the item
  have h1 := congrFun (congrFun hone d) s'
  cases ho : one d s' with
  | exc _ _ => simp only [ho] at er; cases er
  | stuck => simp only [ho] at er; cases er
  | ok o s5 =>
    simp only [ho] at er
    rcases lcGoG_ok (g := g) (one := one) (ds := ds.drop (i + 1)) (s := s5) with ⟨r', S', er'⟩ | er'
    rotate_left
    · simp only [er'] at er; cases er
    simp only [er'] at er
    cases er
    rw [ho] at h1
    cases hb : bindTg tg d (wipeE ρ own) with
    | none => simp only [hb] at h1; cases h1
    | some ρ' =>
      simp only [hb] at h1
      have eo : EOk W' H2 (wipeE ρ own) (wipe σ own) := ((ok1.e.ext xx2.toExt0)).wiped own
      refine tG_ok hpr eo ri hb fun σ2 eo2 hw => ?_
      refine ⟨by rw [hw own hown, wipe_wipe], ?_⟩
      refine ⟨W', ρ', s', ⟨c2, eo2⟩, ?_⟩
      cases hif : evIfs F ρ' ifs s' with
      | exc _ _ => simp only [hif] at h1; cases h1
      | stuck => simp only [hif] at h1; cases h1
      | ok b s3 =>
        intro b' W3 H3 e3 ok3 eb
        subst eb
        cases b' with
        | false =>
          simp only [hif] at h1
          cases h1
          rw [if_neg Bool.false_ne_true]
          have xx3 := xx2.trans e3
          have xx := (x2.trans e3)
          exact ⟨hlt, W3, s5, acc, accd, _, xx3, ok3.c, xx.exk D x.mem _ hacc, racc.ext xx.toExt0, by omega, er', eR'⟩
        | true =>
          simp only [hif] at h1
          rw [if_pos rfl]
          refine ⟨W3, ρ', s3, ok3, ?_⟩
          cases hel : evE F ρ' elt s3 with
          | exc _ _ => simp only [hel, Res.bind] at h1; cases h1
          | stuck => simp only [hel, Res.bind] at h1; cases h1
          | ok z s4 =>
            intro v W4 H4 e4 ok4 rz
            simp only [hel, Res.bind] at h1
            cases h1
            have xx := (x2.trans e3).trans e4
            have xx4 := (xx2.trans e3).trans e4
            have hacc4 := xx.exk D x.mem _ hacc
            obtain ⟨c5, x5⟩ := ok4.c.setEx xx4.mem (.lst (acc ++ [v]))
            refine ⟨acc, hacc4, ?_, hlt, W4, s5, acc ++ [v], accd ++ [z], _, xx4.push (s := s1) ok4.c nex _, c5, upd_same, ((racc.ext xx.toExt0).append (.cons rz .nil)).ext x5, by simp; omega, er', by rw [List.append_assoc]; exact eR'⟩
            rw [racc.length, ← line_eq]
            exact Nat.lt_of_le_of_lt hal (Nat.lt_trans hlt hlen)
theorem s_lc {elt : E} {tg : Tg} {it : I} {own : List Nat} {ifs : List E} {K : PySem.W.Frag} {pr : Bool} (hpr : pr = true → ∃ is, tg = .tup is) (hown : ∀ i, tg.has i → i ∈ own) :
    ∀ σ H Q, tE F XW (.lc elt tg it own ifs) σ H Q → tLc (tI pr F XW it) (tG K tg) (tIfs F XF ifs) (tE F XF elt) own σ H Q := by
  intro σ H Q ⟨W, ρ, s, ok, post⟩
  rw [evE] at post
  refine ⟨W, ρ, s, ok, (post.bind (rel := fun W H J ds => Feeds pr J W H ds)).imp fun ds s1 J W1 H1 e1 ok1 fd k1 => ?_⟩
  refine mlc_core (XW := XW) (ρ := ρ) (s1 := s1) hpr hown ok1 fd.g ?_
  rw [lcGo_g]
  exact k1
/-- over a cell -/
def tIC (i : Nat) (K : PySem.W.Frag) : TI := fun σ H R => ∃ v, σ[i]? = some (some v) ∧ ∃ a xs, v = .ref a ∧ SqL K H a xs ∧ R (Itl K a) H
theorem s_lcC {elt : E} {tg : Tg} {x : Nat} {own : List Nat} {ifs : List E} {K : PySem.W.Frag} {pr : Bool} (hpr : pr = true → ∃ is, tg = .tup is) (hown : ∀ i, tg.has i → i ∈ own) :
    ∀ σ H Q, tE F XW (.lcC elt tg x own ifs) σ H Q → tLc (tIC x K) (tG K tg) (tIfs F XF ifs) (tE F XF elt) own σ H Q := by
  intro σ H Q ⟨W, ρ, s, ok, post⟩
  rw [evE] at post
  cases hc : cellOf ρ s x with
  | none => simp only [hc] at post; exact post.elim
  | some q =>
    obtain ⟨k, ds⟩ := q
    simp only [hc] at post
    obtain ⟨c1, c2⟩ := cellOf_eq hc
    obtain ⟨v, hv, rv⟩ := ok.e.2 x _ c1
    obtain ⟨p, xs, hp, rfl, ha, ra⟩ := rowed ok.c rv c2
    exact ⟨_, hv, p.1, xs, rfl, SqL.of ha, mlc_core (XW := XW) (ρ := ρ) (s1 := s) (J := Itl K p.1) hpr hown ok (feeds_cell hp) post⟩
theorem pi_cell (h : CO X Γ F XW) {i : Nat} {x : Str} {pos : Pos} {tg : Expr} (hx : Γ.var i x = true) : PI X tg (.Name x pos) (tIC i X.K) := by
  unfold Gm.var at hx
  simp only [Bool.and_eq_true, decide_eq_true_eq, Bool.not_eq_true'] at hx
  refine PI.imp (pi_any (pe_var (pos := pos) (by rw [h.N]; exact hx.1.1.1) (h.vs hx.1.1.2) hx.1.2 hx.2)) fun σ H R ⟨v, hv, a, xs, e, hq, q⟩ => ?_
  exact ⟨v, hv, .inl ⟨a, e, ⟨xs, hq⟩, q⟩⟩
end
end MP
/-! MP11: every term that matches does what our term comes to. -/
namespace MP
open PySem L2 PyProof.Rows RZ
variable [Glob]
def isBop : Expr → Bool
  | .BoolOp _ _ _ => true
  | _ => false
def M1 (F : FT) (Γ : Gm) (e : E) (p : Expr) : Prop := ∀ (X : Cx) (XW : WX), CO X Γ F XW → mE Γ e p = true → PE X p (tE F XW e) ∧ (e.tst = true → PT X p (tT F XW e)) ∧ (e.tst = true → isBop p = true → PW X p (tT F XW e))
def M2 (F : FT) (Γ : Gm) (tt : Bool) (it : I) (q : Expr) : Prop := ∀ (X : Cx) (XW : WX) (tg : Expr), CO X Γ F XW → mI Γ tt it q = true → (tt = true → ∃ es k pos, tg = .Tuple es k pos) → PI X tg q (tI tt F XW it)
def M3 (F : FT) (Γ : Gm) (es : List E) (ps : List Expr) : Prop := ∀ (X : Cx) (XW : WX), CO X Γ F XW → mEs Γ es ps = true → PA X ps (tEs F XW es) ∧ (es.all E.tst = true → es.length ≤ 1 → PTs X ps (tIfs F XW es))
section
variable {F : FT}
/-- a term that is neither and, or nor not, comparison, conditional: its test is its value's -/
theorem pln {X : Cx} (hK : X.K = Glob.K) {XW : WX} {e : E} {p : Expr} (h : PE X p (tE F XW e)) (nb : isBop p = false) (he : ∀ whole, isTrue p X.env whole = (do let v ← whole; standAt p.pos; holding [v] (truthy v))) :
    PE X p (tE F XW e) ∧ (e.tst = true → PT X p (tT F XW e)) ∧ (e.tst = true → isBop p = true → PW X p (tT F XW e)) :=
  ⟨h, fun _ => t_of hK h he, fun _ z => by rw [nb] at z; cases z⟩
theorem cmpd {X : Cx} {XW : WX} {e : E} {a : Expr} {ops bs pos} {t : TE} (h : PE X (.Compare a ops bs pos) (tE F XW e)) (ht : PT X (.Compare a ops bs pos) (tB t)) (hp : ∀ σ H Q, tE F XW e σ H Q → t σ H Q) (hb : ∀ ρ s, ∀ d s', evE F ρ e s = .ok d s' → ∃ b, d = .bl b) :
    PE X (.Compare a ops bs pos) (tE F XW e) ∧ (e.tst = true → PT X (.Compare a ops bs pos) (tT F XW e)) ∧ (e.tst = true → isBop (.Compare a ops bs pos) = true → PW X (.Compare a ops bs pos) (tT F XW e)) :=
  ⟨h, fun _ => t_bool ht hp hb, fun _ z => by cases z⟩
theorem tgOk_go {X : Cx} {scope : Scope} {s : Shared} {H : Hp} {C : Addr} {cl : List (Str × Addr)} {fp : List Addr} : ∀ {es : List Expr}, tgOk.go scope es = true → ∀ x pos, Expr.Name x pos ∈ es → (X.blk s H scope (compEnvC scope cl C X.env) fp).fn x = true ∨ (X.blk s H scope (compEnvC scope cl C X.env) fp).env.scope.names.lookup x = some .local
  | [], _, _, _, m => by simp at m
  | e :: es, h, x, pos, m => by
    cases e <;> (try (simp [tgOk.go] at h; done))
    rename_i y pos'
    simp only [tgOk.go, Bool.and_eq_true] at h
    rcases List.mem_cons.mp m with z | z
    · cases z
      have h1 := h.1
      split at h1
      · rename_i q; exact .inr (lookup_relS_keep (by decide) q)
      · rename_i q; exact .inl (by show (scope.names.lookup x == some NameKind.cell) = true; rw [q]; rfl)
      · cases h1
    · exact tgOk_go h.2 x pos z
theorem tgOk_ok {X : Cx} {scope : Scope} {s : Shared} {H : Hp} {C : Addr} {cl : List (Str × Addr)} {fp : List Addr} {t : Expr} (h : tgOk scope t = true) : ∀ x pos, Expr.Name x pos ∈ tgNames t → (X.blk s H scope (compEnvC scope cl C X.env) fp).fn x = true ∨ (X.blk s H scope (compEnvC scope cl C X.env) fp).env.scope.names.lookup x = some .local := by
  cases t <;> (try (simp [tgOk] at h; done))
  · rename_i y p
    intro x pos m
    have z := List.mem_singleton.mp m
    cases z
    simp only [tgOk] at h
    split at h
    · rename_i q; exact .inr (lookup_relS_keep (by decide) q)
    · rename_i q; exact .inl (by show (scope.names.lookup _ == some NameKind.cell) = true; rw [q]; rfl)
    · cases h
  · rename_i es k pos
    simp only [tgOk] at h
    exact tgOk_go h
theorem setOk {e : Expr} {env : PySem.Env} (h : notSet e = true) : ∀ x, foldedSetIterable e env x = pure x := by
  intro x
  cases e <;> first | rfl | cases h
theorem plainIx {q : Expr} (h : (match q with | .Slice _ _ _ _ => false | _ => true) = true) : PlainIx q := by
  intro o i
  cases q <;> first | rfl | cases h
theorem sAll (F : FT) : ∀ (Γ : Gm) (e : E) (p : Expr), M1 F Γ e p := by
  apply mE.induct (M1 F) (M2 F) (M3 F)
  case case1 =>
    intro Γ i x pos X XW h m
    simp only [mE, Bool.and_eq_true, decide_eq_true_eq, Bool.not_eq_true'] at m
    exact pln h.K (s_var h m.1.1.1 m.1.1.2 m.1.2 m.2) rfl fun _ => rfl
  case case2 => exact fun Γ k pos X XW h m => pln h.K (s_cst pe_non (fun _ _ => by rw [evE]) fun _ _ => .non) rfl fun _ => rfl
  case case3 =>
    intro Γ b c k pos X XW h m
    simp only [mE, decide_eq_true_eq] at m
    subst m
    exact pln h.K (s_cst pe_bl (fun _ _ => by rw [evE]) fun _ _ => .bl _) rfl fun _ => rfl
  case case4 =>
    intro Γ b c k pos X XW h m
    simp only [mE, decide_eq_true_eq] at m
    subst m
    exact pln h.K (s_cst pe_int (fun _ _ => by rw [evE]) fun _ _ => .int _) rfl fun _ => rfl
  case case5 =>
    intro Γ b c k pos pos' X XW h m
    simp only [mE, decide_eq_true_eq] at m
    subst m
    exact pln h.K s_neg rfl fun _ => rfl
  case case6 =>
    intro Γ b c k pos X XW h m
    simp only [mE, decide_eq_true_eq] at m
    subst m
    exact pln h.K (s_cst pe_str (fun _ _ => by rw [evE]) fun _ _ => .str _) rfl fun _ => rfl
  case case7 =>
    intro Γ es ps k pos ih X XW h m
    simp only [mE] at m
    exact pln h.K (s_tup (ih X XW h m).1) rfl fun _ => rfl
  case case8 =>
    intro Γ es ps pos ih X XW h m
    simp only [mE] at m
    exact pln h.K (s_lst (ih X XW h m).1) rfl fun _ => rfl
  case case9 =>
    intro Γ es ps pos ih X XW h m
    simp only [mE] at m
    exact pln h.K (s_mlst (ih X XW h m).1) rfl fun _ => rfl
  case case10 =>
    intro Γ es k ps p1 q p2 ih ih2 X XW h m
    simp only [mE, Bool.and_eq_true] at m
    exact pln h.K (s_mrep (ih X XW h m.1).1 (ih2 X XW h m.2).1) rfl fun _ => rfl
  case case11 =>
    intro Γ op a b p o q pos ih ih2 X XW h m
    simp only [mE, Bool.and_eq_true] at m
    have e := mOp_eq m.1.1
    subst e
    exact pln h.K (s_bin (ih X XW h m.1.2).1 (ih2 X XW h m.2).1) rfl fun _ => rfl
  case case12 =>
    intro Γ op a b p o q pos ih ih2 X XW h m
    simp only [mE, Bool.and_eq_true, Bool.not_eq_true'] at m
    have e := mCop_eq m.1.1.1
    subst e
    have ha := (ih X XW h m.1.1.2).1
    have hb := (ih2 X XW h m.1.2).1
    exact cmpd (s_cmp h ha hb m.2) (pt_cmpR (op_cmp' (by have := h.hu; omega) op) ha hb m.2) i_cmp fun _ _ _ _ => b_cmp
  case case13 =>
    intro Γ op op' a b c p o o' q r pos ih ih2 ih3 X XW h m
    simp only [mE, Bool.and_eq_true, Bool.not_eq_true'] at m
    have e := mCop_eq m.1.1.1.1.1
    have e' := mCop_eq m.1.1.1.1.2
    subst e e'
    have ha := (ih X XW h m.1.1.1.2).1
    have hb := (ih2 X XW h m.1.1.2).1
    have hc := (ih3 X XW h m.1.2).1
    exact cmpd (s_cmp2 h ha hb hc m.2) (pt_chain (op_cmp' (by have := h.hu; omega) op) (op_cmp' (by have := h.hu; omega) op') ha hb hc m.2) i_cmp2 fun _ _ _ _ => b_cmp2
  case case14 =>
    intro Γ a p k p1 p2 ih X XW h m
    simp only [mE] at m
    have ha := (ih X XW h m).1
    exact cmpd (s_isNon ha) (pt_cmp (pc_isN ha)) i_isNon fun _ _ _ _ e => b_un (f := fun x => x.isNon) (by rw [evE] at e; exact e)
  case case15 =>
    intro Γ a p k p1 p2 ih X XW h m
    simp only [mE] at m
    have ha := (ih X XW h m).1
    exact cmpd (s_notNon ha) (pt_cmp (pc_notN ha)) i_notNon fun _ _ _ _ e => b_un (f := fun x => !x.isNon) (by rw [evE] at e; exact e)
  case case16 =>
    intro Γ b a p c k p1 p2 ih X XW h m
    simp only [mE, Bool.and_eq_true, decide_eq_true_eq] at m
    obtain ⟨e, m⟩ := m
    subst e
    have ha := (ih X XW h m).1
    exact cmpd (s_isBl ha) (pt_cmpR (op_isB b) ha pe_bl (nomark _)) i_isBl fun _ _ _ _ e => b_un (f := fun x => x.isBl b) (by rw [evE] at e; exact e)
  case case17 =>
    intro Γ b a p c k p1 p2 ih X XW h m
    simp only [mE, Bool.and_eq_true, decide_eq_true_eq] at m
    obtain ⟨e, m⟩ := m
    subst e
    have ha := (ih X XW h m).1
    exact cmpd (s_notBl ha) (pt_cmpR (op_notB b) ha pe_bl (nomark _)) i_notBl fun _ _ _ _ e => b_un (f := fun x => !x.isBl b) (by rw [evE] at e; exact e)
  case case18 =>
    intro Γ a b p q r pos ih ih2 X XW h m
    simp only [mE, Bool.and_eq_true] at m
    obtain ⟨ha, ta, _⟩ := ih X XW h m.1
    obtain ⟨hb, tb, wb⟩ := ih2 X XW h m.2
    cases r with
    | nil =>
      have w : (E.and a b).tst = true → PW X (.BoolOp .And [p, q] pos) (tT F XW (.and a b)) := fun z => by
        simp only [E.tst, Bool.and_eq_true] at z
        exact tw_and (ta z.1) (pw_and1 (tb z.2))
      exact ⟨s_and h.K ha (pe_one hb), fun z => (w z).pt, fun z _ => w z⟩
    | cons r1 r2 =>
      have w : (E.and a b).tst = true → PW X (.BoolOp .And (p :: q :: r1 :: r2) pos) (tT F XW (.and a b)) := fun z => by
        simp only [E.tst, Bool.and_eq_true] at z
        exact tw_and (ta z.1) (wb z.2 rfl)
      exact ⟨s_and h.K ha hb, fun z => (w z).pt, fun z _ => w z⟩
  case case19 =>
    intro Γ a b p q r pos ih ih2 X XW h m
    simp only [mE, Bool.and_eq_true] at m
    obtain ⟨ha, ta, _⟩ := ih X XW h m.1
    obtain ⟨hb, tb, wb⟩ := ih2 X XW h m.2
    cases r with
    | nil =>
      have w : (E.or a b).tst = true → PW X (.BoolOp .Or [p, q] pos) (tT F XW (.or a b)) := fun z => by
        simp only [E.tst, Bool.and_eq_true] at z
        exact tw_or (ta z.1) (pw_or1 (tb z.2))
      exact ⟨s_or h.K ha (pe_one hb), fun z => (w z).pt, fun z _ => w z⟩
    | cons r1 r2 =>
      have w : (E.or a b).tst = true → PW X (.BoolOp .Or (p :: q :: r1 :: r2) pos) (tT F XW (.or a b)) := fun z => by
        simp only [E.tst, Bool.and_eq_true] at z
        exact tw_or (ta z.1) (wb z.2 rfl)
      exact ⟨s_or h.K ha hb, fun z => (w z).pt, fun z _ => w z⟩
  case case20 =>
    intro Γ a p pos ih X XW h m
    simp only [mE] at m
    obtain ⟨ha, ta, _⟩ := ih X XW h m
    exact ⟨s_not h.K ha, fun z => tt_not (ta (by simpa only [E.tst] using z)), fun _ z => by cases z⟩
  case case21 =>
    intro Γ c a b r p q pos ih1 ih2 ih3 X XW h m
    simp only [mE, Bool.and_eq_true] at m
    exact ⟨s_ite ((ih1 X XW h m.1.1.1).2.1 m.1.1.2) (ih2 X XW h m.1.2).1 (ih3 X XW h m.2).1, fun z => by simp [E.tst] at z, fun _ z => by cases z⟩
  case case22 =>
    intro Γ a i p q pos ih ih2 X XW h m
    simp only [mE, Bool.and_eq_true] at m
    exact pln h.K (s_ix h.K (ih X XW h m.1.1).1 (ih2 X XW h m.1.2).1 (plainIx m.2)) rfl fun _ => rfl
  case case23 =>
    intro Γ a i p q p1 p2 ih ih2 X XW h m
    simp only [mE, Bool.and_eq_true] at m
    exact pln h.K (s_slHi (ih X XW h m.1).1 (ih2 X XW h m.2).1) rfl fun _ => rfl
  case case24 =>
    intro Γ a i p q p1 p2 ih ih2 X XW h m
    simp only [mE, Bool.and_eq_true] at m
    exact pln h.K (s_slLo (ih X XW h m.1).1 (ih2 X XW h m.2).1) rfl fun _ => rfl
  case case25 =>
    intro Γ a i j p q r p1 p2 ih ih2 ih3 X XW h m
    simp only [mE, Bool.and_eq_true] at m
    exact pln h.K (s_slLH (ih X XW h m.1.1).1 (ih2 X XW h m.1.2).1 (ih3 X XW h m.2).1) rfl fun _ => rfl
  case case26 =>
    intro Γ f es x p1 ps p2 ih X XW h m
    simp only [mE, Bool.and_eq_true, decide_eq_true_eq, Bool.not_eq_true'] at m
    obtain ⟨⟨⟨⟨⟨m1, mlt⟩, m2⟩, m3⟩, m4⟩, m5⟩ := m
    cases es with
    | nil => cases m4
    | cons e es =>
      cases ps with
      | nil => simp [mEs] at m5
      | cons p ps =>
        have z := m5
        simp only [mEs, Bool.and_eq_true] at z
        exact pln h.K (s_call h m1 mlt m2 m3 (mE_ns z.1) (mEs_star z.2) (ih X XW h m5).1) rfl fun _ => rfl
  case case27 =>
    intro Γ b es x p1 ps p2 ih X XW h m
    simp only [mE, Bool.and_eq_true, decide_eq_true_eq, Bool.not_eq_true'] at m
    obtain ⟨⟨⟨m1, m2⟩, m4⟩, m5⟩ := m
    subst m1
    cases es with
    | nil => cases m4
    | cons e es =>
      cases ps with
      | nil => simp [mEs] at m5
      | cons p ps =>
        have z := m5
        simp only [mEs, Bool.and_eq_true] at z
        exact pln h.K (s_blt h m2 (mE_ns z.1) (mEs_star z.2) (ih X XW h m5).1) rfl fun _ => rfl
  case case28 =>
    intro Γ t a x p1 p y p2 p3 ih X XW h m
    simp only [mE, Bool.and_eq_true, decide_eq_true_eq] at m
    obtain ⟨⟨⟨⟨m1, m2⟩, m3⟩, m4⟩, m5⟩ := m
    subst m1 m3
    exact pln h.K (s_isi h m2 m4 (mE_ns m5) (ih X XW h m5).1) rfl fun _ => rfl
  case case29 =>
    intro Γ mt o es p x apos ps cpos ih ih2 X XW h m
    simp only [mE, Bool.and_eq_true, decide_eq_true_eq, Bool.not_eq_true'] at m
    obtain ⟨⟨⟨⟨⟨m1, m2⟩, m4⟩, m5⟩, m6⟩, m7⟩ := m
    subst m1
    cases es with
    | nil => cases m4
    | cons e es =>
      cases ps with
      | nil => simp [mEs] at m5
      | cons q ps =>
        have z := m5
        simp only [mEs, Bool.and_eq_true] at z
        exact pln h.K (s_mth h m2 m6 m7 (mE_ns z.1) (mEs_star z.2) (mEs_all m5) (ih X XW h m2).1 (ih2 X XW h m5).1) rfl fun _ => rfl
  case case30 =>
    intro Γ b x p1 y p2 q p3 p4 ih X XW h m
    simp only [mE, Bool.and_eq_true, decide_eq_true_eq] at m
    obtain ⟨⟨⟨⟨m1, m2⟩, m3⟩, m4⟩, m5⟩ := m
    subst m1 m3
    exact pln h.K (s_lrng1 h m2 m4 (mE_ns m5) (ih X XW h m5).1) rfl fun _ => rfl
  case case31 =>
    intro Γ a b x p1 y p2 p q p3 p4 ih ih2 X XW h m
    simp only [mE, Bool.and_eq_true, decide_eq_true_eq] at m
    obtain ⟨⟨⟨⟨⟨m1, m2⟩, m3⟩, m4⟩, m5⟩, m6⟩ := m
    subst m1 m3
    exact pln h.K (s_lrng h m2 m4 (mE_ns m5) (mE_ns m6) (ih X XW h m5).1 (ih2 X XW h m6).1) rfl fun _ => rfl
  case case32 =>
    intro Γ a b x p1 y p2 p q p3 p4 ih ih2 X XW h m
    simp only [mE, Bool.and_eq_true, decide_eq_true_eq] at m
    obtain ⟨⟨⟨⟨⟨m1, m2⟩, m3⟩, m4⟩, m5⟩, m6⟩ := m
    subst m1 m3
    exact pln h.K (s_trng h m2 m4 (mE_ns m5) (mE_ns m6) (ih X XW h m5).1 (ih2 X XW h m6).1) rfl fun _ => rfl
  case case33 =>
    intro Γ x e p n apos q cpos ih ih2 X XW h m
    simp only [mE, Bool.and_eq_true, decide_eq_true_eq] at m
    obtain ⟨⟨⟨m1, m2⟩, m3⟩, m4⟩ := m
    subst m1
    exact pln h.K (s_app m2 m4 (mE_ns m3) (ih X XW h m2).1 (ih2 X XW h m3).1) rfl fun _ => rfl
  case case34 =>
    intro Γ x e p n apos q cpos ih ih2 X XW h m
    simp only [mE, Bool.and_eq_true, decide_eq_true_eq] at m
    obtain ⟨⟨⟨m1, m2⟩, m3⟩, m4⟩ := m
    subst m1
    exact pln h.K (s_ext m2 m4 (mE_ns m3) (ih X XW h m2).1 (ih2 X XW h m3).1) rfl fun _ => rfl
  case case35 =>
    intro Γ x p n apos cpos ih X XW h m
    simp only [mE, Bool.and_eq_true, decide_eq_true_eq] at m
    obtain ⟨⟨m1, m2⟩, m3⟩ := m
    subst m1
    exact pln h.K (s_pop m2 m3 (ih X XW h m2).1) rfl fun _ => rfl
  case case36 =>
    intro Γ elt tg it own ifs p gs scope pos t q cs hg ih1 ih2 ih3 X XW h m
    simp only [mE, hg, Bool.and_eq_true, decide_eq_true_eq] at m
    obtain ⟨⟨⟨⟨⟨⟨⟨⟨⟨⟨m1, m2⟩, m3⟩, m4⟩, m5⟩, m6⟩, m7⟩, m8⟩, m9⟩, m10⟩, m11⟩ := m
    have eg := oneComp_eq hg
    subst eg
    have bo : BlkOk X.N X.env.scope scope (ownOf Γ own) := by rw [h.N, h.sc]; exact blkOk_by m2
    have ptt : isTupTg t = true → ∃ is, tg = .tup is := fun z => by
      cases t <;> (try (cases z; done))
      cases tg with
      | nm i => simp [mTg] at m5
      | tup is => exact ⟨is, rfl⟩
    have ptt2 : isTupTg t = true → ∃ es k pos, t = .Tuple es k pos := fun z => by
      cases t <;> first | exact ⟨_, _, _, rfl⟩ | cases z
    have hown : ∀ i, tg.has i → i ∈ own := fun i z => by
      cases tg with
      | nm j => simp only [decide_eq_true_eq] at m7; cases z; exact m7
      | tup is => simp only [List.all_eq_true, decide_eq_true_eq] at m7; exact m7 i z
    have main := pe_lc (pos := pos) (g := tG X.K tg) (te := tE F XF elt) (tt := tIfs F XF ifs) h.calm h.nd (ih1 X XW t h m4 ptt2) bo
      (fun s H C cl fp => pg_of (h.blk s H scope C cl fp) m5 (tgOk_ok m6))
      (fun s H C cl fp => (ih2 _ _ (h.blk s H scope C cl fp) m8).2 m9 m10)
      (fun s H C cl fp => (ih3 _ _ (h.blk s H scope C cl fp) m11).1) (setOk m3)
    rw [m1] at main
    exact pln h.K (PE.imp main (s_lc ptt hown)) rfl fun _ => rfl
  case case37 =>
    intro Γ elt tg it own ifs p gs scope pos hg X XW h m
    simp [mE, hg] at m
  case case38 =>
    intro Γ a p k p1 p2 p3 pos ih X XW h m
    simp only [mE] at m
    exact pln h.K (s_rev (ih X XW h m).1) rfl fun _ => rfl
  case case39 =>
    intro Γ a x p1 y p2 p q1 q2 ih X XW h m
    simp only [mE, Bool.and_eq_true, decide_eq_true_eq] at m
    obtain ⟨⟨⟨⟨m1, m2⟩, m3⟩, m4⟩, m5⟩ := m
    subst m1 m3
    exact pln h.K (s_lenSet h m2 m4 (mE_ns m5) (ih X XW h m5).1) rfl fun _ => rfl
  case case40 =>
    intro Γ a x p1 y p2 p q1 q2 ih X XW h m
    simp only [mE, Bool.and_eq_true, decide_eq_true_eq] at m
    obtain ⟨⟨⟨⟨m1, m2⟩, m3⟩, m4⟩, m5⟩ := m
    subst m1 m3
    exact pln h.K (s_sortSet h m2 m4 (mE_ns m5) (ih X XW h m5).1) rfl fun _ => rfl
  case case41 =>
    intro Γ elt tg i own ifs p gs scope pos t x px cs hg ih1 ih2 X XW h m
    simp only [mE, hg, Bool.and_eq_true, decide_eq_true_eq] at m
    obtain ⟨⟨⟨⟨⟨⟨⟨⟨⟨m1, m2⟩, m3⟩, m5⟩, m6⟩, m7⟩, m8⟩, m9⟩, m10⟩, m11⟩ := m
    have eg := oneNm_eq hg
    subst eg
    have bo : BlkOk X.N X.env.scope scope (ownOf Γ own) := by rw [h.N, h.sc]; exact blkOk_by m2
    have ptt : isTupTg t = true → ∃ is, tg = .tup is := fun z => by
      cases t <;> (try (cases z; done))
      cases tg with
      | nm i => simp [mTg] at m5
      | tup is => exact ⟨is, rfl⟩
    have hown : ∀ i, tg.has i → i ∈ own := fun i z => by
      cases tg with
      | nm j => simp only [decide_eq_true_eq] at m7; cases z; exact m7
      | tup is => simp only [List.all_eq_true, decide_eq_true_eq] at m7; exact m7 i z
    have main := pe_lc (pos := pos) (g := tG X.K tg) (te := tE F XF elt) (tt := tIfs F XF ifs) h.calm h.nd (pi_cell h m3 (pos := px) (tg := t)) bo
      (fun s H C cl fp => pg_of (h.blk s H scope C cl fp) m5 (tgOk_ok m6))
      (fun s H C cl fp => (ih1 _ _ (h.blk s H scope C cl fp) m8).2 m9 m10)
      (fun s H C cl fp => (ih2 _ _ (h.blk s H scope C cl fp) m11).1) (fun _ => rfl)
    rw [m1] at main
    exact pln h.K (PE.imp main (s_lcC (pr := isTupTg t) ptt hown)) rfl fun _ => rfl
  case case42 =>
    intro Γ elt tg i own ifs p gs scope pos hg X XW h m
    simp [mE, hg] at m
  case case43 =>
    intros
    intro X XW h m
    rw [mE] at m
    all_goals first | cases m | assumption
  case case44 =>
    intro Γ tt a x p1 p p2 ih X XW tg h m ht
    simp only [mI, Bool.and_eq_true, decide_eq_true_eq] at m
    obtain ⟨⟨m1, m2⟩, m3⟩ := m
    subst m1
    exact si_rng1 h m2 (mE_ns m3) (ih X XW h m3).1
  case case45 =>
    intro Γ tt a b x p1 p q p2 ih ih2 X XW tg h m ht
    simp only [mI, Bool.and_eq_true, decide_eq_true_eq] at m
    obtain ⟨⟨⟨m1, m2⟩, m3⟩, m4⟩ := m
    subst m1
    exact si_rng2 h m2 (mE_ns m3) (mE_ns m4) (ih X XW h m3).1 (ih2 X XW h m4).1
  case case46 =>
    intro Γ tt a x p1 p p2 ih X XW tg h m ht
    simp only [mI, Bool.and_eq_true, decide_eq_true_eq] at m
    obtain ⟨⟨⟨m1, m2⟩, m3⟩, m4⟩ := m
    subst m1 m3
    obtain ⟨es, k, pos, e⟩ := ht rfl
    subst e
    exact si_enum h m2 (mE_ns m4) (ih X XW h m4).1
  case case47 =>
    intro Γ tt a b x p1 p q p2 ih ih2 X XW tg h m ht
    simp only [mI, Bool.and_eq_true, decide_eq_true_eq] at m
    obtain ⟨⟨⟨⟨m1, m2⟩, m3⟩, m4⟩, m5⟩ := m
    subst m1 m3
    obtain ⟨es, k, pos, e⟩ := ht rfl
    subst e
    exact si_zip h m2 (mE_ns m4) (mE_ns m5) (ih X XW h m4).1 (ih2 X XW h m5).1
  case case48 =>
    intro Γ tt a p ih X XW tg h m ht
    simp only [mI] at m
    exact si_e (ih X XW h m).1
  case case49 =>
    intros
    intro X XW tg h m ht
    rw [mI] at m
    all_goals first | cases m | assumption
  case case50 => exact fun Γ X XW h m => ⟨s_nil, fun _ _ => sifs_nil⟩
  case case51 =>
    intro Γ e es p ps ih ih2 X XW h m
    simp only [mEs, Bool.and_eq_true] at m
    obtain ⟨ha, ta, _⟩ := ih X XW h m.1
    refine ⟨s_cons (mE_ns m.1) ha (ih2 X XW h m.2).1, fun z l => ?_⟩
    cases es with
    | cons _ _ => simp at l
    | nil =>
      cases ps with
      | cons _ _ => simp [mEs] at m
      | nil =>
        simp only [List.all_cons, List.all_nil, Bool.and_true] at z
        exact sifs_one (ta z)
  case case52 =>
    intros
    intro X XW h m
    rw [mEs] at m
    all_goals first | cases m | assumption
end
end MP
/-! MP12: statements. -/
namespace MP
open PySem L2 PyProof.Rows RZ
variable [Glob]
/-! ### matching -/
def isFun (sc : Scope) : Bool := match sc.kind with
  | .function => true
  | _ => false
theorem isFun_eq {sc : Scope} (h : isFun sc = true) : sc.kind = .function := by
  unfold isFun at h
  split at h
  · assumption
  · cases h
/-- no comprehension -/
def noComp : Expr → Bool
  | .ListComp _ _ _ _ => false
  | .SetComp _ _ _ _ => false
  | .DictComp _ _ _ _ _ => false
  | _ => true
/-- name = value: how the value goes to the name: 0 plainly, 1 from within a comprehension -/
def setWay (sc : Scope) (x : Str) (px : Pos) : Expr → Option Nat
  | .ListComp _ _ scope pos => if decide (sc.names.lookup x = some .cell) then some 0
    else if decide (sc.names.lookup x = some .local) && isFun sc && (px.line == pos.line) && !(scope.names.any fun (n, k) => n == x && (k == .local || k == .cell)) then some 1 else none
  | .SetComp _ _ _ _ => none
  | .DictComp _ _ _ _ _ => none
  | _ => some 0
def parNames (sc : Scope) (ts : List Expr) : List Str := ts.filterMap fun | .Name id pos => if sc.names.lookup id == some .local && pos.line == ((ts.head?.map (·.pos.line)).getD 0) then some id else none | _ => none
/-- no swapped stores -/
def swNone (sc : Scope) (ts : List Expr) : Expr → Bool
  | .Tuple vs _ _ => !(ts.length == 2 || ts.length == 3) || vs.length != ts.length || vs.all (foldedForSure 8) ||
      (parNames sc ts).length != ts.length
  | _ => true
/-- swapped stores -/
def swSome (sc : Scope) (ts vs : List Expr) (xs : List Str) : Bool :=
  (ts.length == 2 || ts.length == 3) && vs.length == ts.length && isFun sc && vs.all notStar &&
    decide ((parNames sc ts) = xs) &&
    xs.length == ts.length && xs.eraseDups.length == xs.length && !(vs.all (foldedForSure 8)) && !(vs.all (constantsAlone 8))
/-- a comprehension over a cell goes to its name plainly -/
def wayOk (e : E) (o : Option Nat) : Bool := match e with
  | .lcC _ _ _ _ _ => decide (o = some 0)
  | _ => o.isSome
mutual
/-- terms that a clause's suite may hold -/
def E.cold : E → Bool
  | .var _ => true
  | .non => true
  | .bl _ => true
  | .int _ => true
  | .str _ => true
  | .tup es => E.colds es
  | _ => false
def E.colds : List E → Bool
  | [] => true
  | e :: es => E.cold e && E.colds es
end
def mCold (Γ : Gm) : S → Stmt → Bool
  | .set i e, .Assign [.Name x _] p _ => decide (Γ.N[i]? = some x) && Γ.loc x && e.cold && mE Γ e p
  | .ret e, .Return (some p) _ => e.cold && mE Γ e p
  | _, _ => false
def mColds (Γ : Gm) : List S → List Stmt → Bool
  | [], [] => true
  | s :: ss, t :: ts => mCold Γ s t && mColds Γ ss ts
  | _, _ => false
def mHs (Γ : Gm) : List (List Nat × List S) → List ExceptHandler → Bool
  | [], [] => true
  | ([c], st) :: r, .ExceptHandler (some (.Name x _)) none (b :: bs) _ :: hr => decide (Γ.fs.lookup x = some (1000 + c)) && Γ.glo x && !(x == ("__debug__" : Str)) && mColds Γ st (b :: bs) && mHs Γ r hr
  | _, _ => false
mutual
def mS (Γ : Gm) : S → Stmt → Bool
  | .pass, .Pass _ => true
  | .set i e, .Assign [.Name x px] p _ => decide (Γ.N[i]? = some x) && Γ.loc x && wayOk e (setWay Γ.sc x px p) && mE Γ e p
  | .setT is e, .Assign [.Tuple ts k pk] p _ => mTg.mNms Γ is ts && swNone Γ.sc ts p && mE Γ e p
  | .par [i, j] es, .Assign [.Tuple [.Name x px, .Name y py] kt pt] (.Tuple ps _ _) _ => decide (Γ.N[i]? = some x) && decide (Γ.N[j]? = some y) && decide (i ≠ j) &&
      decide (Γ.sc.names.lookup x = some .local) && decide (Γ.sc.names.lookup y = some .local) && swSome Γ.sc [.Name x px, .Name y py] ps [x, y] && mEs Γ es ps
  | .par [i, j, l] es, .Assign [.Tuple [.Name x px, .Name y py, .Name z pz] kt pt] (.Tuple ps _ _) _ => decide (Γ.N[i]? = some x) && decide (Γ.N[j]? = some y) && decide (Γ.N[l]? = some z) && decide (i ≠ j) && decide (i ≠ l) && decide (j ≠ l) &&
      decide (Γ.sc.names.lookup x = some .local) && decide (Γ.sc.names.lookup y = some .local) && decide (Γ.sc.names.lookup z = some .local) && swSome Γ.sc [.Name x px, .Name y py, .Name z pz] ps [x, y, z] && mEs Γ es ps
  | .setIx x ix e, .Assign [.Subscript o i _] p _ => mE Γ e p && mE Γ x o && mE Γ ix i && (match i with | .Slice _ _ _ _ => false | _ => true)
  | .expr e, .Expr p _ => noComp p && mE Γ e p
  | .ite c a b, .If p q r _ => c.tst && mE Γ c p && mSs Γ a q && mSs Γ b r
  | .forS tg it body, .For t q bs [] _ => mTg Γ tg t && notSet q && mI Γ (isTupTg t) it q && mSs Γ body bs
  | .whileS _ c body, .While p bs [] _ => c.tst && mE Γ c p && mSs Γ body bs
  | .ret e, .Return (some p) _ => mE Γ e p
  | .retN, .Return none _ => true
  | .raise c, .Raise (some (.Call (.Name x _) [] [] _)) none _ => decide (Γ.fs.lookup x = some (1000 + c)) && Γ.glo x && !(x == ("__debug__" : Str))
  | .forC tg i body, .For t (.Name x _) bs [] _ => mTg Γ tg t && Γ.var i x && mSs Γ body bs
  | .tryS body hs, .Try bs (h :: hds) [] [] _ => mSs Γ body bs && mHs Γ hs (h :: hds)
  | _, _ => false
def mSs (Γ : Gm) : List S → List Stmt → Bool
  | [], [] => true
  | s :: ss, t :: ts => mS Γ s t && mSs Γ ss ts
  | _, _ => false
end
/-! ### readings -/
def PostS (o : Out) (W : Wd) (H : Hp) (D : Ends) (XW : WX) : Prop := match o with
  | .nx ρ' s' => ∀ σ' W' H', Ext W H W' H' → Ok W' H' ρ' σ' s' → D.nx σ' H'
  | .rt d s' => ∀ v W' H', Ext W H W' H' → COk W' H' s' → Rep W' H' v d → D.rt v H'
  | .exc x ρ' s' => ∀ cls dx σ' W' H', Ext W H W' H' → Ok W' H' ρ' σ' s' → XRep W' H' x cls dx → XW cls dx σ' H'
  | .stuck => False
def tS (F : FT) (XW : WX) (st : S) : TS := fun D σ H => ∃ W ρ s, Ok W H ρ σ s ∧ PostS (evS F st ρ s) W H D XW
def tSs (F : FT) (XW : WX) (st : List S) : TS := fun D σ H => ∃ W ρ s, Ok W H ρ σ s ∧ PostS (evSs F st ρ s) W H D XW
section
variable {W W1 : Wd} {H H1 : Hp} {D : Ends} {XW : WX} {o : Out} {ρ : Env} {σ : L2.St} {s : Sta}
theorem PostS.ext (h : PostS o W H D XW) (x : Ext W H W1 H1) : PostS o W1 H1 D XW := by
  cases o with
  | nx ρ s => exact fun σ' W' H' e => h σ' W' H' (x.trans e)
  | rt d s => exact fun v W' H' e => h v W' H' (x.trans e)
  | exc y ρ s => exact fun c dx σ' W' H' e => h c dx σ' W' H' (x.trans e)
  | stuck => exact h
theorem PostS.out {α β : Type} {rel : Wd → Hp → β → α → Prop} {R : Res α} {k : α → Sta → Out} (h : PostS (R.out ρ k) W H D XW) : PostR rel R W H ρ σ (fun d s' _ W' H' => PostS (k d s') W' H' D XW) XW := by
  cases R with
  | ok d s' => exact fun v W' H' x ok r => PostS.ext (o := k d s') h x
  | exc y s' => exact fun c dx W' H' x ok r => h c dx σ W' H' x ok r
  | stuck => exact h
theorem PostS.andThen {f : Env → Sta → Out} {N : L2.St → Hp → Prop} (h : PostS (o.andThen f) W H D XW) (hn : ∀ ρ' s' σ' W' H', Ext W H W' H' → Ok W' H' ρ' σ' s' → PostS (f ρ' s') W' H' D XW → N σ' H') (D' : Ends) (e1 : D'.nx = N) (e2 : D'.rt = D.rt) : PostS o W H D' XW := by
  cases o with
  | nx ρ s =>
    intro σ' W' H' x ok
    rw [e1]
    exact hn ρ s σ' W' H' x ok (PostS.ext (o := f ρ s) h x)
  | rt d s => intro v W' H' x c r; rw [e2]; exact h v W' H' x c r
  | exc y ρ s => exact h
  | stuck => exact h
end
/-- what is known where a statement stands -/
structure SO (X : Cx) (Γ : Gm) (F : FT) (XW : WX) : Prop extends CO X Γ F XW where
  own : PassesOwn (model X.prog X.w) X.A X.env X.xe
  fnT : ∀ x, X.fn x = true
  stk : X.stack = X.env :: X.outer
  fr : X.env.frame = some X.env.locals
section
variable {X : Cx} {Γ : Gm} {F : FT} {XW : WX}
theorem sE (h : CO X Γ F XW) {e : E} {p : Expr} (m : mE Γ e p = true) : PE X p (tE F XW e) := (sAll F Γ e p X XW h m).1
theorem sT (h : CO X Γ F XW) {e : E} {p : Expr} (m : mE Γ e p = true) (t : e.tst = true) : PT X p (tT F XW e) := (sAll F Γ e p X XW h m).2.1 t
theorem sEs (h : CO X Γ F XW) : ∀ {es : List E} {ps : List Expr}, mEs Γ es ps = true → PA X ps (tEs F XW es)
  | [], [], _ => s_nil
  | [], _ :: _, m => by simp [mEs] at m
  | _ :: _, [], m => by simp [mEs] at m
  | e :: es, p :: ps, m => by
    simp only [mEs, Bool.and_eq_true] at m
    exact s_cons (mE_ns m.1) (sE h m.1) (sEs h m.2)
theorem sIfs (h : CO X Γ F XW) {es : List E} {ps : List Expr} (m : mEs Γ es ps = true) (z : es.all E.tst = true) (l : es.length ≤ 1) : PTs X ps (tIfs F XW es) := by
  cases es with
  | nil =>
    cases ps with
    | nil => exact sifs_nil
    | cons _ _ => simp [mEs] at m
  | cons e es =>
    cases es with
    | cons _ _ => simp at l
    | nil =>
      cases ps with
      | nil => simp [mEs] at m
      | cons p ps =>
        cases ps with
        | cons _ _ => simp [mEs] at m
        | nil =>
          simp only [mEs, Bool.and_true] at m
          simp only [List.all_cons, List.all_nil, Bool.and_true] at z
          exact sifs_one (sT h m z)
theorem sI' (F : FT) : ∀ (Γ : Gm) (tt : Bool) (it : I) (q : Expr), M2 F Γ tt it q := by
  apply mI.induct (fun _ _ _ => True) (M2 F) (fun _ _ _ => True)
  case case44 =>
    intro Γ tt a x p1 p p2 ih X XW tg h m ht
    simp only [mI, Bool.and_eq_true, decide_eq_true_eq] at m
    obtain ⟨⟨m1, m2⟩, m3⟩ := m
    subst m1
    exact si_rng1 h m2 (mE_ns m3) (sE h m3)
  case case45 =>
    intro Γ tt a b x p1 p q p2 ih ih2 X XW tg h m ht
    simp only [mI, Bool.and_eq_true, decide_eq_true_eq] at m
    obtain ⟨⟨⟨m1, m2⟩, m3⟩, m4⟩ := m
    subst m1
    exact si_rng2 h m2 (mE_ns m3) (mE_ns m4) (sE h m3) (sE h m4)
  case case46 =>
    intro Γ tt a x p1 p p2 ih X XW tg h m ht
    simp only [mI, Bool.and_eq_true, decide_eq_true_eq] at m
    obtain ⟨⟨⟨m1, m2⟩, m3⟩, m4⟩ := m
    subst m1 m3
    obtain ⟨es, k, pos, e⟩ := ht rfl
    subst e
    exact si_enum h m2 (mE_ns m4) (sE h m4)
  case case47 =>
    intro Γ tt a b x p1 p q p2 ih ih2 X XW tg h m ht
    simp only [mI, Bool.and_eq_true, decide_eq_true_eq] at m
    obtain ⟨⟨⟨⟨m1, m2⟩, m3⟩, m4⟩, m5⟩ := m
    subst m1 m3
    obtain ⟨es, k, pos, e⟩ := ht rfl
    subst e
    exact si_zip h m2 (mE_ns m4) (mE_ns m5) (sE h m4) (sE h m5)
  case case48 =>
    intro Γ tt a p ih X XW tg h m ht
    simp only [mI] at m
    exact si_e (sE h m)
  case case49 =>
    intros
    intro X XW tg h m ht
    rw [mI] at m
    all_goals first | cases m | assumption
  all_goals (intros; trivial)
theorem sI (h : CO X Γ F XW) {tt : Bool} {it : I} {q tg : Expr} (m : mI Γ tt it q = true) (ht : tt = true → ∃ es k pos, tg = .Tuple es k pos) : PI X tg q (tI tt F XW it) := sI' F Γ tt it q X XW tg h m ht

/-! ### one lemma a form -/
theorem ss_pass {p : Pos} : PS X (.Pass p) (tS F XW .pass) := PS.imp ps_pass fun D σ H ⟨W, ρ, s, ok, post⟩ => by
  rw [evS] at post
  exact post σ W H (Ext.refl _ _) ok
theorem ss_ret {e : E} {p : Expr} {pos : Pos} (h : PE X p (tE F XW e)) : PS X (.Return (some p) pos) (tS F XW (.ret e)) := PS.imp (ps_ret h) fun D σ H ⟨W, ρ, s, ok, post⟩ => by
  rw [evS] at post
  exact ⟨W, ρ, s, ok, (post.out (rel := Rep)).imp fun d s1 v W1 H1 x ok1 r k => k v W1 H1 (Ext.refl _ _) ok1.c r⟩
theorem ss_retN {pos : Pos} : PS X (.Return none pos) (tS F XW .retN) := PS.imp ps_retN fun D σ H ⟨W, ρ, s, ok, post⟩ => by
  rw [evS] at post
  exact post .non W H (Ext.refl _ _) ok.c .non
theorem sw_nocomp {p : Expr} (h : noComp p = true) {t : Option Expr} {l : Nat} {env : PySem.Env} : swapsWith p t l env = pure false := by
  cases p <;> first | rfl | cases h
theorem ss_expr {e : E} {p : Expr} {pos : Pos} (h : PE X p (tE F XW e)) (hn : noComp p = true) : PS X (.Expr p pos) (tS F XW (.expr e)) := PS.imp (ps_expr h (sw_nocomp hn)) fun D σ H ⟨W, ρ, s, ok, post⟩ => by
  rw [evS] at post
  exact ⟨W, ρ, s, ok, (post.out (rel := Rep)).imp fun d s1 v W1 H1 x ok1 r k => k σ W1 H1 (Ext.refl _ _) ok1⟩
theorem ss_ite {c : E} {a b : List S} {p : Expr} {q r : List Stmt} {pos : Pos} (hc : PT X p (tT F XW c)) (ha : PSs X q (tSs F XW a)) (hb : PSs X r (tSs F XW b)) : PS X (.If p q r pos) (tS F XW (.ite c a b)) := PS.imp (ps_if hc ha hb) fun D σ H ⟨W, ρ, s, ok, post⟩ => by
  rw [evS] at post
  refine ⟨W, ρ, s, ok, ?_⟩
  cases R : evE F ρ c s with
  | stuck => rw [R] at post; exact post.elim
  | exc x s1 => rw [R] at post; exact fun cls dx W' H' e ok' r => post cls dx σ W' H' e ok' r
  | ok x1 s1 =>
    rw [R] at post
    cases et : evTru (deref s1 x1) with
    | none => simp only [Res.out, et] at post; exact post.elim
    | some b' =>
      show PostR _ (Res.of s1 (evTru (deref s1 x1))) _ _ _ _ _ _
      rw [et]
      intro c W1 H1 e1 ok1 eb
      subst eb
      cases c with
      | true => simp only [Res.out, et] at post; rw [if_pos rfl]; exact ⟨W1, ρ, s1, ok1, PostS.ext post e1⟩
      | false => simp only [Res.out, et] at post; rw [if_neg Bool.false_ne_true]; exact ⟨W1, ρ, s1, ok1, PostS.ext post e1⟩
theorem pmk_own0 {C : Addr} {bmB : List Value} {B newId initId : String} {x : Str} {p pos : Pos} (Fx : ExcBaseFacts B newId initId bmB) (q : PySem.W.excIn X.K C bmB newId = true) (gC : X.mg x = some (.ref C)) (kC : PySem.W.keepIn X.K (.ref C) = true) (r : Raises X (.ref C)) (hg : Gl X x) (hdb : (x == ("__debug__" : Str)) = false) :
    PMk X (.Call (.Name x p) [] [] pos) (fun _ H Q => Q (.ref C) none H) := fun pins s σ H Q I h => by
  refine wpAny_Call_Name_kw (ld_glob I hg gC (PySem.W.callWith_K0 I.kIn kC ?_) hdb)
  obtain ⟨bm, N, nm, qn, bs, hdct, sn, sub, ab, col, dd, k0, k1, k2, k3, k5, mN, hC, hN, hni, T⟩ := exc_obj I.kIn q
  exact wpAny_call_exc_subT Fx T hC hN hni (fun h' e hm => mk_of I hm r h (I.hok.gone hm.new)) (Nat.zero_le _)
theorem ss_raise (h : CO X Γ F XW) {c : Nat} {x : Str} {p1 p2 pos : Pos} (hl : Γ.fs.lookup x = some (1000 + c)) (hg : Γ.glo x = true) (hd : (x == ("__debug__" : Str)) = false) : PS X (.Raise (some (.Call (.Name x p1) [] [] p2)) none pos) (tS F XW (.raise c)) := by
  have e := h.xn x c hl
  have main := ps_raise (pos := pos) h.calm h.tk (pmk_own0 (pos := p2) (p := p1) PySem.F.excBase_ValueError (by rw [h.K]; exact e.q) e.g (by rw [h.K]; exact e.kp) (raises_own (by rw [h.K]; exact e.sub) (by rw [h.K]; exact e.ty)) (h.gl hg) hd)
  refine PS.imp main fun D σ H ⟨W, ρ, s, ok, post⟩ => ?_
  rw [evS] at post
  exact post _ none σ W H (Ext.refl _ _) ok ⟨rfl, e.xm, fun z => by have := e.lt; simp only at z; omega⟩
theorem kind_eq {x : Str} (h : CO X Γ F XW) : X.env.kindOf x = Γ.sc.names.lookup x := by unfold Env.kindOf; rw [h.sc]
theorem lc_parts (h : CO X Γ F XW) {elt : E} {tg : Tg} {it : I} {own : List Nat} {ifs : List E} {p t q : Expr} {gs : List Comprehension} {scope : Scope} {pos : Pos} {cs : List Expr} (hg : oneComp gs = some (t, q, cs)) (m : mE Γ (.lc elt tg it own ifs) (.ListComp p gs scope pos) = true) :
    PI X t q (tI (isTupTg t) F XW it) ∧ BlkOk X.N X.env.scope scope (ownOf Γ own) ∧
    (∀ (s : Shared) (H : Hp) (C : Addr) (cl : List (Str × Addr)) (fp : List Addr), PG (X.blk s H scope (compEnvC scope cl C X.env) fp) t (tG X.K tg)) ∧
    (∀ (s : Shared) (H : Hp) (C : Addr) (cl : List (Str × Addr)) (fp : List Addr), PTs (X.blk s H scope (compEnvC scope cl C X.env) fp) cs (tIfs F XF ifs)) ∧
    (∀ (s : Shared) (H : Hp) (C : Addr) (cl : List (Str × Addr)) (fp : List Addr), PE (X.blk s H scope (compEnvC scope cl C X.env) fp) p (tE F XF elt)) ∧
    (∀ x, foldedSetIterable q X.env x = pure x) ∧ (ownOf Γ own).map (·.2) = own ∧ (isTupTg t = true → ∃ is, tg = .tup is) ∧ (∀ i, tg.has i → i ∈ own) := by
  simp only [mE, hg, Bool.and_eq_true, decide_eq_true_eq] at m
  obtain ⟨⟨⟨⟨⟨⟨⟨⟨⟨⟨m1, m2⟩, m3⟩, m4⟩, m5⟩, m6⟩, m7⟩, m8⟩, m9⟩, m10⟩, m11⟩ := m
  have ptt2 : isTupTg t = true → ∃ es k pos, t = .Tuple es k pos := fun z => by
    cases t <;> first | exact ⟨_, _, _, rfl⟩ | cases z
  refine ⟨sI h m4 ptt2, by rw [h.N, h.sc]; exact blkOk_by m2, fun s H C cl fp => pg_of (h.blk s H scope C cl fp) m5 (tgOk_ok m6), fun s H C cl fp => sIfs (h.blk s H scope C cl fp) m8 m9 m10,
    fun s H C cl fp => sE (h.blk s H scope C cl fp) m11, setOk m3, m1, fun z => ?_, fun i z => ?_⟩
  · cases t <;> (try (cases z; done))
    cases tg with
    | nm i => simp [mTg] at m5
    | tup is => exact ⟨is, rfl⟩
  · cases tg with
    | nm j => simp only [decide_eq_true_eq] at m7; cases z; exact m7
    | tup is => simp only [List.all_eq_true, decide_eq_true_eq] at m7; exact m7 i z
theorem r_set {i : Nat} {e : E} : ∀ D σ H, tS F XW (.set i e) D σ H → tAsg (tE F XW e) (gName i) D σ H := fun D σ H ⟨W, ρ, s, ok, post⟩ => by
  rw [evS] at post
  exact ⟨W, ρ, s, ok, (post.out (rel := Rep)).imp fun d s1 v W1 H1 x ok1 r k => k _ W1 H1 (Ext.refl _ _) ⟨ok1.c, ok1.e.set r i⟩⟩
theorem ss_set (h : SO X Γ F XW) {i : Nat} {e : E} {x : Str} {px pos : Pos} {p : Expr} (m : mS Γ (.set i e) (.Assign [.Name x px] p pos) = true) : PS X (.Assign [.Name x px] p pos) (tS F XW (.set i e)) := by
  simp only [mS, Bool.and_eq_true, decide_eq_true_eq] at m
  obtain ⟨⟨⟨m1, m2⟩, m30⟩, m4⟩ := m
  have m3 : (setWay Γ.sc x px p).isSome = true := by
    unfold wayOk at m30
    split at m30
    · rw [decide_eq_true_eq] at m30; rw [m30]; rfl
    · exact m30
  have hi : X.N[i]? = some x := by rw [h.N]; exact m1
  have plain : (∀ l : Nat, swapsWith p (some (.Name x px)) l X.env = pure false) → PS X (.Assign [.Name x px] p pos) (tS F XW (.set i e)) := fun hs =>
    PS.imp (ps_set h.nd hi (h.lc m2) (sE h.toCO m4) (hs pos.line) (.inl (h.fnT x))) r_set
  by_cases nc : noComp p = true
  · exact plain fun l => sw_nocomp nc
  · cases p <;> (try (exact absurd rfl nc))
    · rename_i elt gs scope lpos
      cases e <;> (try (simp [mE] at m4; done))
      rotate_left
      · rename_i elt' tg it own ifs
        simp only [wayOk, decide_eq_true_eq, setWay] at m30
        split at m30
        · rename_i hc
          refine plain fun l => ?_
          have hk : X.env.kindOf x = some .cell := by rw [kind_eq h.toCO]; exact hc
          unfold swapsWith
          simp only [hk, show ((some NameKind.cell : Option NameKind) == some NameKind.local) = false from rfl, Bool.and_false, Bool.false_and]
        · split at m30 <;> cases m30
      rename_i elt' tg it own ifs
      simp only [setWay] at m3
      split at m3
      · rename_i hc
        rw [decide_eq_true_eq] at hc
        refine plain fun l => ?_
        have hk : X.env.kindOf x = some .cell := by rw [kind_eq h.toCO]; exact hc
        unfold swapsWith
        simp only [hk, show ((some NameKind.cell : Option NameKind) == some NameKind.local) = false from rfl, Bool.and_false, Bool.false_and]
      · split at m3
        · rename_i hc
          simp only [Bool.and_eq_true, decide_eq_true_eq, Bool.not_eq_true'] at hc
          obtain ⟨⟨⟨c1, c2⟩, c3⟩, c4⟩ := hc
          have hl : X.env.scope.names.lookup x = some .local := by rw [h.sc]; exact c1
          cases hg : oneComp gs with
          | none => simp [mE, hg] at m4
          | some w =>
            obtain ⟨t, q, cs⟩ := w
            obtain ⟨q1, q2, q3, q4, q5, q6, q7, q8, q9⟩ := lc_parts h.toCO hg m4
            have eg := oneComp_eq hg
            subst eg
            have main := ps_setLc (spos := pos) (py := px) h.calm h.nd hi hl (sw_true (by rw [h.sc]; exact isFun_eq c2) hl c3 c4) q1 q2 q3 q4 q5 q6
            rw [q7] at main
            refine PS.imp main fun D σ H z => ?_
            exact s_lc q8 q9 σ H _ (r_set D σ H z)
        · cases m3
    · simp [setWay] at m3
    · simp [setWay] at m3
theorem setAll_ok {W : Wd} {H : Hp} {Q : L2.St → Hp → Prop} {is : List Nat} {xs : List V} {ds : List Dt} {ρ ρ' : Env} {σ : L2.St} (h : EOk W H ρ σ) (r : Reps W H xs ds) (e : setAll is ds ρ = some ρ') (q : ∀ σ', EOk W H ρ' σ' → Q σ' H) : gNames is xs σ H Q := gNames_ok h r e fun σ' h' _ => q σ' h'
theorem sw_none {ts : List Expr} {k : Nat} {pk : Pos} {p : Expr} (h : CO X Γ F XW) (m : swNone Γ.sc ts p = true) : swappedStores [.Tuple ts k pk] p X.env = pure none := by
  cases p <;> (try (rfl; done))
  rename_i vs kv pv
  unfold swNone at m
  unfold swappedStores
  simp only [Bool.or_eq_true] at m
  simp only [kind_eq h]
  show (if (!(ts.length == 2 || ts.length == 3) || vs.length != ts.length || X.env.blockKind != .function) = true then pure none else _) = pure none
  by_cases c1 : (!(ts.length == 2 || ts.length == 3) || vs.length != ts.length || X.env.blockKind != .function) = true
  · rw [if_pos c1]
  rw [if_neg c1]
  simp only [Bool.or_eq_true, not_or] at c1
  rcases m with ((m | m) | m) | m
  · exact absurd m c1.1.1
  · exact absurd m c1.1.2
  · show (if _ then pure none else if _ then pure none else if vs.all (foldedForSure 8) = true then pure none else _) = pure none
    rw [if_pos m]
    split <;> (try rfl)
    split <;> rfl
  · show (if _ then pure none else if (_ != _ || _) = true then pure none else _) = pure none
    split
    · rfl
    · rw [if_pos]
      rw [Bool.or_eq_true]
      exact .inl m
theorem sw_some {ts vs : List Expr} {xs : List Str} {k kv : Nat} {pk pv : Pos} (h : CO X Γ F XW) (m : swSome Γ.sc ts vs xs = true) : swappedStores [.Tuple ts k pk] (.Tuple vs kv pv) X.env = pure (some xs) := by
  unfold swSome at m
  simp only [Bool.and_eq_true, decide_eq_true_eq, Bool.not_eq_true'] at m
  obtain ⟨⟨⟨⟨⟨⟨⟨⟨c1, c2⟩, c3⟩, c4⟩, c5⟩, c6⟩, c7⟩, c8⟩, c9⟩ := m
  unfold swappedStores
  simp only [kind_eq h]
  have hb : X.env.blockKind = .function := by
    unfold Env.blockKind
    rw [h.sc, isFun_eq c3]; rfl
  have d1 : (!(ts.length == 2 || ts.length == 3) || vs.length != ts.length || X.env.blockKind != .function) = false := by
    rw [c1, hb]
    simp only [bne, c2]; rfl
  have d2 : (vs.any fun | .Starred .. => true | _ => false) = false := by
    rw [List.any_eq_false]
    intro z hz
    have := List.all_eq_true.mp c4 z hz
    cases z <;> first | (intro q; cases q; done) | cases this
  show (if (!(ts.length == 2 || ts.length == 3) || vs.length != ts.length || X.env.blockKind != .function) = true then pure none else if (vs.any fun | .Starred .. => true | _ => false) = true then pure none else _) = _
  rw [d1, if_neg Bool.false_ne_true, d2, if_neg Bool.false_ne_true]
  show (if ((parNames Γ.sc ts).length != ts.length || (parNames Γ.sc ts).eraseDups.length != (parNames Γ.sc ts).length) = true then pure none else if vs.all (foldedForSure 8) = true then pure none else if vs.all (constantsAlone 8) = true then _ else pure (some (parNames Γ.sc ts))) = _
  rw [c5]
  have d3 : (xs.length != ts.length || xs.eraseDups.length != xs.length) = false := by simp only [bne, c6, c7]; rfl
  rw [d3, if_neg Bool.false_ne_true, c8, if_neg Bool.false_ne_true, c9, if_neg Bool.false_ne_true]
theorem ss_par2 (h : SO X Γ F XW) {i j : Nat} {es : List E} {x y : Str} {px py pt pos : Pos} {kt k2 pt2} {ps : List Expr} (m : mS Γ (.par [i, j] es) (.Assign [.Tuple [.Name x px, .Name y py] kt pt] (.Tuple ps k2 pt2) pos) = true) :
    PS X (.Assign [.Tuple [.Name x px, .Name y py] kt pt] (.Tuple ps k2 pt2) pos) (tS F XW (.par [i, j] es)) := by
  simp only [mS, Bool.and_eq_true, decide_eq_true_eq] at m
  obtain ⟨⟨⟨⟨⟨⟨m1, m2⟩, m3⟩, m4⟩, m5⟩, m6⟩, m7⟩ := m
  have hl : ps.length = 2 := by
    have z := m6
    unfold swSome at z
    simp only [Bool.and_eq_true] at z
    have := z.1.1.1.1.1.1.1.2
    simpa using this
  match ps, hl with
  | [a, b], _ =>
    refine PS.imp (ps_par h.calm h.nd (by rw [h.N]; exact m1) (by rw [h.N]; exact m2) m3 (by rw [h.sc]; exact m4) (by rw [h.sc]; exact m5) (sEs h.toCO m7) (sw_some h.toCO m6)) fun D σ H ⟨W, ρ, s, ok, post⟩ => ?_
    rw [evS] at post
    refine ⟨W, ρ, s, ok, (post.out (rel := Reps)).imp fun ds s1 vs W1 H1 e1 ok1 r1 k1 => ?_⟩
    cases hs : setAll [i, j] ds ρ with
    | none => simp only [hs] at k1; exact k1.elim
    | some ρ' =>
      simp only [hs] at k1
      have g := gNames_ok (Q := fun σ' H' => D.nx σ' H') ok1.e r1 hs fun σ' e' _ => k1 σ' W1 H1 (Ext.refl _ _) ⟨ok1.c, e'⟩
      obtain ⟨v, r, e1, v2, r2, e2, e3, q⟩ := g
      subst e1 e2 e3
      exact ⟨v, v2, rfl, q⟩
theorem ss_par3 (h : SO X Γ F XW) {i j l : Nat} {es : List E} {x y z : Str} {px py pz pt pos : Pos} {kt k2 pt2} {ps : List Expr} (m : mS Γ (.par [i, j, l] es) (.Assign [.Tuple [.Name x px, .Name y py, .Name z pz] kt pt] (.Tuple ps k2 pt2) pos) = true) :
    PS X (.Assign [.Tuple [.Name x px, .Name y py, .Name z pz] kt pt] (.Tuple ps k2 pt2) pos) (tS F XW (.par [i, j, l] es)) := by
  simp only [mS, Bool.and_eq_true, decide_eq_true_eq] at m
  obtain ⟨⟨⟨⟨⟨⟨⟨⟨⟨⟨m1, m2⟩, n1⟩, m3⟩, n3⟩, o3⟩, m4⟩, m5⟩, n5⟩, m6⟩, m7⟩ := m
  have hl : ps.length = 3 := by
    have z := m6
    unfold swSome at z
    simp only [Bool.and_eq_true] at z
    have := z.1.1.1.1.1.1.1.2
    simpa using this
  match ps, hl with
  | [a, b, c], _ =>
    refine PS.imp (ps_par3 h.calm h.nd (by rw [h.N]; exact m1) (by rw [h.N]; exact m2) (by rw [h.N]; exact n1) m3 n3 o3 (by rw [h.sc]; exact m4) (by rw [h.sc]; exact m5) (by rw [h.sc]; exact n5) (sEs h.toCO m7) (sw_some h.toCO m6)) fun D σ H ⟨W, ρ, s, ok, post⟩ => ?_
    rw [evS] at post
    refine ⟨W, ρ, s, ok, (post.out (rel := Reps)).imp fun ds s1 vs W1 H1 e1 ok1 r1 k1 => ?_⟩
    cases hs : setAll [i, j, l] ds ρ with
    | none => simp only [hs] at k1; exact k1.elim
    | some ρ' =>
      simp only [hs] at k1
      have g := gNames_ok (Q := fun σ' H' => D.nx σ' H') ok1.e r1 hs fun σ' e' _ => k1 σ' W1 H1 (Ext.refl _ _) ⟨ok1.c, e'⟩
      obtain ⟨v, r, e1, v2, r2, e2, v3, r3, e4, e3, q⟩ := g
      subst e1 e2 e4 e3
      exact ⟨v, v2, v3, rfl, q⟩
theorem ss_setT (h : SO X Γ F XW) {is : List Nat} {e : E} {ts : List Expr} {k : Nat} {pk pos : Pos} {p : Expr} (m : mS Γ (.setT is e) (.Assign [.Tuple ts k pk] p pos) = true) : PS X (.Assign [.Tuple ts k pk] p pos) (tS F XW (.setT is e)) := by
  simp only [mS, Bool.and_eq_true] at m
  obtain ⟨⟨m1, m2⟩, m3⟩ := m
  have hg := pg_of h.toCO (tg := .tup is) (t := .Tuple ts k pk) (by simp only [mTg]; exact m1) fun x pos _ => .inl (h.fnT x)
  refine PS.imp (ps_asg (sE h.toCO m3) hg (by cases p <;> rfl) (sw_none h.toCO m2)) fun D σ H ⟨W, ρ, s, ok, post⟩ => ?_
  rw [evS] at post
  refine ⟨W, ρ, s, ok, (post.out (rel := Rep)).imp fun d s1 v W1 H1 e1 ok1 r1 k1 => ?_⟩
  cases d <;> (try (exact k1.elim))
  · rename_i ds
    simp only at k1
    cases hs : setAll is ds ρ with
    | none => simp only [hs] at k1; exact k1.elim
    | some ρ' =>
      simp only [hs] at k1
      obtain ⟨a, xs, ea, ht, n, rr⟩ := r1.tup_inv
      exact .inl ⟨a, xs, ea, ht.sq, by rw [rr.length, setAll_len hs], gNames_ok ok1.e rr hs fun σ' e' _ => k1 σ' W1 H1 (Ext.refl _ _) ⟨ok1.c, e'⟩⟩
  · rename_i ds
    simp only at k1
    cases hs : setAll is ds ρ with
    | none => simp only [hs] at k1; exact k1.elim
    | some ρ' =>
      simp only [hs] at k1
      obtain ⟨a, xs, ea, ht, n, rr⟩ := r1.lst_inv
      exact .inr ⟨a, xs, ea, SqL.of ht, by rw [rr.length, setAll_len hs], gNames_ok ok1.e rr hs fun σ' e' _ => k1 σ' W1 H1 (Ext.refl _ _) ⟨ok1.c, e'⟩⟩
theorem loAll_set {n : Nat} {d : Dt} : ∀ {xs : List Dt} (i : Nat), Dt.loAll n xs = true → Dt.lo n d = true → Dt.loAll n (xs.set i d) = true
  | [], _, _, _ => rfl
  | x :: xs, 0, h, hd => by simp only [Dt.loAll, List.set_cons_zero, Bool.and_eq_true] at h ⊢; exact ⟨hd, h.2⟩
  | x :: xs, i + 1, h, hd => by simp only [Dt.loAll, List.set_cons_succ, Bool.and_eq_true] at h ⊢; exact ⟨h.1, loAll_set i h.2 hd⟩
theorem ss_setIx (h : SO X Γ F XW) {x ix e : E} {o i p : Expr} {p1 pos : Pos} (m : mS Γ (.setIx x ix e) (.Assign [.Subscript o i p1] p pos) = true) : PS X (.Assign [.Subscript o i p1] p pos) (tS F XW (.setIx x ix e)) := by
  simp only [mS, Bool.and_eq_true] at m
  obtain ⟨⟨⟨m1, m2⟩, m3⟩, m4⟩ := m
  refine PS.imp (ps_asg (sE h.toCO m1) (pg_sub (sE h.toCO m2) (sE h.toCO m3) set_list (by intro v; cases i <;> first | rfl | cases m4)) (by cases p <;> rfl) (by cases p <;> rfl)) fun D σ H ⟨W, ρ, s, ok, post⟩ => ?_
  rw [evS] at post
  refine ⟨W, ρ, s, ok, (post.out (rel := Rep)).imp fun d s1 v1 W1 H1 e1 ok1 r1 k1 => ?_⟩
  refine ⟨W1, ρ, s1, ok1, (k1.out (rel := Rep)).imp fun o s2 v2 W2 H2 e2 ok2 r2 k2 => ?_⟩
  refine ⟨W2, ρ, s2, ok2, (k2.out (rel := Rep)).imp fun j s3 v3 W3 H3 e3 ok3 r3 k3 => ?_⟩
  cases o <;> (try (exact k3.elim))
  cases j <;> (try (exact k3.elim))
  rename_i k n
  simp only at k3
  cases hs : s3[k]? with
  | none => simp only [hs] at k3; exact k3.elim
  | some ce =>
    cases ce with
    | tab t => simp only [hs] at k3; exact k3.elim
    | lst ds =>
      simp only [hs] at k3
      cases hi : ixN ds.length n with
      | none => simp only [hi] at k3; exact k3.elim
      | some q =>
        simp only [hi] at k3
        split at k3
        · rename_i hlo
          obtain ⟨pa, xs, hp, ev, ha, ra⟩ := rowed ok3.c (r2.ext e3.toExt0) hs
          obtain ⟨c, xx⟩ := ok3.c.setLst hp hs (ra.set (r1.ext (e2.trans e3).toExt0) q) (loAll_set q (cell_lo ok3.c hp hs) hlo)
          exact ⟨pa.1, xs, n, q, ev, r3.int_inv, ha, by rw [ra.length]; exact hi, k3 σ W3 _ xx ⟨c, ok3.e.ext xx.toExt0⟩⟩
        · exact k3.elim
end
end MP
/-! MP13: loops; all statements. -/
namespace MP
open PySem L2 PyProof.Rows RZ
variable [Glob]
section
variable {X : Cx} {Γ : Gm} {F : FT} {XW : WX}
theorem forGo_g {one : Dt → Env → Sta → Out} : ∀ (ds : List Dt) (ρ : Env) (s : Sta), forGoG (fun _ => true) one ds ρ s = forGo one ds ρ s
  | [], ρ, s => by rw [forGoG, forGo, if_pos rfl]
  | d :: ds, ρ, s => by
    rw [forGoG, forGo, if_pos rfl]
    congr 1
    funext ρ s
    exact forGo_g ds ρ s
def forOneE (F : FT) (tg : Tg) (body : List S) : Dt → Env → Sta → Out := fun d ρ s => match bindTg tg d ρ with
    | some ρ' => evSs F body ρ' s
    | none => Out.stuck
theorem for_core {g : Sta → Bool} {J : It} {K : PySem.W.Frag} {tg : Tg} {body : List S} {pr : Bool} {ds : List Dt} {W1 : Wd} {H1 : Hp} {ρ : Env} {σ : L2.St} {s1 : Sta} {D : Ends} (ptt : pr = true → ∃ is, tg = .tup is)
    (ok1 : Ok W1 H1 ρ σ s1) (fd : FeedsG g pr J W1 H1 ds) (k1 : PostS (forGoG g (forOneE F tg body) ds ρ s1) W1 H1 D XW) : tFor (fun _ H R => R J H) (tG K tg) (tSs F XW body) D σ H1 := by
  generalize hone : forOneE F tg body = one at k1
  unfold forOneE at hone
  refine ⟨fun i m σ' H' => m = ds.length - i ∧ i ≤ ds.length ∧ ∃ W' ρ' s', Ext W1 H1 W' H' ∧ Ok W' H' ρ' σ' s' ∧ PostS (forGoG g one (ds.drop i) ρ' s') W' H' D XW,
    ⟨ds.length, by omega, Nat.zero_le _, W1, ρ, s1, Ext.refl _ _, ok1, k1⟩, ?_⟩
  rintro i m σ' H' ⟨rfl, hi, W', ρ', s', x, ok', post'⟩
  by_cases hg : g s' = true
  rotate_left
  · cases hdr : ds.drop i with
    | nil => rw [hdr, forGoG, if_neg hg] at post'; exact post'.elim
    | cons _ _ => rw [hdr, forGoG, if_neg hg] at post'; exact post'.elim
  by_cases hlt : i < ds.length
  rotate_left
  · have hi' : i = ds.length := by omega
    subst hi'
    rw [List.drop_length, forGoG, if_pos hg] at post'
    exact .inl ⟨fd.stop _ _ s' _ x.toExt0 ok'.c hg (Nat.le_refl _), post' σ' W' H' (Ext.refl _ _) ok'⟩
  have hd : ds[i]? = some ds[i] := List.getElem?_eq_getElem hlt
  generalize ds[i] = d at hd
  have hdrop : ds.drop i = d :: ds.drop (i + 1) := by
    rw [List.drop_eq_getElem_cons hlt]
    rw [List.getElem?_eq_getElem hlt] at hd
    cases hd; rfl
  rw [hdrop, forGoG, if_pos hg] at post'
  obtain ⟨go, yl⟩ := fd.item i d W' H' s' x.toExt0 ok'.c hg hd
  refine .inr ⟨go, fun σ2 H2 => i + 1 ≤ ds.length ∧ ∃ W' ρ' s', Ext W1 H1 W' H2 ∧ Ok W' H2 ρ' σ2 s' ∧ PostS (forGoG g one (ds.drop (i + 1)) ρ' s') W' H2 D XW,
    fun σ2 H2 hN => ⟨ds.length - (i + 1), by omega, rfl, hN⟩, fun y H2 hy => ?_⟩
  obtain ⟨same, ri⟩ := yl y H2 hy
  obtain ⟨c2, x2⟩ := ok'.c.grow same
  have h1 := congrFun (congrFun (congrFun hone d) ρ') s'
  cases hb : bindTg tg d ρ' with
  | none => simp only [hb] at h1; rw [← h1] at post'; exact post'.elim
  | some ρ2 =>
    simp only [hb] at h1
    rw [← h1] at post'
    refine tG_ok ptt (ok'.e.ext x2.toExt0) ri hb fun σ2 eo2 _ => ?_
    refine ⟨W', ρ2, s', ⟨c2, eo2⟩, ?_⟩
    refine (PostS.ext post' x2).andThen (N := fun σ2 H2 => i + 1 ≤ ds.length ∧ ∃ W' ρ' s', Ext W1 H1 W' H2 ∧ Ok W' H2 ρ' σ2 s' ∧ PostS (forGoG g one (ds.drop (i + 1)) ρ' s') W' H2 D XW) (fun ρ3 s3 σ3 W3 H3 e3 ok3 p3 => ?_) _ rfl rfl
    exact ⟨hlt, W3, ρ3, s3, (x.trans x2).trans e3, ok3, p3⟩
theorem tg_parts {Γ : Gm} {tg : Tg} {t : Expr} (m1 : mTg Γ tg t = true) : isTupTg t = true → ∃ is, tg = .tup is := fun z => by
    cases t <;> (try (cases z; done))
    cases tg with
    | nm i => simp [mTg] at m1
    | tup is => exact ⟨is, rfl⟩
theorem ss_for (h : SO X Γ F XW) {tg : Tg} {it : I} {body : List S} {t q : Expr} {bs : List Stmt} {pos : Pos} (m1 : mTg Γ tg t = true) (m2 : notSet q = true) (m3 : mI Γ (isTupTg t) it q = true) (hb : PSs X bs (tSs F XW body)) :
    PS X (.For t q bs [] pos) (tS F XW (.forS tg it body)) := by
  have ptt2 : isTupTg t = true → ∃ es k pos, t = .Tuple es k pos := fun z => by
    cases t <;> first | exact ⟨_, _, _, rfl⟩ | cases z
  refine PS.imp (ps_for h.own h.calm (sI h.toCO m3 ptt2) (pg_of h.toCO m1 fun x pos _ => .inl (h.fnT x)) hb (setOk m2)) fun D σ H ⟨W, ρ, s, ok, post⟩ => ?_
  rw [evS] at post
  refine ⟨W, ρ, s, ok, (post.out (rel := fun W H J ds => Feeds (isTupTg t) J W H ds)).imp fun ds s1 J W1 H1 e1 ok1 fd k1 => ?_⟩
  refine for_core (XW := XW) (ρ := ρ) (s1 := s1) (tg_parts m1) ok1 fd.g ?_
  rw [forGo_g]
  exact k1
theorem ss_forC (h : SO X Γ F XW) {tg : Tg} {i : Nat} {body : List S} {t : Expr} {x : Str} {px : Pos} {bs : List Stmt} {pos : Pos} (m1 : mTg Γ tg t = true) (m2 : Γ.var i x = true) (hb : PSs X bs (tSs F XW body)) :
    PS X (.For t (.Name x px) bs [] pos) (tS F XW (.forC tg i body)) := by
  refine PS.imp (ps_for h.own h.calm (pi_cell h.toCO m2) (pg_of h.toCO m1 fun x pos _ => .inl (h.fnT x)) hb (fun _ => rfl)) fun D σ H ⟨W, ρ, s, ok, post⟩ => ?_
  rw [evS] at post
  cases hc : cellOf ρ s i with
  | none => simp only [hc] at post; exact post.elim
  | some q =>
    obtain ⟨k, ds⟩ := q
    simp only [hc] at post
    obtain ⟨c1, c2⟩ := cellOf_eq hc
    obtain ⟨v, hv, rv⟩ := ok.e.2 i _ c1
    obtain ⟨p, xs, hp, rfl, ha, ra⟩ := rowed ok.c rv c2
    exact ⟨_, hv, p.1, xs, rfl, SqL.of ha, for_core (XW := XW) (ρ := ρ) (s1 := s) (J := Itl X.K p.1) (tg_parts m1) ok (feeds_cell hp) post⟩
/-! ### try -/
structure CN (X : Cx) (Γ : Gm) : Prop where
  N : X.N = Γ.N
  nd : X.N.Nodup
  sc : X.env.scope = Γ.sc
theorem cold_var (h : CN X Γ) {i : Nat} {x : Str} {pos : Pos} (h1 : Γ.N[i]? = some x) (h2 : Γ.vis x = true) (h3 : (x == ("__debug__" : Str)) = false) (h4 : (x == ("__classdict__" : Str)) = false) : PE X (.Name x pos) (tE F XW (.var i)) := by
  have hv : Vis X.env.scope x := by
    unfold Gm.vis at h2
    unfold Vis
    rw [h.sc]
    split at h2
    · exact .inl (by assumption)
    · exact .inr (.inl (by assumption))
    · exact .inr (.inr (by assumption))
    · cases h2
  refine PE.imp (pe_var (by rw [h.N]; exact h1) hv h3 h4) fun σ H Q ⟨W, ρ, s, ok, post⟩ => ?_
  rw [evE] at post
  cases e : ρ[i]? with
  | none => simp only [e] at post; exact post.elim
  | some o =>
    cases o with
    | none => simp only [e] at post; exact post.elim
    | some d =>
      simp only [e] at post
      obtain ⟨v, e1, r⟩ := ok.e.2 i d e
      exact ⟨v, e1, post v W H (Ext.refl _ _) ok r⟩
mutual
theorem coldE (h : CN X Γ) : ∀ (e : E) (p : Expr), E.cold e = true → mE Γ e p = true → PE X p (tE F XW e)
  | .var i, p, _, m => by
    cases p <;> (try (simp [mE] at m; done))
    simp only [mE, Bool.and_eq_true, decide_eq_true_eq, Bool.not_eq_true'] at m
    exact cold_var h m.1.1.1 m.1.1.2 m.1.2 m.2
  | .non, p, _, m => by
    cases p <;> (try (simp [mE] at m; done))
    rename_i c _ _
    cases c <;> (try (simp [mE] at m; done))
    exact s_cst pe_non (fun _ _ => by rw [evE]) fun _ _ => .non
  | .bl b, p, _, m => by
    cases p <;> (try (simp [mE] at m; done))
    rename_i c _ _
    cases c <;> (try (simp [mE] at m; done))
    simp only [mE, decide_eq_true_eq] at m
    subst m
    exact s_cst pe_bl (fun _ _ => by rw [evE]) fun _ _ => .bl _
  | .int b, p, _, m => by
    cases p <;> (try (simp [mE] at m; done))
    rename_i c _ _
    cases c <;> (try (simp [mE] at m; done))
    simp only [mE, decide_eq_true_eq] at m
    subst m
    exact s_cst pe_int (fun _ _ => by rw [evE]) fun _ _ => .int _
  | .str b, p, _, m => by
    cases p <;> (try (simp [mE] at m; done))
    rename_i c _ _
    cases c <;> (try (simp [mE] at m; done))
    simp only [mE, decide_eq_true_eq] at m
    subst m
    exact s_cst pe_str (fun _ _ => by rw [evE]) fun _ _ => .str _
  | .tup es, p, c, m => by
    cases p <;> (try (simp [mE] at m; done))
    simp only [mE] at m
    simp only [E.cold] at c
    exact s_tup (coldEs h es _ c m)
  | .lst _, _, c, _ | .mlst _, _, c, _ | .mrep _ _, _, c, _ | .bin _ _ _, _, c, _ | .cmp _ _ _, _, c, _ | .cmp2 _ _ _ _ _, _, c, _ | .isNon _, _, c, _ | .notNon _, _, c, _ | .isBl _ _, _, c, _ | .notBl _ _, _, c, _
  | .and _ _, _, c, _ | .or _ _, _, c, _ | .not _, _, c, _ | .ite _ _ _, _, c, _ | .ix _ _, _, c, _ | .slHi _ _, _, c, _ | .slLo _ _, _, c, _ | .slLH _ _ _, _, c, _ | .rev _, _, c, _ | .call _ _, _, c, _ | .blt _ _, _, c, _ | .isi _ _, _, c, _
  | .mth _ _ _, _, c, _ | .lrng1 _, _, c, _ | .lrng _ _, _, c, _ | .trng _ _, _, c, _ | .app _ _, _, c, _ | .ext _ _, _, c, _ | .pop _, _, c, _ | .lc _ _ _ _ _, _, c, _ | .lcC _ _ _ _ _, _, c, _ | .lenSet _, _, c, _ | .sortSet _, _, c, _ | .neg _, _, c, _ => by simp [E.cold] at c
theorem coldEs (h : CN X Γ) : ∀ (es : List E) (ps : List Expr), E.colds es = true → mEs Γ es ps = true → PA X ps (tEs F XW es)
  | [], [], _, _ => s_nil
  | [], _ :: _, _, m => by simp [mEs] at m
  | _ :: _, [], _, m => by simp [mEs] at m
  | e :: es, p :: ps, c, m => by
    simp only [mEs, Bool.and_eq_true] at m
    simp only [E.colds, Bool.and_eq_true] at c
    exact s_cons (mE_ns m.1) (coldE h e p c.1 m.1) (coldEs h es ps c.2 m.2)
end
theorem cold_nocomp : ∀ {e : E} {p : Expr}, E.cold e = true → mE Γ e p = true → noComp p = true := by
  intro e p c m
  cases p <;> first | rfl | skip
  all_goals (cases e <;> first | (simp [E.cold] at c; done) | (simp [mE] at m; done))
theorem coldS (h : CN X Γ) (hf : ∀ x, X.fn x = true) {st : S} {t : Stmt} (m : mCold Γ st t = true) : PS X t (tS F XW st) := by
  unfold mCold at m
  split at m
  · rename_i i e x px p pos
    simp only [Bool.and_eq_true, decide_eq_true_eq] at m
    obtain ⟨⟨⟨m1, m2⟩, m3⟩, m4⟩ := m
    have hl : L2.Loc X.env.scope x := by
      unfold Gm.loc at m2
      unfold L2.Loc
      rw [h.sc]
      split at m2
      · exact .inl (by assumption)
      · exact .inr (by assumption)
      · cases m2
    exact PS.imp (ps_set h.nd (by rw [h.N]; exact m1) hl (coldE h e p m3 m4) (sw_nocomp (cold_nocomp m3 m4)) (.inl (hf x))) r_set
  · rename_i e p pos
    simp only [Bool.and_eq_true] at m
    exact ss_ret (coldE h e p m.1 m.2)
  · cases m
theorem sss_nil : PSs X [] (tSs F XW []) := by
  refine PSs.imp pss_nil fun D σ H ⟨W, ρ, s, ok, post⟩ => ?_
  rw [evSs] at post
  exact post σ W H (Ext.refl _ _) ok
theorem sss_cons {st : S} {ss : List S} {t : Stmt} {ts : List Stmt} (h1 : PS X t (tS F XW st)) (h2 : PSs X ts (tSs F XW ss)) : PSs X (t :: ts) (tSs F XW (st :: ss)) := by
  refine PSs.imp (pss_cons h1 h2) fun D σ H ⟨W, ρ, s, ok, post⟩ => ?_
  rw [evSs] at post
  exact ⟨W, ρ, s, ok, post.andThen (N := tSs F XW ss D) (fun ρ' s' σ' W' H' e ok' p => ⟨W', ρ', s', ok', p⟩) _ rfl rfl⟩
theorem coldSs (h : CN X Γ) (hf : ∀ x, X.fn x = true) : ∀ {ss : List S} {ts : List Stmt}, mColds Γ ss ts = true → PSs X ts (tSs F XW ss)
  | [], [], _ => sss_nil
  | [], _ :: _, m => by simp [mColds] at m
  | _ :: _, [], m => by simp [mColds] at m
  | s :: ss, t :: ts, m => by
    simp only [mColds, Bool.and_eq_true] at m
    exact sss_cons (coldS h hf m.1) (coldSs h hf m.2)
/-- the clauses' readings -/
def hList (F : FT) (XW : WX) (hs : List (List Nat × List S)) : List (Value × (Addr → Value → Option Addr → TS)) := hs.map fun q => (.ref (Glob.xc (q.1.headD 0)), fun _ _ _ => tSs F XW q.2)
theorem hds_ok (h : SO X Γ F XW) : ∀ {hs : List (List Nat × List S)} {hds : List ExceptHandler}, mHs Γ hs hds = true → HdsOk X hds (hList F XW hs)
  | [], [], _ => .nil
  | [], _ :: _, m => by simp [mHs] at m
  | q :: r, hds, m => by
    unfold mHs at m
    split at m
    · rename_i e1 e2; cases e2
    · rename_i c st r' x p1 b bs p2 hr e1
      cases e1
      simp only [Bool.and_eq_true, decide_eq_true_eq, Bool.not_eq_true'] at m
      obtain ⟨⟨⟨⟨m1, m2⟩, m3⟩, m4⟩, m5⟩ := m
      have e := h.xn x c m1
      exact .cons ⟨h.gl m2, m3, .inl e.g⟩ (fun a oe cls d pn _ _ => coldSs (X := X.suite a ((a, oe) :: pn)) ⟨h.N, h.nd, h.sc⟩ h.fnT m4) (hds_ok h m5)
    · cases m
theorem many_ok (h : SO X Γ F XW) {W W' : Wd} {H H' : Hp} {ρ : Env} {σ : L2.St} {s : Sta} {D : Ends} {x : Exc} {cls : Value} {dx : Option Addr} (e : Ext W H W' H') (ok : Ok W' H' ρ σ s) (xr : XRep W' H' x cls dx) :
    ∀ {hs : List (List Nat × List S)} {hds : List ExceptHandler}, mHs Γ hs hds = true → PostS (evHs F hs x ρ s) W H D XW → wMany X.K XW D (hList F XW hs) cls dx σ H'
  | [], _, _, post => by
    rw [evHs] at post
    exact post cls dx σ W' H' e ok xr
  | q :: r, hds, m, post => by
    unfold mHs at m
    split at m
    · rename_i e1 e2; cases e2
    · rename_i c st r' y p1 b bs p2 hr e1
      cases e1
      simp only [Bool.and_eq_true, decide_eq_true_eq, Bool.not_eq_true'] at m
      obtain ⟨⟨⟨⟨m1, m2⟩, m3⟩, m4⟩, m5⟩ := m
      have ea := h.xn y c m1
      rw [evHs] at post
      have t1 : ([c].any fun d => x.c == d || d == 0) = (x.c == c || c == 0) := by simp
      rw [t1] at post
      refine ⟨(x.c == c || c == 0), ?_, fun hb a _ => ?_, fun hb => ?_⟩
      · rw [h.K, xr.1]; exact xr.2.1 c ea.mem
      · rw [if_pos hb] at post
        exact ⟨W', ρ, s, ok, PostS.ext post e⟩
      · rw [if_neg (by rw [hb]; exact Bool.false_ne_true)] at post
        exact many_ok h e ok xr m5 post
    · cases m
theorem ss_try (h : SO X Γ F XW) {body : List S} {hs : List (List Nat × List S)} {bs : List Stmt} {h₀ : ExceptHandler} {hds : List ExceptHandler} {pos : Pos} (hb : ∀ (X' : Cx) (W' : WX), SO X' Γ F W' → PSs X' bs (tSs F W' body)) (mh : mHs Γ hs (h₀ :: hds) = true) :
    PS X (.Try bs (h₀ :: hds) [] [] pos) (tS F XW (.tryS body hs)) := by
  refine PS.imp (ps_try_many (tb := fun W => tSs F W body) h.stk h.fr h.tk (fun W pn xe tk own => hb (X.tr pn xe) W ⟨⟨h.N, h.nd, h.sc, h.calm, h.hu, tk, h.xn, h.fn, h.K, h.bl⟩, own, h.fnT, h.stk, h.fr⟩) (hds_ok h mh)) fun D σ H ⟨W, ρ, s, ok, post⟩ => ?_
  rw [evS] at post
  refine ⟨W, ρ, s, ok, ?_⟩
  cases R : evSs F body ρ s with
  | nx ρ' s' => rw [R] at post; exact post
  | rt d s' => rw [R] at post; exact post
  | stuck => rw [R] at post; exact post
  | exc x ρ' s' =>
    rw [R] at post
    exact fun cls dx σ' W' H' e ok' xr => many_ok h e ok' xr mh post
theorem ss_while (h : SO X Γ F XW) {n : Nat} {c : E} {body : List S} {p : Expr} {bs : List Stmt} {pos : Pos} (hc : PT X p (tT F XW c)) (hb : PSs X bs (tSs F XW body)) : PS X (.While p bs [] pos) (tS F XW (.whileS n c body)) := by
  refine PS.imp (ps_while h.own hc hb) fun D σ H ⟨W, ρ, s, ok, post⟩ => ?_
  rw [evS] at post
  generalize htest : (fun (ρ : Env) (s : Sta) => (evE F ρ c s).out ρ fun x s => match evTru (deref s x) with
    | some true => Out.nx ρ s
    | some false => .rt .non s
    | none => .stuck) = test at post
  refine ⟨fun m σ' H' => ∃ W' ρ' s', Ok W' H' ρ' σ' s' ∧ PostS (whileGo test (fun ρ s => evSs F body ρ s) m ρ' s') W' H' D XW, ⟨n, W, ρ, s, ok, post⟩, ?_⟩
  rintro m σ1 H1 ⟨W1, ρ1, s1, ok1, post1⟩
  cases m with
  | zero => rw [whileGo] at post1; exact post1.elim
  | succ m =>
    rw [whileGo] at post1
    have h1 := congrFun (congrFun htest ρ1) s1
    rw [← h1] at post1
    refine ⟨W1, ρ1, s1, ok1, ?_⟩
    cases R : evE F ρ1 c s1 with
    | stuck => rw [R] at post1; exact post1.elim
    | exc x s2 => rw [R] at post1; exact fun cls dx W' H' e ok' r => post1 cls dx σ1 W' H' e ok' r
    | ok x1 s2 =>
      rw [R] at post1
      cases et : evTru (deref s2 x1) with
      | none => simp only [Res.out, et] at post1; exact post1.elim
      | some b' =>
        show PostR _ (Res.of s2 (evTru (deref s2 x1))) _ _ _ _ _ _
        rw [et]
        intro c W2 H2 e2 ok2 eb
        subst eb
        cases c with
        | true =>
          simp only [Res.out, et] at post1
          rw [if_pos rfl]
          refine ⟨fun σ' H' => ∃ W' ρ' s', Ok W' H' ρ' σ' s' ∧ PostS (whileGo test (fun ρ s => evSs F body ρ s) m ρ' s') W' H' D XW, fun σ' H' hN => ⟨m, Nat.lt_succ_self m, hN⟩, W2, ρ1, s2, ok2, ?_⟩
          exact (PostS.ext post1 e2).andThen (N := fun σ' H' => ∃ W' ρ' s', Ok W' H' ρ' σ' s' ∧ PostS (whileGo test (fun ρ s => evSs F body ρ s) m ρ' s') W' H' D XW) (fun ρ3 s3 σ3 W3 H3 e3 ok3 p3 => ⟨W3, ρ3, s3, ok3, p3⟩) _ rfl rfl
        | false =>
          simp only [Res.out, et] at post1
          rw [if_neg Bool.false_ne_true]
          exact post1 σ1 W2 H2 e2 ok2
end
theorem sSs (F : FT) : ∀ (Γ : Gm) (ss : List S) (ts : List Stmt), ∀ (X : Cx) (XW : WX), SO X Γ F XW → mSs Γ ss ts = true → PSs X ts (tSs F XW ss) := by
  intro Γ
  apply mSs.induct (fun st t => ∀ (X : Cx) (XW : WX), SO X Γ F XW → mS Γ st t = true → PS X t (tS F XW st)) (fun ss ts => ∀ (X : Cx) (XW : WX), SO X Γ F XW → mSs Γ ss ts = true → PSs X ts (tSs F XW ss))
  case case1 => exact fun _ X XW h m => ss_pass
  case case2 => exact fun _ _ _ _ _ _ X XW h m => ss_set h m
  case case3 => exact fun _ _ _ _ _ _ _ X XW h m => ss_setT h m
  case case4 => exact fun _ _ _ _ _ _ _ _ _ _ _ _ _ X XW h m => ss_par2 h m
  case case5 => exact fun _ _ _ _ _ _ _ _ _ _ _ _ _ _ _ _ X XW h m => ss_par3 h m
  case case6 => exact fun _ _ _ _ _ _ _ _ X XW h m => ss_setIx h m
  case case7 =>
    intro e p pos X XW h m
    simp only [mS, Bool.and_eq_true] at m
    exact ss_expr (sE h.toCO m.2) m.1
  case case8 =>
    intro c a b p q r pos ih1 ih2 X XW h m
    simp only [mS, Bool.and_eq_true] at m
    obtain ⟨⟨⟨m1, m2⟩, m3⟩, m4⟩ := m
    exact ss_ite (sT h.toCO m2 m1) (ih1 X XW h m3) (ih2 X XW h m4)
  case case9 =>
    intro tg it body t q bs pos ih X XW h m
    simp only [mS, Bool.and_eq_true] at m
    obtain ⟨⟨⟨m1, m2⟩, m3⟩, m4⟩ := m
    exact ss_for h m1 m2 m3 (ih X XW h m4)
  case case10 =>
    intro n c body p bs pos ih X XW h m
    simp only [mS, Bool.and_eq_true] at m
    obtain ⟨⟨m1, m2⟩, m3⟩ := m
    exact ss_while h (sT h.toCO m2 m1) (ih X XW h m3)
  case case11 =>
    intro e p pos X XW h m
    simp only [mS] at m
    exact ss_ret (sE h.toCO m)
  case case12 => exact fun _ X XW h m => ss_retN
  case case13 =>
    intro c x p1 p2 pos X XW h m
    simp only [mS, Bool.and_eq_true, decide_eq_true_eq, Bool.not_eq_true'] at m
    exact ss_raise h.toCO m.1.1 m.1.2 m.2
  case case14 =>
    intro tg i body t x px bs pos ih X XW h m
    simp only [mS, Bool.and_eq_true] at m
    exact ss_forC h m.1.1 m.1.2 (ih X XW h m.2)
  case case15 =>
    intro body hs bs h0 hds pos ih X XW h m
    simp only [mS, Bool.and_eq_true] at m
    exact ss_try h (fun X' W' h' => ih X' W' h' m.1) m.2
  case case16 =>
    intros
    rename_i m
    rw [mS] at m
    all_goals first | cases m | assumption
  case case17 => exact fun X XW h m => sss_nil
  case case18 =>
    intro s ss t ts ih1 ih2 X XW h m
    simp only [mSs, Bool.and_eq_true] at m
    exact sss_cons (ih1 X XW h m.1) (ih2 X XW h m.2)
  case case19 =>
    intros
    rename_i m
    rw [mSs] at m
    all_goals first | cases m | assumption
end MP
/-! MP14: functions; the table of functions by depth. -/
namespace MP
open PySem L2 PyProof.Rows RZ
variable [Glob]
/-! ### the cells that are older -/
def Wd.cut (W : Wd) (n : Nat) : Wd := { W with la := W.la.take n }
theorem cut_sub {W : Wd} {n : Nat} {a : Addr} (h : a ∈ (W.cut n).vol) : a ∈ W.vol := by
  rcases List.mem_append.mp h with h | h
  · obtain ⟨p, hp, h⟩ := List.mem_flatMap.mp h
    exact List.mem_append_left _ (List.mem_flatMap.mpr ⟨p, List.mem_of_mem_take hp, h⟩)
  · exact List.mem_append_right _ h
theorem cut_get {W : Wd} {n k : Nat} {p : Addr × List Addr} (h : (W.cut n).la[k]? = some p) : W.la[k]? = some p ∧ k < n := by
  have h : (W.la.take n)[k]? = some p := h
  have l := (List.getElem?_eq_some_iff.mp h).1
  rw [List.length_take] at l
  have l2 : k < n := by omega
  rw [List.getElem?_take_of_lt l2] at h
  exact ⟨h, l2⟩
mutual
theorem Rep.cut {W : Wd} {H : Hp} {n : Nat} : ∀ {v : V} {d : Dt}, Rep W H v d → d.lo n = true → Rep (W.cut n) H v d
  | _, _, .non, _ => .non
  | _, _, .bl b, _ => .bl b
  | _, _, .int i, _ => .int i
  | _, _, .str s, _ => .str s
  | _, _, .tup e d n r, l => .tup e d (fun z => n (cut_sub z)) (Reps.cut r (by simpa only [Dt.lo] using l))
  | _, _, .lst e n r, l => .lst e (fun z => n (cut_sub z)) (Reps.cut r (by simpa only [Dt.lo] using l))
  | _, _, .ref (k := k) e, l => .ref (by
      simp only [Dt.lo, decide_eq_true_eq] at l
      show (W.la.take n)[k]? = _
      rw [List.getElem?_take_of_lt l]; exact e)
  | _, _, .scr e n, _ => .scr e fun z => n (cut_sub z)
  | _, _, .scrK e, _ => .scrK e
theorem Reps.cut {W : Wd} {H : Hp} {n : Nat} : ∀ {v : List V} {d : List Dt}, Reps W H v d → Dt.loAll n d = true → Reps (W.cut n) H v d
  | _, _, .nil, _ => .nil
  | _, _, .cons r t, l => by
    simp only [Dt.loAll, Bool.and_eq_true] at l
    exact .cons (Rep.cut r l.1) (Reps.cut t l.2)
end
mutual
theorem lo_mono {n m : Nat} (h : n ≤ m) : ∀ {d : Dt}, d.lo n = true → d.lo m = true
  | .ref k, l => by simp only [Dt.lo, decide_eq_true_eq] at l ⊢; omega
  | .tup xs, l => by simp only [Dt.lo] at l ⊢; exact loAll_mono h l
  | .lst xs, l => by simp only [Dt.lo] at l ⊢; exact loAll_mono h l
  | .non, _ => rfl
  | .bl _, _ => rfl
  | .int _, _ => rfl
  | .str _, _ => rfl
  | .scr _, _ => rfl
theorem loAll_mono {n m : Nat} (h : n ≤ m) : ∀ {d : List Dt}, Dt.loAll n d = true → Dt.loAll m d = true
  | [], _ => rfl
  | x :: xs, l => by
    simp only [Dt.loAll, Bool.and_eq_true] at l ⊢
    exact ⟨lo_mono h l.1, loAll_mono h l.2⟩
end
theorem COk.cut {W : Wd} {H : Hp} {s : Sta} (c : COk W H s) (n : Nat) (hn : n ≤ s.length) : COk (W.cut n) H (s.take n) := by
  refine ⟨by show (W.la.take n).length = _; rw [List.length_take, List.length_take, c.len], ?_, fun a h => c.al a (cut_sub h), fun k p ce h1 h2 => ?_⟩
  · have e : W.vol = (W.la.take n).flatMap (fun p => p.1 :: p.2) ++ (W.la.drop n).flatMap (fun p => p.1 :: p.2) ++ W.ex := by
      unfold Wd.vol
      rw [← List.flatMap_append, List.take_append_drop]
    have nd := c.nd
    rw [e] at nd
    exact nd.sublist ((List.sublist_append_left _ _).append (List.Sublist.refl _))
  · obtain ⟨h1, hk⟩ := cut_get h1
    rw [List.getElem?_take_of_lt hk] at h2
    obtain ⟨q, l⟩ := c.cell k p ce h1 h2
    refine ⟨?_, l⟩
    cases ce with
    | lst es =>
      obtain ⟨e0, xs, h, r⟩ := q
      exact ⟨e0, xs, h, r.cut (loAll_mono (Nat.le_of_lt hk) l)⟩
    | tab t =>
      obtain ⟨dx, ld, lu, vr, vm, vn, vw, xd, xu, e0, h1, h2, h3, h4, r1, r2, r3, r4, r5, r6⟩ := q
      simp only [Cell.lo, Bool.and_eq_true] at l
      obtain ⟨⟨⟨⟨⟨l1, l2⟩, l3⟩, l4⟩, l5⟩, l6⟩ := l
      have hk := Nat.le_of_lt hk
      exact ⟨dx, ld, lu, vr, vm, vn, vw, xd, xu, e0, h1, h2, h3, h4, r1.cut (lo_mono hk l1), r2.cut (lo_mono hk l2), r3.cut (lo_mono hk l3), r4.cut (lo_mono hk l4), r5.cut (loAll_mono hk l5), r6.cut (loAll_mono hk l6)⟩
theorem Ext.cut {W W' : Wd} {H H' : Hp} (x : Ext W H W' H') {n : Nat} (hn : W.la.length = n) : Ext W H (W'.cut n) H' := by
  obtain ⟨t, ht⟩ := x.la
  refine ⟨⟨⟨[], ?_⟩, fun a o e na => ⟨(x.keep a o e na).1, fun z => (x.keep a o e na).2 (cut_sub z)⟩⟩, x.ex, x.exk⟩
  rw [List.append_nil]
  show _ = W'.la.take n
  rw [← ht, ← hn, List.take_left]
theorem la_out {W : Wd} {H : Hp} {s : Sta} (c : COk W H s) {n k : Nat} {p : Addr × List Addr} (hp : W.la[k]? = some p) (hk : n ≤ k) : p.1 ∉ (W.cut n).vol := fun z => by
  rcases List.mem_append.mp z with z | z
  · obtain ⟨q, hq, z⟩ := List.mem_flatMap.mp z
    obtain ⟨j, hj⟩ := List.getElem?_of_mem hq
    obtain ⟨hj, l⟩ := cut_get (W := W) hj
    exact vol_apart c.nd hp hj (by omega) List.mem_cons_self z
  · exact la_ex c.nd hp List.mem_cons_self z

/-! ### the rule -/
theorem leave_eq {n : Nat} {d : Dt} {s : Sta} (h : ∀ k, d ≠ .ref k) : leave n d s = if Dt.lo n d = true then .ok d (s.take n) else .stuck := by
  cases d <;> first | rfl | exact absurd rfl (h _)
theorem start_ok {W : Wd} {H : Hp} {N : List Str} {vs : List V} {ds : List Dt} (r : Reps W H vs ds) : EOk W H (ds.map some ++ List.replicate (N.length - ds.length) none) (L2.start N vs) := by
  unfold L2.start
  rw [← r.length]
  refine ⟨by simp [r.length], fun i d e => ?_⟩
  by_cases l : i < ds.length
  · rw [List.getElem?_append_left (by rw [List.length_map]; exact l), List.getElem?_map] at e
    rw [List.getElem?_append_left (by rw [List.length_map, r.length]; exact l), List.getElem?_map]
    cases h : ds[i]? with
    | none => rw [h] at e; cases e
    | some x =>
      rw [h] at e
      cases e
      obtain ⟨v, hv, rv⟩ := r.get h
      exact ⟨v, by rw [hv]; rfl, rv⟩
  · rw [List.getElem?_append_right (by rw [List.length_map]; omega), List.getElem?_replicate] at e
    split at e <;> cases e
theorem fn_rule {P : Program} {w : World} {mg : Str → Option Value} {base : Heap} {x qual : Str} {st : Stmt} {f : Addr} {fd : FuncData} {ps : List Str} {k : Nat} {Γ : Gm} {T : FT} {body : List S}
    (F : Fun Glob.K x qual st f fd) (S : FnScope Γ.N ps (defScope st)) (hsc : Γ.sc = defScope st) (hm : mSs Γ body (defBody st) = true)
    (hx : ∀ x c, Γ.fs.lookup x = some (1000 + c) → ExcAt mg x c)
    (hc : ∀ x g, Γ.fs.lookup x = some g → g < 1000 → ∃ f fd ps, FnOk P w Glob.K mg base (L2.CX P w) k f fd ps (spF ps.length (T g)) ∧ mg x = some (.ref f) ∧ PySem.W.keepIn Glob.K (.ref f) = true ∧ Binds Glob.K fd ps [] ∧ ∀ ds s, ds.length ≠ ps.length → T g ds s = .stuck)
    (hb : ∀ x ∈ bltNames, mg x = none) : FnOk P w Glob.K mg base (L2.CX P w) (k + 1) f fd ps (spF ps.length (runF T Γ.N.length ps.length body)) := by
  refine F.okX S (fun vs H Q E h => h.1) (fun cdv A outer s H vs Q E hr h => ⟨tSs T (fun cls d _ H => E cls d H) body, ?_, ?_⟩)
  · refine sSs T Γ body (defBody st) _ _ ⟨⟨rfl, S.nd, hsc.symm, rfl, ?_, takes_of rfl rfl rfl rfl, hx, fun x g hg hlt => ?_, rfl, hb⟩, passes_of rfl, fun _ => rfl, rfl, rfl⟩ hm
    · have h1 : (A.deeper (envOfC qual (defScope st) s.heap.objs.size f cdv)).units + 16 * k + 200 < cLine := hr.un
      show (A.deeper (envOfC qual (defScope st) s.heap.objs.size f cdv)).units + 80 < cLine
      omega
    · obtain ⟨f', fd', ps', h1, h2, h3, h4, h5⟩ := hc x g hg hlt
      exact ⟨k, f', fd', ps', h1, hr, h2, h3, h4, h5⟩
  · obtain ⟨hl, W, ds, s1, c, r, q⟩ := h
    have hl2 : ds.length = ps.length := by rw [← r.length]; exact hl
    refine ⟨W, ds.map some ++ List.replicate (Γ.N.length - ps.length) none, s1, ⟨c, ?_⟩, ?_⟩
    · have := start_ok (N := Γ.N) r
      rw [hl2] at this
      exact this
    · unfold runF at q
      rw [if_pos hl2] at q
      cases R : evSs T body (ds.map some ++ List.replicate (Γ.N.length - ps.length) none) s1 with
      | stuck => rw [R] at q; exact q
      | nx ρ' s' =>
        rw [R] at q
        intro σ' W' H' x ok
        have hn : s1.length ≤ s'.length := by rw [← c.len, ← ok.c.len]; exact x.la.length_le
        exact q .non _ H' (x.cut c.len) (ok.c.cut _ hn) .non
      | exc y ρ' s' =>
        rw [R] at q
        intro cls dx σ' W' H' x ok xr
        have hn : s1.length ≤ s'.length := by rw [← c.len, ← ok.c.len]; exact x.la.length_le
        exact q cls dx _ H' (x.cut c.len) (ok.c.cut _ hn) xr
      | rt d s' =>
        rw [R] at q
        intro v W' H' x c' rv
        have hn : s1.length ≤ s'.length := by rw [← c.len, ← c'.len]; exact x.la.length_le
        have cc := c'.cut _ hn
        have xx := x.cut c.len
        have plain : d.lo s1.length = true → (∀ v W2 H2, Ext W H W2 H2 → COk W2 H2 (s'.take s1.length) → Rep W2 H2 v d → Q v H2) → Q v H' := fun l k => k v _ H' xx cc (rv.cut l)
        by_cases hd : ∃ k, d = .ref k
        · obtain ⟨k, rfl⟩ := hd
          simp only [leave] at q
          by_cases hk : k < s1.length
          · rw [if_pos hk] at q
            exact plain (by simp only [Dt.lo, decide_eq_true_eq]; exact hk) q
          · rw [if_neg hk] at q
            cases hs : s'[k]? with
            | none => rw [hs] at q; exact q.elim
            | some ce =>
              rw [hs] at q
              cases ce with
              | tab t => exact q.elim
              | lst es =>
                simp only at q
                by_cases hlo : Dt.loAll s1.length es = true
                · rw [if_pos hlo] at q
                  obtain ⟨p, xs, hp, ev, ha, ra⟩ := rowed c' rv hs
                  subst ev
                  exact q _ _ H' xx cc (.lst ha (la_out c' hp (by omega)) (ra.cut hlo))
                · rw [if_neg hlo] at q; exact q.elim
        · simp only [leave_eq fun k e => hd ⟨k, e⟩] at q
          by_cases l : Dt.lo s1.length d = true
          · rw [if_pos l] at q
            exact plain l q
          · rw [if_neg l] at q
            exact q.elim
end MP
/-! MP15: the table of functions by depth; the law's end. -/
namespace MP
open PySem L2 PyProof.Rows RZ
structure Fn where
  slots : Nat
  pars : Nat
  body : List S
/-- what the functions come to, calls at most so deep -/
def FTab (fb : Nat → Option Fn) : Nat → FT
  | 0 => fun _ _ _ => .stuck
  | j + 1 => fun g ds s => match fb g with
    | some f => runF (FTab fb j) f.slots f.pars f.body ds s
    | none => .stuck
variable [Glob]
/-- a def of the text is the g-th function -/
structure DefAt (mg : Str → Option Value) (fb : Nat → Option Fn) (fs : List (Str × Nat)) (x : Str) (g : Nat) : Prop where
  ex : ∃ (st : Stmt) (f : Addr) (fd : FuncData) (N ps : List Str) (body : List S), Fun Glob.K x x st f fd ∧ FnScope N ps (defScope st) ∧ fb g = some ⟨N.length, ps.length, body⟩ ∧ mSs ⟨N, defScope st, fs⟩ body (defBody st) = true ∧ mg x = some (.ref f) ∧ Binds Glob.K fd ps []
theorem runF_len {T : FT} {n p : Nat} {body : List S} {ds : List Dt} {s : Sta} (h : ds.length ≠ p) : runF T n p body ds s = .stuck := by
  unfold runF
  rw [if_neg h]
theorem all_fns {P : Program} {w : World} {mg : Str → Option Value} {base : Heap} {fb : Nat → Option Fn} {fs : List (Str × Nat)} (hd : ∀ x g, fs.lookup x = some g → g < 1000 → DefAt mg fb fs x g) (hx : ∀ x c, fs.lookup x = some (1000 + c) → ExcAt mg x c) (hb : ∀ x ∈ bltNames, mg x = none) :
    ∀ (j : Nat) x g, fs.lookup x = some g → g < 1000 → ∃ f fd ps, FnOk P w Glob.K mg base (L2.CX P w) j f fd ps (spF ps.length (FTab fb j g)) ∧ mg x = some (.ref f) ∧ PySem.W.keepIn Glob.K (.ref f) = true ∧ Binds Glob.K fd ps [] ∧ ∀ ds s, ds.length ≠ ps.length → FTab fb j g ds s = .stuck
  | 0, x, g, hg, hlt => by
    obtain ⟨st, f, fd, N, ps, body, F, S, e, m, hm, hbn⟩ := (hd x g hg hlt).ex
    exact ⟨f, fd, ps, ⟨fun vs H Q E h => h.1, fun A outer s H args us vs Q E hr e0 hbd hv h => by obtain ⟨_, W, ds, s, _, _, q⟩ := h; exact q.elim⟩, hm, F.kp, hbn, fun _ _ _ => rfl⟩
  | j + 1, x, g, hg, hlt => by
    obtain ⟨st, f, fd, N, ps, body, F, S, e, m, hm, hbn⟩ := (hd x g hg hlt).ex
    have ih := all_fns (P := P) (w := w) (base := base) hd hx hb j
    have et : ∀ ds s, FTab fb (j + 1) g ds s = runF (FTab fb j) N.length ps.length body ds s := fun ds s => by
      show (match fb g with | some f => runF (FTab fb j) f.slots f.pars f.body ds s | none => .stuck) = _
      rw [e]
    have e2 : FTab fb (j + 1) g = runF (FTab fb j) N.length ps.length body := funext fun ds => funext fun s => et ds s
    refine ⟨f, fd, ps, ?_, hm, F.kp, hbn, fun ds s h => by rw [et]; exact runF_len h⟩
    rw [e2]
    exact fn_rule (Γ := ⟨N, defScope st, fs⟩) F S rfl m hx ih hb
/-- the law's own promise -/
theorem law_sp {m : List Dt → Sta → Res Dt} {ns : List Int} {H : Hp} {a : Addr} (hO : Only H) (hS : SqL Glob.K H a (ns.map V.int)) (h : ∃ s', m [.scr ns] [] = .ok (.bl true) s') : spF 1 m [.ref a] H (fun v _ => v = .bl true) fun _ _ _ => False := by
  obtain ⟨s', h⟩ := h
  refine ⟨rfl, ⟨[], []⟩, [.scr ns], [], ⟨rfl, List.nodup_nil, fun a h => by simp [Wd.vol] at h, fun k p c h => by simp at h⟩, .cons ?_ .nil, ?_⟩
  · rcases hS with (h | ⟨o, h⟩) | h
    · rcases hO a with z | ⟨o, xs, z⟩
      · rw [z] at h; cases h
      · rw [z] at h; cases h
    · exact .scr h (by simp [Wd.vol])
    · exact .scrK h
  · rw [h]
    exact fun v W' H' x c r => r.bl_inv
theorem defs_of {mg : Str → Option Value} {fb : Nat → Option Fn} {fs l : List (Str × Nat)} (h : ∀ p ∈ l, p.2 < 1000 → DefAt mg fb fs p.1 p.2) : ∀ x g, l.lookup x = some g → g < 1000 → DefAt mg fb fs x g := fun x g e hlt => h (x, g) (PySem.mem_of_lookup e) hlt
theorem excs_of {mg : Str → Option Value} {l : List (Str × Nat)} (h : ∀ p ∈ l, 1000 ≤ p.2 → ExcAt mg p.1 (p.2 - 1000)) : ∀ x c, l.lookup x = some (1000 + c) → ExcAt mg x c := fun x c e => by
  have z := h (x, 1000 + c) (PySem.mem_of_lookup e) (Nat.le_add_right _ _)
  simp only [Nat.add_sub_cancel_left] at z
  exact z
end MP
namespace MP
open PySem L2 PyProof.Rows RZ
def addrIn (K : PySem.W.Frag) (x : Str) : Addr := match PySem.W.nsIn K mainGlobals x with
  | some (some (.ref a)) => a
  | _ => 0
def excName : Nat → Str
  | 0 => "BaizeError" | 1 => "NoText" | 2 => "NoBreak" | 3 => "BadDeed" | 4 => "Over" | 5 => "NotNow" | 6 => "NoFrame" | 7 => "NoDeed" | 8 => "NothingBack" | _ => "BadMend"
def globOf (hd : List Nat) (K : PySem.W.Frag) : Glob := ⟨K, addrIn K "Table", fun c => addrIn K (excName c), hd⟩
/-- whether an error of the class at C is what a clause for the class at S names -/
theorem exm_by {K : PySem.W.Frag} {C S : Addr} {b : Bool} (h1 : PySem.W.subIn K (.ref S) (.type "BaseException") = some true) (h2 : PySem.W.isClsIn K S = true) (h3 : PySem.W.typeIn K (.ref S) = some (.type "type")) (h4 : PySem.W.subIn K (.ref C) (.ref S) = some b) :
    PySem.W.exmOne K (.ref C) (.ref S) = some b := by
  have e1 : (PySem.W.subIn K (.ref S) (.type "BaseException") == some true) = true := by rw [h1]; rfl
  have e2 : (PySem.W.clsIn K S).isSome = true := h2
  unfold PySem.W.exmOne PySem.W.kitCls
  rw [if_pos e1]
  simp only [e2, h3, Bool.true_and]
  exact h4
/-- the promise of the law's def -/
def spLaw (hd : List Nat) (m : List Dt → Sta → Res Dt) (K : PySem.W.Frag) : Sp := letI := globOf hd K; spF 1 m
theorem walk {hd : List Nat} {l : PySem.W.OpenLaw} {q : Program} {loose : List Str} {XP : (Str → Option Value) → Heap → Prop} {YP : World → Heap → Prop} {d : DefRec} {K : Params → PySem.W.Frag} {m : List Dt → Sta → Res Dt} (hn : l.most = some 63) (hdf : d.params.defaults = [])
    (hY : ∀ (w : World) (h : Heap), YP w h → (K w.params).In h) (hp : ∀ ns : List Int, ns.length ≤ 63 → ∃ s', m [.scr ns] [] = .ok (.bl true) s')
    (F : ∀ (w : World) (mg : Str → Option Value) (fa : Addr) (h : Heap), (K w.params).In h → h.Ns mainGlobals mg → mg d.name = some (.ref fa) →
      ∃ fd : FuncData, (∀ (s : Shared) (u : Value), BindsTo s fd ⟨[u], []⟩ [("_law_script", u)]) ∧ ∀ base : Heap, (K w.params).In base → base.Ns mainGlobals mg → FnOk l.prog w (K w.params) mg base (L2.CX l.prog w) 40 fa fd ["_law_script"] (spLaw hd m (K w.params))) :
    PySem.W.WalkO q loose XP YP l.row.toRowW d [] (fun f vs => PySem.call f vs) :=
  L2.walk_of (n := 63) (k := 40) (x := "_law_script") (CX := fun w => L2.CX l.prog w) (sp := fun w => spLaw hd m (K w.params)) hn (by decide) hdf ⟨rfl, by decide, by decide⟩ hY F (fun w H a ns hl hO hS => by
    letI := globOf hd (K w.params)
    exact law_sp hO hS (hp ns hl)) fun w H s e s' h => by
    obtain ⟨_, _, _, _, _, _, _, _, _, _, _, _, z⟩ := h
    exact z
end MP
/-! MP16: the evaluator's equations, as one reckons with them. -/
namespace MP
open PySem
def brB {α : Type} (o : Option Bool) (a b c : α) : α := match o with
  | some true => a
  | some false => b
  | none => c
theorem brB_t {α : Type} {a b c : α} : brB (some true) a b c = a := id rfl
theorem brB_f {α : Type} {a b c : α} : brB (some false) a b c = b := id rfl
theorem brB_d {α : Type} {p : Prop} [Decidable p] {a b c : α} : brB (some (decide p)) a b c = if p then a else b := by by_cases h : p <;> simp [brB, h]
theorem brB_nd {α : Type} {p : Prop} [Decidable p] {a b c : α} : brB (some (!decide p)) a b c = if p then b else a := by by_cases h : p <;> simp [brB, h]
theorem brB_b {α : Type} {x : Bool} {a b c : α} : brB (some x) a b c = if x = true then a else b := by cases x <;> rfl
def lookV (o : Option (Option Dt)) (s : Sta) : Res Dt := match o with
  | some (some d) => .ok d s
  | _ => .stuck
theorem lookV_some {d : Dt} {s : Sta} : lookV (some (some d)) s = .ok d s := rfl
def onI {α : Type} (d : Dt) (f : Int → Res α) : Res α := match d with
  | .int i => f i
  | _ => .stuck
theorem onI_int {α : Type} {i : Int} {f : Int → Res α} : onI (.int i) f = f i := id rfl
def onR (d : Dt) (f : Nat → Res Dt) : Res Dt := match d with
  | .ref i => f i
  | _ => .stuck
theorem onR_ref {i : Nat} {f : Nat → Res Dt} : onR (.ref i) f = f i := id rfl
def onS (d : Dt) (f : List Dt → Out) : Out := match d with
  | .tup ds => f ds
  | .lst ds => f ds
  | _ => .stuck
theorem onS_tup {ds : List Dt} {f : List Dt → Out} : onS (.tup ds) f = f ds := id rfl
theorem onS_lst {ds : List Dt} {f : List Dt → Out} : onS (.lst ds) f = f ds := id rfl
def zipO (x y : Dt) (s : Sta) : Res (List Dt) := match x, y with
  | .lst xs, .lst ys => .ok (zipD xs ys) s
  | .tup xs, .tup ys => .ok (zipD xs ys) s
  | _, _ => .stuck
theorem zipO_lst {xs ys : List Dt} {s : Sta} : zipO (.lst xs) (.lst ys) s = .ok (zipD xs ys) s := rfl
theorem zipO_tup {xs ys : List Dt} {s : Sta} : zipO (.tup xs) (.tup ys) s = .ok (zipD xs ys) s := rfl
def finish (n : Nat) : Out → Res Dt
  | .nx _ s' => .ok .non (s'.take n)
  | .rt d s' => leave n d s'
  | .exc x _ s' => .exc x (s'.take n)
  | .stuck => .stuck
theorem finish_rt {n : Nat} {d : Dt} {s : Sta} : finish n (.rt d s) = leave n d s := rfl
theorem finish_nx {n : Nat} {ρ : Env} {s : Sta} : finish n (.nx ρ s) = .ok .non (s.take n) := rfl
theorem finish_exc {n : Nat} {x : Exc} {ρ : Env} {s : Sta} : finish n (.exc x ρ s) = .exc x (s.take n) := rfl
theorem finish_ite {n : Nat} {p : Prop} [Decidable p] {a b : Out} : finish n (if p then a else b) = if p then finish n a else finish n b := by split <;> rfl
theorem runF_eq {F : FT} {n p : Nat} {body : List S} {args : List Dt} {s : Sta} (h : args.length = p) : runF F n p body args s = finish s.length (evSs F body (args.map some ++ List.replicate (n - p) none) s) := by
  unfold runF
  rw [if_pos h]
  cases evSs F body (args.map some ++ List.replicate (n - p) none) s <;> rfl
section
variable {α β : Type} {F : FT} {ρ : Env} {s : Sta} {p : Prop} [Decidable p]
theorem ok_bind {a : α} {f : α → Sta → Res β} : (Res.ok a s).bind f = f a s := id rfl
theorem stuck_bind {f : α → Sta → Res β} : (Res.stuck : Res α).bind f = .stuck := rfl
theorem exc_bind {x : Exc} {f : α → Sta → Res β} : (Res.exc x s : Res α).bind f = .exc x s := rfl
theorem ite_bind {a b : Res α} {f : α → Sta → Res β} : (if p then a else b).bind f = if p then a.bind f else b.bind f := by split <;> rfl
theorem ok_out {a : α} {f : α → Sta → Out} : (Res.ok a s).out ρ f = f a s := id rfl
theorem stuck_out {f : α → Sta → Out} : (Res.stuck : Res α).out ρ f = .stuck := rfl
theorem exc_out {x : Exc} {f : α → Sta → Out} : (Res.exc x s : Res α).out ρ f = .exc x ρ s := rfl
theorem ite_out {a b : Res α} {f : α → Sta → Out} : (if p then a else b).out ρ f = if p then a.out ρ f else b.out ρ f := by split <;> rfl
theorem nx_then {f : Env → Sta → Out} : (Out.nx ρ s).andThen f = f ρ s := id rfl
theorem rt_then {d : Dt} {f : Env → Sta → Out} : (Out.rt d s).andThen f = .rt d s := rfl
theorem stuck_then {f : Env → Sta → Out} : Out.stuck.andThen f = .stuck := rfl
theorem exc_then {x : Exc} {f : Env → Sta → Out} : (Out.exc x ρ s).andThen f = .exc x ρ s := rfl
theorem ite_then {a b : Out} {f : Env → Sta → Out} : (if p then a else b).andThen f = if p then a.andThen f else b.andThen f := by split <;> rfl
theorem of_some' {a : α} : Res.of s (some a) = .ok a s := rfl
theorem of_none' : Res.of s (none : Option α) = .stuck := rfl
theorem of_ite {a b : Option α} : Res.of s (if p then a else b) = if p then Res.of s a else Res.of s b := by split <;> rfl
theorem map_ite {a b : Option α} {f : α → β} : (if p then a else b).map f = if p then a.map f else b.map f := by split <;> rfl
theorem e_var {i : Nat} : evE F ρ (.var i) s = lookV ρ[i]? s := by
  rw [evE]
  rcases ρ[i]? with _ | (_ | d) <;> rfl
theorem e_non : evE F ρ .non s = .ok .non s := by rw [evE]
theorem e_bl {b : Bool} : evE F ρ (.bl b) s = .ok (.bl b) s := by rw [evE]
theorem e_int {i : Int} : evE F ρ (.int i) s = .ok (.int i) s := by rw [evE]
theorem e_neg {i : Int} : evE F ρ (.neg i) s = .ok (.int (-i)) s := by rw [evE]
theorem e_str {x : Str} : evE F ρ (.str x) s = .ok (.str x) s := by rw [evE]
theorem es_nil : evEs F ρ [] s = .ok [] s := by rw [evEs]
theorem es_cons {e : E} {es : List E} : evEs F ρ (e :: es) s = (evE F ρ e s).bind fun d s => (evEs F ρ es s).bind fun ds s => .ok (d :: ds) s := by rw [evEs]
theorem e_tup {es : List E} : evE F ρ (.tup es) s = (evEs F ρ es s).bind fun ds s => if ds.length ≤ lineM then .ok (.tup ds) s else .stuck := by rw [evE]
theorem e_lst {es : List E} : evE F ρ (.lst es) s = (evEs F ρ es s).bind fun ds s => if ds.length ≤ lineM then .ok (.lst ds) s else .stuck := by rw [evE]
theorem e_mlst {es : List E} : evE F ρ (.mlst es) s = (evEs F ρ es s).bind fun ds s => if decide (ds.length ≤ lineM) && Dt.loAll s.length ds then .ok (.ref s.length) (s ++ [.lst ds]) else .stuck := by rw [evE]
theorem e_bin {op : BOp} {a b : E} : evE F ρ (.bin op a b) s = (evE F ρ a s).bind fun x s => (evE F ρ b s).bind fun y s => Res.of s (evBin op (deref s x) (deref s y)) := by rw [evE]
theorem e_cmp {op : COp} {a b : E} : evE F ρ (.cmp op a b) s = (evE F ρ a s).bind fun x s => (evE F ρ b s).bind fun y s => Res.of s ((evCmp op (deref s x) (deref s y)).map .bl) := by rw [evE]
theorem e_cmp2 {op op' : COp} {a b c : E} : evE F ρ (.cmp2 op op' a b c) s = (evE F ρ a s).bind fun x s => (evE F ρ b s).bind fun y s => brB (evCmp op (deref s x) (deref s y)) ((evE F ρ c s).bind fun z s => Res.of s ((evCmp op' (deref s y) (deref s z)).map .bl)) (.ok (.bl false) s) .stuck := by
  rw [evE] <;> first | rfl | (congr 1; funext x s; congr 1; funext y s; rcases evCmp op (deref s x) (deref s y) with _ | (_ | _) <;> rfl)
theorem e_isNon {a : E} : evE F ρ (.isNon a) s = (evE F ρ a s).bind fun x s => .ok (.bl x.isNon) s := by rw [evE]
theorem e_notNon {a : E} : evE F ρ (.notNon a) s = (evE F ρ a s).bind fun x s => .ok (.bl (!x.isNon)) s := by rw [evE]
theorem e_isBl {b : Bool} {a : E} : evE F ρ (.isBl b a) s = (evE F ρ a s).bind fun x s => .ok (.bl (x.isBl b)) s := by rw [evE]
theorem e_notBl {b : Bool} {a : E} : evE F ρ (.notBl b a) s = (evE F ρ a s).bind fun x s => .ok (.bl (!x.isBl b)) s := by rw [evE]
theorem e_and {a b : E} : evE F ρ (.and a b) s = (evE F ρ a s).bind fun x s => brB (evTru (deref s x)) (evE F ρ b s) (.ok x s) .stuck := by
  rw [evE] <;> first | rfl | (congr 1; funext x s; rcases evTru (deref s x) with _ | (_ | _) <;> rfl)
theorem e_or {a b : E} : evE F ρ (.or a b) s = (evE F ρ a s).bind fun x s => brB (evTru (deref s x)) (.ok x s) (evE F ρ b s) .stuck := by
  rw [evE] <;> first | rfl | (congr 1; funext x s; rcases evTru (deref s x) with _ | (_ | _) <;> rfl)
theorem e_not {a : E} : evE F ρ (.not a) s = (evE F ρ a s).bind fun x s => Res.of s ((evTru (deref s x)).map fun b => .bl (!b)) := by rw [evE]
theorem e_ite {c a b : E} : evE F ρ (.ite c a b) s = (evE F ρ c s).bind fun x s => brB (evTru (deref s x)) (evE F ρ a s) (evE F ρ b s) .stuck := by
  rw [evE] <;> first | rfl | (congr 1; funext x s; rcases evTru (deref s x) with _ | (_ | _) <;> rfl)
theorem e_ix {a i : E} : evE F ρ (.ix a i) s = (evE F ρ a s).bind fun x s => (evE F ρ i s).bind fun y s => Res.of s (evIx (deref s x) y) := by rw [evE]
theorem e_slHi {a h : E} : evE F ρ (.slHi a h) s = (evE F ρ a s).bind fun x s => (evE F ρ h s).bind fun y s => onI y fun j => Res.of s (evSl none (some j) (deref s x)) := by
  rw [evE] <;> first | rfl | (congr 1; funext x s; congr 1; funext y s; cases y <;> rfl)
theorem e_slLo {a h : E} : evE F ρ (.slLo a h) s = (evE F ρ a s).bind fun x s => (evE F ρ h s).bind fun y s => onI y fun j => Res.of s (evSl (some j) none (deref s x)) := by
  rw [evE] <;> first | rfl | (congr 1; funext x s; congr 1; funext y s; cases y <;> rfl)
theorem e_slLH {a l h : E} : evE F ρ (.slLH a l h) s = (evE F ρ a s).bind fun x s => (evE F ρ l s).bind fun y s => onI y fun i => (evE F ρ h s).bind fun z s => onI z fun j => Res.of s (evSl (some i) (some j) (deref s x)) := by
  rw [evE] <;> first | rfl | (congr 1; funext x s; congr 1; funext y s; cases y <;> (try rfl); show _ = Res.bind _ _; congr 1; funext z s; cases z <;> rfl)
theorem e_call {f : Nat} {es : List E} : evE F ρ (.call f es) s = (evEs F ρ es s).bind fun ds s => F f ds s := by rw [evE]
theorem e_blt {b : Bl} {es : List E} : evE F ρ (.blt b es) s = (evEs F ρ es s).bind fun ds s => Res.of s (evBl b (ds.map (deref s))) := by rw [evE]
theorem e_isi {t : Ty} {a : E} : evE F ρ (.isi t a) s = (evE F ρ a s).bind fun x s => Res.of s ((evIsi t (deref s x)).map .bl) := by rw [evE]
theorem e_mth {m : Mt} {o : E} {es : List E} : evE F ρ (.mth m o es) s = (evE F ρ o s).bind fun x s => if okMt m (deref s x) then (evEs F ρ es s).bind fun ds s => Res.of s (evMt m (deref s x) (ds.map (deref s))) else .stuck := by rw [evE]
theorem e_lrng1 {b : E} : evE F ρ (.lrng1 b) s = (evE F ρ b s).bind fun y s => onI y fun j => if okRng 0 j then .ok (.lst (rngD 0 j)) s else .stuck := by
  rw [evE] <;> first | rfl | (congr 1; funext y s; cases y <;> rfl)
theorem e_lrng {a b : E} : evE F ρ (.lrng a b) s = (evE F ρ a s).bind fun x s => (evE F ρ b s).bind fun y s => onI x fun i => onI y fun j => if okRng i j then .ok (.lst (rngD i j)) s else .stuck := by
  rw [evE] <;> first | rfl | (congr 1; funext x s; congr 1; funext y s; cases x <;> cases y <;> rfl)
theorem e_trng {a b : E} : evE F ρ (.trng a b) s = (evE F ρ a s).bind fun x s => (evE F ρ b s).bind fun y s => onI x fun i => onI y fun j => if okRng i j then .ok (.tup (rngD i j)) s else .stuck := by
  rw [evE] <;> first | rfl | (congr 1; funext x s; congr 1; funext y s; cases x <;> cases y <;> rfl)
def setC (s : Sta) (k : Nat) (f : List Dt → Res Dt) : Res Dt := match s[k]? with
  | some (.lst ds) => f ds
  | _ => .stuck
theorem setC_eq {k : Nat} {f : List Dt → Res Dt} {ds : List Dt} (h : s[k]? = some (.lst ds)) : setC s k f = f ds := by unfold setC; rw [h]
theorem e_app {x e : E} : evE F ρ (.app x e) s = (evE F ρ x s).bind fun o s => if isCell s o then (evE F ρ e s).bind fun d s => onR o fun k => setC s k fun ds => if decide (ds.length < lineM) && Dt.lo k d then .ok .non (setCell s k (ds ++ [d])) else .stuck
    else .stuck := by
  rw [evE] <;> rfl
/-- one item of a comprehension -/
def lcOne (F : FT) (ρ : Env) (elt : E) (tg : Tg) (own : List Nat) (ifs : List E) : Dt → Sta → Res (Option Dt) := fun d s => match bindTg tg d (wipeE ρ own) with
      | none => .stuck
      | some ρ' => match evIfs F ρ' ifs s with
        | .ok true s1 => (evE F ρ' elt s1).bind fun x s2 => .ok (some x) s2
        | .ok false s1 => .ok none s1
        | _ => .stuck
theorem e_lc {elt : E} {tg : Tg} {it : I} {own : List Nat} {ifs : List E} : evE F ρ (.lc elt tg it own ifs) s = (evI F ρ it s).bind fun ds s => (lcGo (lcOne F ρ elt tg own ifs) ds s).bind fun r s => if ds.length < lineM then .ok (.lst r) s else .stuck := by
  rw [evE]; rfl
theorem lcOne_nil {elt : E} {i : Nat} {own : List Nat} {d : Dt} : lcOne F ρ elt (.nm i) own [] d s = (evE F ((wipeE ρ own).set i (some d)) elt s).bind fun x s2 => .ok (some x) s2 := by
  unfold lcOne; simp only [bindTg, evIfs]
def lcIf (x : Option Bool) (s : Sta) (f : Sta → Res Dt) : Res (Option Dt) := match x with
  | some true => (f s).bind fun x s => .ok (some x) s
  | some false => .ok none s
  | none => .stuck
theorem lcIf_d {f : Sta → Res Dt} : lcIf (some (decide p)) s f = if p then (f s).bind fun x s => .ok (some x) s else .ok none s := by by_cases h : p <;> simp [lcIf, h]
theorem lcIf_nd {f : Sta → Res Dt} : lcIf (some (!decide p)) s f = if p then .ok none s else (f s).bind fun x s => .ok (some x) s := by by_cases h : p <;> simp [lcIf, h]
theorem lcIf_t {f : Sta → Res Dt} : lcIf (some true) s f = (f s).bind fun x s => .ok (some x) s := rfl
theorem lcIf_f {f : Sta → Res Dt} : lcIf (some false) s f = .ok none s := rfl
/-- with a test -/
theorem lcOne_one {elt c : E} {i : Nat} {own : List Nat} {d : Dt} {x : Dt} {s1 : Sta} (h : evE F ((wipeE ρ own).set i (some d)) c s = .ok x s1) :
    lcOne F ρ elt (.nm i) own [c] d s = lcIf (evTru (deref s1 x)) s1 fun s1 => evE F ((wipeE ρ own).set i (some d)) elt s1 := by
  unfold lcOne; simp only [bindTg, evIfs, h, ok_bind]
  rcases evTru (deref s1 x) with _ | (_ | _) <;> rfl
theorem lcGo_map {one : Dt → Sta → Res (Option Dt)} {γ : Type} {f : γ → Dt} {g : γ → Option Dt} : ∀ {l : List γ} {s : Sta}, (∀ x ∈ l, one (f x) s = .ok (g x) s) → lcGo one (l.map f) s = .ok (l.filterMap g) s
  | [], s, _ => rfl
  | x :: l, s, h => by
    rw [List.map_cons, lcGo, h x List.mem_cons_self]
    simp only
    rw [lcGo_map fun y hy => h y (List.mem_cons_of_mem _ hy)]
    cases hg : g x <;> simp [hg]
theorem i_e {a : E} : evI F ρ (.e a) s = (evE F ρ a s).bind fun x s => Res.of s (itemsOf x) := by rw [evI]
theorem i_rng1 {b : E} : evI F ρ (.rng1 b) s = (evE F ρ b s).bind fun y s => onI y fun j => if okRng 0 j then .ok (rngD 0 j) s else .stuck := by
  rw [evI] <;> first | rfl | (congr 1; funext y s; cases y <;> rfl)
theorem i_rng2 {a b : E} : evI F ρ (.rng2 a b) s = (evE F ρ a s).bind fun x s => (evE F ρ b s).bind fun y s => onI x fun i => onI y fun j => if okRng i j then .ok (rngD i j) s else .stuck := by
  rw [evI] <;> first | rfl | (congr 1; funext x s; congr 1; funext y s; cases x <;> cases y <;> rfl)
theorem i_zip {a b : E} : evI F ρ (.zip a b) s = (evE F ρ a s).bind fun x s => (evE F ρ b s).bind fun y s => zipO x y s := by
  rw [evI] <;> first | rfl | (congr 1; funext x s; congr 1; funext y s; cases x <;> cases y <;> rfl)
theorem s_pass' : evS F .pass ρ s = .nx ρ s := by rw [evS]
theorem s_set' {i : Nat} {e : E} : evS F (.set i e) ρ s = (evE F ρ e s).out ρ fun d s => .nx (ρ.set i (some d)) s := by rw [evS]
def nxO (o : Option Env) (s : Sta) : Out := match o with
  | some ρ' => .nx ρ' s
  | none => .stuck
theorem nxO_some {ρ' : Env} : nxO (some ρ') s = .nx ρ' s := rfl
theorem s_setT' {is : List Nat} {e : E} : evS F (.setT is e) ρ s = (evE F ρ e s).out ρ fun d s => onS d fun ds => nxO (setAll is ds ρ) s := by
  rw [evS] <;> rfl
theorem s_par' {is : List Nat} {es : List E} : evS F (.par is es) ρ s = (evEs F ρ es s).out ρ fun ds s => nxO (setAll is ds ρ) s := by
  rw [evS] <;> rfl
theorem s_expr' {e : E} : evS F (.expr e) ρ s = (evE F ρ e s).out ρ fun _ s => .nx ρ s := by rw [evS]
theorem s_ite' {c : E} {a b : List S} : evS F (.ite c a b) ρ s = (evE F ρ c s).out ρ fun x s => brB (evTru (deref s x)) (evSs F a ρ s) (evSs F b ρ s) .stuck := by
  rw [evS] <;> first | rfl | (congr 1; funext x s; rcases evTru (deref s x) with _ | (_ | _) <;> rfl)
def forOne (F : FT) (tg : Tg) (body : List S) : Dt → Env → Sta → Out := fun d ρ s => match bindTg tg d ρ with
    | some ρ' => evSs F body ρ' s
    | none => .stuck
theorem s_for' {tg : Tg} {it : I} {body : List S} : evS F (.forS tg it body) ρ s = (evI F ρ it s).out ρ fun ds s => forGo (forOne F tg body) ds ρ s := by rw [evS]; rfl
theorem forOne_nm {i : Nat} {body : List S} {d : Dt} : forOne F (.nm i) body d ρ s = evSs F body (ρ.set i (some d)) s := rfl
theorem s_ret' {e : E} : evS F (.ret e) ρ s = (evE F ρ e s).out ρ fun d s => .rt d s := by rw [evS]
theorem s_retN' : evS F .retN ρ s = .rt .non s := by rw [evS]
theorem s_raise' {c : Nat} : evS F (.raise c) ρ s = .exc ⟨c, 0⟩ ρ s := by rw [evS]
theorem ss_nil : evSs F [] ρ s = .nx ρ s := by rw [evSs]
theorem ss_cons {st : S} {r : List S} : evSs F (st :: r) ρ s = (evS F st ρ s).andThen fun ρ s => evSs F r ρ s := by rw [evSs]
theorem ss_app {a b : List S} : ∀ {ρ : Env} {s : Sta}, evSs F (a ++ b) ρ s = (evSs F a ρ s).andThen fun ρ s => evSs F b ρ s := by
  induction a with
  | nil => intro ρ s; rw [List.nil_append, ss_nil, nx_then]
  | cons x a ih =>
    intro ρ s
    rw [List.cons_append, ss_cons, ss_cons]
    cases evS F x ρ s with
    | nx ρ' s' => rw [nx_then, nx_then, ih]
    | rt d s' => rfl
    | exc y ρ' s' => rfl
    | stuck => rfl
def tryO (o : Out) (f : Exc → Env → Sta → Out) : Out := match o with
  | .exc x ρ s => f x ρ s
  | .nx ρ s => .nx ρ s
  | .rt d s => .rt d s
  | .stuck => .stuck
theorem tryO_exc {x : Exc} {f : Exc → Env → Sta → Out} : tryO (.exc x ρ s) f = f x ρ s := id rfl
theorem tryO_nx {f : Exc → Env → Sta → Out} : tryO (.nx ρ s) f = .nx ρ s := rfl
theorem tryO_rt {d : Dt} {f : Exc → Env → Sta → Out} : tryO (.rt d s) f = .rt d s := rfl
theorem tryO_ite {a b : Out} {f : Exc → Env → Sta → Out} : tryO (if p then a else b) f = if p then tryO a f else tryO b f := by split <;> rfl
theorem s_try' {body : List S} {hs : List (List Nat × List S)} : evS F (.tryS body hs) ρ s = tryO (evSs F body ρ s) fun x ρ s => evHs F hs x ρ s := by
  rw [evS]
  cases evSs F body ρ s <;> rfl
theorem hs_nil {x : Exc} : evHs F [] x ρ s = .exc x ρ s := by rw [evHs]
theorem hs_cons {c d : Nat} {a : Int} {body : List S} {r : List (List Nat × List S)} : evHs F (([c], body) :: r) ⟨d, a⟩ ρ s = if (d == c || c == 0) = true then evSs F body ρ s else evHs F r ⟨d, a⟩ ρ s := by
  rw [evHs]
  simp
theorem s_forC' {tg : Tg} {i k : Nat} {ds : List Dt} {body : List S} (h : cellOf ρ s i = some (k, ds)) : evS F (.forC tg i body) ρ s = forGoG (fun s => cellIs s k ds) (forOne F tg body) ds ρ s := by rw [evS, h]; rfl
theorem e_rev {a : E} : evE F ρ (.rev a) s = (evE F ρ a s).bind fun x s => Res.of s (evRev (deref s x)) := by rw [evE]
theorem e_lenSet {a : E} : evE F ρ (.lenSet a) s = (evE F ρ a s).bind fun x s => Res.of s ((evSet x).map fun l => .int l.length) := by rw [evE]
theorem e_sortSet {a : E} : evE F ρ (.sortSet a) s = (evE F ρ a s).bind fun x s => Res.of s ((evSet x).map fun l => .lst (l.map .int)) := by rw [evE]
theorem e_lcC {elt : E} {tg : Tg} {i k : Nat} {ds : List Dt} {own : List Nat} {ifs : List E} (h : cellOf ρ s i = some (k, ds)) : evE F ρ (.lcC elt tg i own ifs) s = (lcGoG (fun s => cellIs s k ds) (lcOne F ρ elt tg own ifs) ds s).bind fun r s => if ds.length < lineM then .ok (.lst r) s else .stuck := by
  rw [evE, h]; rfl
def enumO (x : Dt) (s : Sta) : Res (List Dt) := match x with
  | .lst xs => .ok (enumD 0 xs) s
  | .tup xs => .ok (enumD 0 xs) s
  | _ => .stuck
theorem enumO_lst {xs : List Dt} : enumO (.lst xs) s = .ok (enumD 0 xs) s := rfl
theorem enumO_tup {xs : List Dt} : enumO (.tup xs) s = .ok (enumD 0 xs) s := rfl
theorem i_enum {a : E} : evI F ρ (.enum a) s = (evE F ρ a s).bind fun x s => enumO x s := by
  rw [evI] <;> first | rfl | (congr 1; funext x s; cases x <;> rfl)
theorem cellOf_mk {i k : Nat} {ds : List Dt} (h1 : ρ[i]? = some (some (.ref k))) (h2 : s[k]? = some (.lst ds)) : cellOf ρ s i = some (k, ds) := by unfold cellOf; rw [h1]; simp only [h2]
theorem cellIs_mk {k : Nat} {ds : List Dt} (h2 : s[k]? = some (.lst ds)) : cellIs s k ds = true := by unfold cellIs; rw [h2]; exact eqbs_refl ds
/-- loops by an invariant -/
theorem forGo_ind {one : Dt → Env → Sta → Out} (I : List Dt → Env → Sta → Prop) (Q : Out → Prop) (h1 : ∀ d ds ρ s, I (d :: ds) ρ s → (∃ ρ' s', one d ρ s = .nx ρ' s' ∧ I ds ρ' s') ∨ (∃ v s', one d ρ s = .rt v s' ∧ Q (.rt v s'))) (h2 : ∀ ρ s, I [] ρ s → Q (.nx ρ s)) :
    ∀ ds ρ s, I ds ρ s → Q (forGo one ds ρ s)
  | [], ρ, s, h => by rw [forGo]; exact h2 ρ s h
  | d :: ds, ρ, s, h => by
    rw [forGo]
    rcases h1 d ds ρ s h with ⟨ρ', s', e, h'⟩ | ⟨v, s', e, q⟩
    · rw [e]; exact forGo_ind I Q h1 h2 ds ρ' s' h'
    · rw [e]; exact q
end
/-! ### data -/
theorem evEq_int {a b : Int} : evEq (.int a) (.int b) = some (decide (a = b)) := by
  unfold evEq
  rw [if_pos (by rfl)]
  rfl
theorem cmp_eq {a b : Int} : evCmp .eq (.int a) (.int b) = some (decide (a = b)) := evEq_int
theorem cmp_ne {a b : Int} : evCmp .ne (.int a) (.int b) = some (!decide (a = b)) := by simp only [evCmp, evEq_int, Option.map_some]
theorem cmp_lt {a b : Int} : evCmp .lt (.int a) (.int b) = some (decide (a < b)) := rfl
theorem cmp_le {a b : Int} : evCmp .le (.int a) (.int b) = some (decide (a ≤ b)) := rfl
theorem cmp_gt {a b : Int} : evCmp .gt (.int a) (.int b) = some (decide (b < a)) := rfl
theorem cmp_ge {a b : Int} : evCmp .ge (.int a) (.int b) = some (decide (b ≤ a)) := rfl
end MP
namespace MP
open PySem
theorem sz0 : 0 ≤ lineM := by decide
theorem sz1 : 1 ≤ lineM := by decide
theorem sz2 : 2 ≤ lineM := by decide
theorem sz3 : 3 ≤ lineM := by decide
theorem sz4 : 4 ≤ lineM := by decide
theorem sz5 : 5 ≤ lineM := by decide
theorem sz6 : 6 ≤ lineM := by decide
theorem sz7 : 7 ≤ lineM := by decide
theorem sz8 : 8 ≤ lineM := by decide
theorem inn : Dt.isNon .non = true := rfl
theorem ini {i : Int} : Dt.isNon (.int i) = false := rfl
theorem ins {i : Str} : Dt.isNon (.str i) = false := rfl
theorem int' {i : List Dt} : Dt.isNon (.tup i) = false := rfl
theorem inb {i : Bool} : Dt.isNon (.bl i) = false := rfl
theorem inl' {i : List Dt} : Dt.isNon (.lst i) = false := rfl
theorem deref_int {s : Sta} {i : Int} : deref s (.int i) = .int i := rfl
theorem deref_bl {s : Sta} {i : Bool} : deref s (.bl i) = .bl i := rfl
theorem deref_str {s : Sta} {i : Str} : deref s (.str i) = .str i := rfl
theorem deref_non {s : Sta} : deref s .non = .non := rfl
theorem deref_tup {s : Sta} {i : List Dt} : deref s (.tup i) = .tup i := rfl
theorem deref_lst {s : Sta} {i : List Dt} : deref s (.lst i) = .lst i := rfl
theorem deref_scr {s : Sta} {i : List Int} : deref s (.scr i) = .scr i := rfl
theorem deref_ref {s : Sta} {k : Nat} {ds : List Dt} (h : s[k]? = some (.lst ds)) : deref s (.ref k) = .lst ds := by simp only [deref, h]
theorem tru_bl {b : Bool} : evTru (.bl b) = some b := rfl
theorem tru_int {b : Int} : evTru (.int b) = some (!decide (b = 0)) := by
  show some (b != 0) = _
  congr 1
theorem tru_non : evTru .non = some false := rfl
theorem tru_tup0 : evTru (.tup []) = some false := rfl
theorem tru_lst0 : evTru (.lst []) = some false := rfl
theorem tru_lst1 {a : Dt} {l : List Dt} : evTru (.lst (a :: l)) = some true := rfl
theorem tru_tup1 {a : Dt} {l : List Dt} : evTru (.tup (a :: l)) = some true := rfl
theorem ixN_nat {n : Nat} {i : Nat} (h : i < n) : L2.ixN n (i : Int) = some i := by
  unfold L2.ixN
  rw [if_pos (by omega)]
  try simp
  try omega
theorem atI_nat {xs : List Dt} {i : Nat} {d : Dt} (h : xs[i]? = some d) : L2.atI xs (i : Int) = some d := by
  unfold L2.atI
  rw [ixN_nat (List.getElem?_eq_some_iff.mp h).1]
  simpa using h
theorem ix_t0 {a : Dt} {l : List Dt} : evIx (.tup (a :: l)) (.int 0) = some a := atI_nat (i := 0) rfl
theorem ix_t1 {a b : Dt} {l : List Dt} : evIx (.tup (a :: b :: l)) (.int 1) = some b := atI_nat (i := 1) rfl
theorem ix_t2 {a b c : Dt} {l : List Dt} : evIx (.tup (a :: b :: c :: l)) (.int 2) = some c := atI_nat (i := 2) rfl
theorem ix_t3 {a b c d : Dt} {l : List Dt} : evIx (.tup (a :: b :: c :: d :: l)) (.int 3) = some d := atI_nat (i := 3) rfl
theorem ix_t4 {a b c d e : Dt} {l : List Dt} : evIx (.tup (a :: b :: c :: d :: e :: l)) (.int 4) = some e := atI_nat (i := 4) rfl
theorem ix_t5 {a b c d e f : Dt} {l : List Dt} : evIx (.tup (a :: b :: c :: d :: e :: f :: l)) (.int 5) = some f := atI_nat (i := 5) rfl
theorem ix_l0 {a : Dt} {l : List Dt} : evIx (.lst (a :: l)) (.int 0) = some a := atI_nat (i := 0) rfl
theorem ix_l1 {a b : Dt} {l : List Dt} : evIx (.lst (a :: b :: l)) (.int 1) = some b := atI_nat (i := 1) rfl
theorem lo_int {n : Nat} {i : Int} : Dt.lo n (.int i) = true := rfl
theorem lo_bl {n : Nat} {i : Bool} : Dt.lo n (.bl i) = true := rfl
theorem lo_str {n : Nat} {i : Str} : Dt.lo n (.str i) = true := rfl
theorem lo_non {n : Nat} : Dt.lo n .non = true := rfl
theorem lo_tup {n : Nat} {l : List Dt} : Dt.lo n (.tup l) = Dt.loAll n l := by rw [Dt.lo]
theorem lo_lst {n : Nat} {l : List Dt} : Dt.lo n (.lst l) = Dt.loAll n l := by rw [Dt.lo]
theorem loAll_nil {n : Nat} : Dt.loAll n [] = true := rfl
theorem loAll_cons {n : Nat} {d : Dt} {l : List Dt} : Dt.loAll n (d :: l) = (Dt.lo n d && Dt.loAll n l) := by rw [Dt.loAll]
theorem loAll_ints {n : Nat} : ∀ l : List Int, Dt.loAll n (l.map .int) = true
  | [] => rfl
  | i :: l => by rw [List.map_cons, loAll_cons, lo_int, loAll_ints l]; rfl
theorem leave_tup {n : Nat} {l : List Dt} {s : Sta} : leave n (.tup l) s = if Dt.lo n (.tup l) = true then .ok (.tup l) (s.take n) else .stuck := rfl
theorem leave_lst {n : Nat} {l : List Dt} {s : Sta} : leave n (.lst l) s = if Dt.lo n (.lst l) = true then .ok (.lst l) (s.take n) else .stuck := rfl
theorem leave_int {n : Nat} {l : Int} {s : Sta} : leave n (.int l) s = .ok (.int l) (s.take n) := rfl
theorem leave_bl {n : Nat} {l : Bool} {s : Sta} : leave n (.bl l) s = .ok (.bl l) (s.take n) := rfl
theorem leave_str {n : Nat} {l : Str} {s : Sta} : leave n (.str l) s = .ok (.str l) (s.take n) := rfl
theorem leave_non {n : Nat} {s : Sta} : leave n .non s = .ok .non (s.take n) := rfl
theorem bin_add {a b : Int} : evBin .add (.int a) (.int b) = some (.int (a + b)) := rfl
theorem bin_sub {a b : Int} : evBin .sub (.int a) (.int b) = some (.int (a - b)) := rfl
theorem bin_mul {a b : Int} (h : smallI a = true ∨ smallI b = true) : evBin .mul (.int a) (.int b) = some (.int (a * b)) := by
  show (if (smallI a || smallI b) = true then _ else _) = _
  rw [if_pos (by simpa [Bool.or_eq_true] using h)]
theorem bin_mod {a b : Int} (h : 0 < b) : evBin .mod (.int a) (.int b) = some (.int (a % b)) := if_pos h
theorem bin_fdiv {a b : Int} (h : 0 < b ∧ b < 1073741824) : evBin .fdiv (.int a) (.int b) = some (.int (a / b)) := if_pos h
theorem int1_bl {b : Bool} : evBl .int1 [.bl b] = some (.int (if b then 1 else 0)) := rfl
theorem int1_d {p : Prop} [Decidable p] : evBl .int1 [.bl (decide p)] = some (.int (if p then 1 else 0)) := by by_cases h : p <;> simp [h, evBl]
end MP
namespace MP
open PySem
theorem sIx_pos {n d : Nat} {j : Int} (h : 0 ≤ j) : HT.sIx n d (some j) = min j.toNat n := by
  show (if j < 0 then (j + (n : Int)).toNat else min j.toNat n) = _
  rw [if_neg (by omega)]
theorem cut_hi {xs : List Dt} {j : Int} (h : 0 ≤ j) : cutD xs none (some j) = xs.take j.toNat := by
  unfold cutD
  rw [sIx_pos h, HT.sIx_none, List.drop_zero, Nat.sub_zero]
  rcases Nat.le_total j.toNat xs.length with l | l
  · rw [Nat.min_eq_left l]
  · rw [Nat.min_eq_right l, List.take_length, List.take_of_length_le l]
theorem cut_lo {xs : List Dt} {j : Int} (h : 0 ≤ j) : cutD xs (some j) none = xs.drop j.toNat := by
  unfold cutD
  rw [sIx_pos h, HT.sIx_none]
  rcases Nat.le_total j.toNat xs.length with l | l
  · rw [Nat.min_eq_left l, List.take_of_length_le (by rw [List.length_drop]; exact Nat.le_refl _)]
  · rw [Nat.min_eq_right l, List.drop_length, List.drop_of_length_le l]; simp
theorem cut_m1 {xs : List Dt} : cutD xs none (some (-1)) = xs.dropLast := by
  unfold cutD
  have e : HT.sIx xs.length xs.length (some (-1)) = xs.length - 1 := by
    show (if (-1 : Int) < 0 then ((-1 : Int) + (xs.length : Int)).toNat else min (-1 : Int).toNat xs.length) = _
    rw [if_pos (by decide)]; omega
  rw [e, HT.sIx_none, List.drop_zero, Nat.sub_zero, List.dropLast_eq_take]
theorem slt_hi {xs : List Dt} {j : Int} (h : 0 ≤ j) : evSl none (some j) (.tup xs) = some (.tup (xs.take j.toNat)) := by rw [← cut_hi h]; rfl
theorem slt_lo {xs : List Dt} {j : Int} (h : 0 ≤ j) : evSl (some j) none (.tup xs) = some (.tup (xs.drop j.toNat)) := by rw [← cut_lo h]; rfl
theorem slt_m1 {xs : List Dt} : evSl none (some (-1)) (.tup xs) = some (.tup xs.dropLast) := by rw [← cut_m1 (xs := xs)]; rfl
theorem sll_hi {xs : List Dt} {j : Int} (h : 0 ≤ j) : evSl none (some j) (.lst xs) = some (.lst (xs.take j.toNat)) := by rw [← cut_hi h]; rfl
theorem sll_lo {xs : List Dt} {j : Int} (h : 0 ≤ j) : evSl (some j) none (.lst xs) = some (.lst (xs.drop j.toNat)) := by rw [← cut_lo h]; rfl
theorem mul_t01 {xs : List Dt} {k : Int} (h : k = 0 ∨ k = 1) (hl : xs.length ≤ 1000) : evBin .mul (.tup xs) (.int k) = some (.tup (if k = 1 then xs else [])) := by
  have e : evBin .mul (.tup xs) (.int k) = if (decide (k ≤ 1000) && decide (-1000 ≤ k) && decide (xs.length ≤ 1000)) = true then some (.tup (repL xs k)) else none := rfl
  rw [e, if_pos (by rcases h with rfl | rfl <;> simp [hl])]
  rcases h with rfl | rfl <;> simp [repL]
theorem mul_t0 {xs : List Dt} (hl : xs.length ≤ 1000) : evBin .mul (.tup xs) (.int 0) = some (.tup []) := by rw [mul_t01 (.inl rfl) hl]; rfl
theorem mul_t1 {xs : List Dt} (hl : xs.length ≤ 1000) : evBin .mul (.tup xs) (.int 1) = some (.tup xs) := by rw [mul_t01 (.inr rfl) hl]; rfl
theorem mul_tn {xs : List Dt} {k : Int} (h : k ≤ 1000) (h2 : -1000 ≤ k) (hl : xs.length ≤ 1000) : evBin .mul (.tup xs) (.int k) = some (.tup (repL xs k)) := by
  have e : evBin .mul (.tup xs) (.int k) = if (decide (k ≤ 1000) && decide (-1000 ≤ k) && decide (xs.length ≤ 1000)) = true then some (.tup (repL xs k)) else none := rfl
  rw [e, if_pos (by simp [hl, h, h2])]
theorem mul_ln {xs : List Dt} {k : Int} (h : k ≤ 1000) (h2 : -1000 ≤ k) (hl : xs.length ≤ 1000) : evBin .mul (.lst xs) (.int k) = some (.lst (repL xs k)) := by
  have e : evBin .mul (.lst xs) (.int k) = if (decide (k ≤ 1000) && decide (-1000 ≤ k) && decide (xs.length ≤ 1000)) = true then some (.lst (repL xs k)) else none := rfl
  rw [e, if_pos (by simp [hl, h, h2])]
theorem rep_one {d : Dt} {k : Int} : repL [d] k = List.replicate k.toNat d := by
  unfold repL
  induction k.toNat with
  | zero => rfl
  | succ n ih => rw [List.replicate_succ, List.flatten_cons, ih, List.replicate_succ]; rfl
theorem add_tt {xs ys : List Dt} (h : xs.length + ys.length ≤ 16777216) : evBin .add (.tup xs) (.tup ys) = some (.tup (xs ++ ys)) := if_pos h
theorem add_ll {xs ys : List Dt} (h : xs.length + ys.length ≤ 16777216) : evBin .add (.lst xs) (.lst ys) = some (.lst (xs ++ ys)) := if_pos h
end MP
namespace MP
open PySem
/-- top_of: slots rules -/
def B_p_top_of : List S := [.ret (.bin .add (.ix (.var 0) (.int 1)) (.int 1))]
/-- colours_of: slots rules, low -/
def B_p_colours_of : List S := [.ret (.trng (.var 1) (.bin .add (.call 0 [.var 0]) (.int 1)))]
/-- _law_same: slots _law_got, _law_due, _law_one, _law_other -/
def B_law_same : List S := [.ite (.isNon (.var 1)) [.ret (.isNon (.var 0))] [], .ite (.isi .bool (.var 1)) [.ret (.and (.isi .bool (.var 0)) (.cmp .eq (.var 0) (.var 1)))] [], .ite (.isi .tuple (.var 1)) [.ite (.or (.not (.isi .tuple (.var 0))) (.cmp .ne (.blt .len [.var 0]) (.blt .len [.var 1]))) [.ret (.bl false)] [], .ret (.blt .all [.lc (.call 6 [.var 2, .var 3]) (.tup [2, 3]) (.zip (.var 0) (.var 1)) [2, 3] []])] [], .ite (.isi .str (.var 1)) [.ret (.and (.isi .str (.var 0)) (.cmp .eq (.var 0) (.var 1)))] [], .ret (.and (.isi .int (.var 0)) (.and (.not (.isi .bool (.var 0))) (.cmp .eq (.var 0) (.var 1))))]
/-- _law_draw: slots _law_script, _law_town, _law_many, _law_k, _law_cell, _law_number, _law_more -/
def B_law_draw : List S := [.expr (.app (.var 1) (.int 0)), .set 3 (.blt .len [.var 1]), .set 4 (.int 0), .ite (.var 0) [.set 4 (.ix (.var 0) (.bin .mod (.var 3) (.blt .len [.var 0])))] [], .set 5 (.bin .mod (.bin .add (.var 4) (.bin .mul (.int 104729) (.var 3))) (.int 4294967291)), .set 5 (.bin .mod (.bin .mul (.bin .mod (.bin .mul (.var 5) (.var 5)) (.int 4294967279)) (.int 48271)) (.int 4294967291)), .set 6 (.bin .mod (.bin .mul (.bin .mod (.bin .mul (.var 5) (.var 5)) (.int 4294967279)) (.int 69621)) (.int 4294967291)), .ret (.bin .mod (.bin .add (.bin .mul (.bin .fdiv (.var 5) (.int 64)) (.int 67108864)) (.bin .fdiv (.var 6) (.int 64))) (.var 2))]
/-- _law_pick: slots _law_script, _law_town, _law_some -/
def B_law_pick : List S := [.ret (.ix (.var 2) (.call 7 [.var 0, .var 1, .blt .len [.var 2]]))]
/-- _law_drawn_rules: slots _law_script, _law_town -/
def B_law_drawn_rules : List S := [.ret (.tup [.call 8 [.var 0, .var 1, .lst [.int 1, .int 1, .int 2, .int 3, .int 4, .int 6]], .call 8 [.var 0, .var 1, .lst [.int 2, .int 2, .int 3, .int 4, .int 6]]])]
/-- is_there: slots rules, place, stroke, up, on, reds, low, points, free, balls, ball -/
def B_p_is_there : List S := [.setT [3, 4, 5, 6, 7, 8] (.var 1), .set 9 (.ix (.var 2) (.int 1)), .ite (.cmp .gt (.ix (.var 2) (.int 0)) (.int 0)) [.set 9 (.bin .add (.var 9) (.slHi (.var 2) (.int 1)))] [], .ret (.and (.cmp .le (.mth .count (.ix (.var 2) (.int 1)) [.int 1]) (.var 5)) (.blt .all [.lc (.or (.cmp .ge (.var 10) (.var 6)) (.and (.cmp .eq (.var 10) (.int 1)) (.cmp .gt (.var 5) (.int 0)))) (.nm 10) (.e (.var 9)) [10] []]))]
/-- may_fall: slots place, first, up, on, reds, low, points, free -/
def B_p_may_fall : List S := [.setT [2, 3, 4, 5, 6, 7] (.var 0), .ite (.cmp .eq (.var 3) (.int 0)) [.ret (.ite (.cmp .gt (.var 1) (.int 1)) (.tup [.var 1]) (.tup []))] [], .ite (.and (.cmp .eq (.var 7) (.int 2)) (.cmp .gt (.var 1) (.var 3))) [.ret (.tup [.var 3, .var 1])] [], .ret (.tup [.var 3])]
/-- _law_can_fall: slots _law_place, _law_first, _law_on, _law_free -/
def B_law_can_fall : List S := [.par [2, 3] [.ix (.var 0) (.int 1), .ix (.var 0) (.int 5)], .ite (.cmp .eq (.var 2) (.int 0)) [.ret (.bin .mul (.tup [.var 1]) (.blt .int1 [.cmp .gt (.var 1) (.int 1)]))] [], .ret (.slHi (.tup [.var 2, .var 1]) (.bin .add (.int 1) (.blt .int1 [.and (.cmp .eq (.var 3) (.int 2)) (.cmp .gt (.var 1) (.var 2))])))]
/-- _law_judged: slots _law_place, _law_stroke, _law_first, _law_pots, _law_off, _law_balls, _law_ball -/
def B_law_judged : List S := [.setT [2, 3, 4] (.var 1), .set 5 (.call 18 [.var 0, .var 2]), .ite (.or (.var 4) (.or (.cmp .notin (.var 2) (.var 5)) (.lc (.var 6) (.nm 6) (.e (.var 3)) [6] [.cmp .notin (.var 6) (.var 5)]))) [.ret (.tup [.int 0, .blt .max1 [.bin .add (.lst [.int 4, .ix (.var 0) (.int 1), .var 2]) (.blt .listOf [.var 3])]])] [], .ite (.cmp .eq (.ix (.var 0) (.int 1)) (.int 1)) [.ret (.tup [.blt .len [.var 3], .int 0])] [], .ret (.tup [.bin .mul (.or (.ix (.var 0) (.int 1)) (.var 2)) (.blt .int1 [.cmp .gt (.blt .len [.var 3]) (.int 0)]), .int 0])]
/-- _law_is_here: slots _law_place, _law_stroke, _law_reds, _law_low, _law_ball -/
def B_law_is_here : List S := [.setT [2, 3] (.tup [.ix (.var 0) (.int 2), .ix (.var 0) (.int 3)]), .ite (.or (.cmp .gt (.mth .count (.ix (.var 1) (.int 1)) [.int 1]) (.var 2)) (.or (.and (.cmp .eq (.ix (.var 1) (.int 0)) (.int 1)) (.cmp .eq (.var 2) (.int 0))) (.cmp2 .lt .lt (.int 1) (.ix (.var 1) (.int 0)) (.var 3)))) [.ret (.bl false)] [], .ret (.cmp .eq (.lc (.var 4) (.nm 4) (.e (.ix (.var 1) (.int 1))) [4] [.cmp2 .lt .lt (.int 1) (.var 4) (.var 3)]) (.lst []))]
/-- _law_moved: slots _law_rules, _law_place, _law_deed, _law_up, _law_on, _law_reds, _law_low, _law_points, _law_free, _law_top, _law_gain, _law_loss, _law_pair, _law_left, _law_then, _law_other, _law_level -/
def B_law_moved : List S := [.setT [3, 4, 5, 6, 7, 8] (.var 1), .set 9 (.bin .add (.ix (.var 0) (.int 1)) (.int 1)), .ite (.cmp .eq (.ix (.var 2) (.int 0)) (.str "give")) [.ret (.tup [.non, .bin .sub (.int 1) (.var 3), .var 7])] [], .ite (.cmp .ne (.ix (.var 2) (.int 0)) (.str "stroke")) [.ite (.or (.cmp .ne (.var 8) (.int 1)) (.and (.cmp .eq (.ix (.var 2) (.int 0)) (.str "free")) (.cmp .eq (.var 4) (.var 9)))) [.ret (.str "now")] [], .set 15 (.ite (.cmp .eq (.ix (.var 2) (.int 0)) (.str "free")) (.tup [.var 3, .var 4, .var 5, .var 6, .var 7, .int 2]) (.tup [.bin .sub (.int 1) (.var 3), .var 4, .var 5, .var 6, .var 7, .int 0])), .ret (.tup [.var 15, .non, .var 7])] [], .ite (.not (.call 20 [.var 1, .slLo (.var 2) (.int 1)])) [.ret (.str "now")] [], .setT [10, 11] (.call 19 [.var 1, .slLo (.var 2) (.int 1)]), .set 12 (.tup [.bin .add (.ix (.var 7) (.int 0)) (.ix (.lst [.var 10, .var 11]) (.var 3)), .bin .add (.ix (.var 7) (.int 1)) (.ix (.lst [.var 11, .var 10]) (.var 3))]), .set 13 (.bin .sub (.var 5) (.mth .count (.ix (.var 2) (.int 2)) [.int 1])), .ite (.and (.cmp .eq (.var 4) (.var 9)) (.or (.cmp .gt (.var 11) (.int 0)) (.cmp .gt (.var 10) (.int 0)))) [.set 16 (.tup [.tup [.bin .sub (.int 1) (.var 3), .var 9, .int 0, .var 9, .var 12, .int 0], .non, .var 12]), .ret (.ite (.cmp .eq (.ix (.var 12) (.int 0)) (.ix (.var 12) (.int 1))) (.var 16) (.tup [.non, .blt .int1 [.cmp .lt (.ix (.var 12) (.int 0)) (.ix (.var 12) (.int 1))], .var 12]))] [], .set 6 (.bin .add (.var 6) (.blt .int1 [.and (.cmp .gt (.var 10) (.int 0)) (.and (.cmp .eq (.var 4) (.var 6)) (.cmp .isin (.var 4) (.ix (.var 2) (.int 2))))])), .set 14 (.blt .min1 [.bin .add (.bin .mul (.lst [.int 1]) (.var 13)) (.lst [.var 6])]), .ite (.cmp .gt (.var 10) (.int 0)) [.ret (.tup [.tup [.var 3, .bin .mul (.var 14) (.blt .int1 [.cmp .ne (.var 4) (.int 1)]), .var 13, .var 6, .var 12, .int 0], .non, .var 12])] [], .ret (.tup [.tup [.bin .sub (.int 1) (.var 3), .var 14, .var 13, .var 6, .var 12, .blt .int1 [.cmp .gt (.var 11) (.int 0)]], .non, .var 12])]
/-- _law_begin: slots _law_rules, _law_player -/
def B_law_begin : List S := [.ret (.tup [.tup [.var 1, .int 1, .ix (.var 0) (.int 0), .int 2, .tup [.int 0, .int 0], .int 0], .non, .tup [.int 0, .int 0]])]
/-- _law_led: slots _law_rules, _law_frame, _law_found, _law_deed -/
def B_law_led : List S := [.set 2 (.call 22 [.var 0, .ix (.var 1) (.int 0)]), .forS (.nm 3) (.e (.ix (.var 1) (.int 1))) [.set 2 (.call 21 [.var 0, .ix (.var 2) (.int 0), .var 3])], .ret (.var 2)]
/-- _law_drawn_stroke: slots _law_script, _law_town, _law_rules, _law_place, _law_up, _law_on, _law_reds, _law_low, _law_points, _law_free, _law_colours, _law_way, _law_first, _law_pots, _law_some, _law_ball -/
def B_law_drawn_stroke : List S := [.setT [4, 5, 6, 7, 8, 9] (.var 3), .set 10 (.lrng (.var 7) (.bin .add (.ix (.var 2) (.int 1)) (.int 2))), .par [11, 12] [.call 7 [.var 0, .var 1, .int 10], .var 5], .ite (.or (.cmp .eq (.var 5) (.int 0)) (.and (.cmp .eq (.var 9) (.int 2)) (.cmp .gt (.call 7 [.var 0, .var 1, .int 3]) (.int 0)))) [.set 12 (.call 8 [.var 0, .var 1, .var 10])] [], .ite (.cmp .eq (.var 11) (.int 0)) [.set 12 (.call 8 [.var 0, .var 1, .bin .add (.bin .add (.var 10) (.lst [.int 0])) (.bin .mul (.lst [.int 1]) (.var 6))])] [], .set 13 (.bin .mul (.tup [.var 12]) (.blt .int1 [.and (.cmp2 .lt .lt (.int 0) (.var 11) (.int 7)) (.cmp .gt (.var 12) (.int 0))])), .ite (.cmp .eq (.var 11) (.int 6)) [.set 13 (.bin .mul (.tup [.int 1]) (.blt .min2 [.var 6, .int 2]))] [], .ite (.cmp .eq (.var 11) (.int 7)) [.set 14 (.lc (.var 15) (.nm 15) (.e (.var 10)) [15] [.cmp .eq (.call 7 [.var 0, .var 1, .int 3]) (.int 0)]), .set 13 (.bin .add (.bin .mul (.tup [.int 1]) (.call 7 [.var 0, .var 1, .blt .min2 [.int 3, .bin .add (.var 6) (.int 1)]])) (.blt .tupleOf [.var 14]))] [], .ret (.tup [.var 12, .ite (.cmp .gt (.var 12) (.int 0)) (.var 13) (.tup []), .cmp .eq (.call 7 [.var 0, .var 1, .int 14]) (.int 0)])]
/-- _law_drawn_deed: slots _law_script, _law_town, _law_rules, _law_place, _law_way -/
def B_law_drawn_deed : List S := [.set 4 (.call 7 [.var 0, .var 1, .int 60]), .ite (.cmp .eq (.var 4) (.int 0)) [.ret (.tup [.str "give"])] [], .ite (.or (.cmp .lt (.var 4) (.int 3)) (.and (.cmp .eq (.ix (.var 3) (.int 5)) (.int 1)) (.cmp .lt (.var 4) (.int 24)))) [.ret (.tup [.call 8 [.var 0, .var 1, .lst [.str "free", .str "free", .str "pass"]]])] [], .ret (.bin .add (.tup [.str "stroke"]) (.call 24 [.var 0, .var 1, .var 2, .var 3]))]
/-- _law_drawn_frame: slots _law_script, _law_town, _law_rules, _law_most, _law_first, _law_deeds, _law_place, _law_k, _law_deed, _law_found -/
def B_law_drawn_frame : List S := [.par [4, 5] [.call 7 [.var 0, .var 1, .int 2], .tup []], .set 6 (.ix (.call 22 [.var 2, .var 4]) (.int 0)), .forS (.nm 7) (.rng1 (.var 3)) [.ite (.notNon (.var 6)) [.set 8 (.call 25 [.var 0, .var 1, .var 2, .var 6]), .set 9 (.call 21 [.var 2, .var 6, .var 8]), .ite (.cmp .ne (.var 9) (.str "now")) [.par [5, 6] [.bin .add (.var 5) (.tup [.var 8]), .ix (.var 9) (.int 0)]] []] []], .ret (.tup [.var 4, .var 5])]
/-- _law_drawn_place: slots _law_script, _law_town, _law_rules, _law_frame, _law_place -/
def B_law_drawn_place : List S := [.set 3 (.call 26 [.var 0, .var 1, .var 2, .call 8 [.var 0, .var 1, .lst [.int 0, .int 3, .int 8, .int 20, .int 40]]]), .set 4 (.ix (.call 23 [.var 2, .var 3]) (.int 0)), .ite (.isNon (.var 4)) [.set 4 (.ix (.call 23 [.var 2, .tup [.ix (.var 3) (.int 0), .slHi (.ix (.var 3) (.int 1)) (.neg 1)]]) (.int 0))] [], .ret (.var 4)]
/-- is_fair: slots place, stroke, balls, ball -/
def B_p_is_fair : List S := [.set 2 (.call 17 [.var 0, .ix (.var 1) (.int 0)]), .ret (.and (.not (.ix (.var 1) (.int 2))) (.and (.cmp .isin (.ix (.var 1) (.int 0)) (.var 2)) (.blt .all [.lc (.cmp .isin (.var 3) (.var 2)) (.nm 3) (.e (.ix (.var 1) (.int 1))) [3] []])))]
/-- points_of: slots place, stroke -/
def B_p_points_of : List S := [.ite (.not (.call 29 [.var 0, .var 1])) [.ret (.int 0)] [], .ite (.cmp .eq (.ix (.var 0) (.int 1)) (.int 1)) [.ret (.blt .len [.ix (.var 1) (.int 1)])] [], .ite (.cmp .eq (.ix (.var 0) (.int 1)) (.int 0)) [.ret (.blt .sum [.ix (.var 1) (.int 1)])] [], .ret (.bin .mul (.ix (.var 0) (.int 1)) (.blt .int1 [.cmp .ne (.ix (.var 1) (.int 1)) (.tup [])]))]
/-- foul_of: slots place, stroke -/
def B_p_foul_of : List S := [.ite (.call 29 [.var 0, .var 1]) [.ret (.int 0)] [], .ret (.blt .max1 [.bin .add (.tup [.int 4, .ix (.var 0) (.int 1), .ix (.var 1) (.int 0)]) (.ix (.var 1) (.int 1))])]
/-- first_place: slots rules, player -/
def B_p_first_place : List S := [.ret (.tup [.var 1, .int 1, .ix (.var 0) (.int 0), .int 2, .tup [.int 0, .int 0], .int 0])]
/-- added: slots points, player, more -/
def B_p_added : List S := [.ret (.tup [.bin .add (.ix (.var 0) (.int 0)) (.bin .mul (.var 2) (.blt .int1 [.cmp .eq (.var 1) (.int 0)])), .bin .add (.ix (.var 0) (.int 1)) (.bin .mul (.var 2) (.blt .int1 [.cmp .eq (.var 1) (.int 1)]))])]
/-- struck: slots rules, place, stroke, up, on, reds, low, points, free, top, gain, loss, ends, start -/
def B_p_struck : List S := [.setT [3, 4, 5, 6, 7, 8] (.var 1), .set 9 (.call 0 [.var 0]), .set 5 (.bin .sub (.var 5) (.mth .count (.ix (.var 2) (.int 1)) [.int 1])), .par [10, 11] [.call 30 [.var 1, .var 2], .call 31 [.var 1, .var 2]], .set 7 (.call 38 [.call 38 [.var 7, .var 3, .var 10], .bin .sub (.int 1) (.var 3), .var 11]), .set 12 (.and (.cmp .eq (.var 4) (.var 9)) (.or (.cmp .gt (.var 11) (.int 0)) (.cmp .isin (.var 9) (.ix (.var 2) (.int 1))))), .ite (.and (.var 12) (.cmp .ne (.ix (.var 7) (.int 0)) (.ix (.var 7) (.int 1)))) [.ret (.tup [.non, .blt .int1 [.cmp .gt (.ix (.var 7) (.int 1)) (.ix (.var 7) (.int 0))], .var 7])] [], .ite (.var 12) [.ret (.tup [.tup [.bin .sub (.int 1) (.var 3), .var 9, .int 0, .var 9, .var 7, .int 0], .non, .var 7])] [], .ite (.and (.cmp .eq (.var 11) (.int 0)) (.and (.cmp .gt (.var 4) (.int 1)) (.cmp .isin (.var 4) (.ix (.var 2) (.int 1))))) [.set 6 (.bin .add (.var 6) (.int 1))] [], .set 13 (.ite (.cmp .gt (.var 5) (.int 0)) (.int 1) (.var 6)), .ite (.cmp .gt (.var 10) (.int 0)) [.ret (.tup [.tup [.var 3, .ite (.cmp .eq (.var 4) (.int 1)) (.int 0) (.var 13), .var 5, .var 6, .var 7, .int 0], .non, .var 7])] [], .ret (.tup [.tup [.bin .sub (.int 1) (.var 3), .var 13, .var 5, .var 6, .var 7, .blt .int1 [.cmp .gt (.var 11) (.int 0)]], .non, .var 7])]
/-- behind: slots rules, place, deed, up, on, reds, low, points, free -/
def B_p_behind : List S := [.setT [3, 4, 5, 6, 7, 8] (.var 1), .ite (.cmp .eq (.ix (.var 2) (.int 0)) (.str "give")) [.ret (.tup [.non, .bin .sub (.int 1) (.var 3), .var 7])] [], .ite (.cmp .eq (.ix (.var 2) (.int 0)) (.str "stroke")) [.ite (.not (.call 16 [.var 0, .var 1, .slLo (.var 2) (.int 1)])) [.raise 5] [], .ret (.call 39 [.var 0, .var 1, .slLo (.var 2) (.int 1)])] [], .ite (.or (.cmp .ne (.var 8) (.int 1)) (.and (.cmp .eq (.ix (.var 2) (.int 0)) (.str "free")) (.cmp .eq (.var 4) (.call 0 [.var 0])))) [.raise 5] [], .ite (.cmp .eq (.ix (.var 2) (.int 0)) (.str "free")) [.ret (.tup [.tup [.var 3, .var 4, .var 5, .var 6, .var 7, .int 2], .non, .var 7])] [], .ret (.tup [.tup [.bin .sub (.int 1) (.var 3), .var 4, .var 5, .var 6, .var 7, .int 0], .non, .var 7])]
/-- walked: slots rules, frame, state, deed -/
def B_p_walked : List S := [.set 2 (.tup [.call 36 [.var 0, .ix (.var 1) (.int 0)], .non, .tup [.int 0, .int 0]]), .forS (.nm 3) (.e (.ix (.var 1) (.int 1))) [.set 2 (.call 40 [.var 0, .ix (.var 2) (.int 0), .var 3])], .ret (.var 2)]
/-- place_of: slots rules, frame -/
def B_p_place_of : List S := [.ret (.ix (.call 47 [.var 0, .var 1]) (.int 0))]
/-- points_in: slots rules, frame -/
def B_p_points_in : List S := [.ret (.ix (.call 47 [.var 0, .var 1]) (.int 2))]
/-- winner_of: slots rules, frame -/
def B_p_winner_of : List S := [.ret (.ix (.call 47 [.var 0, .var 1]) (.int 1))]
def B_p_visits_f1 : List S := [.set 6 (.ix (.call 40 [.var 0, .var 3, .var 5]) (.int 0)), .ite (.cmp .eq (.ix (.var 5) (.int 0)) (.str "stroke")) [.set 7 (.call 30 [.var 3, .slLo (.var 5) (.int 1)]), .ite (.var 4) [.expr (.app (.var 2) (.tup [.ix (.var 3) (.int 0), .int 0, .int 0]))] [], .setT [8, 9, 10] (.pop (.var 2)), .expr (.app (.var 2) (.tup [.var 8, .bin .add (.var 9) (.var 7), .bin .add (.var 10) (.int 1)])), .set 4 (.and (.notNon (.var 6)) (.cmp .ne (.ix (.var 6) (.int 0)) (.ix (.var 3) (.int 0))))] [.ite (.cmp .eq (.ix (.var 5) (.int 0)) (.str "pass")) [.set 4 (.bl true)] []], .set 3 (.var 6)]
/-- visits: slots rules, frame, found, place, is_fresh, deed, new, gain, player, points, many -/
def B_p_visits : List S := [.set 2 (.mlst []), .set 3 (.call 36 [.var 0, .ix (.var 1) (.int 0)]), .set 4 (.bl true), .forS (.nm 5) (.e (.ix (.var 1) (.int 1))) B_p_visits_f1, .ret (.blt .tupleOf [.var 2])]
/-- breaks: slots rules, frame, least, player, points, many -/
def B_p_breaks : List S := [.ret (.blt .tupleOf [.lc (.tup [.var 3, .var 4]) (.tup [3, 4, 5]) (.e (.call 59 [.var 0, .var 1])) [3, 4, 5] [.cmp .ge (.var 4) (.var 2)]])]
/-- best_breaks: slots rules, frame, rows, player, who, points, many -/
def B_p_best_breaks : List S := [.set 2 (.call 59 [.var 0, .var 1]), .ret (.blt .tupleOf [.lc (.blt .max1 [.bin .add (.lst [.int 0]) (.lc (.var 5) (.tup [4, 5, 6]) (.e (.var 2)) [4, 5, 6] [.cmp .eq (.var 4) (.var 3)])]) (.nm 3) (.e (.tup [.int 0, .int 1])) [3] []])]
def B_law_own_visits_f1 : List S := [.set 6 (.ix (.var 3) (.int 0)), .set 3 (.call 21 [.var 0, .var 6, .var 5]), .ite (.cmp .eq (.ix (.var 5) (.int 0)) (.str "stroke")) [.set 7 (.ix (.call 19 [.var 6, .slLo (.var 5) (.int 1)]) (.int 0)), .ite (.var 4) [.expr (.app (.var 2) (.lst [.ix (.var 6) (.int 0), .int 0, .int 0]))] [], .setIx (.var 2) (.neg 1) (.lst [.ix (.var 6) (.int 0), .bin .add (.ix (.ix (.var 2) (.neg 1)) (.int 1)) (.var 7), .bin .add (.ix (.ix (.var 2) (.neg 1)) (.int 2)) (.int 1)]), .set 4 (.or (.isNon (.ix (.var 3) (.int 0))) (.cmp .ne (.ix (.ix (.var 3) (.int 0)) (.int 0)) (.ix (.var 6) (.int 0))))] [], .set 4 (.or (.var 4) (.cmp .eq (.ix (.var 5) (.int 0)) (.str "pass")))]
/-- _law_own_visits: slots _law_rules, _law_frame, _law_found, _law_state, _law_fresh, _law_deed, _law_place, _law_gain, _law_row -/
def B_law_own_visits : List S := [.par [2, 3, 4] [.mlst [], .call 22 [.var 0, .ix (.var 1) (.int 0)], .bl true], .forS (.nm 5) (.e (.ix (.var 1) (.int 1))) B_law_own_visits_f1, .ret (.blt .tupleOf [.lcC (.blt .tupleOf [.var 8]) (.nm 8) 2 [8] []])]
def B_law_k10_f1 : List S := [.set 11 (.blt .tupleOf [.lc (.tup [.var 8, .var 9]) (.tup [8, 9, 10]) (.e (.var 5)) [8, 9, 10] [.cmp .ge (.var 9) (.var 6)]]), .ite (.not (.call 6 [.call 60 [.var 3, .var 4, .var 6], .var 11])) [.ret (.bl false)] []]
def B_law_k10_f2 : List S := [.setIx (.var 7) (.var 8) (.blt .max2 [.ix (.var 7) (.var 8), .var 9])]
def B_law_k10_f3 : List S := [.set 3 (.call 9 [.var 0, .var 1]), .set 4 (.call 26 [.var 0, .var 1, .var 3, .call 8 [.var 0, .var 1, .lst [.int 3, .int 20, .int 60]]]), .set 5 (.call 62 [.var 3, .var 4]), .ite (.not (.call 6 [.call 59 [.var 3, .var 4], .var 5])) [.ret (.bl false)] [], .forS (.nm 6) (.e (.tup [.int 0, .int 1, .bin .add (.int 1) (.call 7 [.var 0, .var 1, .int 20])])) B_law_k10_f1, .set 7 (.mlst [.int 0, .int 0]), .forS (.tup [8, 9, 10]) (.e (.var 5)) B_law_k10_f2, .ite (.not (.call 6 [.call 61 [.var 3, .var 4], .blt .tupleOf [.var 7]])) [.ret (.bl false)] []]
/-- law: slots _law_script, _law_town, _law_k, _law_rules, _law_frame, _law_due, _law_least, _law_best, _law_player, _law_points, _law_many, _law_some -/
def B_law_k10 : List S := [.set 1 (.mlst []), .forS (.nm 2) (.rng1 (.int 10)) B_law_k10_f3, .ret (.bl true)]
/-- rest_of: slots rules, reds, low -/
def B_p_rest_of : List S := [.ret (.bin .add (.bin .mul (.var 1) (.bin .add (.int 1) (.call 0 [.var 0]))) (.blt .sum [.call 1 [.var 0, .var 2]]))]
/-- still: slots rules, place, up, on, reds, low, points, free, rest -/
def B_p_still : List S := [.setT [2, 3, 4, 5, 6, 7] (.var 1), .set 8 (.call 69 [.var 0, .var 4, .var 5]), .ite (.cmp .eq (.var 3) (.int 0)) [.ret (.bin .add (.var 8) (.call 0 [.var 0]))] [], .ite (.cmp .lt (.var 7) (.int 2)) [.ret (.var 8)] [], .ret (.bin .add (.var 8) (.ite (.cmp .eq (.var 3) (.int 1)) (.bin .add (.int 1) (.call 0 [.var 0])) (.var 3)))]
/-- best_row: slots rules, place, up, on, reds, low, points, free, top, row, ball -/
def B_p_best_row : List S := [.setT [2, 3, 4, 5, 6, 7] (.var 1), .set 8 (.call 0 [.var 0]), .set 9 (.tup []), .ite (.cmp .eq (.var 7) (.int 2)) [.set 9 (.tup [.var 8])] [], .ite (.or (.cmp .eq (.var 3) (.int 0)) (.and (.cmp .eq (.var 7) (.int 2)) (.cmp .eq (.var 3) (.int 1)))) [.set 9 (.bin .add (.var 9) (.tup [.var 8]))] [], .set 9 (.bin .add (.bin .add (.var 9) (.bin .mul (.tup [.int 1, .var 8]) (.var 4))) (.call 1 [.var 0, .var 5])), .ret (.blt .tupleOf [.lc (.tup [.var 10, .tup [.var 10], .bl false]) (.nm 10) (.e (.var 9)) [10] []])]
/-- needs: slots rules, place, player, up, on, reds, low, points, free, lack -/
def B_p_needs : List S := [.setT [3, 4, 5, 6, 7, 8] (.var 1), .set 9 (.bin .sub (.bin .sub (.ix (.var 7) (.bin .sub (.int 1) (.var 2))) (.ix (.var 7) (.var 2))) (.call 69 [.var 0, .var 5, .var 6])), .ite (.cmp .lt (.var 9) (.int 0)) [.ret (.int 0)] [], .ret (.bin .add (.bin .fdiv (.var 9) (.int 4)) (.int 1))]
/-- is_safe: slots rules, place, player, up, on, reds, low, points, free -/
def B_p_is_safe : List S := [.setT [3, 4, 5, 6, 7, 8] (.var 1), .ret (.cmp .gt (.bin .sub (.ix (.var 7) (.var 2)) (.ix (.var 7) (.bin .sub (.int 1) (.var 2)))) (.call 69 [.var 0, .var 5, .var 6]))]
def B_law_balls_f1 : List S := [.expr (.ext (.var 9) (.lst [.int 1, .var 8]))]
/-- _law_balls: slots _law_rules, _law_place, _law_up, _law_on, _law_reds, _law_low, _law_points, _law_free, _law_top, _law_balls_here, _law_k -/
def B_law_balls : List S := [.setT [2, 3, 4, 5, 6, 7] (.var 1), .par [8, 9] [.bin .add (.ix (.var 0) (.int 1)) (.int 1), .mlst []], .ite (.cmp .eq (.var 7) (.int 2)) [.set 9 (.ite (.cmp .eq (.var 3) (.int 1)) (.mlst [.var 8, .var 8]) (.mlst [.var 8]))] [], .ite (.cmp .eq (.var 3) (.int 0)) [.set 9 (.mlst [.var 8])] [], .forS (.nm 10) (.rng1 (.var 4)) B_law_balls_f1, .ret (.bin .add (.var 9) (.lrng (.var 5) (.bin .add (.var 8) (.int 1))))]
def fb : Nat → Option Fn
  | 0 => some ⟨1, 1, B_p_top_of⟩
  | 1 => some ⟨2, 2, B_p_colours_of⟩
  | 6 => some ⟨4, 2, B_law_same⟩
  | 7 => some ⟨7, 3, B_law_draw⟩
  | 8 => some ⟨3, 3, B_law_pick⟩
  | 9 => some ⟨2, 2, B_law_drawn_rules⟩
  | 16 => some ⟨11, 3, B_p_is_there⟩
  | 17 => some ⟨8, 2, B_p_may_fall⟩
  | 18 => some ⟨4, 2, B_law_can_fall⟩
  | 19 => some ⟨7, 2, B_law_judged⟩
  | 20 => some ⟨5, 2, B_law_is_here⟩
  | 21 => some ⟨17, 3, B_law_moved⟩
  | 22 => some ⟨2, 2, B_law_begin⟩
  | 23 => some ⟨4, 2, B_law_led⟩
  | 24 => some ⟨16, 4, B_law_drawn_stroke⟩
  | 25 => some ⟨5, 4, B_law_drawn_deed⟩
  | 26 => some ⟨10, 4, B_law_drawn_frame⟩
  | 27 => some ⟨5, 3, B_law_drawn_place⟩
  | 29 => some ⟨4, 2, B_p_is_fair⟩
  | 30 => some ⟨2, 2, B_p_points_of⟩
  | 31 => some ⟨2, 2, B_p_foul_of⟩
  | 36 => some ⟨2, 2, B_p_first_place⟩
  | 38 => some ⟨3, 3, B_p_added⟩
  | 39 => some ⟨14, 3, B_p_struck⟩
  | 40 => some ⟨9, 3, B_p_behind⟩
  | 47 => some ⟨4, 2, B_p_walked⟩
  | 48 => some ⟨2, 2, B_p_place_of⟩
  | 49 => some ⟨2, 2, B_p_points_in⟩
  | 50 => some ⟨2, 2, B_p_winner_of⟩
  | 59 => some ⟨11, 2, B_p_visits⟩
  | 60 => some ⟨6, 3, B_p_breaks⟩
  | 61 => some ⟨7, 2, B_p_best_breaks⟩
  | 62 => some ⟨9, 2, B_law_own_visits⟩
  | 63 => some ⟨12, 1, B_law_k10⟩
  | 69 => some ⟨3, 3, B_p_rest_of⟩
  | 70 => some ⟨9, 2, B_p_still⟩
  | 71 => some ⟨11, 2, B_p_best_row⟩
  | 72 => some ⟨10, 3, B_p_needs⟩
  | 73 => some ⟨9, 3, B_p_is_safe⟩
  | 78 => some ⟨11, 2, B_law_balls⟩
  | _ => none
theorem t_p_top_of {j : Nat} {ds : List Dt} {s : Sta} (h : ds.length = 1) : FTab fb (j + 1) 0 ds s = finish s.length (evSs (FTab fb j) B_p_top_of (ds.map some ++ List.replicate 0 none) s) := runF_eq (n := 1) (p := 1) h
theorem t_p_colours_of {j : Nat} {ds : List Dt} {s : Sta} (h : ds.length = 2) : FTab fb (j + 1) 1 ds s = finish s.length (evSs (FTab fb j) B_p_colours_of (ds.map some ++ List.replicate 0 none) s) := runF_eq (n := 2) (p := 2) h
theorem t_law_same {j : Nat} {ds : List Dt} {s : Sta} (h : ds.length = 2) : FTab fb (j + 1) 6 ds s = finish s.length (evSs (FTab fb j) B_law_same (ds.map some ++ List.replicate 2 none) s) := runF_eq (n := 4) (p := 2) h
theorem t_law_draw {j : Nat} {ds : List Dt} {s : Sta} (h : ds.length = 3) : FTab fb (j + 1) 7 ds s = finish s.length (evSs (FTab fb j) B_law_draw (ds.map some ++ List.replicate 4 none) s) := runF_eq (n := 7) (p := 3) h
theorem t_law_pick {j : Nat} {ds : List Dt} {s : Sta} (h : ds.length = 3) : FTab fb (j + 1) 8 ds s = finish s.length (evSs (FTab fb j) B_law_pick (ds.map some ++ List.replicate 0 none) s) := runF_eq (n := 3) (p := 3) h
theorem t_law_drawn_rules {j : Nat} {ds : List Dt} {s : Sta} (h : ds.length = 2) : FTab fb (j + 1) 9 ds s = finish s.length (evSs (FTab fb j) B_law_drawn_rules (ds.map some ++ List.replicate 0 none) s) := runF_eq (n := 2) (p := 2) h
theorem t_p_is_there {j : Nat} {ds : List Dt} {s : Sta} (h : ds.length = 3) : FTab fb (j + 1) 16 ds s = finish s.length (evSs (FTab fb j) B_p_is_there (ds.map some ++ List.replicate 8 none) s) := runF_eq (n := 11) (p := 3) h
theorem t_p_may_fall {j : Nat} {ds : List Dt} {s : Sta} (h : ds.length = 2) : FTab fb (j + 1) 17 ds s = finish s.length (evSs (FTab fb j) B_p_may_fall (ds.map some ++ List.replicate 6 none) s) := runF_eq (n := 8) (p := 2) h
theorem t_law_can_fall {j : Nat} {ds : List Dt} {s : Sta} (h : ds.length = 2) : FTab fb (j + 1) 18 ds s = finish s.length (evSs (FTab fb j) B_law_can_fall (ds.map some ++ List.replicate 2 none) s) := runF_eq (n := 4) (p := 2) h
theorem t_law_judged {j : Nat} {ds : List Dt} {s : Sta} (h : ds.length = 2) : FTab fb (j + 1) 19 ds s = finish s.length (evSs (FTab fb j) B_law_judged (ds.map some ++ List.replicate 5 none) s) := runF_eq (n := 7) (p := 2) h
theorem t_law_is_here {j : Nat} {ds : List Dt} {s : Sta} (h : ds.length = 2) : FTab fb (j + 1) 20 ds s = finish s.length (evSs (FTab fb j) B_law_is_here (ds.map some ++ List.replicate 3 none) s) := runF_eq (n := 5) (p := 2) h
theorem t_law_moved {j : Nat} {ds : List Dt} {s : Sta} (h : ds.length = 3) : FTab fb (j + 1) 21 ds s = finish s.length (evSs (FTab fb j) B_law_moved (ds.map some ++ List.replicate 14 none) s) := runF_eq (n := 17) (p := 3) h
theorem t_law_begin {j : Nat} {ds : List Dt} {s : Sta} (h : ds.length = 2) : FTab fb (j + 1) 22 ds s = finish s.length (evSs (FTab fb j) B_law_begin (ds.map some ++ List.replicate 0 none) s) := runF_eq (n := 2) (p := 2) h
theorem t_law_led {j : Nat} {ds : List Dt} {s : Sta} (h : ds.length = 2) : FTab fb (j + 1) 23 ds s = finish s.length (evSs (FTab fb j) B_law_led (ds.map some ++ List.replicate 2 none) s) := runF_eq (n := 4) (p := 2) h
theorem t_law_drawn_stroke {j : Nat} {ds : List Dt} {s : Sta} (h : ds.length = 4) : FTab fb (j + 1) 24 ds s = finish s.length (evSs (FTab fb j) B_law_drawn_stroke (ds.map some ++ List.replicate 12 none) s) := runF_eq (n := 16) (p := 4) h
theorem t_law_drawn_deed {j : Nat} {ds : List Dt} {s : Sta} (h : ds.length = 4) : FTab fb (j + 1) 25 ds s = finish s.length (evSs (FTab fb j) B_law_drawn_deed (ds.map some ++ List.replicate 1 none) s) := runF_eq (n := 5) (p := 4) h
theorem t_law_drawn_frame {j : Nat} {ds : List Dt} {s : Sta} (h : ds.length = 4) : FTab fb (j + 1) 26 ds s = finish s.length (evSs (FTab fb j) B_law_drawn_frame (ds.map some ++ List.replicate 6 none) s) := runF_eq (n := 10) (p := 4) h
theorem t_law_drawn_place {j : Nat} {ds : List Dt} {s : Sta} (h : ds.length = 3) : FTab fb (j + 1) 27 ds s = finish s.length (evSs (FTab fb j) B_law_drawn_place (ds.map some ++ List.replicate 2 none) s) := runF_eq (n := 5) (p := 3) h
theorem t_p_is_fair {j : Nat} {ds : List Dt} {s : Sta} (h : ds.length = 2) : FTab fb (j + 1) 29 ds s = finish s.length (evSs (FTab fb j) B_p_is_fair (ds.map some ++ List.replicate 2 none) s) := runF_eq (n := 4) (p := 2) h
theorem t_p_points_of {j : Nat} {ds : List Dt} {s : Sta} (h : ds.length = 2) : FTab fb (j + 1) 30 ds s = finish s.length (evSs (FTab fb j) B_p_points_of (ds.map some ++ List.replicate 0 none) s) := runF_eq (n := 2) (p := 2) h
theorem t_p_foul_of {j : Nat} {ds : List Dt} {s : Sta} (h : ds.length = 2) : FTab fb (j + 1) 31 ds s = finish s.length (evSs (FTab fb j) B_p_foul_of (ds.map some ++ List.replicate 0 none) s) := runF_eq (n := 2) (p := 2) h
theorem t_p_first_place {j : Nat} {ds : List Dt} {s : Sta} (h : ds.length = 2) : FTab fb (j + 1) 36 ds s = finish s.length (evSs (FTab fb j) B_p_first_place (ds.map some ++ List.replicate 0 none) s) := runF_eq (n := 2) (p := 2) h
theorem t_p_added {j : Nat} {ds : List Dt} {s : Sta} (h : ds.length = 3) : FTab fb (j + 1) 38 ds s = finish s.length (evSs (FTab fb j) B_p_added (ds.map some ++ List.replicate 0 none) s) := runF_eq (n := 3) (p := 3) h
theorem t_p_struck {j : Nat} {ds : List Dt} {s : Sta} (h : ds.length = 3) : FTab fb (j + 1) 39 ds s = finish s.length (evSs (FTab fb j) B_p_struck (ds.map some ++ List.replicate 11 none) s) := runF_eq (n := 14) (p := 3) h
theorem t_p_behind {j : Nat} {ds : List Dt} {s : Sta} (h : ds.length = 3) : FTab fb (j + 1) 40 ds s = finish s.length (evSs (FTab fb j) B_p_behind (ds.map some ++ List.replicate 6 none) s) := runF_eq (n := 9) (p := 3) h
theorem t_p_walked {j : Nat} {ds : List Dt} {s : Sta} (h : ds.length = 2) : FTab fb (j + 1) 47 ds s = finish s.length (evSs (FTab fb j) B_p_walked (ds.map some ++ List.replicate 2 none) s) := runF_eq (n := 4) (p := 2) h
theorem t_p_place_of {j : Nat} {ds : List Dt} {s : Sta} (h : ds.length = 2) : FTab fb (j + 1) 48 ds s = finish s.length (evSs (FTab fb j) B_p_place_of (ds.map some ++ List.replicate 0 none) s) := runF_eq (n := 2) (p := 2) h
theorem t_p_points_in {j : Nat} {ds : List Dt} {s : Sta} (h : ds.length = 2) : FTab fb (j + 1) 49 ds s = finish s.length (evSs (FTab fb j) B_p_points_in (ds.map some ++ List.replicate 0 none) s) := runF_eq (n := 2) (p := 2) h
theorem t_p_winner_of {j : Nat} {ds : List Dt} {s : Sta} (h : ds.length = 2) : FTab fb (j + 1) 50 ds s = finish s.length (evSs (FTab fb j) B_p_winner_of (ds.map some ++ List.replicate 0 none) s) := runF_eq (n := 2) (p := 2) h
theorem t_p_visits {j : Nat} {ds : List Dt} {s : Sta} (h : ds.length = 2) : FTab fb (j + 1) 59 ds s = finish s.length (evSs (FTab fb j) B_p_visits (ds.map some ++ List.replicate 9 none) s) := runF_eq (n := 11) (p := 2) h
theorem t_p_breaks {j : Nat} {ds : List Dt} {s : Sta} (h : ds.length = 3) : FTab fb (j + 1) 60 ds s = finish s.length (evSs (FTab fb j) B_p_breaks (ds.map some ++ List.replicate 3 none) s) := runF_eq (n := 6) (p := 3) h
theorem t_p_best_breaks {j : Nat} {ds : List Dt} {s : Sta} (h : ds.length = 2) : FTab fb (j + 1) 61 ds s = finish s.length (evSs (FTab fb j) B_p_best_breaks (ds.map some ++ List.replicate 5 none) s) := runF_eq (n := 7) (p := 2) h
theorem t_law_own_visits {j : Nat} {ds : List Dt} {s : Sta} (h : ds.length = 2) : FTab fb (j + 1) 62 ds s = finish s.length (evSs (FTab fb j) B_law_own_visits (ds.map some ++ List.replicate 7 none) s) := runF_eq (n := 9) (p := 2) h
theorem t_law_k10 {j : Nat} {ds : List Dt} {s : Sta} (h : ds.length = 1) : FTab fb (j + 1) 63 ds s = finish s.length (evSs (FTab fb j) B_law_k10 (ds.map some ++ List.replicate 11 none) s) := runF_eq (n := 12) (p := 1) h
theorem t_p_rest_of {j : Nat} {ds : List Dt} {s : Sta} (h : ds.length = 3) : FTab fb (j + 1) 69 ds s = finish s.length (evSs (FTab fb j) B_p_rest_of (ds.map some ++ List.replicate 0 none) s) := runF_eq (n := 3) (p := 3) h
theorem t_p_still {j : Nat} {ds : List Dt} {s : Sta} (h : ds.length = 2) : FTab fb (j + 1) 70 ds s = finish s.length (evSs (FTab fb j) B_p_still (ds.map some ++ List.replicate 7 none) s) := runF_eq (n := 9) (p := 2) h
theorem t_p_best_row {j : Nat} {ds : List Dt} {s : Sta} (h : ds.length = 2) : FTab fb (j + 1) 71 ds s = finish s.length (evSs (FTab fb j) B_p_best_row (ds.map some ++ List.replicate 9 none) s) := runF_eq (n := 11) (p := 2) h
theorem t_p_needs {j : Nat} {ds : List Dt} {s : Sta} (h : ds.length = 3) : FTab fb (j + 1) 72 ds s = finish s.length (evSs (FTab fb j) B_p_needs (ds.map some ++ List.replicate 7 none) s) := runF_eq (n := 10) (p := 3) h
theorem t_p_is_safe {j : Nat} {ds : List Dt} {s : Sta} (h : ds.length = 3) : FTab fb (j + 1) 73 ds s = finish s.length (evSs (FTab fb j) B_p_is_safe (ds.map some ++ List.replicate 6 none) s) := runF_eq (n := 9) (p := 3) h
theorem t_law_balls {j : Nat} {ds : List Dt} {s : Sta} (h : ds.length = 2) : FTab fb (j + 1) 78 ds s = finish s.length (evSs (FTab fb j) B_law_balls (ds.map some ++ List.replicate 9 none) s) := runF_eq (n := 11) (p := 2) h
end MP
/-! P1: plain: data; draws. -/
namespace MP
open PySem
/-! ### data -/
theorem ints_map : ∀ l : List Int, Dt.ints (l.map Dt.int) = some l
  | [] => rfl
  | i :: l => by rw [List.map_cons]; show (Dt.ints (l.map Dt.int)).map (i :: ·) = _; rw [ints_map l]; rfl
theorem plA_ints : ∀ l : List Int, Dt.plAll (l.map Dt.int) = true
  | [] => rfl
  | i :: l => by rw [List.map_cons, Dt.plAll, plA_ints l]; rfl
theorem okqs_int {ds : List Dt} {a : Int} (h : Dt.plAll ds = true) : okqs ds (.int a) = true := by
  unfold okqs
  rw [h]
  have : (Dt.int a).py.depth = 0 := rfl
  rw [this]
  simp [Dt.pl]
theorem any_ints {a : Int} : ∀ l : List Int, ((l.map Dt.int).any fun z => PyData.eqv z.py (Dt.int a).py) = decide (a ∈ l)
  | [] => rfl
  | i :: l => by
    rw [List.map_cons, List.any_cons, any_ints l]
    have : PyData.eqv (Dt.int i).py (Dt.int a).py = decide (i = a) := rfl
    rw [this]
    by_cases h : i = a
    · subst h; simp
    · simp [h, Ne.symm h]
theorem in_tup {a : Int} {l : List Int} : evCmp .isin (.int a) (.tup (l.map .int)) = some (decide (a ∈ l)) := by
  simp only [evCmp]
  show (if okqs (l.map Dt.int) (.int a) = true then _ else _) = _
  rw [if_pos (okqs_int (plA_ints l)), any_ints]
theorem nin_tup {a : Int} {l : List Int} : evCmp .notin (.int a) (.tup (l.map .int)) = some (!decide (a ∈ l)) := by
  have h := in_tup (a := a) (l := l)
  simp only [evCmp] at h ⊢
  rw [h]; rfl
theorem count_ints {a : Int} : ∀ l : List Int, ((l.map Dt.int).countP fun z => PyData.eqv z.py (Dt.int a).py) = l.count a
  | [] => rfl
  | i :: l => by
    rw [List.map_cons, List.countP_cons, count_ints l, List.count_cons]
    have : PyData.eqv (Dt.int i).py (Dt.int a).py = decide (i = a) := rfl
    rw [this]
    by_cases h : i = a <;> simp [h]
theorem mt_count {a : Int} {l : List Int} : evMt .count (.tup (l.map .int)) [.int a] = some (.int (l.count a : Nat)) := by
  show (if okqs (l.map Dt.int) (.int a) = true then _ else _) = _
  rw [if_pos (okqs_int (plA_ints l)), count_ints]
theorem max_ints {a : Int} {l : List Int} : evBl .max1 [.lst ((a :: l).map .int)] = some (.int (maxI a l)) := by
  show (Dt.ints _).bind _ = _
  rw [ints_map]; rfl
theorem max_intsT {a : Int} {l : List Int} : evBl .max1 [.tup ((a :: l).map .int)] = some (.int (maxI a l)) := by
  show (Dt.ints _).bind _ = _
  rw [ints_map]; rfl
theorem min_ints {a : Int} {l : List Int} : evBl .min1 [.lst ((a :: l).map .int)] = some (.int (minI a l)) := by
  show (Dt.ints _).bind _ = _
  rw [ints_map]; rfl
theorem sum_intsT {l : List Int} : evBl .sum [.tup (l.map .int)] = some (.int l.sum) := by
  show (Dt.ints _).map _ = _
  rw [ints_map]; rfl
theorem sum_intsL {l : List Int} : evBl .sum [.lst (l.map .int)] = some (.int l.sum) := by
  show (Dt.ints _).map _ = _
  rw [ints_map]; rfl
theorem bls_map : ∀ l : List Bool, Dt.bls (l.map Dt.bl) = some l
  | [] => rfl
  | i :: l => by rw [List.map_cons]; show (Dt.bls (l.map Dt.bl)).map (i :: ·) = _; rw [bls_map l]; rfl
theorem all_bls {l : List Bool} : evBl .all [.lst (l.map .bl)] = some (.bl (l.all id)) := by
  show (Dt.bls _).map _ = _
  rw [bls_map]; rfl
theorem eq_str {a b : Str} : evCmp .eq (.str a) (.str b) = some (decide (a = b)) := by
  simp only [evCmp]
  unfold evEq
  rw [if_pos (by rfl)]
  rfl
theorem ne_str {a b : Str} : evCmp .ne (.str a) (.str b) = some (!decide (a = b)) := by
  have h := eq_str (a := a) (b := b)
  simp only [evCmp] at h ⊢
  rw [h]; rfl
/-! ### draws -/
/-- the town k has grown by no more than n; all else is as it was -/
structure Drew (k : Nat) (s s' : Sta) (n : Nat) : Prop where
  len : s'.length = s.length
  oth : ∀ j, j ≠ k → s'[j]? = s[j]?
  row : ∀ ds, s[k]? = some (.lst ds) → ∃ ds', s'[k]? = some (.lst ds') ∧ ds'.length ≤ ds.length + n
theorem Drew.refl (k : Nat) (s : Sta) (n : Nat) : Drew k s s n := ⟨rfl, fun _ _ => rfl, fun ds h => ⟨ds, h, by omega⟩⟩
theorem Drew.trans {k : Nat} {s s1 s2 : Sta} {n m : Nat} (a : Drew k s s1 n) (b : Drew k s1 s2 m) : Drew k s s2 (n + m) :=
  ⟨b.len.trans a.len, fun j h => (b.oth j h).trans (a.oth j h), fun ds h => by
    obtain ⟨ds1, h1, l1⟩ := a.row ds h
    obtain ⟨ds2, h2, l2⟩ := b.row ds1 h1
    exact ⟨ds2, h2, by omega⟩⟩
theorem Drew.mono {k : Nat} {s s' : Sta} {n m : Nat} (a : Drew k s s' n) (h : n ≤ m) : Drew k s s' m := ⟨a.len, a.oth, fun ds e => by obtain ⟨x, y, z⟩ := a.row ds e; exact ⟨x, y, by omega⟩⟩
/-- room for n draws -/
def Has (k : Nat) (s : Sta) (n : Nat) : Prop := ∃ ds, s[k]? = some (.lst ds) ∧ ds.length + n ≤ lineM
theorem Drew.has {k : Nat} {s s' : Sta} {n m : Nat} (a : Drew k s s' n) (h : Has k s (n + m)) : Has k s' m := by
  obtain ⟨ds, e, l⟩ := h
  obtain ⟨ds', e', l'⟩ := a.row ds e
  exact ⟨ds', e', by omega⟩
theorem Has.mono {k : Nat} {s : Sta} {n m : Nat} (h : Has k s n) (l : m ≤ n) : Has k s m := by obtain ⟨ds, e, q⟩ := h; exact ⟨ds, e, by omega⟩
theorem Has.lt {k : Nat} {s : Sta} {n : Nat} (h : Has k s n) : k < s.length := by obtain ⟨ds, e, _⟩ := h; exact (List.getElem?_eq_some_iff.mp e).1
/-- a draw, a number -/
theorem drew_set {k : Nat} {s : Sta} {ds : List Dt} {d : Dt} (h : s[k]? = some (.lst ds)) : Drew k s (setCell s k (ds ++ [d])) 1 :=
  ⟨by unfold setCell; rw [List.length_set], fun j hj => by unfold setCell; rw [List.getElem?_set_ne (Ne.symm hj)], fun es he => by
    rw [h] at he; cases he
    exact ⟨ds ++ [d], by unfold setCell; rw [List.getElem?_set_self (List.getElem?_eq_some_iff.mp h).1], by simp⟩⟩
theorem isCell_of {s : Sta} {k : Nat} {ds : List Dt} (h : s[k]? = some (.lst ds)) : isCell s (.ref k) = true := by simp only [isCell, h]
theorem len_lst {l : List Dt} : evBl .len [.lst l] = some (.int l.length) := rfl
theorem len_tup {l : List Dt} : evBl .len [.tup l] = some (.int l.length) := rfl
theorem len_scr {l : List Int} : evBl .len [.scr l] = some (.int l.length) := rfl
theorem tru_scr {l : List Int} : evTru (.scr l) = some (!decide (l = [])) := by cases l <;> rfl
theorem small_lit {a : Int} (h1 : -(2 ^ 64) < a) (h2 : a < 2 ^ 64) : smallI a = true := by unfold smallI; rw [decide_eq_true h1, decide_eq_true h2]; rfl
theorem ix_scr {l : List Int} {i : Int} (h0 : 0 ≤ i) (h : i < l.length) : ∃ n, evIx (.scr l) (.int i) = some (.int n) := by
  have e : evIx (.scr l) (.int i) = (L2.atI l i).map .int := rfl
  rw [e]
  unfold L2.atI L2.ixN
  rw [if_pos h0, if_pos h]
  have : i.toNat < l.length := by omega
  exact ⟨l[i.toNat], by simp [List.getElem?_eq_getElem this]⟩
theorem small_mod {a b : Int} (h1 : 0 < b) (h2 : b < 2 ^ 64) : smallI (a % b) = true := by
  have := Int.emod_nonneg a (show b ≠ 0 by omega)
  have := Int.emod_lt_of_pos a h1
  exact small_lit (by omega) (by omega)
theorem sm1 {a : Int} : smallI (a % 4294967291) = true := small_mod (by decide) (by decide)
theorem bin_mulL {a b : Int} (h : smallI a = true) : evBin .mul (.int a) (.int b) = some (.int (a * b)) := bin_mul (.inl h)
theorem bin_mulR {a b : Int} (h : smallI b = true) : evBin .mul (.int a) (.int b) = some (.int (a * b)) := bin_mul (.inr h)
theorem l1 : smallI 104729 = true := by decide
theorem l2 : smallI 48271 = true := by decide
theorem l3 : smallI 69621 = true := by decide
theorem l4 : smallI 67108864 = true := by decide
theorem g1 : (0 : Int) < 4294967291 := by decide
theorem g2 : (0 : Int) < 4294967279 := by decide
theorem g3 : (0 : Int) < 64 ∧ (64 : Int) < 1073741824 := by decide
theorem draw_tail {F : FT} {x y : Dt} {m n c : Int} {S : Sta} (hm : 0 < m) : ∃ r, finish S.length (evSs F (B_law_draw.drop 4) [some x, some y, some (.int m), some (.int n), some (.int c), none, none] S) = .ok (.int (r % m)) S := by
  refine ⟨?_, ?_⟩
  rotate_left
  · simp only [B_law_draw, ss_cons, ss_nil, s_setT', s_set', s_par', s_expr', s_ite', s_ret', s_retN', s_raise', e_var, e_non, e_bl, e_int, e_neg, e_str, e_bin, e_cmp, e_cmp2, e_and, e_or, e_not, e_ite, e_tup, e_lst, e_ix, e_isNon, e_notNon, e_call, e_blt, e_isi, e_rev, s_try', tryO_exc, tryO_nx, tryO_rt, tryO_ite, hs_nil, hs_cons, es_nil, es_cons, List.map_cons, List.map_nil, List.replicate, List.cons_append, List.nil_append, List.append_nil, List.getElem?_cons_zero, List.getElem?_cons_succ, lookV_some, ok_bind, ok_out, stuck_bind, stuck_out, onS_tup, onS_lst, onI_int, setAll, List.set_cons_zero, List.set_cons_succ, nxO_some, nx_then, rt_then, ite_then, exc_then, exc_bind, exc_out, finish_exc, deref_int, deref_bl, deref_str, deref_non, deref_tup, deref_lst, deref_scr, cmp_eq, cmp_ne, cmp_lt, cmp_le, cmp_gt, cmp_ge, Option.map_some, of_some', tru_bl, tru_int, tru_non, tru_tup0, tru_tup1, tru_lst0, tru_lst1, brB_t, brB_f, brB_d, brB_nd, finish_ite, finish_rt, finish_nx, ite_out, ite_bind, List.length_cons, List.length_nil, sz0, sz1, sz2, sz3, sz4, sz5, sz6, sz7, sz8, Nat.reduceAdd, Nat.reduceLeDiff, Nat.zero_le, Nat.zero_add, if_true, if_false, ↓reduceIte, ix_t0, ix_t1, ix_t2, ix_t3, ix_t4, ix_t5, ix_l0, ix_l1, leave_tup, leave_lst, leave_int, leave_bl, leave_str, leave_non, lo_int, lo_bl, lo_str, lo_non, lo_tup, lo_lst, loAll_nil, loAll_cons, loAll_ints, Bool.and_true, Bool.true_and, Bool.and_self, List.take_length, bin_add, bin_sub, int1_d, int1_bl, inn, ini, ins, int', inb, inl', Bool.not_true, Bool.not_false, decide_eq_true_eq, decide_true, decide_false, brB_b, slt_hi, slt_lo, slt_m1, sll_hi, sll_lo, mul_t0, mul_t1, Int.reduceLE, Int.reduceToNat, List.take_succ_cons, List.take_zero, List.drop_succ_cons, List.drop_zero, List.take_nil, List.drop_nil, Nat.reduceAdd, e_slHi, e_slLo, e_slLH, Int.reduceAdd, Int.add_zero, Int.mul_one, Int.mul_zero, Int.reduceNeg, List.getElem?_nil, Bool.false_eq_true, Int.reduceLT, Int.reduceEq, and_true, true_and, and_false, false_and, not_true_eq_false, not_false_eq_true, of_ite, map_ite, bin_mod g1, bin_mod g2, bin_mod hm, bin_fdiv g3, bin_mulL l1, bin_mulR l2, bin_mulR l3, bin_mulR l4, bin_mulL sm1]
    exact rfl
theorem draw {j : Nat} {ns : List Int} {k : Nat} {m : Int} {s : Sta} (hm : 0 < m) (h : Has k s 1) : ∃ r s', FTab fb (j + 1) 7 [.scr ns, .ref k, .int m] s = .ok (.int r) s' ∧ 0 ≤ r ∧ r < m ∧ Drew k s s' 1 := by
  obtain ⟨ds, hs, hl⟩ := h
  have hk := (List.getElem?_eq_some_iff.mp hs).1
  have hs' : (setCell s k (ds ++ [Dt.int 0]))[k]? = some (.lst (ds ++ [.int 0])) := by unfold setCell; rw [List.getElem?_set_self hk]
  have hlen : (setCell s k (ds ++ [Dt.int 0])).length = s.length := by unfold setCell; rw [List.length_set]
  have hd := drew_set (d := .int 0) hs
  generalize hS : setCell s k (ds ++ [Dt.int 0]) = S at hs' hlen hd
  have hl2 : ds.length < lineM := by omega
  rw [t_law_draw rfl, ← hlen]
  have main : ∃ r, finish S.length (evSs (FTab fb j) B_law_draw ([Dt.scr ns, .ref k, .int m].map some ++ List.replicate 4 none) s) = .ok (.int (r % m)) S := by
    have split : evSs (FTab fb j) B_law_draw ([Dt.scr ns, .ref k, .int m].map some ++ List.replicate 4 none) s = (evSs (FTab fb j) (B_law_draw.take 4) ([Dt.scr ns, .ref k, .int m].map some ++ List.replicate 4 none) s).andThen fun ρ s => evSs (FTab fb j) (B_law_draw.drop 4) ρ s := by
      rw [← ss_app]; rfl
    rw [split]
    by_cases hn : ns = []
    · have e : evSs (FTab fb j) (B_law_draw.take 4) ([Dt.scr ns, .ref k, .int m].map some ++ List.replicate 4 none) s = .nx [some (.scr ns), some (.ref k), some (.int m), some (.int ((ds ++ [Dt.int 0]).length : Nat)), some (.int 0), none, none] S := by
        simp only [B_law_draw, ss_cons, ss_nil, s_setT', s_set', s_par', s_expr', s_ite', s_ret', s_retN', s_raise', e_var, e_non, e_bl, e_int, e_neg, e_str, e_bin, e_cmp, e_cmp2, e_and, e_or, e_not, e_ite, e_tup, e_lst, e_ix, e_isNon, e_notNon, e_call, e_blt, e_isi, e_rev, s_try', tryO_exc, tryO_nx, tryO_rt, tryO_ite, hs_nil, hs_cons, es_nil, es_cons, List.map_cons, List.map_nil, List.replicate, List.cons_append, List.nil_append, List.append_nil, List.getElem?_cons_zero, List.getElem?_cons_succ, lookV_some, ok_bind, ok_out, stuck_bind, stuck_out, onS_tup, onS_lst, onI_int, setAll, List.set_cons_zero, List.set_cons_succ, nxO_some, nx_then, rt_then, ite_then, exc_then, exc_bind, exc_out, finish_exc, deref_int, deref_bl, deref_str, deref_non, deref_tup, deref_lst, deref_scr, cmp_eq, cmp_ne, cmp_lt, cmp_le, cmp_gt, cmp_ge, Option.map_some, of_some', tru_bl, tru_int, tru_non, tru_tup0, tru_tup1, tru_lst0, tru_lst1, brB_t, brB_f, brB_d, brB_nd, finish_ite, finish_rt, finish_nx, ite_out, ite_bind, List.length_cons, List.length_nil, sz0, sz1, sz2, sz3, sz4, sz5, sz6, sz7, sz8, Nat.reduceAdd, Nat.reduceLeDiff, Nat.zero_le, Nat.zero_add, if_true, if_false, ↓reduceIte, ix_t0, ix_t1, ix_t2, ix_t3, ix_t4, ix_t5, ix_l0, ix_l1, leave_tup, leave_lst, leave_int, leave_bl, leave_str, leave_non, lo_int, lo_bl, lo_str, lo_non, lo_tup, lo_lst, loAll_nil, loAll_cons, loAll_ints, Bool.and_true, Bool.true_and, Bool.and_self, List.take_length, bin_add, bin_sub, int1_d, int1_bl, inn, ini, ins, int', inb, inl', Bool.not_true, Bool.not_false, decide_eq_true_eq, decide_true, decide_false, brB_b, slt_hi, slt_lo, slt_m1, sll_hi, sll_lo, mul_t0, mul_t1, Int.reduceLE, Int.reduceToNat, List.take_succ_cons, List.take_zero, List.drop_succ_cons, List.drop_zero, List.take_nil, List.drop_nil, Nat.reduceAdd, e_slHi, e_slLo, e_slLH, Int.reduceAdd, Int.add_zero, Int.mul_one, Int.mul_zero, Int.reduceNeg, List.getElem?_nil, Bool.false_eq_true, Int.reduceLT, Int.reduceEq, and_true, true_and, and_false, false_and, not_true_eq_false, not_false_eq_true, of_ite, map_ite, e_app, isCell_of hs, onR_ref, setC_eq hs, hl2, hS, deref_ref hs', len_lst, tru_scr, hn, Bool.and_self]
      rw [e, nx_then]
      exact draw_tail hm
    · have hp : 0 < ns.length := List.length_pos_iff.mpr hn
      have h0 := Int.emod_nonneg ((ds ++ [Dt.int 0]).length : Int) (show (ns.length : Int) ≠ 0 by omega)
      have h1 := Int.emod_lt_of_pos ((ds ++ [Dt.int 0]).length : Int) (show 0 < (ns.length : Int) by omega)
      obtain ⟨c, hc⟩ := ix_scr h0 h1
      have e : evSs (FTab fb j) (B_law_draw.take 4) ([Dt.scr ns, .ref k, .int m].map some ++ List.replicate 4 none) s = .nx [some (.scr ns), some (.ref k), some (.int m), some (.int ((ds ++ [Dt.int 0]).length : Nat)), some (.int c), none, none] S := by
        simp only [B_law_draw, ss_cons, ss_nil, s_setT', s_set', s_par', s_expr', s_ite', s_ret', s_retN', s_raise', e_var, e_non, e_bl, e_int, e_neg, e_str, e_bin, e_cmp, e_cmp2, e_and, e_or, e_not, e_ite, e_tup, e_lst, e_ix, e_isNon, e_notNon, e_call, e_blt, e_isi, e_rev, s_try', tryO_exc, tryO_nx, tryO_rt, tryO_ite, hs_nil, hs_cons, es_nil, es_cons, List.map_cons, List.map_nil, List.replicate, List.cons_append, List.nil_append, List.append_nil, List.getElem?_cons_zero, List.getElem?_cons_succ, lookV_some, ok_bind, ok_out, stuck_bind, stuck_out, onS_tup, onS_lst, onI_int, setAll, List.set_cons_zero, List.set_cons_succ, nxO_some, nx_then, rt_then, ite_then, exc_then, exc_bind, exc_out, finish_exc, deref_int, deref_bl, deref_str, deref_non, deref_tup, deref_lst, deref_scr, cmp_eq, cmp_ne, cmp_lt, cmp_le, cmp_gt, cmp_ge, Option.map_some, of_some', tru_bl, tru_int, tru_non, tru_tup0, tru_tup1, tru_lst0, tru_lst1, brB_t, brB_f, brB_d, brB_nd, finish_ite, finish_rt, finish_nx, ite_out, ite_bind, List.length_cons, List.length_nil, sz0, sz1, sz2, sz3, sz4, sz5, sz6, sz7, sz8, Nat.reduceAdd, Nat.reduceLeDiff, Nat.zero_le, Nat.zero_add, if_true, if_false, ↓reduceIte, ix_t0, ix_t1, ix_t2, ix_t3, ix_t4, ix_t5, ix_l0, ix_l1, leave_tup, leave_lst, leave_int, leave_bl, leave_str, leave_non, lo_int, lo_bl, lo_str, lo_non, lo_tup, lo_lst, loAll_nil, loAll_cons, loAll_ints, Bool.and_true, Bool.true_and, Bool.and_self, List.take_length, bin_add, bin_sub, int1_d, int1_bl, inn, ini, ins, int', inb, inl', Bool.not_true, Bool.not_false, decide_eq_true_eq, decide_true, decide_false, brB_b, slt_hi, slt_lo, slt_m1, sll_hi, sll_lo, mul_t0, mul_t1, Int.reduceLE, Int.reduceToNat, List.take_succ_cons, List.take_zero, List.drop_succ_cons, List.drop_zero, List.take_nil, List.drop_nil, Nat.reduceAdd, e_slHi, e_slLo, e_slLH, Int.reduceAdd, Int.add_zero, Int.mul_one, Int.mul_zero, Int.reduceNeg, List.getElem?_nil, Bool.false_eq_true, Int.reduceLT, Int.reduceEq, and_true, true_and, and_false, false_and, not_true_eq_false, not_false_eq_true, of_ite, map_ite, e_app, isCell_of hs, onR_ref, setC_eq hs, hl2, hS, deref_ref hs', len_lst, len_scr, tru_scr, hn, Bool.and_self, bin_mod (show 0 < (ns.length : Int) by omega), hc]
      rw [e, nx_then]
      exact draw_tail hm
  obtain ⟨r, e⟩ := main
  exact ⟨r % m, S, e, Int.emod_nonneg _ (by omega), Int.emod_lt_of_pos _ hm, hd⟩
end MP
/-! P2: plain: sameness, picks, rules. -/
namespace MP
open PySem
/-- data that sameness is asked of -/
def Dt.sm : Nat → Dt → Bool
  | _, .non => true
  | _, .bl _ => true
  | _, .int _ => true
  | _, .str _ => true
  | n + 1, .tup xs => decide (xs.length < lineM) && xs.all (Dt.sm n)
  | _, _ => false
theorem isi_bool_non : evIsi .bool .non = some false := rfl
theorem isi_bool_bl {b : Bool} : evIsi .bool (.bl b) = some true := rfl
theorem isi_bool_int {b : Int} : evIsi .bool (.int b) = some false := rfl
theorem isi_bool_str {b : Str} : evIsi .bool (.str b) = some false := rfl
theorem isi_bool_tup {b : List Dt} : evIsi .bool (.tup b) = some false := rfl
theorem isi_tuple_tup {b : List Dt} : evIsi .tuple (.tup b) = some true := rfl
theorem isi_tuple_int {b : Int} : evIsi .tuple (.int b) = some false := rfl
theorem isi_tuple_str {b : Str} : evIsi .tuple (.str b) = some false := rfl
theorem isi_tuple_bl {b : Bool} : evIsi .tuple (.bl b) = some false := rfl
theorem isi_str_str {b : Str} : evIsi .str (.str b) = some true := rfl
theorem isi_str_int {b : Int} : evIsi .str (.int b) = some false := rfl
theorem isi_int_int {b : Int} : evIsi .int (.int b) = some true := rfl
theorem eq_bl {a b : Bool} : evCmp .eq (.bl a) (.bl b) = some (decide (a = b)) := by
  simp only [evCmp]
  unfold evEq
  rw [if_pos (by rfl)]
  cases a <;> cases b <;> rfl
theorem zip_self : ∀ xs : List Dt, zipD xs xs = xs.map fun x => .tup [x, x]
  | [] => rfl
  | x :: xs => by rw [zipD, zip_self xs, List.map_cons]
theorem all_true (xs : List Dt) : (xs.filterMap fun _ => some (Dt.bl true)) = (List.replicate xs.length true).map .bl := by
  induction xs with
  | nil => rfl
  | cons x xs ih => simp only [List.filterMap_cons, ih, List.length_cons, List.replicate_succ, List.map_cons]
theorem same_refl : ∀ (n : Nat) {j : Nat} {d : Dt} {s : Sta}, Dt.sm n d = true → FTab fb (j + n + 1) 6 [d, d] s = .ok (.bl true) s
  | n, j, .non, s, _ => by rw [t_law_same rfl]; simp only [B_law_same, ss_cons, ss_nil, s_setT', s_set', s_par', s_expr', s_ite', s_ret', s_retN', s_raise', e_var, e_non, e_bl, e_int, e_neg, e_str, e_bin, e_cmp, e_cmp2, e_and, e_or, e_not, e_ite, e_tup, e_lst, e_ix, e_isNon, e_notNon, e_call, e_blt, e_isi, e_rev, s_try', tryO_exc, tryO_nx, tryO_rt, tryO_ite, hs_nil, hs_cons, es_nil, es_cons, List.map_cons, List.map_nil, List.replicate, List.cons_append, List.nil_append, List.append_nil, List.getElem?_cons_zero, List.getElem?_cons_succ, lookV_some, ok_bind, ok_out, stuck_bind, stuck_out, onS_tup, onS_lst, onI_int, setAll, List.set_cons_zero, List.set_cons_succ, nxO_some, nx_then, rt_then, ite_then, exc_then, exc_bind, exc_out, finish_exc, deref_int, deref_bl, deref_str, deref_non, deref_tup, deref_lst, deref_scr, cmp_eq, cmp_ne, cmp_lt, cmp_le, cmp_gt, cmp_ge, Option.map_some, of_some', tru_bl, tru_int, tru_non, tru_tup0, tru_tup1, tru_lst0, tru_lst1, brB_t, brB_f, brB_d, brB_nd, finish_ite, finish_rt, finish_nx, ite_out, ite_bind, List.length_cons, List.length_nil, sz0, sz1, sz2, sz3, sz4, sz5, sz6, sz7, sz8, Nat.reduceAdd, Nat.reduceLeDiff, Nat.zero_le, Nat.zero_add, if_true, if_false, ↓reduceIte, ix_t0, ix_t1, ix_t2, ix_t3, ix_t4, ix_t5, ix_l0, ix_l1, leave_tup, leave_lst, leave_int, leave_bl, leave_str, leave_non, lo_int, lo_bl, lo_str, lo_non, lo_tup, lo_lst, loAll_nil, loAll_cons, loAll_ints, Bool.and_true, Bool.true_and, Bool.and_self, List.take_length, bin_add, bin_sub, int1_d, int1_bl, inn, ini, ins, int', inb, inl', Bool.not_true, Bool.not_false, decide_eq_true_eq, decide_true, decide_false, brB_b, slt_hi, slt_lo, slt_m1, sll_hi, sll_lo, mul_t0, mul_t1, Int.reduceLE, Int.reduceToNat, List.take_succ_cons, List.take_zero, List.drop_succ_cons, List.drop_zero, List.take_nil, List.drop_nil, Nat.reduceAdd, e_slHi, e_slLo, e_slLH, Int.reduceAdd, Int.add_zero, Int.mul_one, Int.mul_zero, Int.reduceNeg, List.getElem?_nil, Bool.false_eq_true, Int.reduceLT, Int.reduceEq, and_true, true_and, and_false, false_and, not_true_eq_false, not_false_eq_true, of_ite, map_ite]
  | n, j, .bl b, s, _ => by rw [t_law_same rfl]; simp only [B_law_same, ss_cons, ss_nil, s_setT', s_set', s_par', s_expr', s_ite', s_ret', s_retN', s_raise', e_var, e_non, e_bl, e_int, e_neg, e_str, e_bin, e_cmp, e_cmp2, e_and, e_or, e_not, e_ite, e_tup, e_lst, e_ix, e_isNon, e_notNon, e_call, e_blt, e_isi, e_rev, s_try', tryO_exc, tryO_nx, tryO_rt, tryO_ite, hs_nil, hs_cons, es_nil, es_cons, List.map_cons, List.map_nil, List.replicate, List.cons_append, List.nil_append, List.append_nil, List.getElem?_cons_zero, List.getElem?_cons_succ, lookV_some, ok_bind, ok_out, stuck_bind, stuck_out, onS_tup, onS_lst, onI_int, setAll, List.set_cons_zero, List.set_cons_succ, nxO_some, nx_then, rt_then, ite_then, exc_then, exc_bind, exc_out, finish_exc, deref_int, deref_bl, deref_str, deref_non, deref_tup, deref_lst, deref_scr, cmp_eq, cmp_ne, cmp_lt, cmp_le, cmp_gt, cmp_ge, Option.map_some, of_some', tru_bl, tru_int, tru_non, tru_tup0, tru_tup1, tru_lst0, tru_lst1, brB_t, brB_f, brB_d, brB_nd, finish_ite, finish_rt, finish_nx, ite_out, ite_bind, List.length_cons, List.length_nil, sz0, sz1, sz2, sz3, sz4, sz5, sz6, sz7, sz8, Nat.reduceAdd, Nat.reduceLeDiff, Nat.zero_le, Nat.zero_add, if_true, if_false, ↓reduceIte, ix_t0, ix_t1, ix_t2, ix_t3, ix_t4, ix_t5, ix_l0, ix_l1, leave_tup, leave_lst, leave_int, leave_bl, leave_str, leave_non, lo_int, lo_bl, lo_str, lo_non, lo_tup, lo_lst, loAll_nil, loAll_cons, loAll_ints, Bool.and_true, Bool.true_and, Bool.and_self, List.take_length, bin_add, bin_sub, int1_d, int1_bl, inn, ini, ins, int', inb, inl', Bool.not_true, Bool.not_false, decide_eq_true_eq, decide_true, decide_false, brB_b, slt_hi, slt_lo, slt_m1, sll_hi, sll_lo, mul_t0, mul_t1, Int.reduceLE, Int.reduceToNat, List.take_succ_cons, List.take_zero, List.drop_succ_cons, List.drop_zero, List.take_nil, List.drop_nil, Nat.reduceAdd, e_slHi, e_slLo, e_slLH, Int.reduceAdd, Int.add_zero, Int.mul_one, Int.mul_zero, Int.reduceNeg, List.getElem?_nil, Bool.false_eq_true, Int.reduceLT, Int.reduceEq, and_true, true_and, and_false, false_and, not_true_eq_false, not_false_eq_true, of_ite, map_ite, isi_bool_bl, eq_bl]
  | n, j, .int b, s, _ => by rw [t_law_same rfl]; simp only [B_law_same, ss_cons, ss_nil, s_setT', s_set', s_par', s_expr', s_ite', s_ret', s_retN', s_raise', e_var, e_non, e_bl, e_int, e_neg, e_str, e_bin, e_cmp, e_cmp2, e_and, e_or, e_not, e_ite, e_tup, e_lst, e_ix, e_isNon, e_notNon, e_call, e_blt, e_isi, e_rev, s_try', tryO_exc, tryO_nx, tryO_rt, tryO_ite, hs_nil, hs_cons, es_nil, es_cons, List.map_cons, List.map_nil, List.replicate, List.cons_append, List.nil_append, List.append_nil, List.getElem?_cons_zero, List.getElem?_cons_succ, lookV_some, ok_bind, ok_out, stuck_bind, stuck_out, onS_tup, onS_lst, onI_int, setAll, List.set_cons_zero, List.set_cons_succ, nxO_some, nx_then, rt_then, ite_then, exc_then, exc_bind, exc_out, finish_exc, deref_int, deref_bl, deref_str, deref_non, deref_tup, deref_lst, deref_scr, cmp_eq, cmp_ne, cmp_lt, cmp_le, cmp_gt, cmp_ge, Option.map_some, of_some', tru_bl, tru_int, tru_non, tru_tup0, tru_tup1, tru_lst0, tru_lst1, brB_t, brB_f, brB_d, brB_nd, finish_ite, finish_rt, finish_nx, ite_out, ite_bind, List.length_cons, List.length_nil, sz0, sz1, sz2, sz3, sz4, sz5, sz6, sz7, sz8, Nat.reduceAdd, Nat.reduceLeDiff, Nat.zero_le, Nat.zero_add, if_true, if_false, ↓reduceIte, ix_t0, ix_t1, ix_t2, ix_t3, ix_t4, ix_t5, ix_l0, ix_l1, leave_tup, leave_lst, leave_int, leave_bl, leave_str, leave_non, lo_int, lo_bl, lo_str, lo_non, lo_tup, lo_lst, loAll_nil, loAll_cons, loAll_ints, Bool.and_true, Bool.true_and, Bool.and_self, List.take_length, bin_add, bin_sub, int1_d, int1_bl, inn, ini, ins, int', inb, inl', Bool.not_true, Bool.not_false, decide_eq_true_eq, decide_true, decide_false, brB_b, slt_hi, slt_lo, slt_m1, sll_hi, sll_lo, mul_t0, mul_t1, Int.reduceLE, Int.reduceToNat, List.take_succ_cons, List.take_zero, List.drop_succ_cons, List.drop_zero, List.take_nil, List.drop_nil, Nat.reduceAdd, e_slHi, e_slLo, e_slLH, Int.reduceAdd, Int.add_zero, Int.mul_one, Int.mul_zero, Int.reduceNeg, List.getElem?_nil, Bool.false_eq_true, Int.reduceLT, Int.reduceEq, and_true, true_and, and_false, false_and, not_true_eq_false, not_false_eq_true, of_ite, map_ite, isi_bool_int, isi_tuple_int, isi_str_int, isi_int_int]
  | n, j, .str b, s, _ => by rw [t_law_same rfl]; simp only [B_law_same, ss_cons, ss_nil, s_setT', s_set', s_par', s_expr', s_ite', s_ret', s_retN', s_raise', e_var, e_non, e_bl, e_int, e_neg, e_str, e_bin, e_cmp, e_cmp2, e_and, e_or, e_not, e_ite, e_tup, e_lst, e_ix, e_isNon, e_notNon, e_call, e_blt, e_isi, e_rev, s_try', tryO_exc, tryO_nx, tryO_rt, tryO_ite, hs_nil, hs_cons, es_nil, es_cons, List.map_cons, List.map_nil, List.replicate, List.cons_append, List.nil_append, List.append_nil, List.getElem?_cons_zero, List.getElem?_cons_succ, lookV_some, ok_bind, ok_out, stuck_bind, stuck_out, onS_tup, onS_lst, onI_int, setAll, List.set_cons_zero, List.set_cons_succ, nxO_some, nx_then, rt_then, ite_then, exc_then, exc_bind, exc_out, finish_exc, deref_int, deref_bl, deref_str, deref_non, deref_tup, deref_lst, deref_scr, cmp_eq, cmp_ne, cmp_lt, cmp_le, cmp_gt, cmp_ge, Option.map_some, of_some', tru_bl, tru_int, tru_non, tru_tup0, tru_tup1, tru_lst0, tru_lst1, brB_t, brB_f, brB_d, brB_nd, finish_ite, finish_rt, finish_nx, ite_out, ite_bind, List.length_cons, List.length_nil, sz0, sz1, sz2, sz3, sz4, sz5, sz6, sz7, sz8, Nat.reduceAdd, Nat.reduceLeDiff, Nat.zero_le, Nat.zero_add, if_true, if_false, ↓reduceIte, ix_t0, ix_t1, ix_t2, ix_t3, ix_t4, ix_t5, ix_l0, ix_l1, leave_tup, leave_lst, leave_int, leave_bl, leave_str, leave_non, lo_int, lo_bl, lo_str, lo_non, lo_tup, lo_lst, loAll_nil, loAll_cons, loAll_ints, Bool.and_true, Bool.true_and, Bool.and_self, List.take_length, bin_add, bin_sub, int1_d, int1_bl, inn, ini, ins, int', inb, inl', Bool.not_true, Bool.not_false, decide_eq_true_eq, decide_true, decide_false, brB_b, slt_hi, slt_lo, slt_m1, sll_hi, sll_lo, mul_t0, mul_t1, Int.reduceLE, Int.reduceToNat, List.take_succ_cons, List.take_zero, List.drop_succ_cons, List.drop_zero, List.take_nil, List.drop_nil, Nat.reduceAdd, e_slHi, e_slLo, e_slLH, Int.reduceAdd, Int.add_zero, Int.mul_one, Int.mul_zero, Int.reduceNeg, List.getElem?_nil, Bool.false_eq_true, Int.reduceLT, Int.reduceEq, and_true, true_and, and_false, false_and, not_true_eq_false, not_false_eq_true, of_ite, map_ite, isi_bool_str, isi_tuple_str, isi_str_str, eq_str]
  | n + 1, j, .tup xs, s, h => by
    simp only [Dt.sm, Bool.and_eq_true, decide_eq_true_eq, List.all_eq_true] at h
    have one : lcGo (lcOne (FTab fb (j + n + 1)) [some (.tup xs), some (.tup xs), none, none] (.call 6 [.var 2, .var 3]) (.tup [2, 3]) [2, 3] []) (zipD xs xs) s = .ok (xs.filterMap fun _ => some (Dt.bl true)) s := by
      rw [zip_self]
      refine lcGo_map fun x hx => ?_
      have ih := same_refl n (j := j) (d := x) (s := s) (h.2 x hx)
      simp only [lcOne, bindTg, wipeE, evIfs, ss_cons, ss_nil, s_setT', s_set', s_par', s_expr', s_ite', s_ret', s_retN', s_raise', e_var, e_non, e_bl, e_int, e_neg, e_str, e_bin, e_cmp, e_cmp2, e_and, e_or, e_not, e_ite, e_tup, e_lst, e_ix, e_isNon, e_notNon, e_call, e_blt, e_isi, e_rev, s_try', tryO_exc, tryO_nx, tryO_rt, tryO_ite, hs_nil, hs_cons, es_nil, es_cons, List.map_cons, List.map_nil, List.replicate, List.cons_append, List.nil_append, List.append_nil, List.getElem?_cons_zero, List.getElem?_cons_succ, lookV_some, ok_bind, ok_out, stuck_bind, stuck_out, onS_tup, onS_lst, onI_int, setAll, List.set_cons_zero, List.set_cons_succ, nxO_some, nx_then, rt_then, ite_then, exc_then, exc_bind, exc_out, finish_exc, deref_int, deref_bl, deref_str, deref_non, deref_tup, deref_lst, deref_scr, cmp_eq, cmp_ne, cmp_lt, cmp_le, cmp_gt, cmp_ge, Option.map_some, of_some', tru_bl, tru_int, tru_non, tru_tup0, tru_tup1, tru_lst0, tru_lst1, brB_t, brB_f, brB_d, brB_nd, finish_ite, finish_rt, finish_nx, ite_out, ite_bind, List.length_cons, List.length_nil, sz0, sz1, sz2, sz3, sz4, sz5, sz6, sz7, sz8, Nat.reduceAdd, Nat.reduceLeDiff, Nat.zero_le, Nat.zero_add, if_true, if_false, ↓reduceIte, ix_t0, ix_t1, ix_t2, ix_t3, ix_t4, ix_t5, ix_l0, ix_l1, leave_tup, leave_lst, leave_int, leave_bl, leave_str, leave_non, lo_int, lo_bl, lo_str, lo_non, lo_tup, lo_lst, loAll_nil, loAll_cons, loAll_ints, Bool.and_true, Bool.true_and, Bool.and_self, List.take_length, bin_add, bin_sub, int1_d, int1_bl, inn, ini, ins, int', inb, inl', Bool.not_true, Bool.not_false, decide_eq_true_eq, decide_true, decide_false, brB_b, slt_hi, slt_lo, slt_m1, sll_hi, sll_lo, mul_t0, mul_t1, Int.reduceLE, Int.reduceToNat, List.take_succ_cons, List.take_zero, List.drop_succ_cons, List.drop_zero, List.take_nil, List.drop_nil, Nat.reduceAdd, e_slHi, e_slLo, e_slLH, Int.reduceAdd, Int.add_zero, Int.mul_one, Int.mul_zero, Int.reduceNeg, List.getElem?_nil, Bool.false_eq_true, Int.reduceLT, Int.reduceEq, and_true, true_and, and_false, false_and, not_true_eq_false, not_false_eq_true, of_ite, map_ite, ih]
    have hz : (zipD xs xs).length < lineM := by rw [zip_self, List.length_map]; exact h.1
    show FTab fb ((j + n + 1) + 1) 6 _ s = _
    rw [t_law_same rfl]
    simp only [B_law_same, ss_cons, ss_nil, s_setT', s_set', s_par', s_expr', s_ite', s_ret', s_retN', s_raise', e_var, e_non, e_bl, e_int, e_neg, e_str, e_bin, e_cmp, e_cmp2, e_and, e_or, e_not, e_ite, e_tup, e_lst, e_ix, e_isNon, e_notNon, e_call, e_blt, e_isi, e_rev, s_try', tryO_exc, tryO_nx, tryO_rt, tryO_ite, hs_nil, hs_cons, es_nil, es_cons, List.map_cons, List.map_nil, List.replicate, List.cons_append, List.nil_append, List.append_nil, List.getElem?_cons_zero, List.getElem?_cons_succ, lookV_some, ok_bind, ok_out, stuck_bind, stuck_out, onS_tup, onS_lst, onI_int, setAll, List.set_cons_zero, List.set_cons_succ, nxO_some, nx_then, rt_then, ite_then, exc_then, exc_bind, exc_out, finish_exc, deref_int, deref_bl, deref_str, deref_non, deref_tup, deref_lst, deref_scr, cmp_eq, cmp_ne, cmp_lt, cmp_le, cmp_gt, cmp_ge, Option.map_some, of_some', tru_bl, tru_int, tru_non, tru_tup0, tru_tup1, tru_lst0, tru_lst1, brB_t, brB_f, brB_d, brB_nd, finish_ite, finish_rt, finish_nx, ite_out, ite_bind, List.length_cons, List.length_nil, sz0, sz1, sz2, sz3, sz4, sz5, sz6, sz7, sz8, Nat.reduceAdd, Nat.reduceLeDiff, Nat.zero_le, Nat.zero_add, if_true, if_false, ↓reduceIte, ix_t0, ix_t1, ix_t2, ix_t3, ix_t4, ix_t5, ix_l0, ix_l1, leave_tup, leave_lst, leave_int, leave_bl, leave_str, leave_non, lo_int, lo_bl, lo_str, lo_non, lo_tup, lo_lst, loAll_nil, loAll_cons, loAll_ints, Bool.and_true, Bool.true_and, Bool.and_self, List.take_length, bin_add, bin_sub, int1_d, int1_bl, inn, ini, ins, int', inb, inl', Bool.not_true, Bool.not_false, decide_eq_true_eq, decide_true, decide_false, brB_b, slt_hi, slt_lo, slt_m1, sll_hi, sll_lo, mul_t0, mul_t1, Int.reduceLE, Int.reduceToNat, List.take_succ_cons, List.take_zero, List.drop_succ_cons, List.drop_zero, List.take_nil, List.drop_nil, Nat.reduceAdd, e_slHi, e_slLo, e_slLH, Int.reduceAdd, Int.add_zero, Int.mul_one, Int.mul_zero, Int.reduceNeg, List.getElem?_nil, Bool.false_eq_true, Int.reduceLT, Int.reduceEq, and_true, true_and, and_false, false_and, not_true_eq_false, not_false_eq_true, of_ite, map_ite, isi_bool_tup, isi_tuple_tup, len_tup, e_lc, i_zip, zipO_tup, one, if_pos hz, all_true, all_bls]
    simp
  | 0, _, .tup _, _, h => by simp [Dt.sm] at h
  | _, _, .lst _, _, h => by simp [Dt.sm] at h
  | _, _, .ref _, _, h => by simp [Dt.sm] at h
  | _, _, .scr _, _, h => by simp [Dt.sm] at h
theorem ix_get {l : List Dt} {r : Int} (h0 : 0 ≤ r) (h1 : r < l.length) : ∃ d, d ∈ l ∧ evIx (.lst l) (.int r) = some d := by
  have hr : r.toNat < l.length := by omega
  refine ⟨l[r.toNat], List.getElem_mem hr, ?_⟩
  have e : evIx (.lst l) (.int r) = L2.atI l r := rfl
  rw [e]
  unfold L2.atI L2.ixN
  rw [if_pos h0, if_pos h1]
  simp [List.getElem?_eq_getElem hr]
theorem lo_mem {n : Nat} {d : Dt} : ∀ {l : List Dt}, Dt.loAll n l = true → d ∈ l → Dt.lo n d = true
  | x :: l, h, m => by
    simp only [Dt.loAll, Bool.and_eq_true] at h
    rcases List.mem_cons.mp m with e | m
    · rw [e]; exact h.1
    · exact lo_mem h.2 m
theorem leave_ok {n : Nat} {d : Dt} {s : Sta} (h : Dt.lo n d = true) : leave n d s = .ok d (s.take n) := by
  cases d with
  | ref k => simp only [leave]; simp only [Dt.lo, decide_eq_true_eq] at h; rw [if_pos h]
  | tup xs => simp only [leave]; rw [if_pos h]
  | lst xs => simp only [leave]; rw [if_pos h]
  | _ => rfl
theorem pick {j : Nat} {ns : List Int} {k : Nat} {l : List Dt} {s : Sta} (hl : l ≠ []) (h : Has k s 1) (hlo : Dt.loAll s.length l = true) : ∃ d s', FTab fb (j + 2) 8 [.scr ns, .ref k, .lst l] s = .ok d s' ∧ d ∈ l ∧ Drew k s s' 1 := by
  have hp : 0 < l.length := List.length_pos_iff.mpr hl
  obtain ⟨r, s', e, h0, h1, hd⟩ := draw (j := j) (ns := ns) (k := k) (m := (l.length : Int)) (s := s) (by omega) h
  obtain ⟨d, hm, hx⟩ := ix_get h0 h1
  refine ⟨d, s', ?_, hm, hd⟩
  show FTab fb ((j + 1) + 1) 8 _ s = _
  rw [t_law_pick rfl]
  simp only [B_law_pick, ss_cons, ss_nil, s_setT', s_set', s_par', s_expr', s_ite', s_ret', s_retN', s_raise', e_var, e_non, e_bl, e_int, e_neg, e_str, e_bin, e_cmp, e_cmp2, e_and, e_or, e_not, e_ite, e_tup, e_lst, e_ix, e_isNon, e_notNon, e_call, e_blt, e_isi, e_rev, s_try', tryO_exc, tryO_nx, tryO_rt, tryO_ite, hs_nil, hs_cons, es_nil, es_cons, List.map_cons, List.map_nil, List.replicate, List.cons_append, List.nil_append, List.append_nil, List.getElem?_cons_zero, List.getElem?_cons_succ, lookV_some, ok_bind, ok_out, stuck_bind, stuck_out, onS_tup, onS_lst, onI_int, setAll, List.set_cons_zero, List.set_cons_succ, nxO_some, nx_then, rt_then, ite_then, exc_then, exc_bind, exc_out, finish_exc, deref_int, deref_bl, deref_str, deref_non, deref_tup, deref_lst, deref_scr, cmp_eq, cmp_ne, cmp_lt, cmp_le, cmp_gt, cmp_ge, Option.map_some, of_some', tru_bl, tru_int, tru_non, tru_tup0, tru_tup1, tru_lst0, tru_lst1, brB_t, brB_f, brB_d, brB_nd, finish_ite, finish_rt, finish_nx, ite_out, ite_bind, List.length_cons, List.length_nil, sz0, sz1, sz2, sz3, sz4, sz5, sz6, sz7, sz8, Nat.reduceAdd, Nat.reduceLeDiff, Nat.zero_le, Nat.zero_add, if_true, if_false, ↓reduceIte, ix_t0, ix_t1, ix_t2, ix_t3, ix_t4, ix_t5, ix_l0, ix_l1, leave_tup, leave_lst, leave_int, leave_bl, leave_str, leave_non, lo_int, lo_bl, lo_str, lo_non, lo_tup, lo_lst, loAll_nil, loAll_cons, loAll_ints, Bool.and_true, Bool.true_and, Bool.and_self, List.take_length, bin_add, bin_sub, int1_d, int1_bl, inn, ini, ins, int', inb, inl', Bool.not_true, Bool.not_false, decide_eq_true_eq, decide_true, decide_false, brB_b, slt_hi, slt_lo, slt_m1, sll_hi, sll_lo, mul_t0, mul_t1, Int.reduceLE, Int.reduceToNat, List.take_succ_cons, List.take_zero, List.drop_succ_cons, List.drop_zero, List.take_nil, List.drop_nil, Nat.reduceAdd, e_slHi, e_slLo, e_slLH, Int.reduceAdd, Int.add_zero, Int.mul_one, Int.mul_zero, Int.reduceNeg, List.getElem?_nil, Bool.false_eq_true, Int.reduceLT, Int.reduceEq, and_true, true_and, and_false, false_and, not_true_eq_false, not_false_eq_true, of_ite, map_ite, len_lst, e, hx, leave_ok (lo_mem hlo hm)]
  rw [← hd.len, List.take_length]
/-- the rules that are drawn -/
def Rs (R C : Int) : Dt := .tup [.int R, .int C]
theorem rules {j : Nat} {ns : List Int} {k : Nat} {s : Sta} (h : Has k s 2) : ∃ R C s', FTab fb (j + 3) 9 [.scr ns, .ref k] s = .ok (Rs R C) s' ∧ 1 ≤ R ∧ R ≤ 6 ∧ 2 ≤ C ∧ C ≤ 6 ∧ Drew k s s' 2 := by
  obtain ⟨d, s1, e1, m1, w1⟩ := pick (j := j) (ns := ns) (l := [1, 1, 2, 3, 4, 6].map Dt.int) (by simp) (h.mono (by omega)) (loAll_ints _)
  obtain ⟨d2, s2, e2, m2, w2⟩ := pick (j := j) (ns := ns) (l := [2, 2, 3, 4, 6].map Dt.int) (by simp) (w1.has h) (loAll_ints _)
  obtain ⟨R, hR, rfl⟩ := List.mem_map.mp m1
  obtain ⟨C, hC, rfl⟩ := List.mem_map.mp m2
  refine ⟨R, C, s2, ?_, ?_, ?_, ?_, ?_, w1.trans w2⟩
  · show FTab fb ((j + 2) + 1) 9 _ s = _
    rw [t_law_drawn_rules rfl]
    simp only [List.map_cons, List.map_nil] at e1 e2
    simp only [B_law_drawn_rules, ss_cons, ss_nil, s_setT', s_set', s_par', s_expr', s_ite', s_ret', s_retN', s_raise', e_var, e_non, e_bl, e_int, e_neg, e_str, e_bin, e_cmp, e_cmp2, e_and, e_or, e_not, e_ite, e_tup, e_lst, e_ix, e_isNon, e_notNon, e_call, e_blt, e_isi, e_rev, s_try', tryO_exc, tryO_nx, tryO_rt, tryO_ite, hs_nil, hs_cons, es_nil, es_cons, List.map_cons, List.map_nil, List.replicate, List.cons_append, List.nil_append, List.append_nil, List.getElem?_cons_zero, List.getElem?_cons_succ, lookV_some, ok_bind, ok_out, stuck_bind, stuck_out, onS_tup, onS_lst, onI_int, setAll, List.set_cons_zero, List.set_cons_succ, nxO_some, nx_then, rt_then, ite_then, exc_then, exc_bind, exc_out, finish_exc, deref_int, deref_bl, deref_str, deref_non, deref_tup, deref_lst, deref_scr, cmp_eq, cmp_ne, cmp_lt, cmp_le, cmp_gt, cmp_ge, Option.map_some, of_some', tru_bl, tru_int, tru_non, tru_tup0, tru_tup1, tru_lst0, tru_lst1, brB_t, brB_f, brB_d, brB_nd, finish_ite, finish_rt, finish_nx, ite_out, ite_bind, List.length_cons, List.length_nil, sz0, sz1, sz2, sz3, sz4, sz5, sz6, sz7, sz8, Nat.reduceAdd, Nat.reduceLeDiff, Nat.zero_le, Nat.zero_add, if_true, if_false, ↓reduceIte, ix_t0, ix_t1, ix_t2, ix_t3, ix_t4, ix_t5, ix_l0, ix_l1, leave_tup, leave_lst, leave_int, leave_bl, leave_str, leave_non, lo_int, lo_bl, lo_str, lo_non, lo_tup, lo_lst, loAll_nil, loAll_cons, loAll_ints, Bool.and_true, Bool.true_and, Bool.and_self, List.take_length, bin_add, bin_sub, int1_d, int1_bl, inn, ini, ins, int', inb, inl', Bool.not_true, Bool.not_false, decide_eq_true_eq, decide_true, decide_false, brB_b, slt_hi, slt_lo, slt_m1, sll_hi, sll_lo, mul_t0, mul_t1, Int.reduceLE, Int.reduceToNat, List.take_succ_cons, List.take_zero, List.drop_succ_cons, List.drop_zero, List.take_nil, List.drop_nil, Nat.reduceAdd, e_slHi, e_slLo, e_slLH, Int.reduceAdd, Int.add_zero, Int.mul_one, Int.mul_zero, Int.reduceNeg, List.getElem?_nil, Bool.false_eq_true, Int.reduceLT, Int.reduceEq, and_true, true_and, and_false, false_and, not_true_eq_false, not_false_eq_true, of_ite, map_ite, e1, e2]
    rw [← (w1.trans w2).len, List.take_length]; rfl
  all_goals simp at hR hC
  all_goals omega
end MP
/-! P3: plain: places, strokes, deeds; the law's own walk. -/
namespace MP
open PySem
structure Pl where
  up : Int
  on : Int
  reds : Int
  low : Int
  p0 : Int
  p1 : Int
  free : Int
def Pl.d (p : Pl) : Dt := .tup [.int p.up, .int p.on, .int p.reds, .int p.low, .tup [.int p.p0, .int p.p1], .int p.free]
structure Sk where
  first : Int
  pots : List Int
  off : Bool
def Sk.ds (s : Sk) : List Dt := [.int s.first, .tup (s.pots.map .int), .bl s.off]
def canFall (on free first : Int) : List Int := if on = 0 then (if 1 < first then [first] else []) else if free = 2 ∧ on < first then [on, first] else [on]
theorem p_may_fall {j : Nat} {p : Pl} {first : Int} {s : Sta} : FTab fb (j + 1) 17 [p.d, .int first] s = .ok (.tup ((canFall p.on p.free first).map Dt.int)) s := by
  obtain ⟨up, on, reds, low, p0, p1, free⟩ := p
  rw [t_p_may_fall rfl]
  simp only [canFall, Pl.d]
  by_cases h1 : on = 0 <;> by_cases h2 : 1 < first <;> by_cases h3 : free = 2 <;> by_cases h4 : on < first <;> simp only [B_p_may_fall, ss_cons, ss_nil, s_setT', s_set', s_par', s_expr', s_ite', s_ret', s_retN', s_raise', e_var, e_non, e_bl, e_int, e_neg, e_str, e_bin, e_cmp, e_cmp2, e_and, e_or, e_not, e_ite, e_tup, e_lst, e_ix, e_isNon, e_notNon, e_call, e_blt, e_isi, e_rev, s_try', tryO_exc, tryO_nx, tryO_rt, tryO_ite, hs_nil, hs_cons, es_nil, es_cons, List.map_cons, List.map_nil, List.replicate, List.cons_append, List.nil_append, List.append_nil, List.getElem?_cons_zero, List.getElem?_cons_succ, lookV_some, ok_bind, ok_out, stuck_bind, stuck_out, onS_tup, onS_lst, onI_int, setAll, List.set_cons_zero, List.set_cons_succ, nxO_some, nx_then, rt_then, ite_then, exc_then, exc_bind, exc_out, finish_exc, deref_int, deref_bl, deref_str, deref_non, deref_tup, deref_lst, deref_scr, cmp_eq, cmp_ne, cmp_lt, cmp_le, cmp_gt, cmp_ge, Option.map_some, of_some', tru_bl, tru_int, tru_non, tru_tup0, tru_tup1, tru_lst0, tru_lst1, brB_t, brB_f, brB_d, brB_nd, finish_ite, finish_rt, finish_nx, ite_out, ite_bind, List.length_cons, List.length_nil, sz0, sz1, sz2, sz3, sz4, sz5, sz6, sz7, sz8, Nat.reduceAdd, Nat.reduceLeDiff, Nat.zero_le, Nat.zero_add, if_true, if_false, ↓reduceIte, ix_t0, ix_t1, ix_t2, ix_t3, ix_t4, ix_t5, ix_l0, ix_l1, leave_tup, leave_lst, leave_int, leave_bl, leave_str, leave_non, lo_int, lo_bl, lo_str, lo_non, lo_tup, lo_lst, loAll_nil, loAll_cons, loAll_ints, Bool.and_true, Bool.true_and, Bool.and_self, List.take_length, bin_add, bin_sub, int1_d, int1_bl, inn, ini, ins, int', inb, inl', Bool.not_true, Bool.not_false, decide_eq_true_eq, decide_true, decide_false, brB_b, slt_hi, slt_lo, slt_m1, sll_hi, sll_lo, mul_t0, mul_t1, Int.reduceLE, Int.reduceToNat, List.take_succ_cons, List.take_zero, List.drop_succ_cons, List.drop_zero, List.take_nil, List.drop_nil, Nat.reduceAdd, e_slHi, e_slLo, e_slLH, Int.reduceAdd, Int.add_zero, Int.mul_one, Int.mul_zero, Int.reduceNeg, List.getElem?_nil, Bool.false_eq_true, Int.reduceLT, Int.reduceEq, and_true, true_and, and_false, false_and, not_true_eq_false, not_false_eq_true, of_ite, map_ite, h1, h2, h3, h4]
theorem l_can_fall {j : Nat} {p : Pl} {first : Int} {s : Sta} : FTab fb (j + 1) 18 [p.d, .int first] s = .ok (.tup ((canFall p.on p.free first).map Dt.int)) s := by
  obtain ⟨up, on, reds, low, p0, p1, free⟩ := p
  rw [t_law_can_fall rfl]
  simp only [canFall, Pl.d]
  by_cases h1 : on = 0 <;> by_cases h2 : 1 < first <;> by_cases h3 : free = 2 <;> by_cases h4 : on < first <;> simp only [B_law_can_fall, ss_cons, ss_nil, s_setT', s_set', s_par', s_expr', s_ite', s_ret', s_retN', s_raise', e_var, e_non, e_bl, e_int, e_neg, e_str, e_bin, e_cmp, e_cmp2, e_and, e_or, e_not, e_ite, e_tup, e_lst, e_ix, e_isNon, e_notNon, e_call, e_blt, e_isi, e_rev, s_try', tryO_exc, tryO_nx, tryO_rt, tryO_ite, hs_nil, hs_cons, es_nil, es_cons, List.map_cons, List.map_nil, List.replicate, List.cons_append, List.nil_append, List.append_nil, List.getElem?_cons_zero, List.getElem?_cons_succ, lookV_some, ok_bind, ok_out, stuck_bind, stuck_out, onS_tup, onS_lst, onI_int, setAll, List.set_cons_zero, List.set_cons_succ, nxO_some, nx_then, rt_then, ite_then, exc_then, exc_bind, exc_out, finish_exc, deref_int, deref_bl, deref_str, deref_non, deref_tup, deref_lst, deref_scr, cmp_eq, cmp_ne, cmp_lt, cmp_le, cmp_gt, cmp_ge, Option.map_some, of_some', tru_bl, tru_int, tru_non, tru_tup0, tru_tup1, tru_lst0, tru_lst1, brB_t, brB_f, brB_d, brB_nd, finish_ite, finish_rt, finish_nx, ite_out, ite_bind, List.length_cons, List.length_nil, sz0, sz1, sz2, sz3, sz4, sz5, sz6, sz7, sz8, Nat.reduceAdd, Nat.reduceLeDiff, Nat.zero_le, Nat.zero_add, if_true, if_false, ↓reduceIte, ix_t0, ix_t1, ix_t2, ix_t3, ix_t4, ix_t5, ix_l0, ix_l1, leave_tup, leave_lst, leave_int, leave_bl, leave_str, leave_non, lo_int, lo_bl, lo_str, lo_non, lo_tup, lo_lst, loAll_nil, loAll_cons, loAll_ints, Bool.and_true, Bool.true_and, Bool.and_self, List.take_length, bin_add, bin_sub, int1_d, int1_bl, inn, ini, ins, int', inb, inl', Bool.not_true, Bool.not_false, decide_eq_true_eq, decide_true, decide_false, brB_b, slt_hi, slt_lo, slt_m1, sll_hi, sll_lo, mul_t0, mul_t1, Int.reduceLE, Int.reduceToNat, List.take_succ_cons, List.take_zero, List.drop_succ_cons, List.drop_zero, List.take_nil, List.drop_nil, Nat.reduceAdd, e_slHi, e_slLo, e_slLH, Int.reduceAdd, Int.add_zero, Int.mul_one, Int.mul_zero, Int.reduceNeg, List.getElem?_nil, Bool.false_eq_true, Int.reduceLT, Int.reduceEq, and_true, true_and, and_false, false_and, not_true_eq_false, not_false_eq_true, of_ite, map_ite, h1, h2, h3, h4] <;> rfl
theorem wipeE_len (ρ : Env) : ∀ vs : List Nat, (wipeE ρ vs).length = ρ.length
  | [] => rfl
  | v :: vs => by unfold wipeE; rw [List.length_set, wipeE_len ρ vs]
/-! ### comprehensions that choose -/
theorem lc_filter {F : FT} {ρ : Env} {c : E} {i : Nat} {own : List Nat} {l : List Int} {s : Sta} (P : Int → Prop) [DecidablePred P] (h : ∀ x ∈ l, evE F ((wipeE ρ own).set i (some (.int x))) c s = .ok (.bl (decide (P x))) s)
    (hi : i < ρ.length) : lcGo (lcOne F ρ (.var i) (.nm i) own [c]) (l.map .int) s = .ok ((l.filter fun x => decide (P x)).map .int) s := by
  rw [lcGo_map (g := fun x => if P x then some (.int x) else none) fun x hx => ?_]
  · congr 1
    clear h
    induction l with
    | nil => rfl
    | cons x l ih =>
      rw [List.filterMap_cons, List.filter_cons]
      by_cases hp : P x <;> simp [hp, ih]
  · rw [lcOne_one (h x hx), deref_bl, tru_bl, lcIf_d]
    have : ((wipeE ρ own).set i (some (.int x)))[i]? = some (some (.int x)) := List.getElem?_set_self (by rw [wipeE_len]; exact hi)
    by_cases hp : P x
    · rw [if_pos hp, if_pos hp, e_var, this, lookV_some, ok_bind]
    · rw [if_neg hp, if_neg hp]
theorem tru_ints {l : List Int} : evTru (.lst (l.map .int)) = some (!decide (l = [])) := by cases l <;> rfl
theorem max3 {a b c : Int} {l : List Int} : evBl .max1 [.lst (.int a :: .int b :: .int c :: l.map .int)] = some (.int (maxI a (b :: c :: l))) := max_ints (l := b :: c :: l)
theorem listOf_tup {l : List Dt} : evBl .listOf [.tup l] = some (.lst l) := rfl
theorem tupleOf_lst {l : List Dt} : evBl .tupleOf [.lst l] = some (.tup l) := rfl
/-! ### judging -/
def foulQ (p : Pl) (s : Sk) : Prop := s.off = true ∨ s.first ∉ canFall p.on p.free s.first ∨ (s.pots.filter fun b => decide (b ∉ canFall p.on p.free s.first)) ≠ []
instance (p : Pl) (s : Sk) : Decidable (foulQ p s) := by unfold foulQ; infer_instance
def judged (p : Pl) (s : Sk) : Int × Int := if foulQ p s then (0, maxI 4 (p.on :: s.first :: s.pots)) else if p.on = 1 then ((s.pots.length : Nat), 0) else ((if p.on = 0 then s.first else p.on) * (if s.pots = [] then 0 else 1), 0)
theorem lj_lc {F : FT} {st : Sta} {a b c d e : Option Dt} {pots balls : List Int} : lcGo (lcOne F [a, b, c, d, e, some (.tup (balls.map Dt.int)), none] (.var 6) (.nm 6) [6] [.cmp .notin (.var 6) (.var 5)]) (pots.map .int) st = .ok ((pots.filter fun x => decide (x ∉ balls)).map .int) st :=
  lc_filter (fun x => x ∉ balls) (fun x hx => by simp only [wipeE, ss_cons, ss_nil, s_setT', s_set', s_par', s_expr', s_ite', s_ret', s_retN', s_raise', e_var, e_non, e_bl, e_int, e_neg, e_str, e_bin, e_cmp, e_cmp2, e_and, e_or, e_not, e_ite, e_tup, e_lst, e_ix, e_isNon, e_notNon, e_call, e_blt, e_isi, e_rev, s_try', tryO_exc, tryO_nx, tryO_rt, tryO_ite, hs_nil, hs_cons, es_nil, es_cons, List.map_cons, List.map_nil, List.replicate, List.cons_append, List.nil_append, List.append_nil, List.getElem?_cons_zero, List.getElem?_cons_succ, lookV_some, ok_bind, ok_out, stuck_bind, stuck_out, onS_tup, onS_lst, onI_int, setAll, List.set_cons_zero, List.set_cons_succ, nxO_some, nx_then, rt_then, ite_then, exc_then, exc_bind, exc_out, finish_exc, deref_int, deref_bl, deref_str, deref_non, deref_tup, deref_lst, deref_scr, cmp_eq, cmp_ne, cmp_lt, cmp_le, cmp_gt, cmp_ge, Option.map_some, of_some', tru_bl, tru_int, tru_non, tru_tup0, tru_tup1, tru_lst0, tru_lst1, brB_t, brB_f, brB_d, brB_nd, finish_ite, finish_rt, finish_nx, ite_out, ite_bind, List.length_cons, List.length_nil, sz0, sz1, sz2, sz3, sz4, sz5, sz6, sz7, sz8, Nat.reduceAdd, Nat.reduceLeDiff, Nat.zero_le, Nat.zero_add, if_true, if_false, ↓reduceIte, ix_t0, ix_t1, ix_t2, ix_t3, ix_t4, ix_t5, ix_l0, ix_l1, leave_tup, leave_lst, leave_int, leave_bl, leave_str, leave_non, lo_int, lo_bl, lo_str, lo_non, lo_tup, lo_lst, loAll_nil, loAll_cons, loAll_ints, Bool.and_true, Bool.true_and, Bool.and_self, List.take_length, bin_add, bin_sub, int1_d, int1_bl, inn, ini, ins, int', inb, inl', Bool.not_true, Bool.not_false, decide_eq_true_eq, decide_true, decide_false, brB_b, slt_hi, slt_lo, slt_m1, sll_hi, sll_lo, mul_t0, mul_t1, Int.reduceLE, Int.reduceToNat, List.take_succ_cons, List.take_zero, List.drop_succ_cons, List.drop_zero, List.take_nil, List.drop_nil, Nat.reduceAdd, e_slHi, e_slLo, e_slLH, Int.reduceAdd, Int.add_zero, Int.mul_one, Int.mul_zero, Int.reduceNeg, List.getElem?_nil, Bool.false_eq_true, Int.reduceLT, Int.reduceEq, and_true, true_and, and_false, false_and, not_true_eq_false, not_false_eq_true, of_ite, map_ite, nin_tup]; simp) (by simp)
theorem l_judged {j : Nat} {p : Pl} {k : Sk} {s : Sta} (hl : k.pots.length ≤ 1000) : FTab fb (j + 2) 19 [p.d, .tup k.ds] s = .ok (.tup [.int (judged p k).1, .int (judged p k).2]) s := by
  have hc := l_can_fall (j := j) (p := p) (first := k.first) (s := s)
  obtain ⟨up, on, reds, low, p0, p1, free⟩ := p
  obtain ⟨first, pots, off⟩ := k
  simp only at hl
  simp only [Pl.d] at hc
  have h3 : 3 + pots.length ≤ 16777216 := by omega
  have h4 : pots.length < lineM := by unfold lineM; omega
  have h9 := add_ll (xs := [Dt.int 4, Dt.int on, Dt.int first]) (ys := pots.map Dt.int) (by simp; omega)
  show FTab fb ((j + 1) + 1) 19 _ s = _
  rw [t_law_judged rfl]
  have fq : foulQ ⟨up, on, reds, low, p0, p1, free⟩ ⟨first, pots, off⟩ ↔ (off = true ∨ first ∉ canFall on free first ∨ (pots.filter fun b => decide (b ∉ canFall on free first)) ≠ []) := Iff.rfl
  simp only [judged, Pl.d, Sk.ds]
  generalize canFall on free first = balls at hc fq
  by_cases hf : foulQ ⟨up, on, reds, low, p0, p1, free⟩ ⟨first, pots, off⟩
  · rw [if_pos hf]
    rw [fq] at hf
    by_cases h1 : off = true
    · simp only [B_law_judged, ss_cons, ss_nil, s_setT', s_set', s_par', s_expr', s_ite', s_ret', s_retN', s_raise', e_var, e_non, e_bl, e_int, e_neg, e_str, e_bin, e_cmp, e_cmp2, e_and, e_or, e_not, e_ite, e_tup, e_lst, e_ix, e_isNon, e_notNon, e_call, e_blt, e_isi, e_rev, s_try', tryO_exc, tryO_nx, tryO_rt, tryO_ite, hs_nil, hs_cons, es_nil, es_cons, List.map_cons, List.map_nil, List.replicate, List.cons_append, List.nil_append, List.append_nil, List.getElem?_cons_zero, List.getElem?_cons_succ, lookV_some, ok_bind, ok_out, stuck_bind, stuck_out, onS_tup, onS_lst, onI_int, setAll, List.set_cons_zero, List.set_cons_succ, nxO_some, nx_then, rt_then, ite_then, exc_then, exc_bind, exc_out, finish_exc, deref_int, deref_bl, deref_str, deref_non, deref_tup, deref_lst, deref_scr, cmp_eq, cmp_ne, cmp_lt, cmp_le, cmp_gt, cmp_ge, Option.map_some, of_some', tru_bl, tru_int, tru_non, tru_tup0, tru_tup1, tru_lst0, tru_lst1, brB_t, brB_f, brB_d, brB_nd, finish_ite, finish_rt, finish_nx, ite_out, ite_bind, List.length_cons, List.length_nil, sz0, sz1, sz2, sz3, sz4, sz5, sz6, sz7, sz8, Nat.reduceAdd, Nat.reduceLeDiff, Nat.zero_le, Nat.zero_add, if_true, if_false, ↓reduceIte, ix_t0, ix_t1, ix_t2, ix_t3, ix_t4, ix_t5, ix_l0, ix_l1, leave_tup, leave_lst, leave_int, leave_bl, leave_str, leave_non, lo_int, lo_bl, lo_str, lo_non, lo_tup, lo_lst, loAll_nil, loAll_cons, loAll_ints, Bool.and_true, Bool.true_and, Bool.and_self, List.take_length, bin_add, bin_sub, int1_d, int1_bl, inn, ini, ins, int', inb, inl', Bool.not_true, Bool.not_false, decide_eq_true_eq, decide_true, decide_false, brB_b, slt_hi, slt_lo, slt_m1, sll_hi, sll_lo, mul_t0, mul_t1, Int.reduceLE, Int.reduceToNat, List.take_succ_cons, List.take_zero, List.drop_succ_cons, List.drop_zero, List.take_nil, List.drop_nil, Nat.reduceAdd, e_slHi, e_slLo, e_slLH, Int.reduceAdd, Int.add_zero, Int.mul_one, Int.mul_zero, Int.reduceNeg, List.getElem?_nil, Bool.false_eq_true, Int.reduceLT, Int.reduceEq, and_true, true_and, and_false, false_and, not_true_eq_false, not_false_eq_true, of_ite, map_ite, hc, h1, listOf_tup, h9, max3]
    · by_cases h2 : first ∈ balls
      · have h5 : ¬ (pots.filter fun b => decide (b ∉ balls)) = [] := (hf.resolve_left h1).resolve_left (fun z => z h2)
        simp only [B_law_judged, ss_cons, ss_nil, s_setT', s_set', s_par', s_expr', s_ite', s_ret', s_retN', s_raise', e_var, e_non, e_bl, e_int, e_neg, e_str, e_bin, e_cmp, e_cmp2, e_and, e_or, e_not, e_ite, e_tup, e_lst, e_ix, e_isNon, e_notNon, e_call, e_blt, e_isi, e_rev, s_try', tryO_exc, tryO_nx, tryO_rt, tryO_ite, hs_nil, hs_cons, es_nil, es_cons, List.map_cons, List.map_nil, List.replicate, List.cons_append, List.nil_append, List.append_nil, List.getElem?_cons_zero, List.getElem?_cons_succ, lookV_some, ok_bind, ok_out, stuck_bind, stuck_out, onS_tup, onS_lst, onI_int, setAll, List.set_cons_zero, List.set_cons_succ, nxO_some, nx_then, rt_then, ite_then, exc_then, exc_bind, exc_out, finish_exc, deref_int, deref_bl, deref_str, deref_non, deref_tup, deref_lst, deref_scr, cmp_eq, cmp_ne, cmp_lt, cmp_le, cmp_gt, cmp_ge, Option.map_some, of_some', tru_bl, tru_int, tru_non, tru_tup0, tru_tup1, tru_lst0, tru_lst1, brB_t, brB_f, brB_d, brB_nd, finish_ite, finish_rt, finish_nx, ite_out, ite_bind, List.length_cons, List.length_nil, sz0, sz1, sz2, sz3, sz4, sz5, sz6, sz7, sz8, Nat.reduceAdd, Nat.reduceLeDiff, Nat.zero_le, Nat.zero_add, if_true, if_false, ↓reduceIte, ix_t0, ix_t1, ix_t2, ix_t3, ix_t4, ix_t5, ix_l0, ix_l1, leave_tup, leave_lst, leave_int, leave_bl, leave_str, leave_non, lo_int, lo_bl, lo_str, lo_non, lo_tup, lo_lst, loAll_nil, loAll_cons, loAll_ints, Bool.and_true, Bool.true_and, Bool.and_self, List.take_length, bin_add, bin_sub, int1_d, int1_bl, inn, ini, ins, int', inb, inl', Bool.not_true, Bool.not_false, decide_eq_true_eq, decide_true, decide_false, brB_b, slt_hi, slt_lo, slt_m1, sll_hi, sll_lo, mul_t0, mul_t1, Int.reduceLE, Int.reduceToNat, List.take_succ_cons, List.take_zero, List.drop_succ_cons, List.drop_zero, List.take_nil, List.drop_nil, Nat.reduceAdd, e_slHi, e_slLo, e_slLH, Int.reduceAdd, Int.add_zero, Int.mul_one, Int.mul_zero, Int.reduceNeg, List.getElem?_nil, Bool.false_eq_true, Int.reduceLT, Int.reduceEq, and_true, true_and, and_false, false_and, not_true_eq_false, not_false_eq_true, of_ite, map_ite, hc, nin_tup, e_lc, i_e, itemsOf, lj_lc, List.length_map, if_pos h4, tru_ints, h1, h2, h5, listOf_tup, h9, max3]
      · simp only [B_law_judged, ss_cons, ss_nil, s_setT', s_set', s_par', s_expr', s_ite', s_ret', s_retN', s_raise', e_var, e_non, e_bl, e_int, e_neg, e_str, e_bin, e_cmp, e_cmp2, e_and, e_or, e_not, e_ite, e_tup, e_lst, e_ix, e_isNon, e_notNon, e_call, e_blt, e_isi, e_rev, s_try', tryO_exc, tryO_nx, tryO_rt, tryO_ite, hs_nil, hs_cons, es_nil, es_cons, List.map_cons, List.map_nil, List.replicate, List.cons_append, List.nil_append, List.append_nil, List.getElem?_cons_zero, List.getElem?_cons_succ, lookV_some, ok_bind, ok_out, stuck_bind, stuck_out, onS_tup, onS_lst, onI_int, setAll, List.set_cons_zero, List.set_cons_succ, nxO_some, nx_then, rt_then, ite_then, exc_then, exc_bind, exc_out, finish_exc, deref_int, deref_bl, deref_str, deref_non, deref_tup, deref_lst, deref_scr, cmp_eq, cmp_ne, cmp_lt, cmp_le, cmp_gt, cmp_ge, Option.map_some, of_some', tru_bl, tru_int, tru_non, tru_tup0, tru_tup1, tru_lst0, tru_lst1, brB_t, brB_f, brB_d, brB_nd, finish_ite, finish_rt, finish_nx, ite_out, ite_bind, List.length_cons, List.length_nil, sz0, sz1, sz2, sz3, sz4, sz5, sz6, sz7, sz8, Nat.reduceAdd, Nat.reduceLeDiff, Nat.zero_le, Nat.zero_add, if_true, if_false, ↓reduceIte, ix_t0, ix_t1, ix_t2, ix_t3, ix_t4, ix_t5, ix_l0, ix_l1, leave_tup, leave_lst, leave_int, leave_bl, leave_str, leave_non, lo_int, lo_bl, lo_str, lo_non, lo_tup, lo_lst, loAll_nil, loAll_cons, loAll_ints, Bool.and_true, Bool.true_and, Bool.and_self, List.take_length, bin_add, bin_sub, int1_d, int1_bl, inn, ini, ins, int', inb, inl', Bool.not_true, Bool.not_false, decide_eq_true_eq, decide_true, decide_false, brB_b, slt_hi, slt_lo, slt_m1, sll_hi, sll_lo, mul_t0, mul_t1, Int.reduceLE, Int.reduceToNat, List.take_succ_cons, List.take_zero, List.drop_succ_cons, List.drop_zero, List.take_nil, List.drop_nil, Nat.reduceAdd, e_slHi, e_slLo, e_slLH, Int.reduceAdd, Int.add_zero, Int.mul_one, Int.mul_zero, Int.reduceNeg, List.getElem?_nil, Bool.false_eq_true, Int.reduceLT, Int.reduceEq, and_true, true_and, and_false, false_and, not_true_eq_false, not_false_eq_true, of_ite, map_ite, hc, nin_tup, h1, h2, listOf_tup, h9, max3]
  · rw [if_neg hf]
    rw [fq, not_or, not_or] at hf
    obtain ⟨h1, h2, h5⟩ := hf
    have h2 : first ∈ balls := Decidable.not_not.mp h2
    have h5 : (pots.filter fun b => decide (b ∉ balls)) = [] := Decidable.not_not.mp h5
    have h8 : 0 < (pots.length : Int) ↔ ¬ pots = [] := by cases pots <;> simp <;> omega
    by_cases h6 : on = 1
    · subst h6
      simp only [B_law_judged, ss_cons, ss_nil, s_setT', s_set', s_par', s_expr', s_ite', s_ret', s_retN', s_raise', e_var, e_non, e_bl, e_int, e_neg, e_str, e_bin, e_cmp, e_cmp2, e_and, e_or, e_not, e_ite, e_tup, e_lst, e_ix, e_isNon, e_notNon, e_call, e_blt, e_isi, e_rev, s_try', tryO_exc, tryO_nx, tryO_rt, tryO_ite, hs_nil, hs_cons, es_nil, es_cons, List.map_cons, List.map_nil, List.replicate, List.cons_append, List.nil_append, List.append_nil, List.getElem?_cons_zero, List.getElem?_cons_succ, lookV_some, ok_bind, ok_out, stuck_bind, stuck_out, onS_tup, onS_lst, onI_int, setAll, List.set_cons_zero, List.set_cons_succ, nxO_some, nx_then, rt_then, ite_then, exc_then, exc_bind, exc_out, finish_exc, deref_int, deref_bl, deref_str, deref_non, deref_tup, deref_lst, deref_scr, cmp_eq, cmp_ne, cmp_lt, cmp_le, cmp_gt, cmp_ge, Option.map_some, of_some', tru_bl, tru_int, tru_non, tru_tup0, tru_tup1, tru_lst0, tru_lst1, brB_t, brB_f, brB_d, brB_nd, finish_ite, finish_rt, finish_nx, ite_out, ite_bind, List.length_cons, List.length_nil, sz0, sz1, sz2, sz3, sz4, sz5, sz6, sz7, sz8, Nat.reduceAdd, Nat.reduceLeDiff, Nat.zero_le, Nat.zero_add, if_true, if_false, ↓reduceIte, ix_t0, ix_t1, ix_t2, ix_t3, ix_t4, ix_t5, ix_l0, ix_l1, leave_tup, leave_lst, leave_int, leave_bl, leave_str, leave_non, lo_int, lo_bl, lo_str, lo_non, lo_tup, lo_lst, loAll_nil, loAll_cons, loAll_ints, Bool.and_true, Bool.true_and, Bool.and_self, List.take_length, bin_add, bin_sub, int1_d, int1_bl, inn, ini, ins, int', inb, inl', Bool.not_true, Bool.not_false, decide_eq_true_eq, decide_true, decide_false, brB_b, slt_hi, slt_lo, slt_m1, sll_hi, sll_lo, mul_t0, mul_t1, Int.reduceLE, Int.reduceToNat, List.take_succ_cons, List.take_zero, List.drop_succ_cons, List.drop_zero, List.take_nil, List.drop_nil, Nat.reduceAdd, e_slHi, e_slLo, e_slLH, Int.reduceAdd, Int.add_zero, Int.mul_one, Int.mul_zero, Int.reduceNeg, List.getElem?_nil, Bool.false_eq_true, Int.reduceLT, Int.reduceEq, and_true, true_and, and_false, false_and, not_true_eq_false, not_false_eq_true, of_ite, map_ite, hc, nin_tup, e_lc, i_e, itemsOf, lj_lc, List.length_map, if_pos h4, tru_ints, h1, h2, h5, len_tup]
    · by_cases h7 : on = 0
      · subst h7
        by_cases h9 : pots = []
        · have h10 : ¬ 0 < (pots.length : Int) := fun z => h8.mp z h9
          simp only [B_law_judged, ss_cons, ss_nil, s_setT', s_set', s_par', s_expr', s_ite', s_ret', s_retN', s_raise', e_var, e_non, e_bl, e_int, e_neg, e_str, e_bin, e_cmp, e_cmp2, e_and, e_or, e_not, e_ite, e_tup, e_lst, e_ix, e_isNon, e_notNon, e_call, e_blt, e_isi, e_rev, s_try', tryO_exc, tryO_nx, tryO_rt, tryO_ite, hs_nil, hs_cons, es_nil, es_cons, List.map_cons, List.map_nil, List.replicate, List.cons_append, List.nil_append, List.append_nil, List.getElem?_cons_zero, List.getElem?_cons_succ, lookV_some, ok_bind, ok_out, stuck_bind, stuck_out, onS_tup, onS_lst, onI_int, setAll, List.set_cons_zero, List.set_cons_succ, nxO_some, nx_then, rt_then, ite_then, exc_then, exc_bind, exc_out, finish_exc, deref_int, deref_bl, deref_str, deref_non, deref_tup, deref_lst, deref_scr, cmp_eq, cmp_ne, cmp_lt, cmp_le, cmp_gt, cmp_ge, Option.map_some, of_some', tru_bl, tru_int, tru_non, tru_tup0, tru_tup1, tru_lst0, tru_lst1, brB_t, brB_f, brB_d, brB_nd, finish_ite, finish_rt, finish_nx, ite_out, ite_bind, List.length_cons, List.length_nil, sz0, sz1, sz2, sz3, sz4, sz5, sz6, sz7, sz8, Nat.reduceAdd, Nat.reduceLeDiff, Nat.zero_le, Nat.zero_add, if_true, if_false, ↓reduceIte, ix_t0, ix_t1, ix_t2, ix_t3, ix_t4, ix_t5, ix_l0, ix_l1, leave_tup, leave_lst, leave_int, leave_bl, leave_str, leave_non, lo_int, lo_bl, lo_str, lo_non, lo_tup, lo_lst, loAll_nil, loAll_cons, loAll_ints, Bool.and_true, Bool.true_and, Bool.and_self, List.take_length, bin_add, bin_sub, int1_d, int1_bl, inn, ini, ins, int', inb, inl', Bool.not_true, Bool.not_false, decide_eq_true_eq, decide_true, decide_false, brB_b, slt_hi, slt_lo, slt_m1, sll_hi, sll_lo, mul_t0, mul_t1, Int.reduceLE, Int.reduceToNat, List.take_succ_cons, List.take_zero, List.drop_succ_cons, List.drop_zero, List.take_nil, List.drop_nil, Nat.reduceAdd, e_slHi, e_slLo, e_slLH, Int.reduceAdd, Int.add_zero, Int.mul_one, Int.mul_zero, Int.reduceNeg, List.getElem?_nil, Bool.false_eq_true, Int.reduceLT, Int.reduceEq, and_true, true_and, and_false, false_and, not_true_eq_false, not_false_eq_true, of_ite, map_ite, hc, nin_tup, e_lc, i_e, itemsOf, lj_lc, List.length_map, if_pos h4, tru_ints, h1, h2, h5, len_tup, h10, bin_mulR (show smallI 0 = true by decide)]
          rw [if_pos h9, Int.mul_zero]
        · have h10 : 0 < (pots.length : Int) := h8.mpr h9
          simp only [B_law_judged, ss_cons, ss_nil, s_setT', s_set', s_par', s_expr', s_ite', s_ret', s_retN', s_raise', e_var, e_non, e_bl, e_int, e_neg, e_str, e_bin, e_cmp, e_cmp2, e_and, e_or, e_not, e_ite, e_tup, e_lst, e_ix, e_isNon, e_notNon, e_call, e_blt, e_isi, e_rev, s_try', tryO_exc, tryO_nx, tryO_rt, tryO_ite, hs_nil, hs_cons, es_nil, es_cons, List.map_cons, List.map_nil, List.replicate, List.cons_append, List.nil_append, List.append_nil, List.getElem?_cons_zero, List.getElem?_cons_succ, lookV_some, ok_bind, ok_out, stuck_bind, stuck_out, onS_tup, onS_lst, onI_int, setAll, List.set_cons_zero, List.set_cons_succ, nxO_some, nx_then, rt_then, ite_then, exc_then, exc_bind, exc_out, finish_exc, deref_int, deref_bl, deref_str, deref_non, deref_tup, deref_lst, deref_scr, cmp_eq, cmp_ne, cmp_lt, cmp_le, cmp_gt, cmp_ge, Option.map_some, of_some', tru_bl, tru_int, tru_non, tru_tup0, tru_tup1, tru_lst0, tru_lst1, brB_t, brB_f, brB_d, brB_nd, finish_ite, finish_rt, finish_nx, ite_out, ite_bind, List.length_cons, List.length_nil, sz0, sz1, sz2, sz3, sz4, sz5, sz6, sz7, sz8, Nat.reduceAdd, Nat.reduceLeDiff, Nat.zero_le, Nat.zero_add, if_true, if_false, ↓reduceIte, ix_t0, ix_t1, ix_t2, ix_t3, ix_t4, ix_t5, ix_l0, ix_l1, leave_tup, leave_lst, leave_int, leave_bl, leave_str, leave_non, lo_int, lo_bl, lo_str, lo_non, lo_tup, lo_lst, loAll_nil, loAll_cons, loAll_ints, Bool.and_true, Bool.true_and, Bool.and_self, List.take_length, bin_add, bin_sub, int1_d, int1_bl, inn, ini, ins, int', inb, inl', Bool.not_true, Bool.not_false, decide_eq_true_eq, decide_true, decide_false, brB_b, slt_hi, slt_lo, slt_m1, sll_hi, sll_lo, mul_t0, mul_t1, Int.reduceLE, Int.reduceToNat, List.take_succ_cons, List.take_zero, List.drop_succ_cons, List.drop_zero, List.take_nil, List.drop_nil, Nat.reduceAdd, e_slHi, e_slLo, e_slLH, Int.reduceAdd, Int.add_zero, Int.mul_one, Int.mul_zero, Int.reduceNeg, List.getElem?_nil, Bool.false_eq_true, Int.reduceLT, Int.reduceEq, and_true, true_and, and_false, false_and, not_true_eq_false, not_false_eq_true, of_ite, map_ite, hc, nin_tup, e_lc, i_e, itemsOf, lj_lc, List.length_map, if_pos h4, tru_ints, h1, h2, h5, len_tup, h10, bin_mulR (show smallI 1 = true by decide)]
          rw [if_neg h9, Int.mul_one]
      · by_cases h9 : pots = []
        · have h10 : ¬ 0 < (pots.length : Int) := fun z => h8.mp z h9
          simp only [B_law_judged, ss_cons, ss_nil, s_setT', s_set', s_par', s_expr', s_ite', s_ret', s_retN', s_raise', e_var, e_non, e_bl, e_int, e_neg, e_str, e_bin, e_cmp, e_cmp2, e_and, e_or, e_not, e_ite, e_tup, e_lst, e_ix, e_isNon, e_notNon, e_call, e_blt, e_isi, e_rev, s_try', tryO_exc, tryO_nx, tryO_rt, tryO_ite, hs_nil, hs_cons, es_nil, es_cons, List.map_cons, List.map_nil, List.replicate, List.cons_append, List.nil_append, List.append_nil, List.getElem?_cons_zero, List.getElem?_cons_succ, lookV_some, ok_bind, ok_out, stuck_bind, stuck_out, onS_tup, onS_lst, onI_int, setAll, List.set_cons_zero, List.set_cons_succ, nxO_some, nx_then, rt_then, ite_then, exc_then, exc_bind, exc_out, finish_exc, deref_int, deref_bl, deref_str, deref_non, deref_tup, deref_lst, deref_scr, cmp_eq, cmp_ne, cmp_lt, cmp_le, cmp_gt, cmp_ge, Option.map_some, of_some', tru_bl, tru_int, tru_non, tru_tup0, tru_tup1, tru_lst0, tru_lst1, brB_t, brB_f, brB_d, brB_nd, finish_ite, finish_rt, finish_nx, ite_out, ite_bind, List.length_cons, List.length_nil, sz0, sz1, sz2, sz3, sz4, sz5, sz6, sz7, sz8, Nat.reduceAdd, Nat.reduceLeDiff, Nat.zero_le, Nat.zero_add, if_true, if_false, ↓reduceIte, ix_t0, ix_t1, ix_t2, ix_t3, ix_t4, ix_t5, ix_l0, ix_l1, leave_tup, leave_lst, leave_int, leave_bl, leave_str, leave_non, lo_int, lo_bl, lo_str, lo_non, lo_tup, lo_lst, loAll_nil, loAll_cons, loAll_ints, Bool.and_true, Bool.true_and, Bool.and_self, List.take_length, bin_add, bin_sub, int1_d, int1_bl, inn, ini, ins, int', inb, inl', Bool.not_true, Bool.not_false, decide_eq_true_eq, decide_true, decide_false, brB_b, slt_hi, slt_lo, slt_m1, sll_hi, sll_lo, mul_t0, mul_t1, Int.reduceLE, Int.reduceToNat, List.take_succ_cons, List.take_zero, List.drop_succ_cons, List.drop_zero, List.take_nil, List.drop_nil, Nat.reduceAdd, e_slHi, e_slLo, e_slLH, Int.reduceAdd, Int.add_zero, Int.mul_one, Int.mul_zero, Int.reduceNeg, List.getElem?_nil, Bool.false_eq_true, Int.reduceLT, Int.reduceEq, and_true, true_and, and_false, false_and, not_true_eq_false, not_false_eq_true, of_ite, map_ite, hc, nin_tup, e_lc, i_e, itemsOf, lj_lc, List.length_map, if_pos h4, tru_ints, h1, h2, h5, h6, h7, len_tup, h10, bin_mulR (show smallI 0 = true by decide)]
          rw [if_pos h9, Int.mul_zero]
        · have h10 : 0 < (pots.length : Int) := h8.mpr h9
          simp only [B_law_judged, ss_cons, ss_nil, s_setT', s_set', s_par', s_expr', s_ite', s_ret', s_retN', s_raise', e_var, e_non, e_bl, e_int, e_neg, e_str, e_bin, e_cmp, e_cmp2, e_and, e_or, e_not, e_ite, e_tup, e_lst, e_ix, e_isNon, e_notNon, e_call, e_blt, e_isi, e_rev, s_try', tryO_exc, tryO_nx, tryO_rt, tryO_ite, hs_nil, hs_cons, es_nil, es_cons, List.map_cons, List.map_nil, List.replicate, List.cons_append, List.nil_append, List.append_nil, List.getElem?_cons_zero, List.getElem?_cons_succ, lookV_some, ok_bind, ok_out, stuck_bind, stuck_out, onS_tup, onS_lst, onI_int, setAll, List.set_cons_zero, List.set_cons_succ, nxO_some, nx_then, rt_then, ite_then, exc_then, exc_bind, exc_out, finish_exc, deref_int, deref_bl, deref_str, deref_non, deref_tup, deref_lst, deref_scr, cmp_eq, cmp_ne, cmp_lt, cmp_le, cmp_gt, cmp_ge, Option.map_some, of_some', tru_bl, tru_int, tru_non, tru_tup0, tru_tup1, tru_lst0, tru_lst1, brB_t, brB_f, brB_d, brB_nd, finish_ite, finish_rt, finish_nx, ite_out, ite_bind, List.length_cons, List.length_nil, sz0, sz1, sz2, sz3, sz4, sz5, sz6, sz7, sz8, Nat.reduceAdd, Nat.reduceLeDiff, Nat.zero_le, Nat.zero_add, if_true, if_false, ↓reduceIte, ix_t0, ix_t1, ix_t2, ix_t3, ix_t4, ix_t5, ix_l0, ix_l1, leave_tup, leave_lst, leave_int, leave_bl, leave_str, leave_non, lo_int, lo_bl, lo_str, lo_non, lo_tup, lo_lst, loAll_nil, loAll_cons, loAll_ints, Bool.and_true, Bool.true_and, Bool.and_self, List.take_length, bin_add, bin_sub, int1_d, int1_bl, inn, ini, ins, int', inb, inl', Bool.not_true, Bool.not_false, decide_eq_true_eq, decide_true, decide_false, brB_b, slt_hi, slt_lo, slt_m1, sll_hi, sll_lo, mul_t0, mul_t1, Int.reduceLE, Int.reduceToNat, List.take_succ_cons, List.take_zero, List.drop_succ_cons, List.drop_zero, List.take_nil, List.drop_nil, Nat.reduceAdd, e_slHi, e_slLo, e_slLH, Int.reduceAdd, Int.add_zero, Int.mul_one, Int.mul_zero, Int.reduceNeg, List.getElem?_nil, Bool.false_eq_true, Int.reduceLT, Int.reduceEq, and_true, true_and, and_false, false_and, not_true_eq_false, not_false_eq_true, of_ite, map_ite, hc, nin_tup, e_lc, i_e, itemsOf, lj_lc, List.length_map, if_pos h4, tru_ints, h1, h2, h5, h6, h7, len_tup, h10, bin_mulR (show smallI 1 = true by decide)]
          rw [if_neg h9, Int.mul_one]
end MP
/-! P4: plain: what is on the table. -/
namespace MP
open PySem
theorem ok_ct {l : List Dt} : okMt .count (.tup l) = true := rfl
theorem eq_lst_nil {l : List Int} : evCmp .eq (.lst (l.map .int)) (.lst []) = some (decide (l = [])) := by
  simp only [evCmp]
  unfold evEq
  have h : okq (.lst (l.map .int)) (.lst []) = true := by
    unfold okq
    have e : (Dt.lst []).py.depth = 1 ∨ (Dt.lst []).py.depth = 0 := by first | exact .inl rfl | exact .inr rfl
    have : min (Dt.lst (l.map Dt.int)).py.depth (Dt.lst []).py.depth ≤ 40 := by rcases e with e | e <;> rw [e] <;> omega
    rw [decide_eq_true this]
    simp [Dt.pl, plA_ints, Dt.plAll]
  rw [if_pos h]
  cases l <;> rfl
theorem lc_all {F : FT} {ρ : Env} {c : E} {i : Nat} {own : List Nat} {l : List Int} {s : Sta} (P : Int → Prop) [DecidablePred P] (h : ∀ x ∈ l, evE F ((wipeE ρ own).set i (some (.int x))) c s = .ok (.bl (decide (P x))) s) :
    lcGo (lcOne F ρ c (.nm i) own []) (l.map .int) s = .ok ((l.map fun x => decide (P x)).map .bl) s := by
  rw [lcGo_map (g := fun x => some (.bl (decide (P x)))) fun x hx => ?_]
  · congr 1
    clear h
    induction l with
    | nil => rfl
    | cons x l ih => simp [ih]
  · rw [lcOne_nil, h x hx, ok_bind]
def isHere (p : Pl) (k : Sk) : Prop := ¬ p.reds < (k.pots.count 1 : Nat) ∧ ¬ (k.first = 1 ∧ p.reds = 0) ∧ ¬ (1 < k.first ∧ k.first < p.low) ∧ (k.pots.filter fun x => decide (1 < x ∧ x < p.low)) = []
instance (p : Pl) (k : Sk) : Decidable (isHere p k) := by unfold isHere; infer_instance
theorem lh_lc {F : FT} {st : Sta} {a b c : Option Dt} {pots : List Int} {low : Int} : lcGo (lcOne F [a, b, c, some (.int low), none] (.var 4) (.nm 4) [4] [.cmp2 .lt .lt (.int 1) (.var 4) (.var 3)]) (pots.map .int) st = .ok ((pots.filter fun x => decide (1 < x ∧ x < low)).map .int) st :=
  lc_filter (fun x => 1 < x ∧ x < low) (fun x hx => by
    simp only [wipeE, ss_cons, ss_nil, s_setT', s_set', s_par', s_expr', s_ite', s_ret', s_retN', s_raise', e_var, e_non, e_bl, e_int, e_neg, e_str, e_bin, e_cmp, e_cmp2, e_and, e_or, e_not, e_ite, e_tup, e_lst, e_ix, e_isNon, e_notNon, e_call, e_blt, e_isi, e_rev, s_try', tryO_exc, tryO_nx, tryO_rt, tryO_ite, hs_nil, hs_cons, es_nil, es_cons, List.map_cons, List.map_nil, List.replicate, List.cons_append, List.nil_append, List.append_nil, List.getElem?_cons_zero, List.getElem?_cons_succ, lookV_some, ok_bind, ok_out, stuck_bind, stuck_out, onS_tup, onS_lst, onI_int, setAll, List.set_cons_zero, List.set_cons_succ, nxO_some, nx_then, rt_then, ite_then, exc_then, exc_bind, exc_out, finish_exc, deref_int, deref_bl, deref_str, deref_non, deref_tup, deref_lst, deref_scr, cmp_eq, cmp_ne, cmp_lt, cmp_le, cmp_gt, cmp_ge, Option.map_some, of_some', tru_bl, tru_int, tru_non, tru_tup0, tru_tup1, tru_lst0, tru_lst1, brB_t, brB_f, brB_d, brB_nd, finish_ite, finish_rt, finish_nx, ite_out, ite_bind, List.length_cons, List.length_nil, sz0, sz1, sz2, sz3, sz4, sz5, sz6, sz7, sz8, Nat.reduceAdd, Nat.reduceLeDiff, Nat.zero_le, Nat.zero_add, if_true, if_false, ↓reduceIte, ix_t0, ix_t1, ix_t2, ix_t3, ix_t4, ix_t5, ix_l0, ix_l1, leave_tup, leave_lst, leave_int, leave_bl, leave_str, leave_non, lo_int, lo_bl, lo_str, lo_non, lo_tup, lo_lst, loAll_nil, loAll_cons, loAll_ints, Bool.and_true, Bool.true_and, Bool.and_self, List.take_length, bin_add, bin_sub, int1_d, int1_bl, inn, ini, ins, int', inb, inl', Bool.not_true, Bool.not_false, decide_eq_true_eq, decide_true, decide_false, brB_b, slt_hi, slt_lo, slt_m1, sll_hi, sll_lo, mul_t0, mul_t1, Int.reduceLE, Int.reduceToNat, List.take_succ_cons, List.take_zero, List.drop_succ_cons, List.drop_zero, List.take_nil, List.drop_nil, Nat.reduceAdd, e_slHi, e_slLo, e_slLH, Int.reduceAdd, Int.add_zero, Int.mul_one, Int.mul_zero, Int.reduceNeg, List.getElem?_nil, Bool.false_eq_true, Int.reduceLT, Int.reduceEq, and_true, true_and, and_false, false_and, not_true_eq_false, not_false_eq_true, of_ite, map_ite]
    by_cases h : 1 < x
    · simp [h]
    · simp [h]) (by simp)
theorem l_is_here {j : Nat} {p : Pl} {k : Sk} {s : Sta} (hl : k.pots.length ≤ 1000) : FTab fb (j + 1) 20 [p.d, .tup k.ds] s = .ok (.bl (decide (isHere p k))) s := by
  obtain ⟨up, on, reds, low, p0, p1, free⟩ := p
  obtain ⟨first, pots, off⟩ := k
  simp only at hl
  have h4 : pots.length < lineM := by unfold lineM; omega
  rw [t_law_is_here rfl]
  simp only [Pl.d, Sk.ds]
  by_cases h1 : reds < (pots.count 1 : Nat)
  · simp only [B_law_is_here, ss_cons, ss_nil, s_setT', s_set', s_par', s_expr', s_ite', s_ret', s_retN', s_raise', e_var, e_non, e_bl, e_int, e_neg, e_str, e_bin, e_cmp, e_cmp2, e_and, e_or, e_not, e_ite, e_tup, e_lst, e_ix, e_isNon, e_notNon, e_call, e_blt, e_isi, e_rev, s_try', tryO_exc, tryO_nx, tryO_rt, tryO_ite, hs_nil, hs_cons, es_nil, es_cons, List.map_cons, List.map_nil, List.replicate, List.cons_append, List.nil_append, List.append_nil, List.getElem?_cons_zero, List.getElem?_cons_succ, lookV_some, ok_bind, ok_out, stuck_bind, stuck_out, onS_tup, onS_lst, onI_int, setAll, List.set_cons_zero, List.set_cons_succ, nxO_some, nx_then, rt_then, ite_then, exc_then, exc_bind, exc_out, finish_exc, deref_int, deref_bl, deref_str, deref_non, deref_tup, deref_lst, deref_scr, cmp_eq, cmp_ne, cmp_lt, cmp_le, cmp_gt, cmp_ge, Option.map_some, of_some', tru_bl, tru_int, tru_non, tru_tup0, tru_tup1, tru_lst0, tru_lst1, brB_t, brB_f, brB_d, brB_nd, finish_ite, finish_rt, finish_nx, ite_out, ite_bind, List.length_cons, List.length_nil, sz0, sz1, sz2, sz3, sz4, sz5, sz6, sz7, sz8, Nat.reduceAdd, Nat.reduceLeDiff, Nat.zero_le, Nat.zero_add, if_true, if_false, ↓reduceIte, ix_t0, ix_t1, ix_t2, ix_t3, ix_t4, ix_t5, ix_l0, ix_l1, leave_tup, leave_lst, leave_int, leave_bl, leave_str, leave_non, lo_int, lo_bl, lo_str, lo_non, lo_tup, lo_lst, loAll_nil, loAll_cons, loAll_ints, Bool.and_true, Bool.true_and, Bool.and_self, List.take_length, bin_add, bin_sub, int1_d, int1_bl, inn, ini, ins, int', inb, inl', Bool.not_true, Bool.not_false, decide_eq_true_eq, decide_true, decide_false, brB_b, slt_hi, slt_lo, slt_m1, sll_hi, sll_lo, mul_t0, mul_t1, Int.reduceLE, Int.reduceToNat, List.take_succ_cons, List.take_zero, List.drop_succ_cons, List.drop_zero, List.take_nil, List.drop_nil, Nat.reduceAdd, e_slHi, e_slLo, e_slLH, Int.reduceAdd, Int.add_zero, Int.mul_one, Int.mul_zero, Int.reduceNeg, List.getElem?_nil, Bool.false_eq_true, Int.reduceLT, Int.reduceEq, and_true, true_and, and_false, false_and, not_true_eq_false, not_false_eq_true, of_ite, map_ite, e_mth, ok_ct, mt_count, h1]
    simp [isHere, h1]
  · by_cases h2 : first = 1
    · subst h2
      by_cases h3 : reds = 0
      · subst h3
        simp only [B_law_is_here, ss_cons, ss_nil, s_setT', s_set', s_par', s_expr', s_ite', s_ret', s_retN', s_raise', e_var, e_non, e_bl, e_int, e_neg, e_str, e_bin, e_cmp, e_cmp2, e_and, e_or, e_not, e_ite, e_tup, e_lst, e_ix, e_isNon, e_notNon, e_call, e_blt, e_isi, e_rev, s_try', tryO_exc, tryO_nx, tryO_rt, tryO_ite, hs_nil, hs_cons, es_nil, es_cons, List.map_cons, List.map_nil, List.replicate, List.cons_append, List.nil_append, List.append_nil, List.getElem?_cons_zero, List.getElem?_cons_succ, lookV_some, ok_bind, ok_out, stuck_bind, stuck_out, onS_tup, onS_lst, onI_int, setAll, List.set_cons_zero, List.set_cons_succ, nxO_some, nx_then, rt_then, ite_then, exc_then, exc_bind, exc_out, finish_exc, deref_int, deref_bl, deref_str, deref_non, deref_tup, deref_lst, deref_scr, cmp_eq, cmp_ne, cmp_lt, cmp_le, cmp_gt, cmp_ge, Option.map_some, of_some', tru_bl, tru_int, tru_non, tru_tup0, tru_tup1, tru_lst0, tru_lst1, brB_t, brB_f, brB_d, brB_nd, finish_ite, finish_rt, finish_nx, ite_out, ite_bind, List.length_cons, List.length_nil, sz0, sz1, sz2, sz3, sz4, sz5, sz6, sz7, sz8, Nat.reduceAdd, Nat.reduceLeDiff, Nat.zero_le, Nat.zero_add, if_true, if_false, ↓reduceIte, ix_t0, ix_t1, ix_t2, ix_t3, ix_t4, ix_t5, ix_l0, ix_l1, leave_tup, leave_lst, leave_int, leave_bl, leave_str, leave_non, lo_int, lo_bl, lo_str, lo_non, lo_tup, lo_lst, loAll_nil, loAll_cons, loAll_ints, Bool.and_true, Bool.true_and, Bool.and_self, List.take_length, bin_add, bin_sub, int1_d, int1_bl, inn, ini, ins, int', inb, inl', Bool.not_true, Bool.not_false, decide_eq_true_eq, decide_true, decide_false, brB_b, slt_hi, slt_lo, slt_m1, sll_hi, sll_lo, mul_t0, mul_t1, Int.reduceLE, Int.reduceToNat, List.take_succ_cons, List.take_zero, List.drop_succ_cons, List.drop_zero, List.take_nil, List.drop_nil, Nat.reduceAdd, e_slHi, e_slLo, e_slLH, Int.reduceAdd, Int.add_zero, Int.mul_one, Int.mul_zero, Int.reduceNeg, List.getElem?_nil, Bool.false_eq_true, Int.reduceLT, Int.reduceEq, and_true, true_and, and_false, false_and, not_true_eq_false, not_false_eq_true, of_ite, map_ite, e_mth, ok_ct, mt_count, h1]
        simp [isHere]
      · simp only [B_law_is_here, ss_cons, ss_nil, s_setT', s_set', s_par', s_expr', s_ite', s_ret', s_retN', s_raise', e_var, e_non, e_bl, e_int, e_neg, e_str, e_bin, e_cmp, e_cmp2, e_and, e_or, e_not, e_ite, e_tup, e_lst, e_ix, e_isNon, e_notNon, e_call, e_blt, e_isi, e_rev, s_try', tryO_exc, tryO_nx, tryO_rt, tryO_ite, hs_nil, hs_cons, es_nil, es_cons, List.map_cons, List.map_nil, List.replicate, List.cons_append, List.nil_append, List.append_nil, List.getElem?_cons_zero, List.getElem?_cons_succ, lookV_some, ok_bind, ok_out, stuck_bind, stuck_out, onS_tup, onS_lst, onI_int, setAll, List.set_cons_zero, List.set_cons_succ, nxO_some, nx_then, rt_then, ite_then, exc_then, exc_bind, exc_out, finish_exc, deref_int, deref_bl, deref_str, deref_non, deref_tup, deref_lst, deref_scr, cmp_eq, cmp_ne, cmp_lt, cmp_le, cmp_gt, cmp_ge, Option.map_some, of_some', tru_bl, tru_int, tru_non, tru_tup0, tru_tup1, tru_lst0, tru_lst1, brB_t, brB_f, brB_d, brB_nd, finish_ite, finish_rt, finish_nx, ite_out, ite_bind, List.length_cons, List.length_nil, sz0, sz1, sz2, sz3, sz4, sz5, sz6, sz7, sz8, Nat.reduceAdd, Nat.reduceLeDiff, Nat.zero_le, Nat.zero_add, if_true, if_false, ↓reduceIte, ix_t0, ix_t1, ix_t2, ix_t3, ix_t4, ix_t5, ix_l0, ix_l1, leave_tup, leave_lst, leave_int, leave_bl, leave_str, leave_non, lo_int, lo_bl, lo_str, lo_non, lo_tup, lo_lst, loAll_nil, loAll_cons, loAll_ints, Bool.and_true, Bool.true_and, Bool.and_self, List.take_length, bin_add, bin_sub, int1_d, int1_bl, inn, ini, ins, int', inb, inl', Bool.not_true, Bool.not_false, decide_eq_true_eq, decide_true, decide_false, brB_b, slt_hi, slt_lo, slt_m1, sll_hi, sll_lo, mul_t0, mul_t1, Int.reduceLE, Int.reduceToNat, List.take_succ_cons, List.take_zero, List.drop_succ_cons, List.drop_zero, List.take_nil, List.drop_nil, Nat.reduceAdd, e_slHi, e_slLo, e_slLH, Int.reduceAdd, Int.add_zero, Int.mul_one, Int.mul_zero, Int.reduceNeg, List.getElem?_nil, Bool.false_eq_true, Int.reduceLT, Int.reduceEq, and_true, true_and, and_false, false_and, not_true_eq_false, not_false_eq_true, of_ite, map_ite, e_mth, ok_ct, mt_count, h1, h3, e_lc, i_e, itemsOf, lh_lc, List.length_map, if_pos h4, eq_lst_nil]
        simp [isHere, h1, h3]
    · by_cases h5 : 1 < first <;> by_cases h6 : first < low <;> simp only [B_law_is_here, ss_cons, ss_nil, s_setT', s_set', s_par', s_expr', s_ite', s_ret', s_retN', s_raise', e_var, e_non, e_bl, e_int, e_neg, e_str, e_bin, e_cmp, e_cmp2, e_and, e_or, e_not, e_ite, e_tup, e_lst, e_ix, e_isNon, e_notNon, e_call, e_blt, e_isi, e_rev, s_try', tryO_exc, tryO_nx, tryO_rt, tryO_ite, hs_nil, hs_cons, es_nil, es_cons, List.map_cons, List.map_nil, List.replicate, List.cons_append, List.nil_append, List.append_nil, List.getElem?_cons_zero, List.getElem?_cons_succ, lookV_some, ok_bind, ok_out, stuck_bind, stuck_out, onS_tup, onS_lst, onI_int, setAll, List.set_cons_zero, List.set_cons_succ, nxO_some, nx_then, rt_then, ite_then, exc_then, exc_bind, exc_out, finish_exc, deref_int, deref_bl, deref_str, deref_non, deref_tup, deref_lst, deref_scr, cmp_eq, cmp_ne, cmp_lt, cmp_le, cmp_gt, cmp_ge, Option.map_some, of_some', tru_bl, tru_int, tru_non, tru_tup0, tru_tup1, tru_lst0, tru_lst1, brB_t, brB_f, brB_d, brB_nd, finish_ite, finish_rt, finish_nx, ite_out, ite_bind, List.length_cons, List.length_nil, sz0, sz1, sz2, sz3, sz4, sz5, sz6, sz7, sz8, Nat.reduceAdd, Nat.reduceLeDiff, Nat.zero_le, Nat.zero_add, if_true, if_false, ↓reduceIte, ix_t0, ix_t1, ix_t2, ix_t3, ix_t4, ix_t5, ix_l0, ix_l1, leave_tup, leave_lst, leave_int, leave_bl, leave_str, leave_non, lo_int, lo_bl, lo_str, lo_non, lo_tup, lo_lst, loAll_nil, loAll_cons, loAll_ints, Bool.and_true, Bool.true_and, Bool.and_self, List.take_length, bin_add, bin_sub, int1_d, int1_bl, inn, ini, ins, int', inb, inl', Bool.not_true, Bool.not_false, decide_eq_true_eq, decide_true, decide_false, brB_b, slt_hi, slt_lo, slt_m1, sll_hi, sll_lo, mul_t0, mul_t1, Int.reduceLE, Int.reduceToNat, List.take_succ_cons, List.take_zero, List.drop_succ_cons, List.drop_zero, List.take_nil, List.drop_nil, Nat.reduceAdd, e_slHi, e_slLo, e_slLH, Int.reduceAdd, Int.add_zero, Int.mul_one, Int.mul_zero, Int.reduceNeg, List.getElem?_nil, Bool.false_eq_true, Int.reduceLT, Int.reduceEq, and_true, true_and, and_false, false_and, not_true_eq_false, not_false_eq_true, of_ite, map_ite, e_mth, ok_ct, mt_count, h1, h2, h5, h6, e_lc, i_e, itemsOf, lh_lc, List.length_map, if_pos h4, eq_lst_nil] <;>
        simp [isHere, h1, h2, h5, h6]
theorem all_dec {P : Int → Prop} [DecidablePred P] {l : List Int} : ((l.map fun x => decide (P x)).all id) = decide (∀ x ∈ l, P x) := by
  rw [Bool.eq_iff_iff]
  simp [List.all_eq_true]
def pThere (p : Pl) (k : Sk) : Prop := (k.pots.count 1 : Nat) ≤ p.reds ∧ ∀ x ∈ (if 0 < k.first then k.pots ++ [k.first] else k.pots), p.low ≤ x ∨ (x = 1 ∧ 0 < p.reds)
instance (p : Pl) (k : Sk) : Decidable (pThere p k) := by unfold pThere; infer_instance
theorem pt_lc {F : FT} {st : Sta} {a b c d e f g h : Option Dt} {balls : List Int} {reds low : Int} : lcGo (lcOne F [a, b, c, d, e, some (.int reds), some (.int low), f, g, h, none] (.or (.cmp .ge (.var 10) (.var 6)) (.and (.cmp .eq (.var 10) (.int 1)) (.cmp .gt (.var 5) (.int 0)))) (.nm 10) [10] []) (balls.map .int) st =
    .ok ((balls.map fun x => decide (low ≤ x ∨ (x = 1 ∧ 0 < reds))).map .bl) st :=
  lc_all (fun x => low ≤ x ∨ (x = 1 ∧ 0 < reds)) (fun x hx => by
    simp only [wipeE, ss_cons, ss_nil, s_setT', s_set', s_par', s_expr', s_ite', s_ret', s_retN', s_raise', e_var, e_non, e_bl, e_int, e_neg, e_str, e_bin, e_cmp, e_cmp2, e_and, e_or, e_not, e_ite, e_tup, e_lst, e_ix, e_isNon, e_notNon, e_call, e_blt, e_isi, e_rev, s_try', tryO_exc, tryO_nx, tryO_rt, tryO_ite, hs_nil, hs_cons, es_nil, es_cons, List.map_cons, List.map_nil, List.replicate, List.cons_append, List.nil_append, List.append_nil, List.getElem?_cons_zero, List.getElem?_cons_succ, lookV_some, ok_bind, ok_out, stuck_bind, stuck_out, onS_tup, onS_lst, onI_int, setAll, List.set_cons_zero, List.set_cons_succ, nxO_some, nx_then, rt_then, ite_then, exc_then, exc_bind, exc_out, finish_exc, deref_int, deref_bl, deref_str, deref_non, deref_tup, deref_lst, deref_scr, cmp_eq, cmp_ne, cmp_lt, cmp_le, cmp_gt, cmp_ge, Option.map_some, of_some', tru_bl, tru_int, tru_non, tru_tup0, tru_tup1, tru_lst0, tru_lst1, brB_t, brB_f, brB_d, brB_nd, finish_ite, finish_rt, finish_nx, ite_out, ite_bind, List.length_cons, List.length_nil, sz0, sz1, sz2, sz3, sz4, sz5, sz6, sz7, sz8, Nat.reduceAdd, Nat.reduceLeDiff, Nat.zero_le, Nat.zero_add, if_true, if_false, ↓reduceIte, ix_t0, ix_t1, ix_t2, ix_t3, ix_t4, ix_t5, ix_l0, ix_l1, leave_tup, leave_lst, leave_int, leave_bl, leave_str, leave_non, lo_int, lo_bl, lo_str, lo_non, lo_tup, lo_lst, loAll_nil, loAll_cons, loAll_ints, Bool.and_true, Bool.true_and, Bool.and_self, List.take_length, bin_add, bin_sub, int1_d, int1_bl, inn, ini, ins, int', inb, inl', Bool.not_true, Bool.not_false, decide_eq_true_eq, decide_true, decide_false, brB_b, slt_hi, slt_lo, slt_m1, sll_hi, sll_lo, mul_t0, mul_t1, Int.reduceLE, Int.reduceToNat, List.take_succ_cons, List.take_zero, List.drop_succ_cons, List.drop_zero, List.take_nil, List.drop_nil, Nat.reduceAdd, e_slHi, e_slLo, e_slLH, Int.reduceAdd, Int.add_zero, Int.mul_one, Int.mul_zero, Int.reduceNeg, List.getElem?_nil, Bool.false_eq_true, Int.reduceLT, Int.reduceEq, and_true, true_and, and_false, false_and, not_true_eq_false, not_false_eq_true, of_ite, map_ite]
    by_cases h2 : x = 1
    · subst h2; by_cases h1 : low ≤ 1 <;> simp [h1]
    · by_cases h1 : low ≤ x <;> simp [h1, h2])
theorem p_is_there {j : Nat} {R : Dt} {p : Pl} {k : Sk} {s : Sta} (hl : k.pots.length ≤ 1000) : FTab fb (j + 1) 16 [R, p.d, .tup k.ds] s = .ok (.bl (decide (pThere p k))) s := by
  obtain ⟨up, on, reds, low, p0, p1, free⟩ := p
  obtain ⟨first, pots, off⟩ := k
  simp only at hl
  have h4 : pots.length < lineM := by unfold lineM; omega
  have h9 : evBin .add (.tup (pots.map .int)) (.tup [.int first]) = some (.tup ((pots ++ [first]).map .int)) := by rw [add_tt (by simp; omega)]; simp
  have h5 : (pots ++ [first]).length < lineM := by unfold lineM; simp; omega
  rw [t_p_is_there rfl]
  simp only [Pl.d, Sk.ds]
  by_cases h1 : (pots.count 1 : Nat) ≤ reds <;> by_cases h2 : 0 < first
  · simp only [B_p_is_there, ss_cons, ss_nil, s_setT', s_set', s_par', s_expr', s_ite', s_ret', s_retN', s_raise', e_var, e_non, e_bl, e_int, e_neg, e_str, e_bin, e_cmp, e_cmp2, e_and, e_or, e_not, e_ite, e_tup, e_lst, e_ix, e_isNon, e_notNon, e_call, e_blt, e_isi, e_rev, s_try', tryO_exc, tryO_nx, tryO_rt, tryO_ite, hs_nil, hs_cons, es_nil, es_cons, List.map_cons, List.map_nil, List.replicate, List.cons_append, List.nil_append, List.append_nil, List.getElem?_cons_zero, List.getElem?_cons_succ, lookV_some, ok_bind, ok_out, stuck_bind, stuck_out, onS_tup, onS_lst, onI_int, setAll, List.set_cons_zero, List.set_cons_succ, nxO_some, nx_then, rt_then, ite_then, exc_then, exc_bind, exc_out, finish_exc, deref_int, deref_bl, deref_str, deref_non, deref_tup, deref_lst, deref_scr, cmp_eq, cmp_ne, cmp_lt, cmp_le, cmp_gt, cmp_ge, Option.map_some, of_some', tru_bl, tru_int, tru_non, tru_tup0, tru_tup1, tru_lst0, tru_lst1, brB_t, brB_f, brB_d, brB_nd, finish_ite, finish_rt, finish_nx, ite_out, ite_bind, List.length_cons, List.length_nil, sz0, sz1, sz2, sz3, sz4, sz5, sz6, sz7, sz8, Nat.reduceAdd, Nat.reduceLeDiff, Nat.zero_le, Nat.zero_add, if_true, if_false, ↓reduceIte, ix_t0, ix_t1, ix_t2, ix_t3, ix_t4, ix_t5, ix_l0, ix_l1, leave_tup, leave_lst, leave_int, leave_bl, leave_str, leave_non, lo_int, lo_bl, lo_str, lo_non, lo_tup, lo_lst, loAll_nil, loAll_cons, loAll_ints, Bool.and_true, Bool.true_and, Bool.and_self, List.take_length, bin_add, bin_sub, int1_d, int1_bl, inn, ini, ins, int', inb, inl', Bool.not_true, Bool.not_false, decide_eq_true_eq, decide_true, decide_false, brB_b, slt_hi, slt_lo, slt_m1, sll_hi, sll_lo, mul_t0, mul_t1, Int.reduceLE, Int.reduceToNat, List.take_succ_cons, List.take_zero, List.drop_succ_cons, List.drop_zero, List.take_nil, List.drop_nil, Nat.reduceAdd, e_slHi, e_slLo, e_slLH, Int.reduceAdd, Int.add_zero, Int.mul_one, Int.mul_zero, Int.reduceNeg, List.getElem?_nil, Bool.false_eq_true, Int.reduceLT, Int.reduceEq, and_true, true_and, and_false, false_and, not_true_eq_false, not_false_eq_true, of_ite, map_ite, e_mth, ok_ct, mt_count, h1, h2, h9, e_lc, i_e, itemsOf, pt_lc, List.length_map, if_pos h5, all_bls, all_dec]
    rw [decide_eq_decide.mpr]
    simp only [pThere, if_pos h2]
    exact ⟨fun z => ⟨h1, z⟩, fun z => z.2⟩
  · simp only [B_p_is_there, ss_cons, ss_nil, s_setT', s_set', s_par', s_expr', s_ite', s_ret', s_retN', s_raise', e_var, e_non, e_bl, e_int, e_neg, e_str, e_bin, e_cmp, e_cmp2, e_and, e_or, e_not, e_ite, e_tup, e_lst, e_ix, e_isNon, e_notNon, e_call, e_blt, e_isi, e_rev, s_try', tryO_exc, tryO_nx, tryO_rt, tryO_ite, hs_nil, hs_cons, es_nil, es_cons, List.map_cons, List.map_nil, List.replicate, List.cons_append, List.nil_append, List.append_nil, List.getElem?_cons_zero, List.getElem?_cons_succ, lookV_some, ok_bind, ok_out, stuck_bind, stuck_out, onS_tup, onS_lst, onI_int, setAll, List.set_cons_zero, List.set_cons_succ, nxO_some, nx_then, rt_then, ite_then, exc_then, exc_bind, exc_out, finish_exc, deref_int, deref_bl, deref_str, deref_non, deref_tup, deref_lst, deref_scr, cmp_eq, cmp_ne, cmp_lt, cmp_le, cmp_gt, cmp_ge, Option.map_some, of_some', tru_bl, tru_int, tru_non, tru_tup0, tru_tup1, tru_lst0, tru_lst1, brB_t, brB_f, brB_d, brB_nd, finish_ite, finish_rt, finish_nx, ite_out, ite_bind, List.length_cons, List.length_nil, sz0, sz1, sz2, sz3, sz4, sz5, sz6, sz7, sz8, Nat.reduceAdd, Nat.reduceLeDiff, Nat.zero_le, Nat.zero_add, if_true, if_false, ↓reduceIte, ix_t0, ix_t1, ix_t2, ix_t3, ix_t4, ix_t5, ix_l0, ix_l1, leave_tup, leave_lst, leave_int, leave_bl, leave_str, leave_non, lo_int, lo_bl, lo_str, lo_non, lo_tup, lo_lst, loAll_nil, loAll_cons, loAll_ints, Bool.and_true, Bool.true_and, Bool.and_self, List.take_length, bin_add, bin_sub, int1_d, int1_bl, inn, ini, ins, int', inb, inl', Bool.not_true, Bool.not_false, decide_eq_true_eq, decide_true, decide_false, brB_b, slt_hi, slt_lo, slt_m1, sll_hi, sll_lo, mul_t0, mul_t1, Int.reduceLE, Int.reduceToNat, List.take_succ_cons, List.take_zero, List.drop_succ_cons, List.drop_zero, List.take_nil, List.drop_nil, Nat.reduceAdd, e_slHi, e_slLo, e_slLH, Int.reduceAdd, Int.add_zero, Int.mul_one, Int.mul_zero, Int.reduceNeg, List.getElem?_nil, Bool.false_eq_true, Int.reduceLT, Int.reduceEq, and_true, true_and, and_false, false_and, not_true_eq_false, not_false_eq_true, of_ite, map_ite, e_mth, ok_ct, mt_count, h1, h2, h9, e_lc, i_e, itemsOf, pt_lc, List.length_map, if_pos h4, all_bls, all_dec]
    rw [decide_eq_decide.mpr]
    simp only [pThere, if_neg h2]
    exact ⟨fun z => ⟨h1, z⟩, fun z => z.2⟩
  · simp only [B_p_is_there, ss_cons, ss_nil, s_setT', s_set', s_par', s_expr', s_ite', s_ret', s_retN', s_raise', e_var, e_non, e_bl, e_int, e_neg, e_str, e_bin, e_cmp, e_cmp2, e_and, e_or, e_not, e_ite, e_tup, e_lst, e_ix, e_isNon, e_notNon, e_call, e_blt, e_isi, e_rev, s_try', tryO_exc, tryO_nx, tryO_rt, tryO_ite, hs_nil, hs_cons, es_nil, es_cons, List.map_cons, List.map_nil, List.replicate, List.cons_append, List.nil_append, List.append_nil, List.getElem?_cons_zero, List.getElem?_cons_succ, lookV_some, ok_bind, ok_out, stuck_bind, stuck_out, onS_tup, onS_lst, onI_int, setAll, List.set_cons_zero, List.set_cons_succ, nxO_some, nx_then, rt_then, ite_then, exc_then, exc_bind, exc_out, finish_exc, deref_int, deref_bl, deref_str, deref_non, deref_tup, deref_lst, deref_scr, cmp_eq, cmp_ne, cmp_lt, cmp_le, cmp_gt, cmp_ge, Option.map_some, of_some', tru_bl, tru_int, tru_non, tru_tup0, tru_tup1, tru_lst0, tru_lst1, brB_t, brB_f, brB_d, brB_nd, finish_ite, finish_rt, finish_nx, ite_out, ite_bind, List.length_cons, List.length_nil, sz0, sz1, sz2, sz3, sz4, sz5, sz6, sz7, sz8, Nat.reduceAdd, Nat.reduceLeDiff, Nat.zero_le, Nat.zero_add, if_true, if_false, ↓reduceIte, ix_t0, ix_t1, ix_t2, ix_t3, ix_t4, ix_t5, ix_l0, ix_l1, leave_tup, leave_lst, leave_int, leave_bl, leave_str, leave_non, lo_int, lo_bl, lo_str, lo_non, lo_tup, lo_lst, loAll_nil, loAll_cons, loAll_ints, Bool.and_true, Bool.true_and, Bool.and_self, List.take_length, bin_add, bin_sub, int1_d, int1_bl, inn, ini, ins, int', inb, inl', Bool.not_true, Bool.not_false, decide_eq_true_eq, decide_true, decide_false, brB_b, slt_hi, slt_lo, slt_m1, sll_hi, sll_lo, mul_t0, mul_t1, Int.reduceLE, Int.reduceToNat, List.take_succ_cons, List.take_zero, List.drop_succ_cons, List.drop_zero, List.take_nil, List.drop_nil, Nat.reduceAdd, e_slHi, e_slLo, e_slLH, Int.reduceAdd, Int.add_zero, Int.mul_one, Int.mul_zero, Int.reduceNeg, List.getElem?_nil, Bool.false_eq_true, Int.reduceLT, Int.reduceEq, and_true, true_and, and_false, false_and, not_true_eq_false, not_false_eq_true, of_ite, map_ite, e_mth, ok_ct, mt_count, h1, h2, h9]
    simp [pThere, h1]
  · simp only [B_p_is_there, ss_cons, ss_nil, s_setT', s_set', s_par', s_expr', s_ite', s_ret', s_retN', s_raise', e_var, e_non, e_bl, e_int, e_neg, e_str, e_bin, e_cmp, e_cmp2, e_and, e_or, e_not, e_ite, e_tup, e_lst, e_ix, e_isNon, e_notNon, e_call, e_blt, e_isi, e_rev, s_try', tryO_exc, tryO_nx, tryO_rt, tryO_ite, hs_nil, hs_cons, es_nil, es_cons, List.map_cons, List.map_nil, List.replicate, List.cons_append, List.nil_append, List.append_nil, List.getElem?_cons_zero, List.getElem?_cons_succ, lookV_some, ok_bind, ok_out, stuck_bind, stuck_out, onS_tup, onS_lst, onI_int, setAll, List.set_cons_zero, List.set_cons_succ, nxO_some, nx_then, rt_then, ite_then, exc_then, exc_bind, exc_out, finish_exc, deref_int, deref_bl, deref_str, deref_non, deref_tup, deref_lst, deref_scr, cmp_eq, cmp_ne, cmp_lt, cmp_le, cmp_gt, cmp_ge, Option.map_some, of_some', tru_bl, tru_int, tru_non, tru_tup0, tru_tup1, tru_lst0, tru_lst1, brB_t, brB_f, brB_d, brB_nd, finish_ite, finish_rt, finish_nx, ite_out, ite_bind, List.length_cons, List.length_nil, sz0, sz1, sz2, sz3, sz4, sz5, sz6, sz7, sz8, Nat.reduceAdd, Nat.reduceLeDiff, Nat.zero_le, Nat.zero_add, if_true, if_false, ↓reduceIte, ix_t0, ix_t1, ix_t2, ix_t3, ix_t4, ix_t5, ix_l0, ix_l1, leave_tup, leave_lst, leave_int, leave_bl, leave_str, leave_non, lo_int, lo_bl, lo_str, lo_non, lo_tup, lo_lst, loAll_nil, loAll_cons, loAll_ints, Bool.and_true, Bool.true_and, Bool.and_self, List.take_length, bin_add, bin_sub, int1_d, int1_bl, inn, ini, ins, int', inb, inl', Bool.not_true, Bool.not_false, decide_eq_true_eq, decide_true, decide_false, brB_b, slt_hi, slt_lo, slt_m1, sll_hi, sll_lo, mul_t0, mul_t1, Int.reduceLE, Int.reduceToNat, List.take_succ_cons, List.take_zero, List.drop_succ_cons, List.drop_zero, List.take_nil, List.drop_nil, Nat.reduceAdd, e_slHi, e_slLo, e_slLH, Int.reduceAdd, Int.add_zero, Int.mul_one, Int.mul_zero, Int.reduceNeg, List.getElem?_nil, Bool.false_eq_true, Int.reduceLT, Int.reduceEq, and_true, true_and, and_false, false_and, not_true_eq_false, not_false_eq_true, of_ite, map_ite, e_mth, ok_ct, mt_count, h1, h2, h9]
    simp [pThere, h1]
theorem there_here {p : Pl} {k : Sk} (h0 : 0 ≤ p.reds) (h1 : 2 ≤ p.low) (h2 : 0 ≤ k.first) (h3 : ∀ x ∈ k.pots, 1 ≤ x) : pThere p k ↔ isHere p k := by
  unfold pThere isHere
  constructor
  · rintro ⟨a, b⟩
    have c : ∀ x ∈ k.pots, p.low ≤ x ∨ (x = 1 ∧ 0 < p.reds) := fun x hx => b x (by split <;> simp [hx])
    refine ⟨by omega, fun ⟨z1, z2⟩ => ?_, fun ⟨z1, z2⟩ => ?_, ?_⟩
    · have := b k.first (by rw [if_pos (by omega)]; simp)
      omega
    · have := b k.first (by rw [if_pos (by omega)]; simp)
      omega
    · rw [List.filter_eq_nil_iff]
      intro x hx
      have := c x hx
      simp only [decide_eq_true_eq]
      omega
  · rintro ⟨a, b, c, d⟩
    refine ⟨by omega, fun x hx => ?_⟩
    rw [List.filter_eq_nil_iff] at d
    simp only [decide_eq_true_eq] at d
    have pot : x ∈ k.pots → p.low ≤ x ∨ (x = 1 ∧ 0 < p.reds) := fun hx => by
      have e1 := h3 x hx
      have e2 := d x hx
      by_cases e : x = 1
      · subst e
        have := List.count_pos_iff.mpr hx
        omega
      · omega
    split at hx
    · rcases List.mem_append.mp hx with hx | hx
      · exact pot hx
      · have e := List.mem_singleton.mp hx
        subst e
        by_cases e : k.first = 1 <;> omega
    · exact pot hx
end MP
/-! P5: plain: the law's own walk: moved, begin, led. -/
namespace MP
open PySem
inductive De where
  | give | free | pass | stroke (k : Sk)
def De.d : De → Dt
  | .give => .tup [.str "give"]
  | .free => .tup [.str "free"]
  | .pass => .tup [.str "pass"]
  | .stroke k => .tup (.str "stroke" :: k.ds)
inductive MR where
  | now | over (won a b : Int) | go (p : Pl) (a b : Int)
def MR.d : MR → Dt
  | .now => .str "now"
  | .over w a b => .tup [.non, .int w, .tup [.int a, .int b]]
  | .go p a b => .tup [p.d, .non, .tup [.int a, .int b]]
def mlow (p : Pl) (pots : List Int) (g : Int) : Int := if 0 < g ∧ p.on = p.low ∧ p.on ∈ pots then p.low + 1 else p.low
def mtail (top : Int) (p : Pl) (pots : List Int) (g l a b left : Int) : MR :=
  if p.on = top ∧ (0 < l ∨ 0 < g) then (if a = b then .go ⟨1 - p.up, top, 0, top, a, b, 0⟩ a b else .over (if a < b then 1 else 0) a b)
  else if 0 < g then .go ⟨p.up, if p.on = 1 then 0 else if 0 < left then 1 else mlow p pots g, left, mlow p pots g, a, b, 0⟩ a b
  else .go ⟨1 - p.up, if 0 < left then 1 else mlow p pots g, left, mlow p pots g, a, b, if 0 < l then 1 else 0⟩ a b
theorem minI_one : ∀ {l : List Int}, (∀ x ∈ l, 1 ≤ x) → minI 1 l = 1
  | [], _ => rfl
  | x :: l, h => by
    have := h x List.mem_cons_self
    rw [minI, if_neg (by omega)]
    exact minI_one fun y hy => h y (List.mem_cons_of_mem _ hy)
theorem min_ones {n : Nat} {a : Int} (h : 1 ≤ a) : evBl .min1 [.lst (List.replicate n (.int 1) ++ [.int a])] = some (.int (if 0 < n then 1 else a)) := by
  have e : (List.replicate n (Dt.int 1) ++ [.int a]) = (List.replicate n 1 ++ [a]).map Dt.int := by simp
  rw [e]
  cases n with
  | zero => exact min_ints (l := [])
  | succ n =>
    rw [List.replicate_succ, List.cons_append, min_ints, minI_one, if_pos (by omega)]
    intro x hx
    rcases List.mem_append.mp hx with hx | hx
    · rw [List.eq_of_mem_replicate hx]; omega
    · rw [List.mem_singleton.mp hx]; exact h
theorem moved_tail {F : FT} {R pt : Dt} {first top g l a b left : Int} {off : Bool} {p : Pl} {pots : List Int} {s : Sta} (hlow : 1 ≤ p.low) (h0 : 0 ≤ left) (h1 : left ≤ 1000) :
    finish s.length (evSs F (B_law_moved.drop 8) [some R, some p.d, some (.tup [.str "stroke", .int first, .tup (pots.map .int), .bl off]), some (.int p.up), some (.int p.on), some (.int p.reds), some (.int p.low), some pt, some (.int p.free), some (.int top), some (.int g), some (.int l), some (.tup [.int a, .int b]), some (.int left), none, none, none] s) =
      .ok (mtail top p pots g l a b left).d s := by
  obtain ⟨up, on, reds, low, p0, p1, free⟩ := p
  simp only at hlow
  simp only [mtail, Pl.d]
  by_cases c1 : on = top ∧ (0 < l ∨ 0 < g)
  · rw [if_pos c1]
    obtain ⟨c1, c2⟩ := c1
    subst c1
    by_cases c4 : a = b
    · rw [if_pos c4]
      by_cases c3 : 0 < l
      · simp only [B_law_moved, ss_cons, ss_nil, s_setT', s_set', s_par', s_expr', s_ite', s_ret', s_retN', s_raise', e_var, e_non, e_bl, e_int, e_neg, e_str, e_bin, e_cmp, e_cmp2, e_and, e_or, e_not, e_ite, e_tup, e_lst, e_ix, e_isNon, e_notNon, e_call, e_blt, e_isi, e_rev, s_try', tryO_exc, tryO_nx, tryO_rt, tryO_ite, hs_nil, hs_cons, es_nil, es_cons, List.map_cons, List.map_nil, List.replicate, List.cons_append, List.nil_append, List.append_nil, List.getElem?_cons_zero, List.getElem?_cons_succ, lookV_some, ok_bind, ok_out, stuck_bind, stuck_out, onS_tup, onS_lst, onI_int, setAll, List.set_cons_zero, List.set_cons_succ, nxO_some, nx_then, rt_then, ite_then, exc_then, exc_bind, exc_out, finish_exc, deref_int, deref_bl, deref_str, deref_non, deref_tup, deref_lst, deref_scr, cmp_eq, cmp_ne, cmp_lt, cmp_le, cmp_gt, cmp_ge, Option.map_some, of_some', tru_bl, tru_int, tru_non, tru_tup0, tru_tup1, tru_lst0, tru_lst1, brB_t, brB_f, brB_d, brB_nd, finish_ite, finish_rt, finish_nx, ite_out, ite_bind, List.length_cons, List.length_nil, sz0, sz1, sz2, sz3, sz4, sz5, sz6, sz7, sz8, Nat.reduceAdd, Nat.reduceLeDiff, Nat.zero_le, Nat.zero_add, if_true, if_false, ↓reduceIte, ix_t0, ix_t1, ix_t2, ix_t3, ix_t4, ix_t5, ix_l0, ix_l1, leave_tup, leave_lst, leave_int, leave_bl, leave_str, leave_non, lo_int, lo_bl, lo_str, lo_non, lo_tup, lo_lst, loAll_nil, loAll_cons, loAll_ints, Bool.and_true, Bool.true_and, Bool.and_self, List.take_length, bin_add, bin_sub, int1_d, int1_bl, inn, ini, ins, int', inb, inl', Bool.not_true, Bool.not_false, decide_eq_true_eq, decide_true, decide_false, brB_b, slt_hi, slt_lo, slt_m1, sll_hi, sll_lo, mul_t0, mul_t1, Int.reduceLE, Int.reduceToNat, List.take_succ_cons, List.take_zero, List.drop_succ_cons, List.drop_zero, List.take_nil, List.drop_nil, Nat.reduceAdd, e_slHi, e_slLo, e_slLH, Int.reduceAdd, Int.add_zero, Int.mul_one, Int.mul_zero, Int.reduceNeg, List.getElem?_nil, Bool.false_eq_true, Int.reduceLT, Int.reduceEq, and_true, true_and, and_false, false_and, not_true_eq_false, not_false_eq_true, of_ite, map_ite, c3, c4, MR.d, Pl.d]
      · have c2 := c2.resolve_left c3
        simp only [B_law_moved, ss_cons, ss_nil, s_setT', s_set', s_par', s_expr', s_ite', s_ret', s_retN', s_raise', e_var, e_non, e_bl, e_int, e_neg, e_str, e_bin, e_cmp, e_cmp2, e_and, e_or, e_not, e_ite, e_tup, e_lst, e_ix, e_isNon, e_notNon, e_call, e_blt, e_isi, e_rev, s_try', tryO_exc, tryO_nx, tryO_rt, tryO_ite, hs_nil, hs_cons, es_nil, es_cons, List.map_cons, List.map_nil, List.replicate, List.cons_append, List.nil_append, List.append_nil, List.getElem?_cons_zero, List.getElem?_cons_succ, lookV_some, ok_bind, ok_out, stuck_bind, stuck_out, onS_tup, onS_lst, onI_int, setAll, List.set_cons_zero, List.set_cons_succ, nxO_some, nx_then, rt_then, ite_then, exc_then, exc_bind, exc_out, finish_exc, deref_int, deref_bl, deref_str, deref_non, deref_tup, deref_lst, deref_scr, cmp_eq, cmp_ne, cmp_lt, cmp_le, cmp_gt, cmp_ge, Option.map_some, of_some', tru_bl, tru_int, tru_non, tru_tup0, tru_tup1, tru_lst0, tru_lst1, brB_t, brB_f, brB_d, brB_nd, finish_ite, finish_rt, finish_nx, ite_out, ite_bind, List.length_cons, List.length_nil, sz0, sz1, sz2, sz3, sz4, sz5, sz6, sz7, sz8, Nat.reduceAdd, Nat.reduceLeDiff, Nat.zero_le, Nat.zero_add, if_true, if_false, ↓reduceIte, ix_t0, ix_t1, ix_t2, ix_t3, ix_t4, ix_t5, ix_l0, ix_l1, leave_tup, leave_lst, leave_int, leave_bl, leave_str, leave_non, lo_int, lo_bl, lo_str, lo_non, lo_tup, lo_lst, loAll_nil, loAll_cons, loAll_ints, Bool.and_true, Bool.true_and, Bool.and_self, List.take_length, bin_add, bin_sub, int1_d, int1_bl, inn, ini, ins, int', inb, inl', Bool.not_true, Bool.not_false, decide_eq_true_eq, decide_true, decide_false, brB_b, slt_hi, slt_lo, slt_m1, sll_hi, sll_lo, mul_t0, mul_t1, Int.reduceLE, Int.reduceToNat, List.take_succ_cons, List.take_zero, List.drop_succ_cons, List.drop_zero, List.take_nil, List.drop_nil, Nat.reduceAdd, e_slHi, e_slLo, e_slLH, Int.reduceAdd, Int.add_zero, Int.mul_one, Int.mul_zero, Int.reduceNeg, List.getElem?_nil, Bool.false_eq_true, Int.reduceLT, Int.reduceEq, and_true, true_and, and_false, false_and, not_true_eq_false, not_false_eq_true, of_ite, map_ite, c2, c3, c4, MR.d, Pl.d]
    · rw [if_neg c4]
      by_cases c3 : 0 < l
      · by_cases c5 : a < b <;> simp only [B_law_moved, ss_cons, ss_nil, s_setT', s_set', s_par', s_expr', s_ite', s_ret', s_retN', s_raise', e_var, e_non, e_bl, e_int, e_neg, e_str, e_bin, e_cmp, e_cmp2, e_and, e_or, e_not, e_ite, e_tup, e_lst, e_ix, e_isNon, e_notNon, e_call, e_blt, e_isi, e_rev, s_try', tryO_exc, tryO_nx, tryO_rt, tryO_ite, hs_nil, hs_cons, es_nil, es_cons, List.map_cons, List.map_nil, List.replicate, List.cons_append, List.nil_append, List.append_nil, List.getElem?_cons_zero, List.getElem?_cons_succ, lookV_some, ok_bind, ok_out, stuck_bind, stuck_out, onS_tup, onS_lst, onI_int, setAll, List.set_cons_zero, List.set_cons_succ, nxO_some, nx_then, rt_then, ite_then, exc_then, exc_bind, exc_out, finish_exc, deref_int, deref_bl, deref_str, deref_non, deref_tup, deref_lst, deref_scr, cmp_eq, cmp_ne, cmp_lt, cmp_le, cmp_gt, cmp_ge, Option.map_some, of_some', tru_bl, tru_int, tru_non, tru_tup0, tru_tup1, tru_lst0, tru_lst1, brB_t, brB_f, brB_d, brB_nd, finish_ite, finish_rt, finish_nx, ite_out, ite_bind, List.length_cons, List.length_nil, sz0, sz1, sz2, sz3, sz4, sz5, sz6, sz7, sz8, Nat.reduceAdd, Nat.reduceLeDiff, Nat.zero_le, Nat.zero_add, if_true, if_false, ↓reduceIte, ix_t0, ix_t1, ix_t2, ix_t3, ix_t4, ix_t5, ix_l0, ix_l1, leave_tup, leave_lst, leave_int, leave_bl, leave_str, leave_non, lo_int, lo_bl, lo_str, lo_non, lo_tup, lo_lst, loAll_nil, loAll_cons, loAll_ints, Bool.and_true, Bool.true_and, Bool.and_self, List.take_length, bin_add, bin_sub, int1_d, int1_bl, inn, ini, ins, int', inb, inl', Bool.not_true, Bool.not_false, decide_eq_true_eq, decide_true, decide_false, brB_b, slt_hi, slt_lo, slt_m1, sll_hi, sll_lo, mul_t0, mul_t1, Int.reduceLE, Int.reduceToNat, List.take_succ_cons, List.take_zero, List.drop_succ_cons, List.drop_zero, List.take_nil, List.drop_nil, Nat.reduceAdd, e_slHi, e_slLo, e_slLH, Int.reduceAdd, Int.add_zero, Int.mul_one, Int.mul_zero, Int.reduceNeg, List.getElem?_nil, Bool.false_eq_true, Int.reduceLT, Int.reduceEq, and_true, true_and, and_false, false_and, not_true_eq_false, not_false_eq_true, of_ite, map_ite, c3, c4, c5, MR.d]
      · have c2 := c2.resolve_left c3
        by_cases c5 : a < b <;> simp only [B_law_moved, ss_cons, ss_nil, s_setT', s_set', s_par', s_expr', s_ite', s_ret', s_retN', s_raise', e_var, e_non, e_bl, e_int, e_neg, e_str, e_bin, e_cmp, e_cmp2, e_and, e_or, e_not, e_ite, e_tup, e_lst, e_ix, e_isNon, e_notNon, e_call, e_blt, e_isi, e_rev, s_try', tryO_exc, tryO_nx, tryO_rt, tryO_ite, hs_nil, hs_cons, es_nil, es_cons, List.map_cons, List.map_nil, List.replicate, List.cons_append, List.nil_append, List.append_nil, List.getElem?_cons_zero, List.getElem?_cons_succ, lookV_some, ok_bind, ok_out, stuck_bind, stuck_out, onS_tup, onS_lst, onI_int, setAll, List.set_cons_zero, List.set_cons_succ, nxO_some, nx_then, rt_then, ite_then, exc_then, exc_bind, exc_out, finish_exc, deref_int, deref_bl, deref_str, deref_non, deref_tup, deref_lst, deref_scr, cmp_eq, cmp_ne, cmp_lt, cmp_le, cmp_gt, cmp_ge, Option.map_some, of_some', tru_bl, tru_int, tru_non, tru_tup0, tru_tup1, tru_lst0, tru_lst1, brB_t, brB_f, brB_d, brB_nd, finish_ite, finish_rt, finish_nx, ite_out, ite_bind, List.length_cons, List.length_nil, sz0, sz1, sz2, sz3, sz4, sz5, sz6, sz7, sz8, Nat.reduceAdd, Nat.reduceLeDiff, Nat.zero_le, Nat.zero_add, if_true, if_false, ↓reduceIte, ix_t0, ix_t1, ix_t2, ix_t3, ix_t4, ix_t5, ix_l0, ix_l1, leave_tup, leave_lst, leave_int, leave_bl, leave_str, leave_non, lo_int, lo_bl, lo_str, lo_non, lo_tup, lo_lst, loAll_nil, loAll_cons, loAll_ints, Bool.and_true, Bool.true_and, Bool.and_self, List.take_length, bin_add, bin_sub, int1_d, int1_bl, inn, ini, ins, int', inb, inl', Bool.not_true, Bool.not_false, decide_eq_true_eq, decide_true, decide_false, brB_b, slt_hi, slt_lo, slt_m1, sll_hi, sll_lo, mul_t0, mul_t1, Int.reduceLE, Int.reduceToNat, List.take_succ_cons, List.take_zero, List.drop_succ_cons, List.drop_zero, List.take_nil, List.drop_nil, Nat.reduceAdd, e_slHi, e_slLo, e_slLH, Int.reduceAdd, Int.add_zero, Int.mul_one, Int.mul_zero, Int.reduceNeg, List.getElem?_nil, Bool.false_eq_true, Int.reduceLT, Int.reduceEq, and_true, true_and, and_false, false_and, not_true_eq_false, not_false_eq_true, of_ite, map_ite, c2, c3, c4, c5, MR.d]
  · rw [if_neg c1]
    have hm : evBin .mul (.lst [.int 1]) (.int left) = some (.lst (List.replicate left.toNat (.int 1))) := by rw [mul_ln h1 (by omega) (by simp), rep_one]
    have hlt : left.toNat ≤ 1000 := by omega
    have ha : ∀ x, evBin .add (.lst (List.replicate left.toNat (.int 1))) (.lst [.int x]) = some (.lst (List.replicate left.toNat (.int 1) ++ [.int x])) := fun x => add_ll (by simp; omega)
    have hp : (if 0 < left.toNat then (1 : Int) else low) = if 0 < left then 1 else low := by by_cases z : 0 < left <;> simp [z]
    have hp1 : (if 0 < left.toNat then (1 : Int) else low + 1) = if 0 < left then 1 else low + 1 := by by_cases z : 0 < left <;> simp [z]
    have m0 := min_ones (n := left.toNat) hlow
    have m1 := min_ones (n := left.toNat) (a := low + 1) (by omega)
    rw [hp] at m0
    rw [hp1] at m1
    have c0 : on = top → ¬ 0 < l ∧ ¬ 0 < g := fun z => ⟨fun y => c1 ⟨z, .inl y⟩, fun y => c1 ⟨z, .inr y⟩⟩
    clear c1
    by_cases cg : 0 < g
    · have ct : ¬ on = top := fun z => (c0 z).2 cg
      rw [if_pos cg]
      by_cases cm : on = low
      · by_cases ci : on ∈ pots
        · have e : mlow ⟨up, on, reds, low, p0, p1, free⟩ pots g = low + 1 := if_pos ⟨cg, cm, ci⟩
          rw [e]
          by_cases c1 : on = 1
          · simp only [B_law_moved, ss_cons, ss_nil, s_setT', s_set', s_par', s_expr', s_ite', s_ret', s_retN', s_raise', e_var, e_non, e_bl, e_int, e_neg, e_str, e_bin, e_cmp, e_cmp2, e_and, e_or, e_not, e_ite, e_tup, e_lst, e_ix, e_isNon, e_notNon, e_call, e_blt, e_isi, e_rev, s_try', tryO_exc, tryO_nx, tryO_rt, tryO_ite, hs_nil, hs_cons, es_nil, es_cons, List.map_cons, List.map_nil, List.replicate, List.cons_append, List.nil_append, List.append_nil, List.getElem?_cons_zero, List.getElem?_cons_succ, lookV_some, ok_bind, ok_out, stuck_bind, stuck_out, onS_tup, onS_lst, onI_int, setAll, List.set_cons_zero, List.set_cons_succ, nxO_some, nx_then, rt_then, ite_then, exc_then, exc_bind, exc_out, finish_exc, deref_int, deref_bl, deref_str, deref_non, deref_tup, deref_lst, deref_scr, cmp_eq, cmp_ne, cmp_lt, cmp_le, cmp_gt, cmp_ge, Option.map_some, of_some', tru_bl, tru_int, tru_non, tru_tup0, tru_tup1, tru_lst0, tru_lst1, brB_t, brB_f, brB_d, brB_nd, finish_ite, finish_rt, finish_nx, ite_out, ite_bind, List.length_cons, List.length_nil, sz0, sz1, sz2, sz3, sz4, sz5, sz6, sz7, sz8, Nat.reduceAdd, Nat.reduceLeDiff, Nat.zero_le, Nat.zero_add, if_true, if_false, ↓reduceIte, ix_t0, ix_t1, ix_t2, ix_t3, ix_t4, ix_t5, ix_l0, ix_l1, leave_tup, leave_lst, leave_int, leave_bl, leave_str, leave_non, lo_int, lo_bl, lo_str, lo_non, lo_tup, lo_lst, loAll_nil, loAll_cons, loAll_ints, Bool.and_true, Bool.true_and, Bool.and_self, List.take_length, bin_add, bin_sub, int1_d, int1_bl, inn, ini, ins, int', inb, inl', Bool.not_true, Bool.not_false, decide_eq_true_eq, decide_true, decide_false, brB_b, slt_hi, slt_lo, slt_m1, sll_hi, sll_lo, mul_t0, mul_t1, Int.reduceLE, Int.reduceToNat, List.take_succ_cons, List.take_zero, List.drop_succ_cons, List.drop_zero, List.take_nil, List.drop_nil, Nat.reduceAdd, e_slHi, e_slLo, e_slLH, Int.reduceAdd, Int.add_zero, Int.mul_one, Int.mul_zero, Int.reduceNeg, List.getElem?_nil, Bool.false_eq_true, Int.reduceLT, Int.reduceEq, and_true, true_and, and_false, false_and, not_true_eq_false, not_false_eq_true, of_ite, map_ite, ct, cg, eq_true cm, ci, in_tup, hm, ha, m1, eq_true c1, bin_mulR (show smallI 0 = true by decide), bin_mulR (show smallI 1 = true by decide), MR.d, Pl.d]
          · simp only [B_law_moved, ss_cons, ss_nil, s_setT', s_set', s_par', s_expr', s_ite', s_ret', s_retN', s_raise', e_var, e_non, e_bl, e_int, e_neg, e_str, e_bin, e_cmp, e_cmp2, e_and, e_or, e_not, e_ite, e_tup, e_lst, e_ix, e_isNon, e_notNon, e_call, e_blt, e_isi, e_rev, s_try', tryO_exc, tryO_nx, tryO_rt, tryO_ite, hs_nil, hs_cons, es_nil, es_cons, List.map_cons, List.map_nil, List.replicate, List.cons_append, List.nil_append, List.append_nil, List.getElem?_cons_zero, List.getElem?_cons_succ, lookV_some, ok_bind, ok_out, stuck_bind, stuck_out, onS_tup, onS_lst, onI_int, setAll, List.set_cons_zero, List.set_cons_succ, nxO_some, nx_then, rt_then, ite_then, exc_then, exc_bind, exc_out, finish_exc, deref_int, deref_bl, deref_str, deref_non, deref_tup, deref_lst, deref_scr, cmp_eq, cmp_ne, cmp_lt, cmp_le, cmp_gt, cmp_ge, Option.map_some, of_some', tru_bl, tru_int, tru_non, tru_tup0, tru_tup1, tru_lst0, tru_lst1, brB_t, brB_f, brB_d, brB_nd, finish_ite, finish_rt, finish_nx, ite_out, ite_bind, List.length_cons, List.length_nil, sz0, sz1, sz2, sz3, sz4, sz5, sz6, sz7, sz8, Nat.reduceAdd, Nat.reduceLeDiff, Nat.zero_le, Nat.zero_add, if_true, if_false, ↓reduceIte, ix_t0, ix_t1, ix_t2, ix_t3, ix_t4, ix_t5, ix_l0, ix_l1, leave_tup, leave_lst, leave_int, leave_bl, leave_str, leave_non, lo_int, lo_bl, lo_str, lo_non, lo_tup, lo_lst, loAll_nil, loAll_cons, loAll_ints, Bool.and_true, Bool.true_and, Bool.and_self, List.take_length, bin_add, bin_sub, int1_d, int1_bl, inn, ini, ins, int', inb, inl', Bool.not_true, Bool.not_false, decide_eq_true_eq, decide_true, decide_false, brB_b, slt_hi, slt_lo, slt_m1, sll_hi, sll_lo, mul_t0, mul_t1, Int.reduceLE, Int.reduceToNat, List.take_succ_cons, List.take_zero, List.drop_succ_cons, List.drop_zero, List.take_nil, List.drop_nil, Nat.reduceAdd, e_slHi, e_slLo, e_slLH, Int.reduceAdd, Int.add_zero, Int.mul_one, Int.mul_zero, Int.reduceNeg, List.getElem?_nil, Bool.false_eq_true, Int.reduceLT, Int.reduceEq, and_true, true_and, and_false, false_and, not_true_eq_false, not_false_eq_true, of_ite, map_ite, ct, cg, eq_true cm, ci, in_tup, hm, ha, m1, c1, bin_mulR (show smallI 0 = true by decide), bin_mulR (show smallI 1 = true by decide), MR.d, Pl.d]
        · have e : mlow ⟨up, on, reds, low, p0, p1, free⟩ pots g = low := if_neg fun z => ci z.2.2
          rw [e]
          by_cases c1 : on = 1
          · simp only [B_law_moved, ss_cons, ss_nil, s_setT', s_set', s_par', s_expr', s_ite', s_ret', s_retN', s_raise', e_var, e_non, e_bl, e_int, e_neg, e_str, e_bin, e_cmp, e_cmp2, e_and, e_or, e_not, e_ite, e_tup, e_lst, e_ix, e_isNon, e_notNon, e_call, e_blt, e_isi, e_rev, s_try', tryO_exc, tryO_nx, tryO_rt, tryO_ite, hs_nil, hs_cons, es_nil, es_cons, List.map_cons, List.map_nil, List.replicate, List.cons_append, List.nil_append, List.append_nil, List.getElem?_cons_zero, List.getElem?_cons_succ, lookV_some, ok_bind, ok_out, stuck_bind, stuck_out, onS_tup, onS_lst, onI_int, setAll, List.set_cons_zero, List.set_cons_succ, nxO_some, nx_then, rt_then, ite_then, exc_then, exc_bind, exc_out, finish_exc, deref_int, deref_bl, deref_str, deref_non, deref_tup, deref_lst, deref_scr, cmp_eq, cmp_ne, cmp_lt, cmp_le, cmp_gt, cmp_ge, Option.map_some, of_some', tru_bl, tru_int, tru_non, tru_tup0, tru_tup1, tru_lst0, tru_lst1, brB_t, brB_f, brB_d, brB_nd, finish_ite, finish_rt, finish_nx, ite_out, ite_bind, List.length_cons, List.length_nil, sz0, sz1, sz2, sz3, sz4, sz5, sz6, sz7, sz8, Nat.reduceAdd, Nat.reduceLeDiff, Nat.zero_le, Nat.zero_add, if_true, if_false, ↓reduceIte, ix_t0, ix_t1, ix_t2, ix_t3, ix_t4, ix_t5, ix_l0, ix_l1, leave_tup, leave_lst, leave_int, leave_bl, leave_str, leave_non, lo_int, lo_bl, lo_str, lo_non, lo_tup, lo_lst, loAll_nil, loAll_cons, loAll_ints, Bool.and_true, Bool.true_and, Bool.and_self, List.take_length, bin_add, bin_sub, int1_d, int1_bl, inn, ini, ins, int', inb, inl', Bool.not_true, Bool.not_false, decide_eq_true_eq, decide_true, decide_false, brB_b, slt_hi, slt_lo, slt_m1, sll_hi, sll_lo, mul_t0, mul_t1, Int.reduceLE, Int.reduceToNat, List.take_succ_cons, List.take_zero, List.drop_succ_cons, List.drop_zero, List.take_nil, List.drop_nil, Nat.reduceAdd, e_slHi, e_slLo, e_slLH, Int.reduceAdd, Int.add_zero, Int.mul_one, Int.mul_zero, Int.reduceNeg, List.getElem?_nil, Bool.false_eq_true, Int.reduceLT, Int.reduceEq, and_true, true_and, and_false, false_and, not_true_eq_false, not_false_eq_true, of_ite, map_ite, ct, cg, eq_true cm, ci, in_tup, hm, ha, m0, eq_true c1, bin_mulR (show smallI 0 = true by decide), bin_mulR (show smallI 1 = true by decide), MR.d, Pl.d]
          · simp only [B_law_moved, ss_cons, ss_nil, s_setT', s_set', s_par', s_expr', s_ite', s_ret', s_retN', s_raise', e_var, e_non, e_bl, e_int, e_neg, e_str, e_bin, e_cmp, e_cmp2, e_and, e_or, e_not, e_ite, e_tup, e_lst, e_ix, e_isNon, e_notNon, e_call, e_blt, e_isi, e_rev, s_try', tryO_exc, tryO_nx, tryO_rt, tryO_ite, hs_nil, hs_cons, es_nil, es_cons, List.map_cons, List.map_nil, List.replicate, List.cons_append, List.nil_append, List.append_nil, List.getElem?_cons_zero, List.getElem?_cons_succ, lookV_some, ok_bind, ok_out, stuck_bind, stuck_out, onS_tup, onS_lst, onI_int, setAll, List.set_cons_zero, List.set_cons_succ, nxO_some, nx_then, rt_then, ite_then, exc_then, exc_bind, exc_out, finish_exc, deref_int, deref_bl, deref_str, deref_non, deref_tup, deref_lst, deref_scr, cmp_eq, cmp_ne, cmp_lt, cmp_le, cmp_gt, cmp_ge, Option.map_some, of_some', tru_bl, tru_int, tru_non, tru_tup0, tru_tup1, tru_lst0, tru_lst1, brB_t, brB_f, brB_d, brB_nd, finish_ite, finish_rt, finish_nx, ite_out, ite_bind, List.length_cons, List.length_nil, sz0, sz1, sz2, sz3, sz4, sz5, sz6, sz7, sz8, Nat.reduceAdd, Nat.reduceLeDiff, Nat.zero_le, Nat.zero_add, if_true, if_false, ↓reduceIte, ix_t0, ix_t1, ix_t2, ix_t3, ix_t4, ix_t5, ix_l0, ix_l1, leave_tup, leave_lst, leave_int, leave_bl, leave_str, leave_non, lo_int, lo_bl, lo_str, lo_non, lo_tup, lo_lst, loAll_nil, loAll_cons, loAll_ints, Bool.and_true, Bool.true_and, Bool.and_self, List.take_length, bin_add, bin_sub, int1_d, int1_bl, inn, ini, ins, int', inb, inl', Bool.not_true, Bool.not_false, decide_eq_true_eq, decide_true, decide_false, brB_b, slt_hi, slt_lo, slt_m1, sll_hi, sll_lo, mul_t0, mul_t1, Int.reduceLE, Int.reduceToNat, List.take_succ_cons, List.take_zero, List.drop_succ_cons, List.drop_zero, List.take_nil, List.drop_nil, Nat.reduceAdd, e_slHi, e_slLo, e_slLH, Int.reduceAdd, Int.add_zero, Int.mul_one, Int.mul_zero, Int.reduceNeg, List.getElem?_nil, Bool.false_eq_true, Int.reduceLT, Int.reduceEq, and_true, true_and, and_false, false_and, not_true_eq_false, not_false_eq_true, of_ite, map_ite, ct, cg, eq_true cm, ci, in_tup, hm, ha, m0, c1, bin_mulR (show smallI 0 = true by decide), bin_mulR (show smallI 1 = true by decide), MR.d, Pl.d]
      · have e : mlow ⟨up, on, reds, low, p0, p1, free⟩ pots g = low := if_neg fun z => cm z.2.1
        rw [e]
        by_cases c1 : on = 1
        · simp only [B_law_moved, ss_cons, ss_nil, s_setT', s_set', s_par', s_expr', s_ite', s_ret', s_retN', s_raise', e_var, e_non, e_bl, e_int, e_neg, e_str, e_bin, e_cmp, e_cmp2, e_and, e_or, e_not, e_ite, e_tup, e_lst, e_ix, e_isNon, e_notNon, e_call, e_blt, e_isi, e_rev, s_try', tryO_exc, tryO_nx, tryO_rt, tryO_ite, hs_nil, hs_cons, es_nil, es_cons, List.map_cons, List.map_nil, List.replicate, List.cons_append, List.nil_append, List.append_nil, List.getElem?_cons_zero, List.getElem?_cons_succ, lookV_some, ok_bind, ok_out, stuck_bind, stuck_out, onS_tup, onS_lst, onI_int, setAll, List.set_cons_zero, List.set_cons_succ, nxO_some, nx_then, rt_then, ite_then, exc_then, exc_bind, exc_out, finish_exc, deref_int, deref_bl, deref_str, deref_non, deref_tup, deref_lst, deref_scr, cmp_eq, cmp_ne, cmp_lt, cmp_le, cmp_gt, cmp_ge, Option.map_some, of_some', tru_bl, tru_int, tru_non, tru_tup0, tru_tup1, tru_lst0, tru_lst1, brB_t, brB_f, brB_d, brB_nd, finish_ite, finish_rt, finish_nx, ite_out, ite_bind, List.length_cons, List.length_nil, sz0, sz1, sz2, sz3, sz4, sz5, sz6, sz7, sz8, Nat.reduceAdd, Nat.reduceLeDiff, Nat.zero_le, Nat.zero_add, if_true, if_false, ↓reduceIte, ix_t0, ix_t1, ix_t2, ix_t3, ix_t4, ix_t5, ix_l0, ix_l1, leave_tup, leave_lst, leave_int, leave_bl, leave_str, leave_non, lo_int, lo_bl, lo_str, lo_non, lo_tup, lo_lst, loAll_nil, loAll_cons, loAll_ints, Bool.and_true, Bool.true_and, Bool.and_self, List.take_length, bin_add, bin_sub, int1_d, int1_bl, inn, ini, ins, int', inb, inl', Bool.not_true, Bool.not_false, decide_eq_true_eq, decide_true, decide_false, brB_b, slt_hi, slt_lo, slt_m1, sll_hi, sll_lo, mul_t0, mul_t1, Int.reduceLE, Int.reduceToNat, List.take_succ_cons, List.take_zero, List.drop_succ_cons, List.drop_zero, List.take_nil, List.drop_nil, Nat.reduceAdd, e_slHi, e_slLo, e_slLH, Int.reduceAdd, Int.add_zero, Int.mul_one, Int.mul_zero, Int.reduceNeg, List.getElem?_nil, Bool.false_eq_true, Int.reduceLT, Int.reduceEq, and_true, true_and, and_false, false_and, not_true_eq_false, not_false_eq_true, of_ite, map_ite, ct, cg, cm, in_tup, hm, ha, m0, eq_true c1, bin_mulR (show smallI 0 = true by decide), bin_mulR (show smallI 1 = true by decide), MR.d, Pl.d]
        · simp only [B_law_moved, ss_cons, ss_nil, s_setT', s_set', s_par', s_expr', s_ite', s_ret', s_retN', s_raise', e_var, e_non, e_bl, e_int, e_neg, e_str, e_bin, e_cmp, e_cmp2, e_and, e_or, e_not, e_ite, e_tup, e_lst, e_ix, e_isNon, e_notNon, e_call, e_blt, e_isi, e_rev, s_try', tryO_exc, tryO_nx, tryO_rt, tryO_ite, hs_nil, hs_cons, es_nil, es_cons, List.map_cons, List.map_nil, List.replicate, List.cons_append, List.nil_append, List.append_nil, List.getElem?_cons_zero, List.getElem?_cons_succ, lookV_some, ok_bind, ok_out, stuck_bind, stuck_out, onS_tup, onS_lst, onI_int, setAll, List.set_cons_zero, List.set_cons_succ, nxO_some, nx_then, rt_then, ite_then, exc_then, exc_bind, exc_out, finish_exc, deref_int, deref_bl, deref_str, deref_non, deref_tup, deref_lst, deref_scr, cmp_eq, cmp_ne, cmp_lt, cmp_le, cmp_gt, cmp_ge, Option.map_some, of_some', tru_bl, tru_int, tru_non, tru_tup0, tru_tup1, tru_lst0, tru_lst1, brB_t, brB_f, brB_d, brB_nd, finish_ite, finish_rt, finish_nx, ite_out, ite_bind, List.length_cons, List.length_nil, sz0, sz1, sz2, sz3, sz4, sz5, sz6, sz7, sz8, Nat.reduceAdd, Nat.reduceLeDiff, Nat.zero_le, Nat.zero_add, if_true, if_false, ↓reduceIte, ix_t0, ix_t1, ix_t2, ix_t3, ix_t4, ix_t5, ix_l0, ix_l1, leave_tup, leave_lst, leave_int, leave_bl, leave_str, leave_non, lo_int, lo_bl, lo_str, lo_non, lo_tup, lo_lst, loAll_nil, loAll_cons, loAll_ints, Bool.and_true, Bool.true_and, Bool.and_self, List.take_length, bin_add, bin_sub, int1_d, int1_bl, inn, ini, ins, int', inb, inl', Bool.not_true, Bool.not_false, decide_eq_true_eq, decide_true, decide_false, brB_b, slt_hi, slt_lo, slt_m1, sll_hi, sll_lo, mul_t0, mul_t1, Int.reduceLE, Int.reduceToNat, List.take_succ_cons, List.take_zero, List.drop_succ_cons, List.drop_zero, List.take_nil, List.drop_nil, Nat.reduceAdd, e_slHi, e_slLo, e_slLH, Int.reduceAdd, Int.add_zero, Int.mul_one, Int.mul_zero, Int.reduceNeg, List.getElem?_nil, Bool.false_eq_true, Int.reduceLT, Int.reduceEq, and_true, true_and, and_false, false_and, not_true_eq_false, not_false_eq_true, of_ite, map_ite, ct, cg, cm, in_tup, hm, ha, m0, c1, bin_mulR (show smallI 0 = true by decide), bin_mulR (show smallI 1 = true by decide), MR.d, Pl.d]
    · rw [if_neg cg]
      have e : mlow ⟨up, on, reds, low, p0, p1, free⟩ pots g = low := if_neg fun z => cg z.1
      rw [e]
      by_cases ct : on = top
      · have cl := (c0 ct).1
        simp only [B_law_moved, ss_cons, ss_nil, s_setT', s_set', s_par', s_expr', s_ite', s_ret', s_retN', s_raise', e_var, e_non, e_bl, e_int, e_neg, e_str, e_bin, e_cmp, e_cmp2, e_and, e_or, e_not, e_ite, e_tup, e_lst, e_ix, e_isNon, e_notNon, e_call, e_blt, e_isi, e_rev, s_try', tryO_exc, tryO_nx, tryO_rt, tryO_ite, hs_nil, hs_cons, es_nil, es_cons, List.map_cons, List.map_nil, List.replicate, List.cons_append, List.nil_append, List.append_nil, List.getElem?_cons_zero, List.getElem?_cons_succ, lookV_some, ok_bind, ok_out, stuck_bind, stuck_out, onS_tup, onS_lst, onI_int, setAll, List.set_cons_zero, List.set_cons_succ, nxO_some, nx_then, rt_then, ite_then, exc_then, exc_bind, exc_out, finish_exc, deref_int, deref_bl, deref_str, deref_non, deref_tup, deref_lst, deref_scr, cmp_eq, cmp_ne, cmp_lt, cmp_le, cmp_gt, cmp_ge, Option.map_some, of_some', tru_bl, tru_int, tru_non, tru_tup0, tru_tup1, tru_lst0, tru_lst1, brB_t, brB_f, brB_d, brB_nd, finish_ite, finish_rt, finish_nx, ite_out, ite_bind, List.length_cons, List.length_nil, sz0, sz1, sz2, sz3, sz4, sz5, sz6, sz7, sz8, Nat.reduceAdd, Nat.reduceLeDiff, Nat.zero_le, Nat.zero_add, if_true, if_false, ↓reduceIte, ix_t0, ix_t1, ix_t2, ix_t3, ix_t4, ix_t5, ix_l0, ix_l1, leave_tup, leave_lst, leave_int, leave_bl, leave_str, leave_non, lo_int, lo_bl, lo_str, lo_non, lo_tup, lo_lst, loAll_nil, loAll_cons, loAll_ints, Bool.and_true, Bool.true_and, Bool.and_self, List.take_length, bin_add, bin_sub, int1_d, int1_bl, inn, ini, ins, int', inb, inl', Bool.not_true, Bool.not_false, decide_eq_true_eq, decide_true, decide_false, brB_b, slt_hi, slt_lo, slt_m1, sll_hi, sll_lo, mul_t0, mul_t1, Int.reduceLE, Int.reduceToNat, List.take_succ_cons, List.take_zero, List.drop_succ_cons, List.drop_zero, List.take_nil, List.drop_nil, Nat.reduceAdd, e_slHi, e_slLo, e_slLH, Int.reduceAdd, Int.add_zero, Int.mul_one, Int.mul_zero, Int.reduceNeg, List.getElem?_nil, Bool.false_eq_true, Int.reduceLT, Int.reduceEq, and_true, true_and, and_false, false_and, not_true_eq_false, not_false_eq_true, of_ite, map_ite, eq_true ct, cg, cl, hm, ha, m0, MR.d, Pl.d]
      · by_cases cl : 0 < l <;> simp only [B_law_moved, ss_cons, ss_nil, s_setT', s_set', s_par', s_expr', s_ite', s_ret', s_retN', s_raise', e_var, e_non, e_bl, e_int, e_neg, e_str, e_bin, e_cmp, e_cmp2, e_and, e_or, e_not, e_ite, e_tup, e_lst, e_ix, e_isNon, e_notNon, e_call, e_blt, e_isi, e_rev, s_try', tryO_exc, tryO_nx, tryO_rt, tryO_ite, hs_nil, hs_cons, es_nil, es_cons, List.map_cons, List.map_nil, List.replicate, List.cons_append, List.nil_append, List.append_nil, List.getElem?_cons_zero, List.getElem?_cons_succ, lookV_some, ok_bind, ok_out, stuck_bind, stuck_out, onS_tup, onS_lst, onI_int, setAll, List.set_cons_zero, List.set_cons_succ, nxO_some, nx_then, rt_then, ite_then, exc_then, exc_bind, exc_out, finish_exc, deref_int, deref_bl, deref_str, deref_non, deref_tup, deref_lst, deref_scr, cmp_eq, cmp_ne, cmp_lt, cmp_le, cmp_gt, cmp_ge, Option.map_some, of_some', tru_bl, tru_int, tru_non, tru_tup0, tru_tup1, tru_lst0, tru_lst1, brB_t, brB_f, brB_d, brB_nd, finish_ite, finish_rt, finish_nx, ite_out, ite_bind, List.length_cons, List.length_nil, sz0, sz1, sz2, sz3, sz4, sz5, sz6, sz7, sz8, Nat.reduceAdd, Nat.reduceLeDiff, Nat.zero_le, Nat.zero_add, if_true, if_false, ↓reduceIte, ix_t0, ix_t1, ix_t2, ix_t3, ix_t4, ix_t5, ix_l0, ix_l1, leave_tup, leave_lst, leave_int, leave_bl, leave_str, leave_non, lo_int, lo_bl, lo_str, lo_non, lo_tup, lo_lst, loAll_nil, loAll_cons, loAll_ints, Bool.and_true, Bool.true_and, Bool.and_self, List.take_length, bin_add, bin_sub, int1_d, int1_bl, inn, ini, ins, int', inb, inl', Bool.not_true, Bool.not_false, decide_eq_true_eq, decide_true, decide_false, brB_b, slt_hi, slt_lo, slt_m1, sll_hi, sll_lo, mul_t0, mul_t1, Int.reduceLE, Int.reduceToNat, List.take_succ_cons, List.take_zero, List.drop_succ_cons, List.drop_zero, List.take_nil, List.drop_nil, Nat.reduceAdd, e_slHi, e_slLo, e_slLH, Int.reduceAdd, Int.add_zero, Int.mul_one, Int.mul_zero, Int.reduceNeg, List.getElem?_nil, Bool.false_eq_true, Int.reduceLT, Int.reduceEq, and_true, true_and, and_false, false_and, not_true_eq_false, not_false_eq_true, of_ite, map_ite, ct, cg, cl, hm, ha, m0, MR.d, Pl.d]
/-- behind a deed -/
def moved (C : Int) (p : Pl) : De → MR
  | .give => .over (1 - p.up) p.p0 p.p1
  | .free => if p.free = 1 ∧ ¬ p.on = C + 1 then .go { p with free := 2 } p.p0 p.p1 else .now
  | .pass => if p.free = 1 then .go { p with up := 1 - p.up, free := 0 } p.p0 p.p1 else .now
  | .stroke k => if isHere p k then
      mtail (C + 1) p k.pots (judged p k).1 (judged p k).2 (p.p0 + if p.up = 0 then (judged p k).1 else (judged p k).2) (p.p1 + if p.up = 0 then (judged p k).2 else (judged p k).1) (p.reds - (k.pots.count 1 : Nat))
    else .now
def De.small : De → Prop
  | .stroke k => k.pots.length ≤ 1000
  | _ => True
theorem s_gs : ¬ (Str.ofString "give" = Str.ofString "stroke") := by decide +kernel
theorem s_fg : ¬ (Str.ofString "free" = Str.ofString "give") := by decide +kernel
theorem s_fs : ¬ (Str.ofString "free" = Str.ofString "stroke") := by decide +kernel
theorem s_pg : ¬ (Str.ofString "pass" = Str.ofString "give") := by decide +kernel
theorem s_ps : ¬ (Str.ofString "pass" = Str.ofString "stroke") := by decide +kernel
theorem s_pf : ¬ (Str.ofString "pass" = Str.ofString "free") := by decide +kernel
theorem s_sg : ¬ (Str.ofString "stroke" = Str.ofString "give") := by decide +kernel
end MP
/-! P6: plain: the law's own walk: moved, begin, led. -/
namespace MP
open PySem
theorem ix_u0 {a b : Dt} {up : Int} (h : up = 0) : evIx (.lst [a, b]) (.int up) = some a := by subst h; exact ix_l0
theorem ix_u1 {a b : Dt} {up : Int} (h : up = 1) : evIx (.lst [a, b]) (.int up) = some b := by subst h; exact ix_l1
theorem l_moved {j : Nat} {R C : Int} {p : Pl} {de : De} {s : Sta} (hup : p.up = 0 ∨ p.up = 1) (hlow : 1 ≤ p.low) (hr : p.reds ≤ 1000) (hs : de.small) : FTab fb (j + 3) 21 [Rs R C, p.d, de.d] s = .ok (moved C p de).d s := by
  show FTab fb ((j + 2) + 1) 21 _ s = _
  rw [t_law_moved rfl]
  cases de with
  | give =>
    obtain ⟨up, on, reds, low, p0, p1, free⟩ := p
    simp only [B_law_moved, ss_cons, ss_nil, s_setT', s_set', s_par', s_expr', s_ite', s_ret', s_retN', s_raise', e_var, e_non, e_bl, e_int, e_neg, e_str, e_bin, e_cmp, e_cmp2, e_and, e_or, e_not, e_ite, e_tup, e_lst, e_ix, e_isNon, e_notNon, e_call, e_blt, e_isi, e_rev, s_try', tryO_exc, tryO_nx, tryO_rt, tryO_ite, hs_nil, hs_cons, es_nil, es_cons, List.map_cons, List.map_nil, List.replicate, List.cons_append, List.nil_append, List.append_nil, List.getElem?_cons_zero, List.getElem?_cons_succ, lookV_some, ok_bind, ok_out, stuck_bind, stuck_out, onS_tup, onS_lst, onI_int, setAll, List.set_cons_zero, List.set_cons_succ, nxO_some, nx_then, rt_then, ite_then, exc_then, exc_bind, exc_out, finish_exc, deref_int, deref_bl, deref_str, deref_non, deref_tup, deref_lst, deref_scr, cmp_eq, cmp_ne, cmp_lt, cmp_le, cmp_gt, cmp_ge, Option.map_some, of_some', tru_bl, tru_int, tru_non, tru_tup0, tru_tup1, tru_lst0, tru_lst1, brB_t, brB_f, brB_d, brB_nd, finish_ite, finish_rt, finish_nx, ite_out, ite_bind, List.length_cons, List.length_nil, sz0, sz1, sz2, sz3, sz4, sz5, sz6, sz7, sz8, Nat.reduceAdd, Nat.reduceLeDiff, Nat.zero_le, Nat.zero_add, if_true, if_false, ↓reduceIte, ix_t0, ix_t1, ix_t2, ix_t3, ix_t4, ix_t5, ix_l0, ix_l1, leave_tup, leave_lst, leave_int, leave_bl, leave_str, leave_non, lo_int, lo_bl, lo_str, lo_non, lo_tup, lo_lst, loAll_nil, loAll_cons, loAll_ints, Bool.and_true, Bool.true_and, Bool.and_self, List.take_length, bin_add, bin_sub, int1_d, int1_bl, inn, ini, ins, int', inb, inl', Bool.not_true, Bool.not_false, decide_eq_true_eq, decide_true, decide_false, brB_b, slt_hi, slt_lo, slt_m1, sll_hi, sll_lo, mul_t0, mul_t1, Int.reduceLE, Int.reduceToNat, List.take_succ_cons, List.take_zero, List.drop_succ_cons, List.drop_zero, List.take_nil, List.drop_nil, Nat.reduceAdd, e_slHi, e_slLo, e_slLH, Int.reduceAdd, Int.add_zero, Int.mul_one, Int.mul_zero, Int.reduceNeg, List.getElem?_nil, Bool.false_eq_true, Int.reduceLT, Int.reduceEq, and_true, true_and, and_false, false_and, not_true_eq_false, not_false_eq_true, of_ite, map_ite, Rs, Pl.d, De.d, eq_str, moved, MR.d]
  | free =>
    obtain ⟨up, on, reds, low, p0, p1, free⟩ := p
    by_cases c1 : free = 1 <;> by_cases c2 : on = C + 1 <;> simp only [B_law_moved, ss_cons, ss_nil, s_setT', s_set', s_par', s_expr', s_ite', s_ret', s_retN', s_raise', e_var, e_non, e_bl, e_int, e_neg, e_str, e_bin, e_cmp, e_cmp2, e_and, e_or, e_not, e_ite, e_tup, e_lst, e_ix, e_isNon, e_notNon, e_call, e_blt, e_isi, e_rev, s_try', tryO_exc, tryO_nx, tryO_rt, tryO_ite, hs_nil, hs_cons, es_nil, es_cons, List.map_cons, List.map_nil, List.replicate, List.cons_append, List.nil_append, List.append_nil, List.getElem?_cons_zero, List.getElem?_cons_succ, lookV_some, ok_bind, ok_out, stuck_bind, stuck_out, onS_tup, onS_lst, onI_int, setAll, List.set_cons_zero, List.set_cons_succ, nxO_some, nx_then, rt_then, ite_then, exc_then, exc_bind, exc_out, finish_exc, deref_int, deref_bl, deref_str, deref_non, deref_tup, deref_lst, deref_scr, cmp_eq, cmp_ne, cmp_lt, cmp_le, cmp_gt, cmp_ge, Option.map_some, of_some', tru_bl, tru_int, tru_non, tru_tup0, tru_tup1, tru_lst0, tru_lst1, brB_t, brB_f, brB_d, brB_nd, finish_ite, finish_rt, finish_nx, ite_out, ite_bind, List.length_cons, List.length_nil, sz0, sz1, sz2, sz3, sz4, sz5, sz6, sz7, sz8, Nat.reduceAdd, Nat.reduceLeDiff, Nat.zero_le, Nat.zero_add, if_true, if_false, ↓reduceIte, ix_t0, ix_t1, ix_t2, ix_t3, ix_t4, ix_t5, ix_l0, ix_l1, leave_tup, leave_lst, leave_int, leave_bl, leave_str, leave_non, lo_int, lo_bl, lo_str, lo_non, lo_tup, lo_lst, loAll_nil, loAll_cons, loAll_ints, Bool.and_true, Bool.true_and, Bool.and_self, List.take_length, bin_add, bin_sub, int1_d, int1_bl, inn, ini, ins, int', inb, inl', Bool.not_true, Bool.not_false, decide_eq_true_eq, decide_true, decide_false, brB_b, slt_hi, slt_lo, slt_m1, sll_hi, sll_lo, mul_t0, mul_t1, Int.reduceLE, Int.reduceToNat, List.take_succ_cons, List.take_zero, List.drop_succ_cons, List.drop_zero, List.take_nil, List.drop_nil, Nat.reduceAdd, e_slHi, e_slLo, e_slLH, Int.reduceAdd, Int.add_zero, Int.mul_one, Int.mul_zero, Int.reduceNeg, List.getElem?_nil, Bool.false_eq_true, Int.reduceLT, Int.reduceEq, and_true, true_and, and_false, false_and, not_true_eq_false, not_false_eq_true, of_ite, map_ite, Rs, Pl.d, De.d, eq_str, ne_str, s_fg, s_fs, moved, MR.d, eq_true c1, eq_true c2, c1, c2]
  | pass =>
    obtain ⟨up, on, reds, low, p0, p1, free⟩ := p
    by_cases c1 : free = 1 <;> simp only [B_law_moved, ss_cons, ss_nil, s_setT', s_set', s_par', s_expr', s_ite', s_ret', s_retN', s_raise', e_var, e_non, e_bl, e_int, e_neg, e_str, e_bin, e_cmp, e_cmp2, e_and, e_or, e_not, e_ite, e_tup, e_lst, e_ix, e_isNon, e_notNon, e_call, e_blt, e_isi, e_rev, s_try', tryO_exc, tryO_nx, tryO_rt, tryO_ite, hs_nil, hs_cons, es_nil, es_cons, List.map_cons, List.map_nil, List.replicate, List.cons_append, List.nil_append, List.append_nil, List.getElem?_cons_zero, List.getElem?_cons_succ, lookV_some, ok_bind, ok_out, stuck_bind, stuck_out, onS_tup, onS_lst, onI_int, setAll, List.set_cons_zero, List.set_cons_succ, nxO_some, nx_then, rt_then, ite_then, exc_then, exc_bind, exc_out, finish_exc, deref_int, deref_bl, deref_str, deref_non, deref_tup, deref_lst, deref_scr, cmp_eq, cmp_ne, cmp_lt, cmp_le, cmp_gt, cmp_ge, Option.map_some, of_some', tru_bl, tru_int, tru_non, tru_tup0, tru_tup1, tru_lst0, tru_lst1, brB_t, brB_f, brB_d, brB_nd, finish_ite, finish_rt, finish_nx, ite_out, ite_bind, List.length_cons, List.length_nil, sz0, sz1, sz2, sz3, sz4, sz5, sz6, sz7, sz8, Nat.reduceAdd, Nat.reduceLeDiff, Nat.zero_le, Nat.zero_add, if_true, if_false, ↓reduceIte, ix_t0, ix_t1, ix_t2, ix_t3, ix_t4, ix_t5, ix_l0, ix_l1, leave_tup, leave_lst, leave_int, leave_bl, leave_str, leave_non, lo_int, lo_bl, lo_str, lo_non, lo_tup, lo_lst, loAll_nil, loAll_cons, loAll_ints, Bool.and_true, Bool.true_and, Bool.and_self, List.take_length, bin_add, bin_sub, int1_d, int1_bl, inn, ini, ins, int', inb, inl', Bool.not_true, Bool.not_false, decide_eq_true_eq, decide_true, decide_false, brB_b, slt_hi, slt_lo, slt_m1, sll_hi, sll_lo, mul_t0, mul_t1, Int.reduceLE, Int.reduceToNat, List.take_succ_cons, List.take_zero, List.drop_succ_cons, List.drop_zero, List.take_nil, List.drop_nil, Nat.reduceAdd, e_slHi, e_slLo, e_slLH, Int.reduceAdd, Int.add_zero, Int.mul_one, Int.mul_zero, Int.reduceNeg, List.getElem?_nil, Bool.false_eq_true, Int.reduceLT, Int.reduceEq, and_true, true_and, and_false, false_and, not_true_eq_false, not_false_eq_true, of_ite, map_ite, Rs, Pl.d, De.d, eq_str, ne_str, s_pg, s_ps, s_pf, moved, MR.d, eq_true c1, c1]
  | stroke k =>
    have hh := l_is_here (j := j + 1) (p := p) (k := k) (s := s) hs
    by_cases hi : isHere p k
    · have hj := l_judged (j := j) (p := p) (k := k) (s := s) hs
      have hcnt : (k.pots.count 1 : Int) ≤ p.reds := by have := hi.1; omega
      simp only [moved, if_pos hi]
      rw [decide_eq_true hi] at hh
      generalize (judged p k).1 = g at hj
      generalize (judged p k).2 = l at hj
      have split : evSs (FTab fb (j + 2)) B_law_moved ([Rs R C, p.d, (De.stroke k).d].map some ++ List.replicate 14 none) s = (evSs (FTab fb (j + 2)) (B_law_moved.take 8) ([Rs R C, p.d, (De.stroke k).d].map some ++ List.replicate 14 none) s).andThen fun ρ s => evSs (FTab fb (j + 2)) (B_law_moved.drop 8) ρ s := by
        rw [← ss_app]; rfl
      have pre : ∃ pt, evSs (FTab fb (j + 2)) (B_law_moved.take 8) ([Rs R C, p.d, (De.stroke k).d].map some ++ List.replicate 14 none) s = .nx [some (Rs R C), some p.d, some (.tup [.str "stroke", .int k.first, .tup (k.pots.map .int), .bl k.off]), some (.int p.up), some (.int p.on), some (.int p.reds), some (.int p.low), some pt, some (.int p.free), some (.int (C + 1)), some (.int g), some (.int l), some (.tup [.int (p.p0 + if p.up = 0 then g else l), .int (p.p1 + if p.up = 0 then l else g)]), some (.int (p.reds - (k.pots.count 1 : Nat))), none, none, none] s := by
        obtain ⟨up, on, reds, low, p0, p1, free⟩ := p
        obtain ⟨first, pots, off⟩ := k
        simp only [Pl.d, Sk.ds] at hh hj
        refine ⟨.tup [.int p0, .int p1], ?_⟩
        rcases hup with c | c <;> simp only at c
        · subst c
          simp only [B_law_moved, ss_cons, ss_nil, s_setT', s_set', s_par', s_expr', s_ite', s_ret', s_retN', s_raise', e_var, e_non, e_bl, e_int, e_neg, e_str, e_bin, e_cmp, e_cmp2, e_and, e_or, e_not, e_ite, e_tup, e_lst, e_ix, e_isNon, e_notNon, e_call, e_blt, e_isi, e_rev, s_try', tryO_exc, tryO_nx, tryO_rt, tryO_ite, hs_nil, hs_cons, es_nil, es_cons, List.map_cons, List.map_nil, List.replicate, List.cons_append, List.nil_append, List.append_nil, List.getElem?_cons_zero, List.getElem?_cons_succ, lookV_some, ok_bind, ok_out, stuck_bind, stuck_out, onS_tup, onS_lst, onI_int, setAll, List.set_cons_zero, List.set_cons_succ, nxO_some, nx_then, rt_then, ite_then, exc_then, exc_bind, exc_out, finish_exc, deref_int, deref_bl, deref_str, deref_non, deref_tup, deref_lst, deref_scr, cmp_eq, cmp_ne, cmp_lt, cmp_le, cmp_gt, cmp_ge, Option.map_some, of_some', tru_bl, tru_int, tru_non, tru_tup0, tru_tup1, tru_lst0, tru_lst1, brB_t, brB_f, brB_d, brB_nd, finish_ite, finish_rt, finish_nx, ite_out, ite_bind, List.length_cons, List.length_nil, sz0, sz1, sz2, sz3, sz4, sz5, sz6, sz7, sz8, Nat.reduceAdd, Nat.reduceLeDiff, Nat.zero_le, Nat.zero_add, if_true, if_false, ↓reduceIte, ix_t0, ix_t1, ix_t2, ix_t3, ix_t4, ix_t5, ix_l0, ix_l1, leave_tup, leave_lst, leave_int, leave_bl, leave_str, leave_non, lo_int, lo_bl, lo_str, lo_non, lo_tup, lo_lst, loAll_nil, loAll_cons, loAll_ints, Bool.and_true, Bool.true_and, Bool.and_self, List.take_length, bin_add, bin_sub, int1_d, int1_bl, inn, ini, ins, int', inb, inl', Bool.not_true, Bool.not_false, decide_eq_true_eq, decide_true, decide_false, brB_b, slt_hi, slt_lo, slt_m1, sll_hi, sll_lo, mul_t0, mul_t1, Int.reduceLE, Int.reduceToNat, List.take_succ_cons, List.take_zero, List.drop_succ_cons, List.drop_zero, List.take_nil, List.drop_nil, Nat.reduceAdd, e_slHi, e_slLo, e_slLH, Int.reduceAdd, Int.add_zero, Int.mul_one, Int.mul_zero, Int.reduceNeg, List.getElem?_nil, Bool.false_eq_true, Int.reduceLT, Int.reduceEq, and_true, true_and, and_false, false_and, not_true_eq_false, not_false_eq_true, of_ite, map_ite, Rs, Pl.d, De.d, Sk.ds, eq_str, ne_str, s_sg, hh, hj, e_mth, ok_ct, mt_count]
        · subst c
          simp only [B_law_moved, ss_cons, ss_nil, s_setT', s_set', s_par', s_expr', s_ite', s_ret', s_retN', s_raise', e_var, e_non, e_bl, e_int, e_neg, e_str, e_bin, e_cmp, e_cmp2, e_and, e_or, e_not, e_ite, e_tup, e_lst, e_ix, e_isNon, e_notNon, e_call, e_blt, e_isi, e_rev, s_try', tryO_exc, tryO_nx, tryO_rt, tryO_ite, hs_nil, hs_cons, es_nil, es_cons, List.map_cons, List.map_nil, List.replicate, List.cons_append, List.nil_append, List.append_nil, List.getElem?_cons_zero, List.getElem?_cons_succ, lookV_some, ok_bind, ok_out, stuck_bind, stuck_out, onS_tup, onS_lst, onI_int, setAll, List.set_cons_zero, List.set_cons_succ, nxO_some, nx_then, rt_then, ite_then, exc_then, exc_bind, exc_out, finish_exc, deref_int, deref_bl, deref_str, deref_non, deref_tup, deref_lst, deref_scr, cmp_eq, cmp_ne, cmp_lt, cmp_le, cmp_gt, cmp_ge, Option.map_some, of_some', tru_bl, tru_int, tru_non, tru_tup0, tru_tup1, tru_lst0, tru_lst1, brB_t, brB_f, brB_d, brB_nd, finish_ite, finish_rt, finish_nx, ite_out, ite_bind, List.length_cons, List.length_nil, sz0, sz1, sz2, sz3, sz4, sz5, sz6, sz7, sz8, Nat.reduceAdd, Nat.reduceLeDiff, Nat.zero_le, Nat.zero_add, if_true, if_false, ↓reduceIte, ix_t0, ix_t1, ix_t2, ix_t3, ix_t4, ix_t5, ix_l0, ix_l1, leave_tup, leave_lst, leave_int, leave_bl, leave_str, leave_non, lo_int, lo_bl, lo_str, lo_non, lo_tup, lo_lst, loAll_nil, loAll_cons, loAll_ints, Bool.and_true, Bool.true_and, Bool.and_self, List.take_length, bin_add, bin_sub, int1_d, int1_bl, inn, ini, ins, int', inb, inl', Bool.not_true, Bool.not_false, decide_eq_true_eq, decide_true, decide_false, brB_b, slt_hi, slt_lo, slt_m1, sll_hi, sll_lo, mul_t0, mul_t1, Int.reduceLE, Int.reduceToNat, List.take_succ_cons, List.take_zero, List.drop_succ_cons, List.drop_zero, List.take_nil, List.drop_nil, Nat.reduceAdd, e_slHi, e_slLo, e_slLH, Int.reduceAdd, Int.add_zero, Int.mul_one, Int.mul_zero, Int.reduceNeg, List.getElem?_nil, Bool.false_eq_true, Int.reduceLT, Int.reduceEq, and_true, true_and, and_false, false_and, not_true_eq_false, not_false_eq_true, of_ite, map_ite, Rs, Pl.d, De.d, Sk.ds, eq_str, ne_str, s_sg, hh, hj, e_mth, ok_ct, mt_count]
      obtain ⟨pt, pre⟩ := pre
      rw [split, pre, nx_then]
      exact moved_tail hlow (by omega) (by have : (0 : Int) ≤ (k.pots.count 1 : Nat) := Int.natCast_nonneg _; omega)
    · rw [decide_eq_false hi] at hh
      simp only [moved, if_neg hi, MR.d]
      obtain ⟨up, on, reds, low, p0, p1, free⟩ := p
      obtain ⟨first, pots, off⟩ := k
      simp only [Pl.d, Sk.ds] at hh
      simp only [B_law_moved, ss_cons, ss_nil, s_setT', s_set', s_par', s_expr', s_ite', s_ret', s_retN', s_raise', e_var, e_non, e_bl, e_int, e_neg, e_str, e_bin, e_cmp, e_cmp2, e_and, e_or, e_not, e_ite, e_tup, e_lst, e_ix, e_isNon, e_notNon, e_call, e_blt, e_isi, e_rev, s_try', tryO_exc, tryO_nx, tryO_rt, tryO_ite, hs_nil, hs_cons, es_nil, es_cons, List.map_cons, List.map_nil, List.replicate, List.cons_append, List.nil_append, List.append_nil, List.getElem?_cons_zero, List.getElem?_cons_succ, lookV_some, ok_bind, ok_out, stuck_bind, stuck_out, onS_tup, onS_lst, onI_int, setAll, List.set_cons_zero, List.set_cons_succ, nxO_some, nx_then, rt_then, ite_then, exc_then, exc_bind, exc_out, finish_exc, deref_int, deref_bl, deref_str, deref_non, deref_tup, deref_lst, deref_scr, cmp_eq, cmp_ne, cmp_lt, cmp_le, cmp_gt, cmp_ge, Option.map_some, of_some', tru_bl, tru_int, tru_non, tru_tup0, tru_tup1, tru_lst0, tru_lst1, brB_t, brB_f, brB_d, brB_nd, finish_ite, finish_rt, finish_nx, ite_out, ite_bind, List.length_cons, List.length_nil, sz0, sz1, sz2, sz3, sz4, sz5, sz6, sz7, sz8, Nat.reduceAdd, Nat.reduceLeDiff, Nat.zero_le, Nat.zero_add, if_true, if_false, ↓reduceIte, ix_t0, ix_t1, ix_t2, ix_t3, ix_t4, ix_t5, ix_l0, ix_l1, leave_tup, leave_lst, leave_int, leave_bl, leave_str, leave_non, lo_int, lo_bl, lo_str, lo_non, lo_tup, lo_lst, loAll_nil, loAll_cons, loAll_ints, Bool.and_true, Bool.true_and, Bool.and_self, List.take_length, bin_add, bin_sub, int1_d, int1_bl, inn, ini, ins, int', inb, inl', Bool.not_true, Bool.not_false, decide_eq_true_eq, decide_true, decide_false, brB_b, slt_hi, slt_lo, slt_m1, sll_hi, sll_lo, mul_t0, mul_t1, Int.reduceLE, Int.reduceToNat, List.take_succ_cons, List.take_zero, List.drop_succ_cons, List.drop_zero, List.take_nil, List.drop_nil, Nat.reduceAdd, e_slHi, e_slLo, e_slLH, Int.reduceAdd, Int.add_zero, Int.mul_one, Int.mul_zero, Int.reduceNeg, List.getElem?_nil, Bool.false_eq_true, Int.reduceLT, Int.reduceEq, and_true, true_and, and_false, false_and, not_true_eq_false, not_false_eq_true, of_ite, map_ite, Rs, Pl.d, De.d, Sk.ds, eq_str, ne_str, s_sg, hh]
end MP
/-! P7: plain: places that come; frames gone through. -/
namespace MP
open PySem
structure Good (R C : Int) (p : Pl) : Prop where
  up : p.up = 0 ∨ p.up = 1
  r0 : 0 ≤ p.reds
  rR : p.reds ≤ R
  l2 : 2 ≤ p.low
  lT : p.low ≤ C + 1
  on : p.on = 0 ∨ (p.on = 1 ∧ 0 < p.reds) ∨ (p.on = p.low ∧ p.reds = 0)
  lr : 0 < p.reds → p.low = 2
  l0 : p.on = 0 → p.low = 2
  fr : p.free = 0 ∨ p.free = 1 ∨ p.free = 2
def stt (R player : Int) : Pl := ⟨player, 1, R, 2, 0, 0, 0⟩
theorem stt_good {R C pl : Int} (hp : pl = 0 ∨ pl = 1) (hR : 1 ≤ R) (hC : 1 ≤ C) : Good R C (stt R pl) := by
  exact ⟨hp, show 0 ≤ R by omega, show R ≤ R by omega, show (2 : Int) ≤ 2 by omega, show 2 ≤ C + 1 by omega, .inr (.inl ⟨rfl, show 0 < R by omega⟩), fun _ => rfl, fun _ => rfl, .inl rfl⟩
theorem mtail_good {R C : Int} {p : Pl} {pots : List Int} {g l a b left a' b' : Int} {q : Pl} (G : Good R C p) (h0 : 0 ≤ left) (h1 : left ≤ p.reds) (hC : 1 ≤ C) (h : mtail (C + 1) p pots g l a b left = .go q a' b') : Good R C q := by
  obtain ⟨up, r0, rR, l2, lT, on, lr, l0, fr⟩ := G
  unfold mtail at h
  have hm : mlow p pots g = p.low ∨ (mlow p pots g = p.low + 1 ∧ 0 < g ∧ p.on = p.low) := by
    unfold mlow
    split
    · rename_i z; exact .inr ⟨rfl, z.1, z.2.1⟩
    · exact .inl rfl
  generalize mlow p pots g = m at h hm
  split at h
  · split at h
    · cases h
      exact ⟨show 1 - p.up = 0 ∨ 1 - p.up = 1 by omega, show (0 : Int) ≤ 0 by omega, show 0 ≤ R by omega, show 2 ≤ C + 1 by omega, show C + 1 ≤ C + 1 by omega, .inr (.inr ⟨rfl, rfl⟩), fun z => absurd (show (0 : Int) < 0 from z) (by omega), fun z => absurd (show C + 1 = 0 from z) (by omega), .inl rfl⟩
    · cases h
  · rename_i hn
    split at h
    · rename_i hg
      have hn' : ¬ p.on = C + 1 := fun z => hn ⟨z, .inr hg⟩
      cases h
      constructor <;> simp only
      · exact up
      · omega
      · omega
      · omega
      · omega
      · by_cases z1 : p.on = 1
        · rw [if_pos z1]; exact .inl rfl
        · rw [if_neg z1]
          by_cases z2 : 0 < left
          · rw [if_pos z2]; exact .inr (.inl ⟨rfl, z2⟩)
          · rw [if_neg z2]; exact .inr (.inr ⟨rfl, by omega⟩)
      · intros; omega
      · by_cases z1 : p.on = 1
        · intro _; omega
        · rw [if_neg z1]
          by_cases z2 : 0 < left
          · rw [if_pos z2]; intro z; omega
          · rw [if_neg z2]; intro z; omega
      · simp
    · rename_i hg
      have hm : m = p.low := by omega
      cases h
      constructor <;> simp only
      · omega
      · omega
      · omega
      · omega
      · omega
      · by_cases z2 : 0 < left
        · rw [if_pos z2]; exact .inr (.inl ⟨rfl, z2⟩)
        · rw [if_neg z2]; exact .inr (.inr ⟨rfl, by omega⟩)
      · intros; omega
      · split <;> intros <;> omega
      · split <;> omega
theorem moved_good {R C : Int} {p q : Pl} {de : De} {a b : Int} (G : Good R C p) (hC : 1 ≤ C) (h : moved C p de = .go q a b) : Good R C q := by
  cases de with
  | give => simp [moved] at h
  | free =>
    simp only [moved] at h
    split at h
    · cases h
      obtain ⟨up, r0, rR, l2, lT, on, lr, l0, fr⟩ := G
      exact ⟨up, r0, rR, l2, lT, on, lr, l0, .inr (.inr rfl)⟩
    · cases h
  | pass =>
    simp only [moved] at h
    split at h
    · cases h
      obtain ⟨up, r0, rR, l2, lT, on, lr, l0, fr⟩ := G
      exact ⟨by simp only; omega, r0, rR, l2, lT, on, lr, l0, .inl rfl⟩
    · cases h
  | stroke k =>
    simp only [moved] at h
    split at h
    · rename_i hi
      have := hi.1
      exact mtail_good G (by omega) (by have : (0 : Int) ≤ (k.pots.count 1 : Nat) := Int.natCast_nonneg _; omega) hC h
    · cases h
theorem l_begin {j : Nat} {R C pl : Int} {s : Sta} : FTab fb (j + 1) 22 [Rs R C, .int pl] s = .ok (MR.go (stt R pl) 0 0).d s := by
  rw [t_law_begin rfl]
  simp only [B_law_begin, ss_cons, ss_nil, s_setT', s_set', s_par', s_expr', s_ite', s_ret', s_retN', s_raise', e_var, e_non, e_bl, e_int, e_neg, e_str, e_bin, e_cmp, e_cmp2, e_and, e_or, e_not, e_ite, e_tup, e_lst, e_ix, e_isNon, e_notNon, e_call, e_blt, e_isi, e_rev, s_try', tryO_exc, tryO_nx, tryO_rt, tryO_ite, hs_nil, hs_cons, es_nil, es_cons, List.map_cons, List.map_nil, List.replicate, List.cons_append, List.nil_append, List.append_nil, List.getElem?_cons_zero, List.getElem?_cons_succ, lookV_some, ok_bind, ok_out, stuck_bind, stuck_out, onS_tup, onS_lst, onI_int, setAll, List.set_cons_zero, List.set_cons_succ, nxO_some, nx_then, rt_then, ite_then, exc_then, exc_bind, exc_out, finish_exc, deref_int, deref_bl, deref_str, deref_non, deref_tup, deref_lst, deref_scr, cmp_eq, cmp_ne, cmp_lt, cmp_le, cmp_gt, cmp_ge, Option.map_some, of_some', tru_bl, tru_int, tru_non, tru_tup0, tru_tup1, tru_lst0, tru_lst1, brB_t, brB_f, brB_d, brB_nd, finish_ite, finish_rt, finish_nx, ite_out, ite_bind, List.length_cons, List.length_nil, sz0, sz1, sz2, sz3, sz4, sz5, sz6, sz7, sz8, Nat.reduceAdd, Nat.reduceLeDiff, Nat.zero_le, Nat.zero_add, if_true, if_false, ↓reduceIte, ix_t0, ix_t1, ix_t2, ix_t3, ix_t4, ix_t5, ix_l0, ix_l1, leave_tup, leave_lst, leave_int, leave_bl, leave_str, leave_non, lo_int, lo_bl, lo_str, lo_non, lo_tup, lo_lst, loAll_nil, loAll_cons, loAll_ints, Bool.and_true, Bool.true_and, Bool.and_self, List.take_length, bin_add, bin_sub, int1_d, int1_bl, inn, ini, ins, int', inb, inl', Bool.not_true, Bool.not_false, decide_eq_true_eq, decide_true, decide_false, brB_b, slt_hi, slt_lo, slt_m1, sll_hi, sll_lo, mul_t0, mul_t1, Int.reduceLE, Int.reduceToNat, List.take_succ_cons, List.take_zero, List.drop_succ_cons, List.drop_zero, List.take_nil, List.drop_nil, Nat.reduceAdd, e_slHi, e_slLo, e_slLH, Int.reduceAdd, Int.add_zero, Int.mul_one, Int.mul_zero, Int.reduceNeg, List.getElem?_nil, Bool.false_eq_true, Int.reduceLT, Int.reduceEq, and_true, true_and, and_false, false_and, not_true_eq_false, not_false_eq_true, of_ite, map_ite, Rs, MR.d, Pl.d, stt]
/-- behind all deeds -/
def ledR (C : Int) : MR → List De → Option MR
  | m, [] => some m
  | .go p _ _, d :: ds => ledR C (moved C p d) ds
  | _, _ :: _ => none
def MR.good (R C : Int) : MR → Prop
  | .go p _ _ => Good R C p
  | _ => True
theorem items_tup {l : List Dt} : itemsOf (.tup l) = some l := rfl
theorem ix_go {p : Pl} {a b : Int} : evIx (MR.go p a b).d (.int 0) = some p.d := ix_t0
theorem deref_go {s : Sta} {p : Pl} {a b : Int} : deref s (MR.go p a b).d = (MR.go p a b).d := rfl
theorem deref_pl {s : Sta} {p : Pl} : deref s p.d = p.d := rfl
theorem l_led {j : Nat} {R C pl : Int} {ds : List De} {m : MR} {s : Sta} (hp : pl = 0 ∨ pl = 1) (hR : 1 ≤ R) (hR2 : R ≤ 1000) (hC : 1 ≤ C) (hs : ∀ d ∈ ds, d.small) (h : ledR C (.go (stt R pl) 0 0) ds = some m) :
    FTab fb (j + 4) 23 [Rs R C, .tup [.int pl, .tup (ds.map De.d)]] s = .ok m.d s := by
  show FTab fb ((j + 3) + 1) 23 _ s = _
  rw [t_law_led rfl]
  have hb := l_begin (j := j + 2) (R := R) (C := C) (pl := pl) (s := s)
  have go : ∀ (ds : List De) (m0 : MR) (f x : Option Dt), (∀ d ∈ ds, d.small) → m0.good R C → ledR C m0 ds = some m →
      ∃ y, forGo (forOne (FTab fb (j + 3)) (.nm 3) [.set 2 (.call 21 [.var 0, .ix (.var 2) (.int 0), .var 3])]) (ds.map De.d) [some (Rs R C), f, some m0.d, x] s = .nx [some (Rs R C), f, some m.d, y] s := by
    intro ds
    induction ds with
    | nil =>
      intro m0 f x _ _ h
      simp only [ledR] at h
      cases h
      exact ⟨x, rfl⟩
    | cons d ds ih =>
      intro m0 f x hs hg h
      cases m0 with
      | now => simp [ledR] at h
      | over _ _ _ => simp [ledR] at h
      | go p a b =>
        simp only [ledR] at h
        have hg' : Good R C p := hg
        have hm := l_moved (j := j) (R := R) (C := C) (p := p) (de := d) (s := s) hg'.up (by have := hg'.l2; omega) (by have := hg'.rR; omega) (hs d List.mem_cons_self)
        obtain ⟨y, hy⟩ := ih (moved C p d) f (some d.d) (fun e he => hs e (List.mem_cons_of_mem _ he)) (by cases hq : moved C p d with
          | go q a' b' => exact moved_good hg' hC hq
          | _ => trivial) h
        refine ⟨y, ?_⟩
        rw [List.map_cons, forGo, forOne_nm]
        simp only [ss_cons, ss_nil, s_setT', s_set', s_par', s_expr', s_ite', s_ret', s_retN', s_raise', e_var, e_non, e_bl, e_int, e_neg, e_str, e_bin, e_cmp, e_cmp2, e_and, e_or, e_not, e_ite, e_tup, e_lst, e_ix, e_isNon, e_notNon, e_call, e_blt, e_isi, e_rev, s_try', tryO_exc, tryO_nx, tryO_rt, tryO_ite, hs_nil, hs_cons, es_nil, es_cons, List.map_cons, List.map_nil, List.replicate, List.cons_append, List.nil_append, List.append_nil, List.getElem?_cons_zero, List.getElem?_cons_succ, lookV_some, ok_bind, ok_out, stuck_bind, stuck_out, onS_tup, onS_lst, onI_int, setAll, List.set_cons_zero, List.set_cons_succ, nxO_some, nx_then, rt_then, ite_then, exc_then, exc_bind, exc_out, finish_exc, deref_int, deref_bl, deref_str, deref_non, deref_tup, deref_lst, deref_scr, cmp_eq, cmp_ne, cmp_lt, cmp_le, cmp_gt, cmp_ge, Option.map_some, of_some', tru_bl, tru_int, tru_non, tru_tup0, tru_tup1, tru_lst0, tru_lst1, brB_t, brB_f, brB_d, brB_nd, finish_ite, finish_rt, finish_nx, ite_out, ite_bind, List.length_cons, List.length_nil, sz0, sz1, sz2, sz3, sz4, sz5, sz6, sz7, sz8, Nat.reduceAdd, Nat.reduceLeDiff, Nat.zero_le, Nat.zero_add, if_true, if_false, ↓reduceIte, ix_t0, ix_t1, ix_t2, ix_t3, ix_t4, ix_t5, ix_l0, ix_l1, leave_tup, leave_lst, leave_int, leave_bl, leave_str, leave_non, lo_int, lo_bl, lo_str, lo_non, lo_tup, lo_lst, loAll_nil, loAll_cons, loAll_ints, Bool.and_true, Bool.true_and, Bool.and_self, List.take_length, bin_add, bin_sub, int1_d, int1_bl, inn, ini, ins, int', inb, inl', Bool.not_true, Bool.not_false, decide_eq_true_eq, decide_true, decide_false, brB_b, slt_hi, slt_lo, slt_m1, sll_hi, sll_lo, mul_t0, mul_t1, Int.reduceLE, Int.reduceToNat, List.take_succ_cons, List.take_zero, List.drop_succ_cons, List.drop_zero, List.take_nil, List.drop_nil, Nat.reduceAdd, e_slHi, e_slLo, e_slLH, Int.reduceAdd, Int.add_zero, Int.mul_one, Int.mul_zero, Int.reduceNeg, List.getElem?_nil, Bool.false_eq_true, Int.reduceLT, Int.reduceEq, and_true, true_and, and_false, false_and, not_true_eq_false, not_false_eq_true, of_ite, map_ite, deref_go, ix_go, hm]
        exact hy
  obtain ⟨y, hy⟩ := go ds (.go (stt R pl) 0 0) (some (.tup [.int pl, .tup (ds.map De.d)])) none hs (stt_good hp hR hC) h
  simp only [B_law_led, ss_cons, ss_nil, s_setT', s_set', s_par', s_expr', s_ite', s_ret', s_retN', s_raise', e_var, e_non, e_bl, e_int, e_neg, e_str, e_bin, e_cmp, e_cmp2, e_and, e_or, e_not, e_ite, e_tup, e_lst, e_ix, e_isNon, e_notNon, e_call, e_blt, e_isi, e_rev, s_try', tryO_exc, tryO_nx, tryO_rt, tryO_ite, hs_nil, hs_cons, es_nil, es_cons, List.map_cons, List.map_nil, List.replicate, List.cons_append, List.nil_append, List.append_nil, List.getElem?_cons_zero, List.getElem?_cons_succ, lookV_some, ok_bind, ok_out, stuck_bind, stuck_out, onS_tup, onS_lst, onI_int, setAll, List.set_cons_zero, List.set_cons_succ, nxO_some, nx_then, rt_then, ite_then, exc_then, exc_bind, exc_out, finish_exc, deref_int, deref_bl, deref_str, deref_non, deref_tup, deref_lst, deref_scr, cmp_eq, cmp_ne, cmp_lt, cmp_le, cmp_gt, cmp_ge, Option.map_some, of_some', tru_bl, tru_int, tru_non, tru_tup0, tru_tup1, tru_lst0, tru_lst1, brB_t, brB_f, brB_d, brB_nd, finish_ite, finish_rt, finish_nx, ite_out, ite_bind, List.length_cons, List.length_nil, sz0, sz1, sz2, sz3, sz4, sz5, sz6, sz7, sz8, Nat.reduceAdd, Nat.reduceLeDiff, Nat.zero_le, Nat.zero_add, if_true, if_false, ↓reduceIte, ix_t0, ix_t1, ix_t2, ix_t3, ix_t4, ix_t5, ix_l0, ix_l1, leave_tup, leave_lst, leave_int, leave_bl, leave_str, leave_non, lo_int, lo_bl, lo_str, lo_non, lo_tup, lo_lst, loAll_nil, loAll_cons, loAll_ints, Bool.and_true, Bool.true_and, Bool.and_self, List.take_length, bin_add, bin_sub, int1_d, int1_bl, inn, ini, ins, int', inb, inl', Bool.not_true, Bool.not_false, decide_eq_true_eq, decide_true, decide_false, brB_b, slt_hi, slt_lo, slt_m1, sll_hi, sll_lo, mul_t0, mul_t1, Int.reduceLE, Int.reduceToNat, List.take_succ_cons, List.take_zero, List.drop_succ_cons, List.drop_zero, List.take_nil, List.drop_nil, Nat.reduceAdd, e_slHi, e_slLo, e_slLH, Int.reduceAdd, Int.add_zero, Int.mul_one, Int.mul_zero, Int.reduceNeg, List.getElem?_nil, Bool.false_eq_true, Int.reduceLT, Int.reduceEq, and_true, true_and, and_false, false_and, not_true_eq_false, not_false_eq_true, of_ite, map_ite, hb, s_for', i_e, items_tup, hy]
  cases m with
  | now => simp only [MR.d, ss_cons, ss_nil, s_setT', s_set', s_par', s_expr', s_ite', s_ret', s_retN', s_raise', e_var, e_non, e_bl, e_int, e_neg, e_str, e_bin, e_cmp, e_cmp2, e_and, e_or, e_not, e_ite, e_tup, e_lst, e_ix, e_isNon, e_notNon, e_call, e_blt, e_isi, e_rev, s_try', tryO_exc, tryO_nx, tryO_rt, tryO_ite, hs_nil, hs_cons, es_nil, es_cons, List.map_cons, List.map_nil, List.replicate, List.cons_append, List.nil_append, List.append_nil, List.getElem?_cons_zero, List.getElem?_cons_succ, lookV_some, ok_bind, ok_out, stuck_bind, stuck_out, onS_tup, onS_lst, onI_int, setAll, List.set_cons_zero, List.set_cons_succ, nxO_some, nx_then, rt_then, ite_then, exc_then, exc_bind, exc_out, finish_exc, deref_int, deref_bl, deref_str, deref_non, deref_tup, deref_lst, deref_scr, cmp_eq, cmp_ne, cmp_lt, cmp_le, cmp_gt, cmp_ge, Option.map_some, of_some', tru_bl, tru_int, tru_non, tru_tup0, tru_tup1, tru_lst0, tru_lst1, brB_t, brB_f, brB_d, brB_nd, finish_ite, finish_rt, finish_nx, ite_out, ite_bind, List.length_cons, List.length_nil, sz0, sz1, sz2, sz3, sz4, sz5, sz6, sz7, sz8, Nat.reduceAdd, Nat.reduceLeDiff, Nat.zero_le, Nat.zero_add, if_true, if_false, ↓reduceIte, ix_t0, ix_t1, ix_t2, ix_t3, ix_t4, ix_t5, ix_l0, ix_l1, leave_tup, leave_lst, leave_int, leave_bl, leave_str, leave_non, lo_int, lo_bl, lo_str, lo_non, lo_tup, lo_lst, loAll_nil, loAll_cons, loAll_ints, Bool.and_true, Bool.true_and, Bool.and_self, List.take_length, bin_add, bin_sub, int1_d, int1_bl, inn, ini, ins, int', inb, inl', Bool.not_true, Bool.not_false, decide_eq_true_eq, decide_true, decide_false, brB_b, slt_hi, slt_lo, slt_m1, sll_hi, sll_lo, mul_t0, mul_t1, Int.reduceLE, Int.reduceToNat, List.take_succ_cons, List.take_zero, List.drop_succ_cons, List.drop_zero, List.take_nil, List.drop_nil, Nat.reduceAdd, e_slHi, e_slLo, e_slLH, Int.reduceAdd, Int.add_zero, Int.mul_one, Int.mul_zero, Int.reduceNeg, List.getElem?_nil, Bool.false_eq_true, Int.reduceLT, Int.reduceEq, and_true, true_and, and_false, false_and, not_true_eq_false, not_false_eq_true, of_ite, map_ite]
  | over _ _ _ => simp only [MR.d, ss_cons, ss_nil, s_setT', s_set', s_par', s_expr', s_ite', s_ret', s_retN', s_raise', e_var, e_non, e_bl, e_int, e_neg, e_str, e_bin, e_cmp, e_cmp2, e_and, e_or, e_not, e_ite, e_tup, e_lst, e_ix, e_isNon, e_notNon, e_call, e_blt, e_isi, e_rev, s_try', tryO_exc, tryO_nx, tryO_rt, tryO_ite, hs_nil, hs_cons, es_nil, es_cons, List.map_cons, List.map_nil, List.replicate, List.cons_append, List.nil_append, List.append_nil, List.getElem?_cons_zero, List.getElem?_cons_succ, lookV_some, ok_bind, ok_out, stuck_bind, stuck_out, onS_tup, onS_lst, onI_int, setAll, List.set_cons_zero, List.set_cons_succ, nxO_some, nx_then, rt_then, ite_then, exc_then, exc_bind, exc_out, finish_exc, deref_int, deref_bl, deref_str, deref_non, deref_tup, deref_lst, deref_scr, cmp_eq, cmp_ne, cmp_lt, cmp_le, cmp_gt, cmp_ge, Option.map_some, of_some', tru_bl, tru_int, tru_non, tru_tup0, tru_tup1, tru_lst0, tru_lst1, brB_t, brB_f, brB_d, brB_nd, finish_ite, finish_rt, finish_nx, ite_out, ite_bind, List.length_cons, List.length_nil, sz0, sz1, sz2, sz3, sz4, sz5, sz6, sz7, sz8, Nat.reduceAdd, Nat.reduceLeDiff, Nat.zero_le, Nat.zero_add, if_true, if_false, ↓reduceIte, ix_t0, ix_t1, ix_t2, ix_t3, ix_t4, ix_t5, ix_l0, ix_l1, leave_tup, leave_lst, leave_int, leave_bl, leave_str, leave_non, lo_int, lo_bl, lo_str, lo_non, lo_tup, lo_lst, loAll_nil, loAll_cons, loAll_ints, Bool.and_true, Bool.true_and, Bool.and_self, List.take_length, bin_add, bin_sub, int1_d, int1_bl, inn, ini, ins, int', inb, inl', Bool.not_true, Bool.not_false, decide_eq_true_eq, decide_true, decide_false, brB_b, slt_hi, slt_lo, slt_m1, sll_hi, sll_lo, mul_t0, mul_t1, Int.reduceLE, Int.reduceToNat, List.take_succ_cons, List.take_zero, List.drop_succ_cons, List.drop_zero, List.take_nil, List.drop_nil, Nat.reduceAdd, e_slHi, e_slLo, e_slLH, Int.reduceAdd, Int.add_zero, Int.mul_one, Int.mul_zero, Int.reduceNeg, List.getElem?_nil, Bool.false_eq_true, Int.reduceLT, Int.reduceEq, and_true, true_and, and_false, false_and, not_true_eq_false, not_false_eq_true, of_ite, map_ite]
  | go q _ _ => simp only [MR.d, Pl.d, ss_cons, ss_nil, s_setT', s_set', s_par', s_expr', s_ite', s_ret', s_retN', s_raise', e_var, e_non, e_bl, e_int, e_neg, e_str, e_bin, e_cmp, e_cmp2, e_and, e_or, e_not, e_ite, e_tup, e_lst, e_ix, e_isNon, e_notNon, e_call, e_blt, e_isi, e_rev, s_try', tryO_exc, tryO_nx, tryO_rt, tryO_ite, hs_nil, hs_cons, es_nil, es_cons, List.map_cons, List.map_nil, List.replicate, List.cons_append, List.nil_append, List.append_nil, List.getElem?_cons_zero, List.getElem?_cons_succ, lookV_some, ok_bind, ok_out, stuck_bind, stuck_out, onS_tup, onS_lst, onI_int, setAll, List.set_cons_zero, List.set_cons_succ, nxO_some, nx_then, rt_then, ite_then, exc_then, exc_bind, exc_out, finish_exc, deref_int, deref_bl, deref_str, deref_non, deref_tup, deref_lst, deref_scr, cmp_eq, cmp_ne, cmp_lt, cmp_le, cmp_gt, cmp_ge, Option.map_some, of_some', tru_bl, tru_int, tru_non, tru_tup0, tru_tup1, tru_lst0, tru_lst1, brB_t, brB_f, brB_d, brB_nd, finish_ite, finish_rt, finish_nx, ite_out, ite_bind, List.length_cons, List.length_nil, sz0, sz1, sz2, sz3, sz4, sz5, sz6, sz7, sz8, Nat.reduceAdd, Nat.reduceLeDiff, Nat.zero_le, Nat.zero_add, if_true, if_false, ↓reduceIte, ix_t0, ix_t1, ix_t2, ix_t3, ix_t4, ix_t5, ix_l0, ix_l1, leave_tup, leave_lst, leave_int, leave_bl, leave_str, leave_non, lo_int, lo_bl, lo_str, lo_non, lo_tup, lo_lst, loAll_nil, loAll_cons, loAll_ints, Bool.and_true, Bool.true_and, Bool.and_self, List.take_length, bin_add, bin_sub, int1_d, int1_bl, inn, ini, ins, int', inb, inl', Bool.not_true, Bool.not_false, decide_eq_true_eq, decide_true, decide_false, brB_b, slt_hi, slt_lo, slt_m1, sll_hi, sll_lo, mul_t0, mul_t1, Int.reduceLE, Int.reduceToNat, List.take_succ_cons, List.take_zero, List.drop_succ_cons, List.drop_zero, List.take_nil, List.drop_nil, Nat.reduceAdd, e_slHi, e_slLo, e_slLH, Int.reduceAdd, Int.add_zero, Int.mul_one, Int.mul_zero, Int.reduceNeg, List.getElem?_nil, Bool.false_eq_true, Int.reduceLT, Int.reduceEq, and_true, true_and, and_false, false_and, not_true_eq_false, not_false_eq_true, of_ite, map_ite]
end MP
/-! P8: plain: strokes, deeds, frames that are drawn. -/
namespace MP
open PySem
theorem okr {a b : Int} (h1 : -1000 ≤ a) (h2 : a ≤ 1000) (h3 : -1000 ≤ b) (h4 : b ≤ 1000) : okRng a b = true := by
  unfold okRng lineM
  simp only [Bool.and_eq_true, decide_eq_true_eq]
  omega
theorem mem_rng {a b x : Int} : (x ∈ (List.range (b - a).toNat).map fun i => a + ((i : Nat) : Int)) ↔ a ≤ x ∧ x < b := by
  rw [List.mem_map]
  constructor
  · rintro ⟨i, hi, rfl⟩
    rw [List.mem_range] at hi
    omega
  · intro h
    exact ⟨(x - a).toNat, List.mem_range.mpr (by omega), by omega⟩
def rg (a b : Int) : List Int := (List.range (b - a).toNat).map fun i => a + ((i : Nat) : Int)
theorem rngD_rg {a b : Int} : rngD a b = (rg a b).map Dt.int := by unfold rngD rg; rw [List.map_map]; rfl
theorem mem_rg {a b x : Int} : x ∈ rg a b ↔ a ≤ x ∧ x < b := mem_rng
theorem len_rg {a b : Int} : (rg a b).length = (b - a).toNat := by unfold rg; simp
/-- a stroke that is drawn -/
structure SkOk (R C : Int) (k : Sk) : Prop where
  f0 : 0 ≤ k.first
  fT : k.first ≤ C + 1
  p1 : ∀ x ∈ k.pots, 1 ≤ x ∧ x ≤ C + 1
  ln : k.pots.length ≤ 100
  so : k.pots.Pairwise fun a b => a < b ∨ (a = 1 ∧ b = 1)
  ct : (k.pots.count 1 : Nat) ≤ R
  ne : k.first = 0 → k.pots = []
theorem pickI {j : Nat} {ns : List Int} {k : Nat} {l : List Int} {s : Sta} (hl : l ≠ []) (h : Has k s 1) : ∃ d s', FTab fb (j + 2) 8 [.scr ns, .ref k, .lst (l.map .int)] s = .ok (.int d) s' ∧ d ∈ l ∧ Drew k s s' 1 := by
  obtain ⟨d, s1, e, m, w⟩ := pick (j := j) (ns := ns) (l := l.map Dt.int) (by simpa using hl) h (loAll_ints _)
  obtain ⟨x, hx, rfl⟩ := List.mem_map.mp m
  exact ⟨x, s1, e, hx, w⟩
/-- items kept by draws -/
theorem lc_draw {F : FT} {ρ : Env} {c : E} {i : Nat} {own : List Nat} {town : Nat} (hi : i < ρ.length) (h : ∀ x s, Has town s 1 → ∃ b s', evE F ((wipeE ρ own).set i (some (.int x))) c s = .ok (.bl b) s' ∧ Drew town s s' 1) :
    ∀ (l : List Int) (s : Sta), Has town s l.length → ∃ (l' : List Int) (s' : Sta), lcGo (lcOne F ρ (.var i) (.nm i) own [c]) (l.map .int) s = .ok (l'.map .int) s' ∧ l'.Sublist l ∧ Drew town s s' l.length
  | [], s, _ => ⟨[], s, rfl, List.Sublist.refl _, Drew.refl _ _ _⟩
  | x :: l, s, hh => by
    obtain ⟨b, s1, e1, w1⟩ := h x s (hh.mono (by simp))
    obtain ⟨l', s2, e2, m2, w2⟩ := lc_draw hi h l s1 (w1.has (by rw [Nat.add_comm]; exact hh))
    have hv : ((wipeE ρ own).set i (some (.int x)))[i]? = some (some (.int x)) := List.getElem?_set_self (by rw [wipeE_len]; exact hi)
    have w := (w1.trans w2).mono (show 1 + l.length ≤ (x :: l).length by simp; omega)
    rw [List.map_cons, lcGo, lcOne_one e1, deref_bl, tru_bl]
    cases b with
    | true =>
      refine ⟨x :: l', s2, ?_, m2.cons_cons x, w⟩
      rw [lcIf_t, e_var, hv, lookV_some, ok_bind]
      simp only [e2, List.map_cons]
    | false =>
      refine ⟨l', s2, ?_, m2.cons x, w⟩
      rw [lcIf_f]
      simp only [e2]
theorem rg_lt {a b : Int} : (rg a b).Pairwise (· < ·) := by
  unfold rg
  rw [List.pairwise_map]
  exact List.pairwise_lt_range.imp fun h => by omega
/-- the first three statements, then whether another ball is hit -/
theorem ds_first {j : Nat} {ns : List Int} {town : Nat} {R C : Int} {p : Pl} {s : Sta} (G : Good R C p) (hR : R ≤ 100) (hC : 1 ≤ C) (hC2 : C ≤ 100) (h : Has town s 4) :
    ∃ (w f : Int) (s' : Sta), evSs (FTab fb (j + 3)) (B_law_drawn_stroke.take 5) ([Dt.scr ns, .ref town, Rs R C, p.d].map some ++ List.replicate 12 none) s =
      .nx [some (.scr ns), some (.ref town), some (Rs R C), some p.d, some (.int p.up), some (.int p.on), some (.int p.reds), some (.int p.low), some (.tup [.int p.p0, .int p.p1]), some (.int p.free), some (.lst ((rg p.low (C + 2)).map .int)), some (.int w), some (.int f), none, none, none] s' ∧
      0 ≤ f ∧ f ≤ C + 1 ∧ Drew town s s' 4 := by
  obtain ⟨w, s1, e1, _, _, w1⟩ := draw (j := j + 2) (ns := ns) (k := town) (m := 10) (s := s) (by omega) (h.mono (by omega))
  have h1 : Has town s1 3 := w1.has h
  have hr : okRng p.low (C + 2) = true := okr (by have := G.l2; omega) (by have := G.lT; omega) (by omega) (by omega)
  have hne : rg p.low (C + 2) ≠ [] := fun z => by
    have : p.low ∈ rg p.low (C + 2) := mem_rg.mpr ⟨by omega, by have := G.lT; omega⟩
    rw [z] at this; cases this
  -- the first ball
  have first : ∃ f s2, evS (FTab fb (j + 3)) (.ite (.or (.cmp .eq (.var 5) (.int 0)) (.and (.cmp .eq (.var 9) (.int 2)) (.cmp .gt (.call 7 [.var 0, .var 1, .int 3]) (.int 0)))) [.set 12 (.call 8 [.var 0, .var 1, .var 10])] [])
      [some (.scr ns), some (.ref town), some (Rs R C), some p.d, some (.int p.up), some (.int p.on), some (.int p.reds), some (.int p.low), some (.tup [.int p.p0, .int p.p1]), some (.int p.free), some (.lst ((rg p.low (C + 2)).map .int)), some (.int w), some (.int p.on), none, none, none] s1 =
      .nx [some (.scr ns), some (.ref town), some (Rs R C), some p.d, some (.int p.up), some (.int p.on), some (.int p.reds), some (.int p.low), some (.tup [.int p.p0, .int p.p1]), some (.int p.free), some (.lst ((rg p.low (C + 2)).map .int)), some (.int w), some (.int f), none, none, none] s2 ∧ 0 ≤ f ∧ f ≤ C + 1 ∧ Drew town s1 s2 2 := by
    have on0 : 0 ≤ p.on ∧ p.on ≤ C + 1 := by have := G.on; have := G.l2; have := G.lT; omega
    by_cases c1 : p.on = 0
    · obtain ⟨d, s2, e2, m2, w2⟩ := pickI (j := j + 1) (ns := ns) (l := rg p.low (C + 2)) (s := s1) hne (h1.mono (by omega))
      rw [mem_rg] at m2
      refine ⟨d, s2, ?_, by have := G.l2; omega, by omega, w2.mono (by omega)⟩
      simp only [ss_cons, ss_nil, s_setT', s_set', s_par', s_expr', s_ite', s_ret', s_retN', s_raise', e_var, e_non, e_bl, e_int, e_neg, e_str, e_bin, e_cmp, e_cmp2, e_and, e_or, e_not, e_ite, e_tup, e_lst, e_ix, e_isNon, e_notNon, e_call, e_blt, e_isi, e_rev, s_try', tryO_exc, tryO_nx, tryO_rt, tryO_ite, hs_nil, hs_cons, es_nil, es_cons, List.map_cons, List.map_nil, List.replicate, List.cons_append, List.nil_append, List.append_nil, List.getElem?_cons_zero, List.getElem?_cons_succ, lookV_some, ok_bind, ok_out, stuck_bind, stuck_out, onS_tup, onS_lst, onI_int, setAll, List.set_cons_zero, List.set_cons_succ, nxO_some, nx_then, rt_then, ite_then, exc_then, exc_bind, exc_out, finish_exc, deref_int, deref_bl, deref_str, deref_non, deref_tup, deref_lst, deref_scr, cmp_eq, cmp_ne, cmp_lt, cmp_le, cmp_gt, cmp_ge, Option.map_some, of_some', tru_bl, tru_int, tru_non, tru_tup0, tru_tup1, tru_lst0, tru_lst1, brB_t, brB_f, brB_d, brB_nd, finish_ite, finish_rt, finish_nx, ite_out, ite_bind, List.length_cons, List.length_nil, sz0, sz1, sz2, sz3, sz4, sz5, sz6, sz7, sz8, Nat.reduceAdd, Nat.reduceLeDiff, Nat.zero_le, Nat.zero_add, if_true, if_false, ↓reduceIte, ix_t0, ix_t1, ix_t2, ix_t3, ix_t4, ix_t5, ix_l0, ix_l1, leave_tup, leave_lst, leave_int, leave_bl, leave_str, leave_non, lo_int, lo_bl, lo_str, lo_non, lo_tup, lo_lst, loAll_nil, loAll_cons, loAll_ints, Bool.and_true, Bool.true_and, Bool.and_self, List.take_length, bin_add, bin_sub, int1_d, int1_bl, inn, ini, ins, int', inb, inl', Bool.not_true, Bool.not_false, decide_eq_true_eq, decide_true, decide_false, brB_b, slt_hi, slt_lo, slt_m1, sll_hi, sll_lo, mul_t0, mul_t1, Int.reduceLE, Int.reduceToNat, List.take_succ_cons, List.take_zero, List.drop_succ_cons, List.drop_zero, List.take_nil, List.drop_nil, Nat.reduceAdd, e_slHi, e_slLo, e_slLH, Int.reduceAdd, Int.add_zero, Int.mul_one, Int.mul_zero, Int.reduceNeg, List.getElem?_nil, Bool.false_eq_true, Int.reduceLT, Int.reduceEq, and_true, true_and, and_false, false_and, not_true_eq_false, not_false_eq_true, of_ite, map_ite, eq_true c1, e2]
    · by_cases c2 : p.free = 2
      · obtain ⟨x, s2, e2, _, _, w2⟩ := draw (j := j + 2) (ns := ns) (k := town) (m := 3) (s := s1) (by omega) (h1.mono (by omega))
        by_cases c3 : 0 < x
        · obtain ⟨d, s3, e3, m3, w3⟩ := pickI (j := j + 1) (ns := ns) (l := rg p.low (C + 2)) (s := s2) hne (w2.has (h1.mono (by omega)))
          rw [mem_rg] at m3
          refine ⟨d, s3, ?_, by have := G.l2; omega, by omega, w2.trans w3⟩
          simp only [ss_cons, ss_nil, s_setT', s_set', s_par', s_expr', s_ite', s_ret', s_retN', s_raise', e_var, e_non, e_bl, e_int, e_neg, e_str, e_bin, e_cmp, e_cmp2, e_and, e_or, e_not, e_ite, e_tup, e_lst, e_ix, e_isNon, e_notNon, e_call, e_blt, e_isi, e_rev, s_try', tryO_exc, tryO_nx, tryO_rt, tryO_ite, hs_nil, hs_cons, es_nil, es_cons, List.map_cons, List.map_nil, List.replicate, List.cons_append, List.nil_append, List.append_nil, List.getElem?_cons_zero, List.getElem?_cons_succ, lookV_some, ok_bind, ok_out, stuck_bind, stuck_out, onS_tup, onS_lst, onI_int, setAll, List.set_cons_zero, List.set_cons_succ, nxO_some, nx_then, rt_then, ite_then, exc_then, exc_bind, exc_out, finish_exc, deref_int, deref_bl, deref_str, deref_non, deref_tup, deref_lst, deref_scr, cmp_eq, cmp_ne, cmp_lt, cmp_le, cmp_gt, cmp_ge, Option.map_some, of_some', tru_bl, tru_int, tru_non, tru_tup0, tru_tup1, tru_lst0, tru_lst1, brB_t, brB_f, brB_d, brB_nd, finish_ite, finish_rt, finish_nx, ite_out, ite_bind, List.length_cons, List.length_nil, sz0, sz1, sz2, sz3, sz4, sz5, sz6, sz7, sz8, Nat.reduceAdd, Nat.reduceLeDiff, Nat.zero_le, Nat.zero_add, if_true, if_false, ↓reduceIte, ix_t0, ix_t1, ix_t2, ix_t3, ix_t4, ix_t5, ix_l0, ix_l1, leave_tup, leave_lst, leave_int, leave_bl, leave_str, leave_non, lo_int, lo_bl, lo_str, lo_non, lo_tup, lo_lst, loAll_nil, loAll_cons, loAll_ints, Bool.and_true, Bool.true_and, Bool.and_self, List.take_length, bin_add, bin_sub, int1_d, int1_bl, inn, ini, ins, int', inb, inl', Bool.not_true, Bool.not_false, decide_eq_true_eq, decide_true, decide_false, brB_b, slt_hi, slt_lo, slt_m1, sll_hi, sll_lo, mul_t0, mul_t1, Int.reduceLE, Int.reduceToNat, List.take_succ_cons, List.take_zero, List.drop_succ_cons, List.drop_zero, List.take_nil, List.drop_nil, Nat.reduceAdd, e_slHi, e_slLo, e_slLH, Int.reduceAdd, Int.add_zero, Int.mul_one, Int.mul_zero, Int.reduceNeg, List.getElem?_nil, Bool.false_eq_true, Int.reduceLT, Int.reduceEq, and_true, true_and, and_false, false_and, not_true_eq_false, not_false_eq_true, of_ite, map_ite, c1, eq_true c2, e2, c3, e3]
        · refine ⟨p.on, s2, ?_, on0.1, on0.2, w2.mono (by omega)⟩
          simp only [ss_cons, ss_nil, s_setT', s_set', s_par', s_expr', s_ite', s_ret', s_retN', s_raise', e_var, e_non, e_bl, e_int, e_neg, e_str, e_bin, e_cmp, e_cmp2, e_and, e_or, e_not, e_ite, e_tup, e_lst, e_ix, e_isNon, e_notNon, e_call, e_blt, e_isi, e_rev, s_try', tryO_exc, tryO_nx, tryO_rt, tryO_ite, hs_nil, hs_cons, es_nil, es_cons, List.map_cons, List.map_nil, List.replicate, List.cons_append, List.nil_append, List.append_nil, List.getElem?_cons_zero, List.getElem?_cons_succ, lookV_some, ok_bind, ok_out, stuck_bind, stuck_out, onS_tup, onS_lst, onI_int, setAll, List.set_cons_zero, List.set_cons_succ, nxO_some, nx_then, rt_then, ite_then, exc_then, exc_bind, exc_out, finish_exc, deref_int, deref_bl, deref_str, deref_non, deref_tup, deref_lst, deref_scr, cmp_eq, cmp_ne, cmp_lt, cmp_le, cmp_gt, cmp_ge, Option.map_some, of_some', tru_bl, tru_int, tru_non, tru_tup0, tru_tup1, tru_lst0, tru_lst1, brB_t, brB_f, brB_d, brB_nd, finish_ite, finish_rt, finish_nx, ite_out, ite_bind, List.length_cons, List.length_nil, sz0, sz1, sz2, sz3, sz4, sz5, sz6, sz7, sz8, Nat.reduceAdd, Nat.reduceLeDiff, Nat.zero_le, Nat.zero_add, if_true, if_false, ↓reduceIte, ix_t0, ix_t1, ix_t2, ix_t3, ix_t4, ix_t5, ix_l0, ix_l1, leave_tup, leave_lst, leave_int, leave_bl, leave_str, leave_non, lo_int, lo_bl, lo_str, lo_non, lo_tup, lo_lst, loAll_nil, loAll_cons, loAll_ints, Bool.and_true, Bool.true_and, Bool.and_self, List.take_length, bin_add, bin_sub, int1_d, int1_bl, inn, ini, ins, int', inb, inl', Bool.not_true, Bool.not_false, decide_eq_true_eq, decide_true, decide_false, brB_b, slt_hi, slt_lo, slt_m1, sll_hi, sll_lo, mul_t0, mul_t1, Int.reduceLE, Int.reduceToNat, List.take_succ_cons, List.take_zero, List.drop_succ_cons, List.drop_zero, List.take_nil, List.drop_nil, Nat.reduceAdd, e_slHi, e_slLo, e_slLH, Int.reduceAdd, Int.add_zero, Int.mul_one, Int.mul_zero, Int.reduceNeg, List.getElem?_nil, Bool.false_eq_true, Int.reduceLT, Int.reduceEq, and_true, true_and, and_false, false_and, not_true_eq_false, not_false_eq_true, of_ite, map_ite, c1, eq_true c2, e2, c3]
      · refine ⟨p.on, s1, ?_, on0.1, on0.2, Drew.refl _ _ _⟩
        simp only [ss_cons, ss_nil, s_setT', s_set', s_par', s_expr', s_ite', s_ret', s_retN', s_raise', e_var, e_non, e_bl, e_int, e_neg, e_str, e_bin, e_cmp, e_cmp2, e_and, e_or, e_not, e_ite, e_tup, e_lst, e_ix, e_isNon, e_notNon, e_call, e_blt, e_isi, e_rev, s_try', tryO_exc, tryO_nx, tryO_rt, tryO_ite, hs_nil, hs_cons, es_nil, es_cons, List.map_cons, List.map_nil, List.replicate, List.cons_append, List.nil_append, List.append_nil, List.getElem?_cons_zero, List.getElem?_cons_succ, lookV_some, ok_bind, ok_out, stuck_bind, stuck_out, onS_tup, onS_lst, onI_int, setAll, List.set_cons_zero, List.set_cons_succ, nxO_some, nx_then, rt_then, ite_then, exc_then, exc_bind, exc_out, finish_exc, deref_int, deref_bl, deref_str, deref_non, deref_tup, deref_lst, deref_scr, cmp_eq, cmp_ne, cmp_lt, cmp_le, cmp_gt, cmp_ge, Option.map_some, of_some', tru_bl, tru_int, tru_non, tru_tup0, tru_tup1, tru_lst0, tru_lst1, brB_t, brB_f, brB_d, brB_nd, finish_ite, finish_rt, finish_nx, ite_out, ite_bind, List.length_cons, List.length_nil, sz0, sz1, sz2, sz3, sz4, sz5, sz6, sz7, sz8, Nat.reduceAdd, Nat.reduceLeDiff, Nat.zero_le, Nat.zero_add, if_true, if_false, ↓reduceIte, ix_t0, ix_t1, ix_t2, ix_t3, ix_t4, ix_t5, ix_l0, ix_l1, leave_tup, leave_lst, leave_int, leave_bl, leave_str, leave_non, lo_int, lo_bl, lo_str, lo_non, lo_tup, lo_lst, loAll_nil, loAll_cons, loAll_ints, Bool.and_true, Bool.true_and, Bool.and_self, List.take_length, bin_add, bin_sub, int1_d, int1_bl, inn, ini, ins, int', inb, inl', Bool.not_true, Bool.not_false, decide_eq_true_eq, decide_true, decide_false, brB_b, slt_hi, slt_lo, slt_m1, sll_hi, sll_lo, mul_t0, mul_t1, Int.reduceLE, Int.reduceToNat, List.take_succ_cons, List.take_zero, List.drop_succ_cons, List.drop_zero, List.take_nil, List.drop_nil, Nat.reduceAdd, e_slHi, e_slLo, e_slLH, Int.reduceAdd, Int.add_zero, Int.mul_one, Int.mul_zero, Int.reduceNeg, List.getElem?_nil, Bool.false_eq_true, Int.reduceLT, Int.reduceEq, and_true, true_and, and_false, false_and, not_true_eq_false, not_false_eq_true, of_ite, map_ite, c1, c2]
  obtain ⟨f, s2, e2, f0, f1, w2⟩ := first
  have h2 : Has town s2 1 := w2.has h1
  have hw := w1.trans w2
  -- any ball
  have second : ∃ f' s3, evS (FTab fb (j + 3)) (.ite (.cmp .eq (.var 11) (.int 0)) [.set 12 (.call 8 [.var 0, .var 1, .bin .add (.bin .add (.var 10) (.lst [.int 0])) (.bin .mul (.lst [.int 1]) (.var 6))])] [])
      [some (.scr ns), some (.ref town), some (Rs R C), some p.d, some (.int p.up), some (.int p.on), some (.int p.reds), some (.int p.low), some (.tup [.int p.p0, .int p.p1]), some (.int p.free), some (.lst ((rg p.low (C + 2)).map .int)), some (.int w), some (.int f), none, none, none] s2 =
      .nx [some (.scr ns), some (.ref town), some (Rs R C), some p.d, some (.int p.up), some (.int p.on), some (.int p.reds), some (.int p.low), some (.tup [.int p.p0, .int p.p1]), some (.int p.free), some (.lst ((rg p.low (C + 2)).map .int)), some (.int w), some (.int f'), none, none, none] s3 ∧ 0 ≤ f' ∧ f' ≤ C + 1 ∧ Drew town s2 s3 1 := by
    by_cases c1 : w = 0
    · have hlen : (rg p.low (C + 2)).length ≤ 200 := by rw [len_rg]; have := G.l2; omega
      have ha1 : evBin .add (.lst ((rg p.low (C + 2)).map Dt.int)) (.lst [.int 0]) = some (.lst ((rg p.low (C + 2) ++ [0]).map Dt.int)) := by rw [add_ll (by simp; omega)]; simp
      have hm : evBin .mul (.lst [.int 1]) (.int p.reds) = some (.lst ((List.replicate p.reds.toNat (1 : Int)).map Dt.int)) := by rw [mul_ln (by have := G.rR; omega) (by have := G.r0; omega) (by simp), rep_one]; simp
      have ha2 : evBin .add (.lst ((rg p.low (C + 2) ++ [0]).map Dt.int)) (.lst ((List.replicate p.reds.toNat (1 : Int)).map Dt.int)) = some (.lst ((rg p.low (C + 2) ++ [0] ++ List.replicate p.reds.toNat 1).map Dt.int)) := by
        rw [add_ll (by simp; have := G.rR; omega)]; simp
      obtain ⟨d, s3, e3, m3, w3⟩ := pickI (j := j + 1) (ns := ns) (l := rg p.low (C + 2) ++ [0] ++ List.replicate p.reds.toNat 1) (s := s2) (by simp) h2
      refine ⟨d, s3, ?_, ?_, ?_, w3⟩
      · simp only [ss_cons, ss_nil, s_setT', s_set', s_par', s_expr', s_ite', s_ret', s_retN', s_raise', e_var, e_non, e_bl, e_int, e_neg, e_str, e_bin, e_cmp, e_cmp2, e_and, e_or, e_not, e_ite, e_tup, e_lst, e_ix, e_isNon, e_notNon, e_call, e_blt, e_isi, e_rev, s_try', tryO_exc, tryO_nx, tryO_rt, tryO_ite, hs_nil, hs_cons, es_nil, es_cons, List.map_cons, List.map_nil, List.replicate, List.cons_append, List.nil_append, List.append_nil, List.getElem?_cons_zero, List.getElem?_cons_succ, lookV_some, ok_bind, ok_out, stuck_bind, stuck_out, onS_tup, onS_lst, onI_int, setAll, List.set_cons_zero, List.set_cons_succ, nxO_some, nx_then, rt_then, ite_then, exc_then, exc_bind, exc_out, finish_exc, deref_int, deref_bl, deref_str, deref_non, deref_tup, deref_lst, deref_scr, cmp_eq, cmp_ne, cmp_lt, cmp_le, cmp_gt, cmp_ge, Option.map_some, of_some', tru_bl, tru_int, tru_non, tru_tup0, tru_tup1, tru_lst0, tru_lst1, brB_t, brB_f, brB_d, brB_nd, finish_ite, finish_rt, finish_nx, ite_out, ite_bind, List.length_cons, List.length_nil, sz0, sz1, sz2, sz3, sz4, sz5, sz6, sz7, sz8, Nat.reduceAdd, Nat.reduceLeDiff, Nat.zero_le, Nat.zero_add, if_true, if_false, ↓reduceIte, ix_t0, ix_t1, ix_t2, ix_t3, ix_t4, ix_t5, ix_l0, ix_l1, leave_tup, leave_lst, leave_int, leave_bl, leave_str, leave_non, lo_int, lo_bl, lo_str, lo_non, lo_tup, lo_lst, loAll_nil, loAll_cons, loAll_ints, Bool.and_true, Bool.true_and, Bool.and_self, List.take_length, bin_add, bin_sub, int1_d, int1_bl, inn, ini, ins, int', inb, inl', Bool.not_true, Bool.not_false, decide_eq_true_eq, decide_true, decide_false, brB_b, slt_hi, slt_lo, slt_m1, sll_hi, sll_lo, mul_t0, mul_t1, Int.reduceLE, Int.reduceToNat, List.take_succ_cons, List.take_zero, List.drop_succ_cons, List.drop_zero, List.take_nil, List.drop_nil, Nat.reduceAdd, e_slHi, e_slLo, e_slLH, Int.reduceAdd, Int.add_zero, Int.mul_one, Int.mul_zero, Int.reduceNeg, List.getElem?_nil, Bool.false_eq_true, Int.reduceLT, Int.reduceEq, and_true, true_and, and_false, false_and, not_true_eq_false, not_false_eq_true, of_ite, map_ite, eq_true c1, ha1, hm, ha2, e3]
      all_goals
        rcases List.mem_append.mp m3 with m3 | m3
        · rcases List.mem_append.mp m3 with m3 | m3
          · rw [mem_rg] at m3; have := G.l2; omega
          · rw [List.mem_singleton.mp m3]; omega
        · rw [List.eq_of_mem_replicate m3]; omega
    · refine ⟨f, s2, ?_, f0, f1, Drew.refl _ _ _⟩
      simp only [ss_cons, ss_nil, s_setT', s_set', s_par', s_expr', s_ite', s_ret', s_retN', s_raise', e_var, e_non, e_bl, e_int, e_neg, e_str, e_bin, e_cmp, e_cmp2, e_and, e_or, e_not, e_ite, e_tup, e_lst, e_ix, e_isNon, e_notNon, e_call, e_blt, e_isi, e_rev, s_try', tryO_exc, tryO_nx, tryO_rt, tryO_ite, hs_nil, hs_cons, es_nil, es_cons, List.map_cons, List.map_nil, List.replicate, List.cons_append, List.nil_append, List.append_nil, List.getElem?_cons_zero, List.getElem?_cons_succ, lookV_some, ok_bind, ok_out, stuck_bind, stuck_out, onS_tup, onS_lst, onI_int, setAll, List.set_cons_zero, List.set_cons_succ, nxO_some, nx_then, rt_then, ite_then, exc_then, exc_bind, exc_out, finish_exc, deref_int, deref_bl, deref_str, deref_non, deref_tup, deref_lst, deref_scr, cmp_eq, cmp_ne, cmp_lt, cmp_le, cmp_gt, cmp_ge, Option.map_some, of_some', tru_bl, tru_int, tru_non, tru_tup0, tru_tup1, tru_lst0, tru_lst1, brB_t, brB_f, brB_d, brB_nd, finish_ite, finish_rt, finish_nx, ite_out, ite_bind, List.length_cons, List.length_nil, sz0, sz1, sz2, sz3, sz4, sz5, sz6, sz7, sz8, Nat.reduceAdd, Nat.reduceLeDiff, Nat.zero_le, Nat.zero_add, if_true, if_false, ↓reduceIte, ix_t0, ix_t1, ix_t2, ix_t3, ix_t4, ix_t5, ix_l0, ix_l1, leave_tup, leave_lst, leave_int, leave_bl, leave_str, leave_non, lo_int, lo_bl, lo_str, lo_non, lo_tup, lo_lst, loAll_nil, loAll_cons, loAll_ints, Bool.and_true, Bool.true_and, Bool.and_self, List.take_length, bin_add, bin_sub, int1_d, int1_bl, inn, ini, ins, int', inb, inl', Bool.not_true, Bool.not_false, decide_eq_true_eq, decide_true, decide_false, brB_b, slt_hi, slt_lo, slt_m1, sll_hi, sll_lo, mul_t0, mul_t1, Int.reduceLE, Int.reduceToNat, List.take_succ_cons, List.take_zero, List.drop_succ_cons, List.drop_zero, List.take_nil, List.drop_nil, Nat.reduceAdd, e_slHi, e_slLo, e_slLH, Int.reduceAdd, Int.add_zero, Int.mul_one, Int.mul_zero, Int.reduceNeg, List.getElem?_nil, Bool.false_eq_true, Int.reduceLT, Int.reduceEq, and_true, true_and, and_false, false_and, not_true_eq_false, not_false_eq_true, of_ite, map_ite, c1]
  obtain ⟨f', s3, e3, f0', f1', w3⟩ := second
  refine ⟨w, f', s3, ?_, f0', f1', (hw.trans w3)⟩
  have hd : evSs (FTab fb (j + 3)) (B_law_drawn_stroke.take 3) ([Dt.scr ns, .ref town, Rs R C, p.d].map some ++ List.replicate 12 none) s =
    .nx [some (.scr ns), some (.ref town), some (Rs R C), some p.d, some (.int p.up), some (.int p.on), some (.int p.reds), some (.int p.low), some (.tup [.int p.p0, .int p.p1]), some (.int p.free), some (.lst ((rg p.low (C + 2)).map .int)), some (.int w), some (.int p.on), none, none, none] s1 := by
    obtain ⟨up, on, reds, low, p0, p1, free⟩ := p
    simp only at hr
    simp only [B_law_drawn_stroke, ss_cons, ss_nil, s_setT', s_set', s_par', s_expr', s_ite', s_ret', s_retN', s_raise', e_var, e_non, e_bl, e_int, e_neg, e_str, e_bin, e_cmp, e_cmp2, e_and, e_or, e_not, e_ite, e_tup, e_lst, e_ix, e_isNon, e_notNon, e_call, e_blt, e_isi, e_rev, s_try', tryO_exc, tryO_nx, tryO_rt, tryO_ite, hs_nil, hs_cons, es_nil, es_cons, List.map_cons, List.map_nil, List.replicate, List.cons_append, List.nil_append, List.append_nil, List.getElem?_cons_zero, List.getElem?_cons_succ, lookV_some, ok_bind, ok_out, stuck_bind, stuck_out, onS_tup, onS_lst, onI_int, setAll, List.set_cons_zero, List.set_cons_succ, nxO_some, nx_then, rt_then, ite_then, exc_then, exc_bind, exc_out, finish_exc, deref_int, deref_bl, deref_str, deref_non, deref_tup, deref_lst, deref_scr, cmp_eq, cmp_ne, cmp_lt, cmp_le, cmp_gt, cmp_ge, Option.map_some, of_some', tru_bl, tru_int, tru_non, tru_tup0, tru_tup1, tru_lst0, tru_lst1, brB_t, brB_f, brB_d, brB_nd, finish_ite, finish_rt, finish_nx, ite_out, ite_bind, List.length_cons, List.length_nil, sz0, sz1, sz2, sz3, sz4, sz5, sz6, sz7, sz8, Nat.reduceAdd, Nat.reduceLeDiff, Nat.zero_le, Nat.zero_add, if_true, if_false, ↓reduceIte, ix_t0, ix_t1, ix_t2, ix_t3, ix_t4, ix_t5, ix_l0, ix_l1, leave_tup, leave_lst, leave_int, leave_bl, leave_str, leave_non, lo_int, lo_bl, lo_str, lo_non, lo_tup, lo_lst, loAll_nil, loAll_cons, loAll_ints, Bool.and_true, Bool.true_and, Bool.and_self, List.take_length, bin_add, bin_sub, int1_d, int1_bl, inn, ini, ins, int', inb, inl', Bool.not_true, Bool.not_false, decide_eq_true_eq, decide_true, decide_false, brB_b, slt_hi, slt_lo, slt_m1, sll_hi, sll_lo, mul_t0, mul_t1, Int.reduceLE, Int.reduceToNat, List.take_succ_cons, List.take_zero, List.drop_succ_cons, List.drop_zero, List.take_nil, List.drop_nil, Nat.reduceAdd, e_slHi, e_slLo, e_slLH, Int.reduceAdd, Int.add_zero, Int.mul_one, Int.mul_zero, Int.reduceNeg, List.getElem?_nil, Bool.false_eq_true, Int.reduceLT, Int.reduceEq, and_true, true_and, and_false, false_and, not_true_eq_false, not_false_eq_true, of_ite, map_ite, Pl.d, Rs, e_lrng, e1, rngD_rg, if_pos hr]
  have split : B_law_drawn_stroke.take 5 = B_law_drawn_stroke.take 3 ++ (B_law_drawn_stroke.drop 3).take 2 := rfl
  rw [split, ss_app, hd, nx_then]
  simp only [B_law_drawn_stroke, List.drop_succ_cons, List.drop_zero, List.take_succ_cons, List.take_zero, ss_cons, ss_nil, e2, nx_then]
  rw [e3]; rfl
end MP
/-! P9: plain: strokes that are drawn. -/
namespace MP
open PySem
theorem min2_eq {a b : Int} : evBl .min2 [.int a, .int b] = some (.int (if b < a then b else a)) := rfl
theorem drawn_lo {n : Nat} {k : Sk} : Dt.lo n (.tup k.ds) = true := by
  obtain ⟨f, pots, off⟩ := k
  simp only [Sk.ds, lo_tup, loAll_cons, loAll_nil, lo_int, lo_bl, loAll_ints, Bool.and_self]
/-- the end: the white one, the answer -/
theorem ds_end {j : Nat} {ns : List Int} {town : Nat} {R C w f : Int} {pots : List Int} {a b c d e g h i l m : Option Dt} {s : Sta} (hf : 0 ≤ f) (hf2 : f ≤ C + 1) (hp : ∀ x ∈ pots, 1 ≤ x ∧ x ≤ C + 1) (hl : pots.length ≤ 100) (hso : pots.Pairwise fun a b => a < b ∨ (a = 1 ∧ b = 1)) (hct : (pots.count 1 : Nat) ≤ R) (hh : Has town s 1) :
    ∃ k s', (∀ n, n = s.length → finish n (evSs (FTab fb (j + 3)) (B_law_drawn_stroke.drop 8) [some (.scr ns), some (.ref town), a, b, c, d, e, g, h, i, l, some (.int w), some (.int f), some (.tup (pots.map .int)), m, none] s) = .ok (.tup (Sk.ds k)) s') ∧ SkOk R C k ∧ Drew town s s' 1 := by
  obtain ⟨x, s1, e1, _, _, w1⟩ := draw (j := j + 2) (ns := ns) (k := town) (m := 14) (s := s) (by omega) hh
  refine ⟨⟨f, if 0 < f then pots else [], decide (x = 0)⟩, s1, fun n hn => ?_, ⟨hf, hf2, ?_, ?_, ?_, ?_, ?_⟩, w1⟩
  · have ht : s1.take n = s1 := by rw [hn, ← w1.len, List.take_length]
    by_cases c1 : 0 < f <;> simp only [B_law_drawn_stroke, ss_cons, ss_nil, s_setT', s_set', s_par', s_expr', s_ite', s_ret', s_retN', s_raise', e_var, e_non, e_bl, e_int, e_neg, e_str, e_bin, e_cmp, e_cmp2, e_and, e_or, e_not, e_ite, e_tup, e_lst, e_ix, e_isNon, e_notNon, e_call, e_blt, e_isi, e_rev, s_try', tryO_exc, tryO_nx, tryO_rt, tryO_ite, hs_nil, hs_cons, es_nil, es_cons, List.map_cons, List.map_nil, List.replicate, List.cons_append, List.nil_append, List.append_nil, List.getElem?_cons_zero, List.getElem?_cons_succ, lookV_some, ok_bind, ok_out, stuck_bind, stuck_out, onS_tup, onS_lst, onI_int, setAll, List.set_cons_zero, List.set_cons_succ, nxO_some, nx_then, rt_then, ite_then, exc_then, exc_bind, exc_out, finish_exc, deref_int, deref_bl, deref_str, deref_non, deref_tup, deref_lst, deref_scr, cmp_eq, cmp_ne, cmp_lt, cmp_le, cmp_gt, cmp_ge, Option.map_some, of_some', tru_bl, tru_int, tru_non, tru_tup0, tru_tup1, tru_lst0, tru_lst1, brB_t, brB_f, brB_d, brB_nd, finish_ite, finish_rt, finish_nx, ite_out, ite_bind, List.length_cons, List.length_nil, sz0, sz1, sz2, sz3, sz4, sz5, sz6, sz7, sz8, Nat.reduceAdd, Nat.reduceLeDiff, Nat.zero_le, Nat.zero_add, if_true, if_false, ↓reduceIte, ix_t0, ix_t1, ix_t2, ix_t3, ix_t4, ix_t5, ix_l0, ix_l1, leave_tup, leave_lst, leave_int, leave_bl, leave_str, leave_non, lo_int, lo_bl, lo_str, lo_non, lo_tup, lo_lst, loAll_nil, loAll_cons, loAll_ints, Bool.and_true, Bool.true_and, Bool.and_self, List.take_length, bin_add, bin_sub, int1_d, int1_bl, inn, ini, ins, int', inb, inl', Bool.not_true, Bool.not_false, decide_eq_true_eq, decide_true, decide_false, brB_b, slt_hi, slt_lo, slt_m1, sll_hi, sll_lo, mul_t0, mul_t1, Int.reduceLE, Int.reduceToNat, List.take_succ_cons, List.take_zero, List.drop_succ_cons, List.drop_zero, List.take_nil, List.drop_nil, Nat.reduceAdd, e_slHi, e_slLo, e_slLH, Int.reduceAdd, Int.add_zero, Int.mul_one, Int.mul_zero, Int.reduceNeg, List.getElem?_nil, Bool.false_eq_true, Int.reduceLT, Int.reduceEq, and_true, true_and, and_false, false_and, not_true_eq_false, not_false_eq_true, of_ite, map_ite, c1, e1, Sk.ds, ht]
  · intro y hy
    simp only at hy
    split at hy
    · exact hp y hy
    · cases hy
  · simp only
    split
    · exact hl
    · simp
  · simp only
    split
    · exact hso
    · exact List.Pairwise.nil
  · simp only
    split
    · exact hct
    · have : (0 : Int) ≤ (pots.count 1 : Nat) := Int.natCast_nonneg _
      simp; omega
  · simp only
    intro z
    rw [if_neg (by omega)]
theorem ds_pots {j : Nat} {ns : List Int} {town : Nat} {R C w f : Int} {p : Pl} {s : Sta} (G : Good R C p) (hR : R ≤ 100) (hC : C ≤ 50) (hf : 0 ≤ f) (hf2 : f ≤ C + 1) (hC1 : 1 ≤ C) (hR1 : 1 ≤ R) (hh : Has town s 60) :
    ∃ k s', (∀ n, n = s.length → finish n (evSs (FTab fb (j + 3)) (B_law_drawn_stroke.drop 5) [some (.scr ns), some (.ref town), some (Rs R C), some p.d, some (.int p.up), some (.int p.on), some (.int p.reds), some (.int p.low), some (.tup [.int p.p0, .int p.p1]), some (.int p.free), some (.lst ((rg p.low (C + 2)).map .int)), some (.int w), some (.int f), none, none, none] s) = .ok (.tup (Sk.ds k)) s') ∧ SkOk R C k ∧ Drew town s s' 60 := by
  have split3 : B_law_drawn_stroke.drop 5 = (B_law_drawn_stroke.drop 5).take 3 ++ B_law_drawn_stroke.drop 8 := rfl
  -- what the three statements leave
  have mid : ∃ (pots : List Int) (m : Option Dt) (s' : Sta), evSs (FTab fb (j + 3)) ((B_law_drawn_stroke.drop 5).take 3) [some (.scr ns), some (.ref town), some (Rs R C), some p.d, some (.int p.up), some (.int p.on), some (.int p.reds), some (.int p.low), some (.tup [.int p.p0, .int p.p1]), some (.int p.free), some (.lst ((rg p.low (C + 2)).map .int)), some (.int w), some (.int f), none, none, none] s =
      .nx [some (.scr ns), some (.ref town), some (Rs R C), some p.d, some (.int p.up), some (.int p.on), some (.int p.reds), some (.int p.low), some (.tup [.int p.p0, .int p.p1]), some (.int p.free), some (.lst ((rg p.low (C + 2)).map .int)), some (.int w), some (.int f), some (.tup (pots.map .int)), m, none] s' ∧
      (0 < f → ∀ x ∈ pots, 1 ≤ x ∧ x ≤ C + 1) ∧ pots.length ≤ 100 ∧ (¬ 0 < f → pots = [] ∨ ∀ x ∈ pots, 1 ≤ x ∧ x ≤ C + 1) ∧ (pots.Pairwise fun a b => a < b ∨ (a = 1 ∧ b = 1)) ∧ ((pots.count 1 : Nat) ≤ R) ∧ Drew town s s' 59 := by
    have hr := G.r0
    have hrR := G.rR
    have ones : ∀ n : Nat, (List.replicate n (1 : Int)).Pairwise fun a b => a < b ∨ (a = 1 ∧ b = 1) := fun n => List.pairwise_replicate.mpr (.inr (.inr ⟨rfl, rfl⟩))
    by_cases c6 : w = 6
    · subst c6
      have hm : evBin .mul (.tup [.int 1]) (.int (if 2 < p.reds then 2 else p.reds)) = some (.tup ((List.replicate (if 2 < p.reds then 2 else p.reds).toNat (1 : Int)).map Dt.int)) := by
        rw [mul_tn (by split <;> omega) (by split <;> omega) (by simp), rep_one]; simp
      have ho : ∀ x ∈ List.replicate (if 2 < p.reds then 2 else p.reds).toNat (1 : Int), 1 ≤ x ∧ x ≤ C + 1 := fun x hx => by rw [List.eq_of_mem_replicate hx]; omega
      refine ⟨List.replicate (if 2 < p.reds then 2 else p.reds).toNat 1, none, s, ?_, fun _ => ho, ?_, fun _ => .inr ho, ones _, by rw [List.count_replicate_self]; split <;> omega, Drew.refl _ _ _⟩
      · by_cases c1 : 0 < f <;> simp only [B_law_drawn_stroke, ss_cons, ss_nil, s_setT', s_set', s_par', s_expr', s_ite', s_ret', s_retN', s_raise', e_var, e_non, e_bl, e_int, e_neg, e_str, e_bin, e_cmp, e_cmp2, e_and, e_or, e_not, e_ite, e_tup, e_lst, e_ix, e_isNon, e_notNon, e_call, e_blt, e_isi, e_rev, s_try', tryO_exc, tryO_nx, tryO_rt, tryO_ite, hs_nil, hs_cons, es_nil, es_cons, List.map_cons, List.map_nil, List.replicate, List.cons_append, List.nil_append, List.append_nil, List.getElem?_cons_zero, List.getElem?_cons_succ, lookV_some, ok_bind, ok_out, stuck_bind, stuck_out, onS_tup, onS_lst, onI_int, setAll, List.set_cons_zero, List.set_cons_succ, nxO_some, nx_then, rt_then, ite_then, exc_then, exc_bind, exc_out, finish_exc, deref_int, deref_bl, deref_str, deref_non, deref_tup, deref_lst, deref_scr, cmp_eq, cmp_ne, cmp_lt, cmp_le, cmp_gt, cmp_ge, Option.map_some, of_some', tru_bl, tru_int, tru_non, tru_tup0, tru_tup1, tru_lst0, tru_lst1, brB_t, brB_f, brB_d, brB_nd, finish_ite, finish_rt, finish_nx, ite_out, ite_bind, List.length_cons, List.length_nil, sz0, sz1, sz2, sz3, sz4, sz5, sz6, sz7, sz8, Nat.reduceAdd, Nat.reduceLeDiff, Nat.zero_le, Nat.zero_add, if_true, if_false, ↓reduceIte, ix_t0, ix_t1, ix_t2, ix_t3, ix_t4, ix_t5, ix_l0, ix_l1, leave_tup, leave_lst, leave_int, leave_bl, leave_str, leave_non, lo_int, lo_bl, lo_str, lo_non, lo_tup, lo_lst, loAll_nil, loAll_cons, loAll_ints, Bool.and_true, Bool.true_and, Bool.and_self, List.take_length, bin_add, bin_sub, int1_d, int1_bl, inn, ini, ins, int', inb, inl', Bool.not_true, Bool.not_false, decide_eq_true_eq, decide_true, decide_false, brB_b, slt_hi, slt_lo, slt_m1, sll_hi, sll_lo, mul_t0, mul_t1, Int.reduceLE, Int.reduceToNat, List.take_succ_cons, List.take_zero, List.drop_succ_cons, List.drop_zero, List.take_nil, List.drop_nil, Nat.reduceAdd, e_slHi, e_slLo, e_slLH, Int.reduceAdd, Int.add_zero, Int.mul_one, Int.mul_zero, Int.reduceNeg, List.getElem?_nil, Bool.false_eq_true, Int.reduceLT, Int.reduceEq, and_true, true_and, and_false, false_and, not_true_eq_false, not_false_eq_true, of_ite, map_ite, c1, min2_eq, hm]
      · rw [List.length_replicate]; split <;> omega
    · by_cases c7 : w = 7
      · subst c7
        have hlen : (rg p.low (C + 2)).length ≤ 50 := by rw [len_rg]; have := G.l2; omega
        have hl2 : (rg p.low (C + 2)).length < lineM := by unfold lineM; omega
        obtain ⟨l', s1, e1, m1, w1⟩ := lc_draw (F := FTab fb (j + 3)) (ρ := [some (.scr ns), some (.ref town), some (Rs R C), some p.d, some (.int p.up), some (.int p.on), some (.int p.reds), some (.int p.low), some (.tup [.int p.p0, .int p.p1]), some (.int p.free), some (.lst ((rg p.low (C + 2)).map .int)), some (.int 7), some (.int f), some (.tup []), none, none])
          (c := .cmp .eq (.call 7 [.var 0, .var 1, .int 3]) (.int 0)) (i := 15) (own := [15]) (town := town) (by simp) (fun x s hs => by
            obtain ⟨y, s', e, _, _, w⟩ := draw (j := j + 2) (ns := ns) (k := town) (m := 3) (s := s) (by omega) hs
            exact ⟨decide (y = 0), s', by simp only [wipeE, ss_cons, ss_nil, s_setT', s_set', s_par', s_expr', s_ite', s_ret', s_retN', s_raise', e_var, e_non, e_bl, e_int, e_neg, e_str, e_bin, e_cmp, e_cmp2, e_and, e_or, e_not, e_ite, e_tup, e_lst, e_ix, e_isNon, e_notNon, e_call, e_blt, e_isi, e_rev, s_try', tryO_exc, tryO_nx, tryO_rt, tryO_ite, hs_nil, hs_cons, es_nil, es_cons, List.map_cons, List.map_nil, List.replicate, List.cons_append, List.nil_append, List.append_nil, List.getElem?_cons_zero, List.getElem?_cons_succ, lookV_some, ok_bind, ok_out, stuck_bind, stuck_out, onS_tup, onS_lst, onI_int, setAll, List.set_cons_zero, List.set_cons_succ, nxO_some, nx_then, rt_then, ite_then, exc_then, exc_bind, exc_out, finish_exc, deref_int, deref_bl, deref_str, deref_non, deref_tup, deref_lst, deref_scr, cmp_eq, cmp_ne, cmp_lt, cmp_le, cmp_gt, cmp_ge, Option.map_some, of_some', tru_bl, tru_int, tru_non, tru_tup0, tru_tup1, tru_lst0, tru_lst1, brB_t, brB_f, brB_d, brB_nd, finish_ite, finish_rt, finish_nx, ite_out, ite_bind, List.length_cons, List.length_nil, sz0, sz1, sz2, sz3, sz4, sz5, sz6, sz7, sz8, Nat.reduceAdd, Nat.reduceLeDiff, Nat.zero_le, Nat.zero_add, if_true, if_false, ↓reduceIte, ix_t0, ix_t1, ix_t2, ix_t3, ix_t4, ix_t5, ix_l0, ix_l1, leave_tup, leave_lst, leave_int, leave_bl, leave_str, leave_non, lo_int, lo_bl, lo_str, lo_non, lo_tup, lo_lst, loAll_nil, loAll_cons, loAll_ints, Bool.and_true, Bool.true_and, Bool.and_self, List.take_length, bin_add, bin_sub, int1_d, int1_bl, inn, ini, ins, int', inb, inl', Bool.not_true, Bool.not_false, decide_eq_true_eq, decide_true, decide_false, brB_b, slt_hi, slt_lo, slt_m1, sll_hi, sll_lo, mul_t0, mul_t1, Int.reduceLE, Int.reduceToNat, List.take_succ_cons, List.take_zero, List.drop_succ_cons, List.drop_zero, List.take_nil, List.drop_nil, Nat.reduceAdd, e_slHi, e_slLo, e_slLH, Int.reduceAdd, Int.add_zero, Int.mul_one, Int.mul_zero, Int.reduceNeg, List.getElem?_nil, Bool.false_eq_true, Int.reduceLT, Int.reduceEq, and_true, true_and, and_false, false_and, not_true_eq_false, not_false_eq_true, of_ite, map_ite, e], w⟩) (rg p.low (C + 2)) s (hh.mono (by omega))
        have w1' := w1.mono hlen
        have n1 := m1.length_le
        have l2 : ∀ x ∈ l', 2 ≤ x := fun x hx => by have := mem_rg.mp (m1.subset hx); have := G.l2; omega
        have h1 : Has town s1 10 := w1'.has hh
        obtain ⟨r, s2, e2, r0, r1, w2⟩ := draw (j := j + 2) (ns := ns) (k := town) (m := if p.reds + 1 < 3 then p.reds + 1 else 3) (s := s1) (by split <;> omega) (h1.mono (by omega))
        have r3 : r < 3 := by split at r1 <;> omega
        have hm : evBin .mul (.tup [.int 1]) (.int r) = some (.tup ((List.replicate r.toNat (1 : Int)).map Dt.int)) := by rw [mul_tn (by omega) (by omega) (by simp), rep_one]; simp
        have ha : evBin .add (.tup ((List.replicate r.toNat (1 : Int)).map Dt.int)) (.tup (l'.map Dt.int)) = some (.tup ((List.replicate r.toNat 1 ++ l').map Dt.int)) := by rw [add_tt (by simp; omega)]; simp
        have ho : ∀ x ∈ List.replicate r.toNat 1 ++ l', 1 ≤ x ∧ x ≤ C + 1 := fun x hx => by
          rcases List.mem_append.mp hx with hx | hx
          · rw [List.eq_of_mem_replicate hx]; omega
          · have := mem_rg.mp (m1.subset hx); have := G.l2; omega
        refine ⟨List.replicate r.toNat 1 ++ l', some (.lst (l'.map .int)), s2, ?_, fun _ => ho, by simp; omega, fun _ => .inr ho, ?_, ?_, (w1'.trans w2).mono (by omega)⟩
        rotate_left
        · refine List.pairwise_append.mpr ⟨ones _, (rg_lt.sublist m1).imp fun h => .inl h, fun a ha b hb => .inl ?_⟩
          have := l2 b hb
          rw [List.eq_of_mem_replicate ha]; omega
        · have z : l'.count 1 = 0 := List.count_eq_zero.mpr fun h => by have := l2 1 h; omega
          rw [List.count_append, List.count_replicate_self, z]
          split at r1 <;> omega
        by_cases c1 : 0 < f <;> simp only [B_law_drawn_stroke, ss_cons, ss_nil, s_setT', s_set', s_par', s_expr', s_ite', s_ret', s_retN', s_raise', e_var, e_non, e_bl, e_int, e_neg, e_str, e_bin, e_cmp, e_cmp2, e_and, e_or, e_not, e_ite, e_tup, e_lst, e_ix, e_isNon, e_notNon, e_call, e_blt, e_isi, e_rev, s_try', tryO_exc, tryO_nx, tryO_rt, tryO_ite, hs_nil, hs_cons, es_nil, es_cons, List.map_cons, List.map_nil, List.replicate, List.cons_append, List.nil_append, List.append_nil, List.getElem?_cons_zero, List.getElem?_cons_succ, lookV_some, ok_bind, ok_out, stuck_bind, stuck_out, onS_tup, onS_lst, onI_int, setAll, List.set_cons_zero, List.set_cons_succ, nxO_some, nx_then, rt_then, ite_then, exc_then, exc_bind, exc_out, finish_exc, deref_int, deref_bl, deref_str, deref_non, deref_tup, deref_lst, deref_scr, cmp_eq, cmp_ne, cmp_lt, cmp_le, cmp_gt, cmp_ge, Option.map_some, of_some', tru_bl, tru_int, tru_non, tru_tup0, tru_tup1, tru_lst0, tru_lst1, brB_t, brB_f, brB_d, brB_nd, finish_ite, finish_rt, finish_nx, ite_out, ite_bind, List.length_cons, List.length_nil, sz0, sz1, sz2, sz3, sz4, sz5, sz6, sz7, sz8, Nat.reduceAdd, Nat.reduceLeDiff, Nat.zero_le, Nat.zero_add, if_true, if_false, ↓reduceIte, ix_t0, ix_t1, ix_t2, ix_t3, ix_t4, ix_t5, ix_l0, ix_l1, leave_tup, leave_lst, leave_int, leave_bl, leave_str, leave_non, lo_int, lo_bl, lo_str, lo_non, lo_tup, lo_lst, loAll_nil, loAll_cons, loAll_ints, Bool.and_true, Bool.true_and, Bool.and_self, List.take_length, bin_add, bin_sub, int1_d, int1_bl, inn, ini, ins, int', inb, inl', Bool.not_true, Bool.not_false, decide_eq_true_eq, decide_true, decide_false, brB_b, slt_hi, slt_lo, slt_m1, sll_hi, sll_lo, mul_t0, mul_t1, Int.reduceLE, Int.reduceToNat, List.take_succ_cons, List.take_zero, List.drop_succ_cons, List.drop_zero, List.take_nil, List.drop_nil, Nat.reduceAdd, e_slHi, e_slLo, e_slLH, Int.reduceAdd, Int.add_zero, Int.mul_one, Int.mul_zero, Int.reduceNeg, List.getElem?_nil, Bool.false_eq_true, Int.reduceLT, Int.reduceEq, and_true, true_and, and_false, false_and, not_true_eq_false, not_false_eq_true, of_ite, map_ite, c1, e_lc, i_e, itemsOf, e1, List.length_map, if_pos hl2, min2_eq, e2, hm, tupleOf_lst, ha]
      · by_cases c1 : 0 < w ∧ w < 7 ∧ 0 < f
        · refine ⟨[f], none, s, ?_, fun _ x hx => (by rw [List.mem_singleton.mp hx]; omega), (by simp), fun z => absurd c1.2.2 z, List.pairwise_singleton _ _, (by simp only [List.count_singleton]; split <;> simp <;> omega), Drew.refl _ _ _⟩
          simp only [B_law_drawn_stroke, ss_cons, ss_nil, s_setT', s_set', s_par', s_expr', s_ite', s_ret', s_retN', s_raise', e_var, e_non, e_bl, e_int, e_neg, e_str, e_bin, e_cmp, e_cmp2, e_and, e_or, e_not, e_ite, e_tup, e_lst, e_ix, e_isNon, e_notNon, e_call, e_blt, e_isi, e_rev, s_try', tryO_exc, tryO_nx, tryO_rt, tryO_ite, hs_nil, hs_cons, es_nil, es_cons, List.map_cons, List.map_nil, List.replicate, List.cons_append, List.nil_append, List.append_nil, List.getElem?_cons_zero, List.getElem?_cons_succ, lookV_some, ok_bind, ok_out, stuck_bind, stuck_out, onS_tup, onS_lst, onI_int, setAll, List.set_cons_zero, List.set_cons_succ, nxO_some, nx_then, rt_then, ite_then, exc_then, exc_bind, exc_out, finish_exc, deref_int, deref_bl, deref_str, deref_non, deref_tup, deref_lst, deref_scr, cmp_eq, cmp_ne, cmp_lt, cmp_le, cmp_gt, cmp_ge, Option.map_some, of_some', tru_bl, tru_int, tru_non, tru_tup0, tru_tup1, tru_lst0, tru_lst1, brB_t, brB_f, brB_d, brB_nd, finish_ite, finish_rt, finish_nx, ite_out, ite_bind, List.length_cons, List.length_nil, sz0, sz1, sz2, sz3, sz4, sz5, sz6, sz7, sz8, Nat.reduceAdd, Nat.reduceLeDiff, Nat.zero_le, Nat.zero_add, if_true, if_false, ↓reduceIte, ix_t0, ix_t1, ix_t2, ix_t3, ix_t4, ix_t5, ix_l0, ix_l1, leave_tup, leave_lst, leave_int, leave_bl, leave_str, leave_non, lo_int, lo_bl, lo_str, lo_non, lo_tup, lo_lst, loAll_nil, loAll_cons, loAll_ints, Bool.and_true, Bool.true_and, Bool.and_self, List.take_length, bin_add, bin_sub, int1_d, int1_bl, inn, ini, ins, int', inb, inl', Bool.not_true, Bool.not_false, decide_eq_true_eq, decide_true, decide_false, brB_b, slt_hi, slt_lo, slt_m1, sll_hi, sll_lo, mul_t0, mul_t1, Int.reduceLE, Int.reduceToNat, List.take_succ_cons, List.take_zero, List.drop_succ_cons, List.drop_zero, List.take_nil, List.drop_nil, Nat.reduceAdd, e_slHi, e_slLo, e_slLH, Int.reduceAdd, Int.add_zero, Int.mul_one, Int.mul_zero, Int.reduceNeg, List.getElem?_nil, Bool.false_eq_true, Int.reduceLT, Int.reduceEq, and_true, true_and, and_false, false_and, not_true_eq_false, not_false_eq_true, of_ite, map_ite, c1.1, c1.2.1, c1.2.2, c6, c7]
        · refine ⟨[], none, s, ?_, fun _ x hx => absurd hx List.not_mem_nil, (by simp), fun z => .inl rfl, List.Pairwise.nil, (by simp; omega), Drew.refl _ _ _⟩
          by_cases z1 : 0 < w
          · by_cases z2 : w < 7
            · have z3 : ¬ 0 < f := fun z => c1 ⟨z1, z2, z⟩
              simp only [B_law_drawn_stroke, ss_cons, ss_nil, s_setT', s_set', s_par', s_expr', s_ite', s_ret', s_retN', s_raise', e_var, e_non, e_bl, e_int, e_neg, e_str, e_bin, e_cmp, e_cmp2, e_and, e_or, e_not, e_ite, e_tup, e_lst, e_ix, e_isNon, e_notNon, e_call, e_blt, e_isi, e_rev, s_try', tryO_exc, tryO_nx, tryO_rt, tryO_ite, hs_nil, hs_cons, es_nil, es_cons, List.map_cons, List.map_nil, List.replicate, List.cons_append, List.nil_append, List.append_nil, List.getElem?_cons_zero, List.getElem?_cons_succ, lookV_some, ok_bind, ok_out, stuck_bind, stuck_out, onS_tup, onS_lst, onI_int, setAll, List.set_cons_zero, List.set_cons_succ, nxO_some, nx_then, rt_then, ite_then, exc_then, exc_bind, exc_out, finish_exc, deref_int, deref_bl, deref_str, deref_non, deref_tup, deref_lst, deref_scr, cmp_eq, cmp_ne, cmp_lt, cmp_le, cmp_gt, cmp_ge, Option.map_some, of_some', tru_bl, tru_int, tru_non, tru_tup0, tru_tup1, tru_lst0, tru_lst1, brB_t, brB_f, brB_d, brB_nd, finish_ite, finish_rt, finish_nx, ite_out, ite_bind, List.length_cons, List.length_nil, sz0, sz1, sz2, sz3, sz4, sz5, sz6, sz7, sz8, Nat.reduceAdd, Nat.reduceLeDiff, Nat.zero_le, Nat.zero_add, if_true, if_false, ↓reduceIte, ix_t0, ix_t1, ix_t2, ix_t3, ix_t4, ix_t5, ix_l0, ix_l1, leave_tup, leave_lst, leave_int, leave_bl, leave_str, leave_non, lo_int, lo_bl, lo_str, lo_non, lo_tup, lo_lst, loAll_nil, loAll_cons, loAll_ints, Bool.and_true, Bool.true_and, Bool.and_self, List.take_length, bin_add, bin_sub, int1_d, int1_bl, inn, ini, ins, int', inb, inl', Bool.not_true, Bool.not_false, decide_eq_true_eq, decide_true, decide_false, brB_b, slt_hi, slt_lo, slt_m1, sll_hi, sll_lo, mul_t0, mul_t1, Int.reduceLE, Int.reduceToNat, List.take_succ_cons, List.take_zero, List.drop_succ_cons, List.drop_zero, List.take_nil, List.drop_nil, Nat.reduceAdd, e_slHi, e_slLo, e_slLH, Int.reduceAdd, Int.add_zero, Int.mul_one, Int.mul_zero, Int.reduceNeg, List.getElem?_nil, Bool.false_eq_true, Int.reduceLT, Int.reduceEq, and_true, true_and, and_false, false_and, not_true_eq_false, not_false_eq_true, of_ite, map_ite, z1, z2, z3, c6, c7]
            · simp only [B_law_drawn_stroke, ss_cons, ss_nil, s_setT', s_set', s_par', s_expr', s_ite', s_ret', s_retN', s_raise', e_var, e_non, e_bl, e_int, e_neg, e_str, e_bin, e_cmp, e_cmp2, e_and, e_or, e_not, e_ite, e_tup, e_lst, e_ix, e_isNon, e_notNon, e_call, e_blt, e_isi, e_rev, s_try', tryO_exc, tryO_nx, tryO_rt, tryO_ite, hs_nil, hs_cons, es_nil, es_cons, List.map_cons, List.map_nil, List.replicate, List.cons_append, List.nil_append, List.append_nil, List.getElem?_cons_zero, List.getElem?_cons_succ, lookV_some, ok_bind, ok_out, stuck_bind, stuck_out, onS_tup, onS_lst, onI_int, setAll, List.set_cons_zero, List.set_cons_succ, nxO_some, nx_then, rt_then, ite_then, exc_then, exc_bind, exc_out, finish_exc, deref_int, deref_bl, deref_str, deref_non, deref_tup, deref_lst, deref_scr, cmp_eq, cmp_ne, cmp_lt, cmp_le, cmp_gt, cmp_ge, Option.map_some, of_some', tru_bl, tru_int, tru_non, tru_tup0, tru_tup1, tru_lst0, tru_lst1, brB_t, brB_f, brB_d, brB_nd, finish_ite, finish_rt, finish_nx, ite_out, ite_bind, List.length_cons, List.length_nil, sz0, sz1, sz2, sz3, sz4, sz5, sz6, sz7, sz8, Nat.reduceAdd, Nat.reduceLeDiff, Nat.zero_le, Nat.zero_add, if_true, if_false, ↓reduceIte, ix_t0, ix_t1, ix_t2, ix_t3, ix_t4, ix_t5, ix_l0, ix_l1, leave_tup, leave_lst, leave_int, leave_bl, leave_str, leave_non, lo_int, lo_bl, lo_str, lo_non, lo_tup, lo_lst, loAll_nil, loAll_cons, loAll_ints, Bool.and_true, Bool.true_and, Bool.and_self, List.take_length, bin_add, bin_sub, int1_d, int1_bl, inn, ini, ins, int', inb, inl', Bool.not_true, Bool.not_false, decide_eq_true_eq, decide_true, decide_false, brB_b, slt_hi, slt_lo, slt_m1, sll_hi, sll_lo, mul_t0, mul_t1, Int.reduceLE, Int.reduceToNat, List.take_succ_cons, List.take_zero, List.drop_succ_cons, List.drop_zero, List.take_nil, List.drop_nil, Nat.reduceAdd, e_slHi, e_slLo, e_slLH, Int.reduceAdd, Int.add_zero, Int.mul_one, Int.mul_zero, Int.reduceNeg, List.getElem?_nil, Bool.false_eq_true, Int.reduceLT, Int.reduceEq, and_true, true_and, and_false, false_and, not_true_eq_false, not_false_eq_true, of_ite, map_ite, z1, z2, c6, c7]
          · simp only [B_law_drawn_stroke, ss_cons, ss_nil, s_setT', s_set', s_par', s_expr', s_ite', s_ret', s_retN', s_raise', e_var, e_non, e_bl, e_int, e_neg, e_str, e_bin, e_cmp, e_cmp2, e_and, e_or, e_not, e_ite, e_tup, e_lst, e_ix, e_isNon, e_notNon, e_call, e_blt, e_isi, e_rev, s_try', tryO_exc, tryO_nx, tryO_rt, tryO_ite, hs_nil, hs_cons, es_nil, es_cons, List.map_cons, List.map_nil, List.replicate, List.cons_append, List.nil_append, List.append_nil, List.getElem?_cons_zero, List.getElem?_cons_succ, lookV_some, ok_bind, ok_out, stuck_bind, stuck_out, onS_tup, onS_lst, onI_int, setAll, List.set_cons_zero, List.set_cons_succ, nxO_some, nx_then, rt_then, ite_then, exc_then, exc_bind, exc_out, finish_exc, deref_int, deref_bl, deref_str, deref_non, deref_tup, deref_lst, deref_scr, cmp_eq, cmp_ne, cmp_lt, cmp_le, cmp_gt, cmp_ge, Option.map_some, of_some', tru_bl, tru_int, tru_non, tru_tup0, tru_tup1, tru_lst0, tru_lst1, brB_t, brB_f, brB_d, brB_nd, finish_ite, finish_rt, finish_nx, ite_out, ite_bind, List.length_cons, List.length_nil, sz0, sz1, sz2, sz3, sz4, sz5, sz6, sz7, sz8, Nat.reduceAdd, Nat.reduceLeDiff, Nat.zero_le, Nat.zero_add, if_true, if_false, ↓reduceIte, ix_t0, ix_t1, ix_t2, ix_t3, ix_t4, ix_t5, ix_l0, ix_l1, leave_tup, leave_lst, leave_int, leave_bl, leave_str, leave_non, lo_int, lo_bl, lo_str, lo_non, lo_tup, lo_lst, loAll_nil, loAll_cons, loAll_ints, Bool.and_true, Bool.true_and, Bool.and_self, List.take_length, bin_add, bin_sub, int1_d, int1_bl, inn, ini, ins, int', inb, inl', Bool.not_true, Bool.not_false, decide_eq_true_eq, decide_true, decide_false, brB_b, slt_hi, slt_lo, slt_m1, sll_hi, sll_lo, mul_t0, mul_t1, Int.reduceLE, Int.reduceToNat, List.take_succ_cons, List.take_zero, List.drop_succ_cons, List.drop_zero, List.take_nil, List.drop_nil, Nat.reduceAdd, e_slHi, e_slLo, e_slLH, Int.reduceAdd, Int.add_zero, Int.mul_one, Int.mul_zero, Int.reduceNeg, List.getElem?_nil, Bool.false_eq_true, Int.reduceLT, Int.reduceEq, and_true, true_and, and_false, false_and, not_true_eq_false, not_false_eq_true, of_ite, map_ite, z1, c6, c7]
  obtain ⟨pots, m, s1, e1, o1, n1, o2, so, ct, w1⟩ := mid
  have ho : ∀ x ∈ pots, 1 ≤ x ∧ x ≤ C + 1 := by
    by_cases c1 : 0 < f
    · exact o1 c1
    · rcases o2 c1 with z | z
      · rw [z]; intro x hx; cases hx
      · exact z
  obtain ⟨k, s2, e2, o, w2⟩ := ds_end (j := j) (ns := ns) (town := town) (w := w) (f := f) (pots := pots) (m := m) (a := some (Rs R C)) (b := some p.d) (c := some (.int p.up)) (d := some (.int p.on)) (e := some (.int p.reds)) (g := some (.int p.low)) (h := some (.tup [.int p.p0, .int p.p1])) (i := some (.int p.free)) (l := some (.lst ((rg p.low (C + 2)).map .int))) (s := s1) hf hf2 ho n1 so ct (w1.has hh)
  refine ⟨k, s2, fun n hn => ?_, o, w1.trans w2⟩
  rw [split3, ss_app, e1, nx_then]
  exact e2 n (hn.trans w1.len.symm)
theorem drawn_stroke {j : Nat} {ns : List Int} {town : Nat} {R C : Int} {p : Pl} {s : Sta} (G : Good R C p) (hR1 : 1 ≤ R) (hR : R ≤ 100) (hC1 : 1 ≤ C) (hC : C ≤ 50) (hh : Has town s 64) :
    ∃ k s', FTab fb (j + 4) 24 [.scr ns, .ref town, Rs R C, p.d] s = .ok (.tup (Sk.ds k)) s' ∧ SkOk R C k ∧ Drew town s s' 64 := by
  obtain ⟨w, f, s1, e1, f0, f1, w1⟩ := ds_first (j := j) (ns := ns) (town := town) G hR hC1 (by omega) (hh.mono (by omega))
  obtain ⟨k, s2, e2, o, w2⟩ := ds_pots (j := j) (ns := ns) (town := town) (w := w) (f := f) G hR hC f0 f1 hC1 hR1 (w1.has hh)
  refine ⟨k, s2, ?_, o, w1.trans w2⟩
  show FTab fb ((j + 3) + 1) 24 _ s = _
  rw [t_law_drawn_stroke rfl]
  have split : B_law_drawn_stroke = B_law_drawn_stroke.take 5 ++ B_law_drawn_stroke.drop 5 := rfl
  rw [split, ss_app, e1, nx_then]
  exact e2 _ w1.len.symm
end MP
/-! P10: plain: deeds, frames, places that are drawn. -/
namespace MP
open PySem
def DeOk (R C : Int) : De → Prop
  | .stroke k => SkOk R C k
  | _ => True
theorem DeOk.small {R C : Int} {d : De} (h : DeOk R C d) : d.small := by
  cases d with
  | stroke k => have := h.ln; exact (by omega : k.pots.length ≤ 1000)
  | _ => trivial
theorem lo_de {n : Nat} {d : De} : Dt.lo n d.d = true := by
  cases d with
  | stroke k => obtain ⟨f, pots, off⟩ := k; simp only [De.d, Sk.ds, lo_tup, loAll_cons, loAll_nil, lo_int, lo_bl, lo_str, loAll_ints, Bool.and_self]
  | _ => rfl
theorem loAll_de {n : Nat} : ∀ l : List De, Dt.loAll n (l.map De.d) = true
  | [] => rfl
  | d :: l => by rw [List.map_cons, loAll_cons, lo_de, loAll_de l]; rfl
theorem drawn_deed {j : Nat} {ns : List Int} {town : Nat} {R C : Int} {p : Pl} {s : Sta} (G : Good R C p) (hR1 : 1 ≤ R) (hR : R ≤ 100) (hC1 : 1 ≤ C) (hC : C ≤ 50) (hh : Has town s 65) :
    ∃ d s', FTab fb (j + 5) 25 [.scr ns, .ref town, Rs R C, p.d] s = .ok (De.d d) s' ∧ DeOk R C d ∧ Drew town s s' 65 := by
  obtain ⟨w, s1, e1, _, _, w1⟩ := draw (j := j + 3) (ns := ns) (k := town) (m := 60) (s := s) (by omega) (hh.mono (by omega))
  have h1 : Has town s1 64 := w1.has hh
  show ∃ d s', FTab fb ((j + 4) + 1) 25 _ s = _ ∧ _
  rw [t_law_drawn_deed rfl]
  have tk : s1.take s.length = s1 := by rw [← w1.len, List.take_length]
  by_cases c0 : w = 0
  · subst c0
    exact ⟨.give, s1, by simp only [B_law_drawn_deed, ss_cons, ss_nil, s_setT', s_set', s_par', s_expr', s_ite', s_ret', s_retN', s_raise', e_var, e_non, e_bl, e_int, e_neg, e_str, e_bin, e_cmp, e_cmp2, e_and, e_or, e_not, e_ite, e_tup, e_lst, e_ix, e_isNon, e_notNon, e_call, e_blt, e_isi, e_rev, s_try', tryO_exc, tryO_nx, tryO_rt, tryO_ite, hs_nil, hs_cons, es_nil, es_cons, List.map_cons, List.map_nil, List.replicate, List.cons_append, List.nil_append, List.append_nil, List.getElem?_cons_zero, List.getElem?_cons_succ, lookV_some, ok_bind, ok_out, stuck_bind, stuck_out, onS_tup, onS_lst, onI_int, setAll, List.set_cons_zero, List.set_cons_succ, nxO_some, nx_then, rt_then, ite_then, exc_then, exc_bind, exc_out, finish_exc, deref_int, deref_bl, deref_str, deref_non, deref_tup, deref_lst, deref_scr, cmp_eq, cmp_ne, cmp_lt, cmp_le, cmp_gt, cmp_ge, Option.map_some, of_some', tru_bl, tru_int, tru_non, tru_tup0, tru_tup1, tru_lst0, tru_lst1, brB_t, brB_f, brB_d, brB_nd, finish_ite, finish_rt, finish_nx, ite_out, ite_bind, List.length_cons, List.length_nil, sz0, sz1, sz2, sz3, sz4, sz5, sz6, sz7, sz8, Nat.reduceAdd, Nat.reduceLeDiff, Nat.zero_le, Nat.zero_add, if_true, if_false, ↓reduceIte, ix_t0, ix_t1, ix_t2, ix_t3, ix_t4, ix_t5, ix_l0, ix_l1, leave_tup, leave_lst, leave_int, leave_bl, leave_str, leave_non, lo_int, lo_bl, lo_str, lo_non, lo_tup, lo_lst, loAll_nil, loAll_cons, loAll_ints, Bool.and_true, Bool.true_and, Bool.and_self, List.take_length, bin_add, bin_sub, int1_d, int1_bl, inn, ini, ins, int', inb, inl', Bool.not_true, Bool.not_false, decide_eq_true_eq, decide_true, decide_false, brB_b, slt_hi, slt_lo, slt_m1, sll_hi, sll_lo, mul_t0, mul_t1, Int.reduceLE, Int.reduceToNat, List.take_succ_cons, List.take_zero, List.drop_succ_cons, List.drop_zero, List.take_nil, List.drop_nil, Nat.reduceAdd, e_slHi, e_slLo, e_slLH, Int.reduceAdd, Int.add_zero, Int.mul_one, Int.mul_zero, Int.reduceNeg, List.getElem?_nil, Bool.false_eq_true, Int.reduceLT, Int.reduceEq, and_true, true_and, and_false, false_and, not_true_eq_false, not_false_eq_true, of_ite, map_ite, e1, De.d, tk], trivial, w1.mono (by omega)⟩
  · by_cases c1 : w < 3 ∨ (p.free = 1 ∧ w < 24)
    · obtain ⟨d, s2, e2, m2, w2⟩ := pick (j := j + 2) (ns := ns) (k := town) (l := [.str "free", .str "free", .str "pass"]) (s := s1) (by simp) (h1.mono (by omega)) rfl
      have tk2 : s2.take s.length = s2 := by rw [← (w1.trans w2).len, List.take_length]
      have hd : d = .str "free" ∨ d = .str "pass" := by simp at m2; rcases m2 with z | z; exact .inl z; exact .inr z
      have ww := (w1.trans w2).mono (show 1 + 1 ≤ 65 by omega)
      have run : ∀ e : De, e.d = .tup [d] → finish s.length (evSs (FTab fb (j + 4)) B_law_drawn_deed ([Dt.scr ns, .ref town, Rs R C, p.d].map some ++ List.replicate 1 none) s) = .ok e.d s2 := fun e he => by
        rw [he]
        have lod : Dt.lo s.length d = true := by rcases hd with z | z <;> rw [z] <;> rfl
        obtain ⟨up, on, reds, low, p0, p1, free⟩ := p
        by_cases c2 : w < 3
        · simp only [B_law_drawn_deed, ss_cons, ss_nil, s_setT', s_set', s_par', s_expr', s_ite', s_ret', s_retN', s_raise', e_var, e_non, e_bl, e_int, e_neg, e_str, e_bin, e_cmp, e_cmp2, e_and, e_or, e_not, e_ite, e_tup, e_lst, e_ix, e_isNon, e_notNon, e_call, e_blt, e_isi, e_rev, s_try', tryO_exc, tryO_nx, tryO_rt, tryO_ite, hs_nil, hs_cons, es_nil, es_cons, List.map_cons, List.map_nil, List.replicate, List.cons_append, List.nil_append, List.append_nil, List.getElem?_cons_zero, List.getElem?_cons_succ, lookV_some, ok_bind, ok_out, stuck_bind, stuck_out, onS_tup, onS_lst, onI_int, setAll, List.set_cons_zero, List.set_cons_succ, nxO_some, nx_then, rt_then, ite_then, exc_then, exc_bind, exc_out, finish_exc, deref_int, deref_bl, deref_str, deref_non, deref_tup, deref_lst, deref_scr, cmp_eq, cmp_ne, cmp_lt, cmp_le, cmp_gt, cmp_ge, Option.map_some, of_some', tru_bl, tru_int, tru_non, tru_tup0, tru_tup1, tru_lst0, tru_lst1, brB_t, brB_f, brB_d, brB_nd, finish_ite, finish_rt, finish_nx, ite_out, ite_bind, List.length_cons, List.length_nil, sz0, sz1, sz2, sz3, sz4, sz5, sz6, sz7, sz8, Nat.reduceAdd, Nat.reduceLeDiff, Nat.zero_le, Nat.zero_add, if_true, if_false, ↓reduceIte, ix_t0, ix_t1, ix_t2, ix_t3, ix_t4, ix_t5, ix_l0, ix_l1, leave_tup, leave_lst, leave_int, leave_bl, leave_str, leave_non, lo_int, lo_bl, lo_str, lo_non, lo_tup, lo_lst, loAll_nil, loAll_cons, loAll_ints, Bool.and_true, Bool.true_and, Bool.and_self, List.take_length, bin_add, bin_sub, int1_d, int1_bl, inn, ini, ins, int', inb, inl', Bool.not_true, Bool.not_false, decide_eq_true_eq, decide_true, decide_false, brB_b, slt_hi, slt_lo, slt_m1, sll_hi, sll_lo, mul_t0, mul_t1, Int.reduceLE, Int.reduceToNat, List.take_succ_cons, List.take_zero, List.drop_succ_cons, List.drop_zero, List.take_nil, List.drop_nil, Nat.reduceAdd, e_slHi, e_slLo, e_slLH, Int.reduceAdd, Int.add_zero, Int.mul_one, Int.mul_zero, Int.reduceNeg, List.getElem?_nil, Bool.false_eq_true, Int.reduceLT, Int.reduceEq, and_true, true_and, and_false, false_and, not_true_eq_false, not_false_eq_true, of_ite, map_ite, e1, c0, c2, e2, tk2, lod]
        · have c3 := c1.resolve_left c2
          simp only at c3
          simp only [B_law_drawn_deed, ss_cons, ss_nil, s_setT', s_set', s_par', s_expr', s_ite', s_ret', s_retN', s_raise', e_var, e_non, e_bl, e_int, e_neg, e_str, e_bin, e_cmp, e_cmp2, e_and, e_or, e_not, e_ite, e_tup, e_lst, e_ix, e_isNon, e_notNon, e_call, e_blt, e_isi, e_rev, s_try', tryO_exc, tryO_nx, tryO_rt, tryO_ite, hs_nil, hs_cons, es_nil, es_cons, List.map_cons, List.map_nil, List.replicate, List.cons_append, List.nil_append, List.append_nil, List.getElem?_cons_zero, List.getElem?_cons_succ, lookV_some, ok_bind, ok_out, stuck_bind, stuck_out, onS_tup, onS_lst, onI_int, setAll, List.set_cons_zero, List.set_cons_succ, nxO_some, nx_then, rt_then, ite_then, exc_then, exc_bind, exc_out, finish_exc, deref_int, deref_bl, deref_str, deref_non, deref_tup, deref_lst, deref_scr, cmp_eq, cmp_ne, cmp_lt, cmp_le, cmp_gt, cmp_ge, Option.map_some, of_some', tru_bl, tru_int, tru_non, tru_tup0, tru_tup1, tru_lst0, tru_lst1, brB_t, brB_f, brB_d, brB_nd, finish_ite, finish_rt, finish_nx, ite_out, ite_bind, List.length_cons, List.length_nil, sz0, sz1, sz2, sz3, sz4, sz5, sz6, sz7, sz8, Nat.reduceAdd, Nat.reduceLeDiff, Nat.zero_le, Nat.zero_add, if_true, if_false, ↓reduceIte, ix_t0, ix_t1, ix_t2, ix_t3, ix_t4, ix_t5, ix_l0, ix_l1, leave_tup, leave_lst, leave_int, leave_bl, leave_str, leave_non, lo_int, lo_bl, lo_str, lo_non, lo_tup, lo_lst, loAll_nil, loAll_cons, loAll_ints, Bool.and_true, Bool.true_and, Bool.and_self, List.take_length, bin_add, bin_sub, int1_d, int1_bl, inn, ini, ins, int', inb, inl', Bool.not_true, Bool.not_false, decide_eq_true_eq, decide_true, decide_false, brB_b, slt_hi, slt_lo, slt_m1, sll_hi, sll_lo, mul_t0, mul_t1, Int.reduceLE, Int.reduceToNat, List.take_succ_cons, List.take_zero, List.drop_succ_cons, List.drop_zero, List.take_nil, List.drop_nil, Nat.reduceAdd, e_slHi, e_slLo, e_slLH, Int.reduceAdd, Int.add_zero, Int.mul_one, Int.mul_zero, Int.reduceNeg, List.getElem?_nil, Bool.false_eq_true, Int.reduceLT, Int.reduceEq, and_true, true_and, and_false, false_and, not_true_eq_false, not_false_eq_true, of_ite, map_ite, e1, c0, c2, Pl.d, eq_true c3.1, c3.2, e2, tk2, lod]
      rcases hd with z | z
      · exact ⟨.free, s2, run .free (by rw [z]; rfl), trivial, ww⟩
      · exact ⟨.pass, s2, run .pass (by rw [z]; rfl), trivial, ww⟩
    · obtain ⟨k, s2, e2, o, w2⟩ := drawn_stroke (j := j) (ns := ns) (town := town) G hR1 hR hC1 hC h1
      have tk2 : s2.take s.length = s2 := by rw [← (w1.trans w2).len, List.take_length]
      have ha : evBin .add (.tup [.str "stroke"]) (.tup (Sk.ds k)) = some (De.stroke k).d := by rw [add_tt (by simp [Sk.ds])]; rfl
      have lo1 := lo_de (n := s.length) (d := .stroke k)
      refine ⟨.stroke k, s2, ?_, o, w1.trans w2⟩
      obtain ⟨up, on, reds, low, p0, p1, free⟩ := p
      simp only at c1
      simp only [Pl.d] at e2
      have c2 : ¬ w < 3 := fun z => c1 (.inl z)
      by_cases c3 : free = 1
      · have c4 : ¬ w < 24 := fun z => c1 (.inr ⟨c3, z⟩)
        simp only [B_law_drawn_deed, ss_cons, ss_nil, s_setT', s_set', s_par', s_expr', s_ite', s_ret', s_retN', s_raise', e_var, e_non, e_bl, e_int, e_neg, e_str, e_bin, e_cmp, e_cmp2, e_and, e_or, e_not, e_ite, e_tup, e_lst, e_ix, e_isNon, e_notNon, e_call, e_blt, e_isi, e_rev, s_try', tryO_exc, tryO_nx, tryO_rt, tryO_ite, hs_nil, hs_cons, es_nil, es_cons, List.map_cons, List.map_nil, List.replicate, List.cons_append, List.nil_append, List.append_nil, List.getElem?_cons_zero, List.getElem?_cons_succ, lookV_some, ok_bind, ok_out, stuck_bind, stuck_out, onS_tup, onS_lst, onI_int, setAll, List.set_cons_zero, List.set_cons_succ, nxO_some, nx_then, rt_then, ite_then, exc_then, exc_bind, exc_out, finish_exc, deref_int, deref_bl, deref_str, deref_non, deref_tup, deref_lst, deref_scr, cmp_eq, cmp_ne, cmp_lt, cmp_le, cmp_gt, cmp_ge, Option.map_some, of_some', tru_bl, tru_int, tru_non, tru_tup0, tru_tup1, tru_lst0, tru_lst1, brB_t, brB_f, brB_d, brB_nd, finish_ite, finish_rt, finish_nx, ite_out, ite_bind, List.length_cons, List.length_nil, sz0, sz1, sz2, sz3, sz4, sz5, sz6, sz7, sz8, Nat.reduceAdd, Nat.reduceLeDiff, Nat.zero_le, Nat.zero_add, if_true, if_false, ↓reduceIte, ix_t0, ix_t1, ix_t2, ix_t3, ix_t4, ix_t5, ix_l0, ix_l1, leave_tup, leave_lst, leave_int, leave_bl, leave_str, leave_non, lo_int, lo_bl, lo_str, lo_non, lo_tup, lo_lst, loAll_nil, loAll_cons, loAll_ints, Bool.and_true, Bool.true_and, Bool.and_self, List.take_length, bin_add, bin_sub, int1_d, int1_bl, inn, ini, ins, int', inb, inl', Bool.not_true, Bool.not_false, decide_eq_true_eq, decide_true, decide_false, brB_b, slt_hi, slt_lo, slt_m1, sll_hi, sll_lo, mul_t0, mul_t1, Int.reduceLE, Int.reduceToNat, List.take_succ_cons, List.take_zero, List.drop_succ_cons, List.drop_zero, List.take_nil, List.drop_nil, Nat.reduceAdd, e_slHi, e_slLo, e_slLH, Int.reduceAdd, Int.add_zero, Int.mul_one, Int.mul_zero, Int.reduceNeg, List.getElem?_nil, Bool.false_eq_true, Int.reduceLT, Int.reduceEq, and_true, true_and, and_false, false_and, not_true_eq_false, not_false_eq_true, of_ite, map_ite, e1, c0, c2, Pl.d, eq_true c3, c4, e2, ha, leave_ok lo1, tk2]
      · simp only [B_law_drawn_deed, ss_cons, ss_nil, s_setT', s_set', s_par', s_expr', s_ite', s_ret', s_retN', s_raise', e_var, e_non, e_bl, e_int, e_neg, e_str, e_bin, e_cmp, e_cmp2, e_and, e_or, e_not, e_ite, e_tup, e_lst, e_ix, e_isNon, e_notNon, e_call, e_blt, e_isi, e_rev, s_try', tryO_exc, tryO_nx, tryO_rt, tryO_ite, hs_nil, hs_cons, es_nil, es_cons, List.map_cons, List.map_nil, List.replicate, List.cons_append, List.nil_append, List.append_nil, List.getElem?_cons_zero, List.getElem?_cons_succ, lookV_some, ok_bind, ok_out, stuck_bind, stuck_out, onS_tup, onS_lst, onI_int, setAll, List.set_cons_zero, List.set_cons_succ, nxO_some, nx_then, rt_then, ite_then, exc_then, exc_bind, exc_out, finish_exc, deref_int, deref_bl, deref_str, deref_non, deref_tup, deref_lst, deref_scr, cmp_eq, cmp_ne, cmp_lt, cmp_le, cmp_gt, cmp_ge, Option.map_some, of_some', tru_bl, tru_int, tru_non, tru_tup0, tru_tup1, tru_lst0, tru_lst1, brB_t, brB_f, brB_d, brB_nd, finish_ite, finish_rt, finish_nx, ite_out, ite_bind, List.length_cons, List.length_nil, sz0, sz1, sz2, sz3, sz4, sz5, sz6, sz7, sz8, Nat.reduceAdd, Nat.reduceLeDiff, Nat.zero_le, Nat.zero_add, if_true, if_false, ↓reduceIte, ix_t0, ix_t1, ix_t2, ix_t3, ix_t4, ix_t5, ix_l0, ix_l1, leave_tup, leave_lst, leave_int, leave_bl, leave_str, leave_non, lo_int, lo_bl, lo_str, lo_non, lo_tup, lo_lst, loAll_nil, loAll_cons, loAll_ints, Bool.and_true, Bool.true_and, Bool.and_self, List.take_length, bin_add, bin_sub, int1_d, int1_bl, inn, ini, ins, int', inb, inl', Bool.not_true, Bool.not_false, decide_eq_true_eq, decide_true, decide_false, brB_b, slt_hi, slt_lo, slt_m1, sll_hi, sll_lo, mul_t0, mul_t1, Int.reduceLE, Int.reduceToNat, List.take_succ_cons, List.take_zero, List.drop_succ_cons, List.drop_zero, List.take_nil, List.drop_nil, Nat.reduceAdd, e_slHi, e_slLo, e_slLH, Int.reduceAdd, Int.add_zero, Int.mul_one, Int.mul_zero, Int.reduceNeg, List.getElem?_nil, Bool.false_eq_true, Int.reduceLT, Int.reduceEq, and_true, true_and, and_false, false_and, not_true_eq_false, not_false_eq_true, of_ite, map_ite, e1, c0, c2, Pl.d, c3, e2, ha, leave_ok lo1, tk2]
theorem ledR_snoc {C : Int} {d : De} {p : Pl} {a b : Int} : ∀ {ds : List De} {m : MR}, ledR C m ds = some (.go p a b) → ledR C m (ds ++ [d]) = some (moved C p d)
  | [], m, h => by simp only [ledR] at h; cases h; simp [ledR]
  | x :: ds, .go q a' b', h => by simp only [ledR, List.cons_append] at h ⊢; exact ledR_snoc h
  | _ :: _, .now, h => by simp [ledR] at h
  | _ :: _, .over _ _ _, h => by simp [ledR] at h
theorem ledR_good {R C : Int} (hC : 1 ≤ C) : ∀ {ds : List De} {m m' : MR}, m.good R C → ledR C m ds = some m' → m'.good R C
  | [], m, m', g, h => by simp only [ledR] at h; cases h; exact g
  | x :: ds, .go q a' b', m', g, h => by
    simp only [ledR] at h
    refine ledR_good hC ?_ h
    cases hq : moved C q x with
    | go _ _ _ => exact moved_good g hC hq
    | _ => trivial
  | _ :: _, .now, _, _, h => by simp [ledR] at h
  | _ :: _, .over _ _ _, _, _, h => by simp [ledR] at h
theorem ledR_last {C : Int} : ∀ {ds : List De} {m m' : MR}, ds ≠ [] → ledR C m ds = some m' → ∃ q a b, ledR C m ds.dropLast = some (.go q a b)
  | [], _, _, h, _ => absurd rfl h
  | [x], .go q a b, _, _, _ => ⟨q, a, b, rfl⟩
  | x :: y :: ds, .go q a b, m', _, h => by
    simp only [ledR] at h
    have ih := ledR_last (C := C) (ds := y :: ds) (m := moved C q x) (m' := m') (by simp) (by
      cases hq : moved C q x with
      | go _ _ _ => rw [hq] at h; simpa only [ledR] using h
      | now => rw [hq] at h; simp [ledR] at h
      | over _ _ _ => rw [hq] at h; simp [ledR] at h)
    show ∃ q' a' b', ledR C (.go q a b) (x :: (y :: ds).dropLast) = _
    simpa only [ledR] using ih
  | _ :: _, .now, _, _, h => by simp [ledR] at h
  | _ :: _, .over _ _ _, _, _, h => by simp [ledR] at h
/-- the place told -/
def MR.pl : MR → Dt
  | .go p _ _ => p.d
  | _ => .non
theorem ix_mr {m : MR} (h : m ≠ .now) : evIx m.d (.int 0) = some m.pl := by
  cases m with
  | now => exact absurd rfl h
  | over _ _ _ => exact ix_t0
  | go _ _ _ => exact ix_t0
theorem plA_pl {p : Pl} : Dt.pl p.d = true := rfl
theorem deref_m {s : Sta} {m : MR} : deref s m.d = m.d := by cases m <;> rfl
def MR.isNow : MR → Bool
  | .now => true
  | _ => false
theorem ne_now {m : MR} : evCmp .ne m.d (.str "now") = some (!m.isNow) := by
  cases m with
  | now => rw [show (MR.now).d = .str "now" from rfl, ne_str]; simp [MR.isNow]
  | over w a b =>
    simp only [evCmp, evEq]
    rw [if_pos (by rfl)]
    rfl
  | go p a b =>
    simp only [evCmp, evEq]
    rw [if_pos (by rfl)]
    rfl
theorem isNow_false {m : MR} (h : m.isNow = false) : m ≠ .now := fun z => by rw [z] at h; cases h
theorem pl_go {p : Pl} {a b : Int} : (MR.go p a b).pl = p.d := rfl
theorem pl_over {a b c : Int} : (MR.over a b c).pl = .non := rfl
theorem non_pl {p : Pl} : Dt.isNon p.d = false := rfl
theorem loop_frame {j : Nat} {ns : List Int} {town : Nat} {R C : Int} {m0 : MR} {most first : Option Dt} (hR1 : 1 ≤ R) (hR : R ≤ 100) (hC1 : 1 ≤ C) (hC : C ≤ 50) :
    ∀ (L : List Dt) (ds : List De) (m : MR) (x7 x8 x9 : Option Dt) (s : Sta), m ≠ .now → m.good R C → ledR C m0 ds = some m → (∀ d ∈ ds, DeOk R C d) → ds.length + L.length ≤ 1000 → Has town s (65 * L.length) →
      ∃ ds' m' y7 y8 y9 s', forGo (forOne (FTab fb (j + 5)) (.nm 7) [.ite (.notNon (.var 6)) [.set 8 (.call 25 [.var 0, .var 1, .var 2, .var 6]), .set 9 (.call 21 [.var 2, .var 6, .var 8]), .ite (.cmp .ne (.var 9) (.str "now")) [.par [5, 6] [.bin .add (.var 5) (.tup [.var 8]), .ix (.var 9) (.int 0)]] []] []]) L
        [some (.scr ns), some (.ref town), some (Rs R C), most, first, some (.tup (ds.map De.d)), some m.pl, x7, x8, x9] s =
        .nx [some (.scr ns), some (.ref town), some (Rs R C), most, first, some (.tup (ds'.map De.d)), some m'.pl, y7, y8, y9] s' ∧
        m' ≠ .now ∧ m'.good R C ∧ ledR C m0 ds' = some m' ∧ (∀ d ∈ ds', DeOk R C d) ∧ ds'.length ≤ ds.length + L.length ∧ Drew town s s' (65 * L.length)
  | [], ds, m, x7, x8, x9, s, hn, hg, hl, hd, hz, hh => ⟨ds, m, x7, x8, x9, s, rfl, hn, hg, hl, hd, by simp, Drew.refl _ _ _⟩
  | i :: L, ds, m, x7, x8, x9, s, hn, hg, hl, hd, hz, hh => by
    rw [List.length_cons] at hz hh
    suffices more : ∃ (ds1 : List De) (m1 : MR) (x8' x9' : Option Dt) (s1 : Sta), forOne (FTab fb (j + 5)) (.nm 7) [.ite (.notNon (.var 6)) [.set 8 (.call 25 [.var 0, .var 1, .var 2, .var 6]), .set 9 (.call 21 [.var 2, .var 6, .var 8]), .ite (.cmp .ne (.var 9) (.str "now")) [.par [5, 6] [.bin .add (.var 5) (.tup [.var 8]), .ix (.var 9) (.int 0)]] []] []] i
        [some (.scr ns), some (.ref town), some (Rs R C), most, first, some (.tup (ds.map De.d)), some m.pl, x7, x8, x9] s =
        .nx [some (.scr ns), some (.ref town), some (Rs R C), most, first, some (.tup (ds1.map De.d)), some m1.pl, some i, x8', x9'] s1 ∧
        m1 ≠ .now ∧ m1.good R C ∧ ledR C m0 ds1 = some m1 ∧ (∀ d ∈ ds1, DeOk R C d) ∧ ds1.length ≤ ds.length + 1 ∧ Drew town s s1 65 by
      obtain ⟨ds1, m1, x8', x9', s1, e1, n1, g1, l1, d1, z1, w1⟩ := more
      obtain ⟨ds', m', y7, y8, y9, s', e, n2, g2, l2, d2, z2, w2⟩ := loop_frame (j := j) (ns := ns) (town := town) (m0 := m0) (most := most) (first := first) hR1 hR hC1 hC L ds1 m1 (some i) x8' x9' s1 n1 g1 l1 d1 (by omega) (w1.has (by rw [show 65 + 65 * L.length = 65 * (L.length + 1) by omega]; exact hh))
      exact ⟨ds', m', y7, y8, y9, s', by rw [forGo, e1, nx_then]; exact e, n2, g2, l2, d2, by rw [List.length_cons]; omega, by rw [List.length_cons, show 65 * (L.length + 1) = 65 + 65 * L.length by omega]; exact w1.trans w2⟩
    cases m with
    | now => exact absurd rfl hn
    | over a b c =>
      refine ⟨ds, .over a b c, x8, x9, s, ?_, hn, hg, hl, hd, by omega, Drew.refl _ _ _⟩
      rw [forOne_nm]
      simp only [ss_cons, ss_nil, s_setT', s_set', s_par', s_expr', s_ite', s_ret', s_retN', s_raise', e_var, e_non, e_bl, e_int, e_neg, e_str, e_bin, e_cmp, e_cmp2, e_and, e_or, e_not, e_ite, e_tup, e_lst, e_ix, e_isNon, e_notNon, e_call, e_blt, e_isi, e_rev, s_try', tryO_exc, tryO_nx, tryO_rt, tryO_ite, hs_nil, hs_cons, es_nil, es_cons, List.map_cons, List.map_nil, List.replicate, List.cons_append, List.nil_append, List.append_nil, List.getElem?_cons_zero, List.getElem?_cons_succ, lookV_some, ok_bind, ok_out, stuck_bind, stuck_out, onS_tup, onS_lst, onI_int, setAll, List.set_cons_zero, List.set_cons_succ, nxO_some, nx_then, rt_then, ite_then, exc_then, exc_bind, exc_out, finish_exc, deref_int, deref_bl, deref_str, deref_non, deref_tup, deref_lst, deref_scr, cmp_eq, cmp_ne, cmp_lt, cmp_le, cmp_gt, cmp_ge, Option.map_some, of_some', tru_bl, tru_int, tru_non, tru_tup0, tru_tup1, tru_lst0, tru_lst1, brB_t, brB_f, brB_d, brB_nd, finish_ite, finish_rt, finish_nx, ite_out, ite_bind, List.length_cons, List.length_nil, sz0, sz1, sz2, sz3, sz4, sz5, sz6, sz7, sz8, Nat.reduceAdd, Nat.reduceLeDiff, Nat.zero_le, Nat.zero_add, if_true, if_false, ↓reduceIte, ix_t0, ix_t1, ix_t2, ix_t3, ix_t4, ix_t5, ix_l0, ix_l1, leave_tup, leave_lst, leave_int, leave_bl, leave_str, leave_non, lo_int, lo_bl, lo_str, lo_non, lo_tup, lo_lst, loAll_nil, loAll_cons, loAll_ints, Bool.and_true, Bool.true_and, Bool.and_self, List.take_length, bin_add, bin_sub, int1_d, int1_bl, inn, ini, ins, int', inb, inl', Bool.not_true, Bool.not_false, decide_eq_true_eq, decide_true, decide_false, brB_b, slt_hi, slt_lo, slt_m1, sll_hi, sll_lo, mul_t0, mul_t1, Int.reduceLE, Int.reduceToNat, List.take_succ_cons, List.take_zero, List.drop_succ_cons, List.drop_zero, List.take_nil, List.drop_nil, Nat.reduceAdd, e_slHi, e_slLo, e_slLH, Int.reduceAdd, Int.add_zero, Int.mul_one, Int.mul_zero, Int.reduceNeg, List.getElem?_nil, Bool.false_eq_true, Int.reduceLT, Int.reduceEq, and_true, true_and, and_false, false_and, not_true_eq_false, not_false_eq_true, of_ite, map_ite, pl_over]
    | go p a b =>
      have hg' : Good R C p := hg
      obtain ⟨d, s1, e1, o1, w1⟩ := drawn_deed (j := j) (ns := ns) (town := town) (s := s) hg' hR1 hR hC1 hC (hh.mono (by omega))
      have e2 := l_moved (j := j + 2) (R := R) (C := C) (p := p) (de := d) (s := s1) hg'.up (by have := hg'.l2; omega) (by have := hg'.rR; omega) o1.small
      have hg2 : (moved C p d).good R C := by
        cases hq : moved C p d with
        | go q _ _ => exact moved_good hg' hC1 hq
        | _ => trivial
      by_cases hnow : (moved C p d).isNow = true
      · refine ⟨ds, .go p a b, some d.d, some (moved C p d).d, s1, ?_, hn, hg, hl, hd, by omega, w1⟩
        rw [forOne_nm]
        simp only [ss_cons, ss_nil, s_setT', s_set', s_par', s_expr', s_ite', s_ret', s_retN', s_raise', e_var, e_non, e_bl, e_int, e_neg, e_str, e_bin, e_cmp, e_cmp2, e_and, e_or, e_not, e_ite, e_tup, e_lst, e_ix, e_isNon, e_notNon, e_call, e_blt, e_isi, e_rev, s_try', tryO_exc, tryO_nx, tryO_rt, tryO_ite, hs_nil, hs_cons, es_nil, es_cons, List.map_cons, List.map_nil, List.replicate, List.cons_append, List.nil_append, List.append_nil, List.getElem?_cons_zero, List.getElem?_cons_succ, lookV_some, ok_bind, ok_out, stuck_bind, stuck_out, onS_tup, onS_lst, onI_int, setAll, List.set_cons_zero, List.set_cons_succ, nxO_some, nx_then, rt_then, ite_then, exc_then, exc_bind, exc_out, finish_exc, deref_int, deref_bl, deref_str, deref_non, deref_tup, deref_lst, deref_scr, cmp_eq, cmp_ne, cmp_lt, cmp_le, cmp_gt, cmp_ge, Option.map_some, of_some', tru_bl, tru_int, tru_non, tru_tup0, tru_tup1, tru_lst0, tru_lst1, brB_t, brB_f, brB_d, brB_nd, finish_ite, finish_rt, finish_nx, ite_out, ite_bind, List.length_cons, List.length_nil, sz0, sz1, sz2, sz3, sz4, sz5, sz6, sz7, sz8, Nat.reduceAdd, Nat.reduceLeDiff, Nat.zero_le, Nat.zero_add, if_true, if_false, ↓reduceIte, ix_t0, ix_t1, ix_t2, ix_t3, ix_t4, ix_t5, ix_l0, ix_l1, leave_tup, leave_lst, leave_int, leave_bl, leave_str, leave_non, lo_int, lo_bl, lo_str, lo_non, lo_tup, lo_lst, loAll_nil, loAll_cons, loAll_ints, Bool.and_true, Bool.true_and, Bool.and_self, List.take_length, bin_add, bin_sub, int1_d, int1_bl, inn, ini, ins, int', inb, inl', Bool.not_true, Bool.not_false, decide_eq_true_eq, decide_true, decide_false, brB_b, slt_hi, slt_lo, slt_m1, sll_hi, sll_lo, mul_t0, mul_t1, Int.reduceLE, Int.reduceToNat, List.take_succ_cons, List.take_zero, List.drop_succ_cons, List.drop_zero, List.take_nil, List.drop_nil, Nat.reduceAdd, e_slHi, e_slLo, e_slLH, Int.reduceAdd, Int.add_zero, Int.mul_one, Int.mul_zero, Int.reduceNeg, List.getElem?_nil, Bool.false_eq_true, Int.reduceLT, Int.reduceEq, and_true, true_and, and_false, false_and, not_true_eq_false, not_false_eq_true, of_ite, map_ite, pl_go, non_pl, e1, e2, deref_m, ne_now, hnow]
      · rw [Bool.not_eq_true] at hnow
        have ha : evBin .add (.tup (ds.map De.d)) (.tup [d.d]) = some (.tup ((ds ++ [d]).map De.d)) := by rw [add_tt (by simp; omega)]; simp
        refine ⟨ds ++ [d], moved C p d, some d.d, some (moved C p d).d, s1, ?_, isNow_false hnow, hg2, ledR_snoc hl, fun y hy => ?_, by simp, w1⟩
        · rw [forOne_nm]
          simp only [ss_cons, ss_nil, s_setT', s_set', s_par', s_expr', s_ite', s_ret', s_retN', s_raise', e_var, e_non, e_bl, e_int, e_neg, e_str, e_bin, e_cmp, e_cmp2, e_and, e_or, e_not, e_ite, e_tup, e_lst, e_ix, e_isNon, e_notNon, e_call, e_blt, e_isi, e_rev, s_try', tryO_exc, tryO_nx, tryO_rt, tryO_ite, hs_nil, hs_cons, es_nil, es_cons, List.map_cons, List.map_nil, List.replicate, List.cons_append, List.nil_append, List.append_nil, List.getElem?_cons_zero, List.getElem?_cons_succ, lookV_some, ok_bind, ok_out, stuck_bind, stuck_out, onS_tup, onS_lst, onI_int, setAll, List.set_cons_zero, List.set_cons_succ, nxO_some, nx_then, rt_then, ite_then, exc_then, exc_bind, exc_out, finish_exc, deref_int, deref_bl, deref_str, deref_non, deref_tup, deref_lst, deref_scr, cmp_eq, cmp_ne, cmp_lt, cmp_le, cmp_gt, cmp_ge, Option.map_some, of_some', tru_bl, tru_int, tru_non, tru_tup0, tru_tup1, tru_lst0, tru_lst1, brB_t, brB_f, brB_d, brB_nd, finish_ite, finish_rt, finish_nx, ite_out, ite_bind, List.length_cons, List.length_nil, sz0, sz1, sz2, sz3, sz4, sz5, sz6, sz7, sz8, Nat.reduceAdd, Nat.reduceLeDiff, Nat.zero_le, Nat.zero_add, if_true, if_false, ↓reduceIte, ix_t0, ix_t1, ix_t2, ix_t3, ix_t4, ix_t5, ix_l0, ix_l1, leave_tup, leave_lst, leave_int, leave_bl, leave_str, leave_non, lo_int, lo_bl, lo_str, lo_non, lo_tup, lo_lst, loAll_nil, loAll_cons, loAll_ints, Bool.and_true, Bool.true_and, Bool.and_self, List.take_length, bin_add, bin_sub, int1_d, int1_bl, inn, ini, ins, int', inb, inl', Bool.not_true, Bool.not_false, decide_eq_true_eq, decide_true, decide_false, brB_b, slt_hi, slt_lo, slt_m1, sll_hi, sll_lo, mul_t0, mul_t1, Int.reduceLE, Int.reduceToNat, List.take_succ_cons, List.take_zero, List.drop_succ_cons, List.drop_zero, List.take_nil, List.drop_nil, Nat.reduceAdd, e_slHi, e_slLo, e_slLH, Int.reduceAdd, Int.add_zero, Int.mul_one, Int.mul_zero, Int.reduceNeg, List.getElem?_nil, Bool.false_eq_true, Int.reduceLT, Int.reduceEq, and_true, true_and, and_false, false_and, not_true_eq_false, not_false_eq_true, of_ite, map_ite, pl_go, non_pl, e1, e2, deref_m, ne_now, hnow, ha, ix_mr (isNow_false hnow)]
        · rcases List.mem_append.mp hy with hy | hy
          · exact hd y hy
          · rw [List.mem_singleton.mp hy]; exact o1
theorem len_rngD {a b : Int} : (rngD a b).length = (b - a).toNat := by unfold rngD; simp
/-- a frame that is drawn -/
theorem drawn_frame {j : Nat} {ns : List Int} {town : Nat} {R C most : Int} {s : Sta} (hR1 : 1 ≤ R) (hR : R ≤ 100) (hC1 : 1 ≤ C) (hC : C ≤ 50) (h0 : 0 ≤ most) (hm : most ≤ 100) (hh : Has town s (1 + 65 * most.toNat)) :
    ∃ pl ds m s', FTab fb (j + 6) 26 [.scr ns, .ref town, Rs R C, .int most] s = .ok (.tup [.int pl, .tup (ds.map De.d)]) s' ∧ (pl = 0 ∨ pl = 1) ∧ m ≠ .now ∧ m.good R C ∧ ledR C (.go (stt R pl) 0 0) ds = some m ∧ (∀ d ∈ ds, DeOk R C d) ∧ ds.length ≤ most.toNat ∧ Drew town s s' (1 + 65 * most.toNat) := by
  obtain ⟨pl, s1, e1, p0, p1, w1⟩ := draw (j := j + 4) (ns := ns) (k := town) (m := 2) (s := s) (by omega) (hh.mono (by omega))
  have hp : pl = 0 ∨ pl = 1 := by omega
  have e2 := l_begin (j := j + 4) (R := R) (C := C) (pl := pl) (s := s1)
  have hr : okRng 0 most = true := okr (by omega) (by omega) (by omega) (by omega)
  obtain ⟨ds, m, y7, y8, y9, s2, e3, n3, g3, l3, d3, z3, w3⟩ := loop_frame (j := j) (ns := ns) (town := town) (m0 := .go (stt R pl) 0 0) (most := some (.int most)) (first := some (.int pl)) hR1 hR hC1 hC (rngD 0 most) [] (.go (stt R pl) 0 0) none none none s1 (by intro z; cases z) (stt_good hp hR1 hC1) rfl (fun d h => by cases h) (by rw [len_rngD]; simp; omega) (by rw [len_rngD, Int.sub_zero]; exact w1.has hh)
  rw [len_rngD, Int.sub_zero] at z3 w3
  refine ⟨pl, ds, m, s2, ?_, hp, n3, g3, l3, d3, by simpa using z3, w1.trans w3⟩
  show FTab fb ((j + 5) + 1) 26 _ s = _
  rw [t_law_drawn_frame rfl]
  have tk : s2.take s.length = s2 := by rw [← (w1.trans w3).len, List.take_length]
  simp only [List.map_nil, pl_go] at e3
  simp only [B_law_drawn_frame, ss_cons, ss_nil, s_setT', s_set', s_par', s_expr', s_ite', s_ret', s_retN', s_raise', e_var, e_non, e_bl, e_int, e_neg, e_str, e_bin, e_cmp, e_cmp2, e_and, e_or, e_not, e_ite, e_tup, e_lst, e_ix, e_isNon, e_notNon, e_call, e_blt, e_isi, e_rev, s_try', tryO_exc, tryO_nx, tryO_rt, tryO_ite, hs_nil, hs_cons, es_nil, es_cons, List.map_cons, List.map_nil, List.replicate, List.cons_append, List.nil_append, List.append_nil, List.getElem?_cons_zero, List.getElem?_cons_succ, lookV_some, ok_bind, ok_out, stuck_bind, stuck_out, onS_tup, onS_lst, onI_int, setAll, List.set_cons_zero, List.set_cons_succ, nxO_some, nx_then, rt_then, ite_then, exc_then, exc_bind, exc_out, finish_exc, deref_int, deref_bl, deref_str, deref_non, deref_tup, deref_lst, deref_scr, cmp_eq, cmp_ne, cmp_lt, cmp_le, cmp_gt, cmp_ge, Option.map_some, of_some', tru_bl, tru_int, tru_non, tru_tup0, tru_tup1, tru_lst0, tru_lst1, brB_t, brB_f, brB_d, brB_nd, finish_ite, finish_rt, finish_nx, ite_out, ite_bind, List.length_cons, List.length_nil, sz0, sz1, sz2, sz3, sz4, sz5, sz6, sz7, sz8, Nat.reduceAdd, Nat.reduceLeDiff, Nat.zero_le, Nat.zero_add, if_true, if_false, ↓reduceIte, ix_t0, ix_t1, ix_t2, ix_t3, ix_t4, ix_t5, ix_l0, ix_l1, leave_tup, leave_lst, leave_int, leave_bl, leave_str, leave_non, lo_int, lo_bl, lo_str, lo_non, lo_tup, lo_lst, loAll_nil, loAll_cons, loAll_ints, Bool.and_true, Bool.true_and, Bool.and_self, List.take_length, bin_add, bin_sub, int1_d, int1_bl, inn, ini, ins, int', inb, inl', Bool.not_true, Bool.not_false, decide_eq_true_eq, decide_true, decide_false, brB_b, slt_hi, slt_lo, slt_m1, sll_hi, sll_lo, mul_t0, mul_t1, Int.reduceLE, Int.reduceToNat, List.take_succ_cons, List.take_zero, List.drop_succ_cons, List.drop_zero, List.take_nil, List.drop_nil, Nat.reduceAdd, e_slHi, e_slLo, e_slLH, Int.reduceAdd, Int.add_zero, Int.mul_one, Int.mul_zero, Int.reduceNeg, List.getElem?_nil, Bool.false_eq_true, Int.reduceLT, Int.reduceEq, and_true, true_and, and_false, false_and, not_true_eq_false, not_false_eq_true, of_ite, map_ite, e1, e2, deref_go, ix_go, s_for', i_rng1, if_pos hr, e3, loAll_de, tk]
/-- a place that is drawn -/
theorem drawn_place {j : Nat} {ns : List Int} {town : Nat} {R C : Int} {s : Sta} (hR1 : 1 ≤ R) (hR : R ≤ 100) (hC1 : 1 ≤ C) (hC : C ≤ 50) (hh : Has town s 3000) :
    ∃ p s', FTab fb (j + 7) 27 [.scr ns, .ref town, Rs R C] s = .ok (Pl.d p) s' ∧ Good R C p ∧ Drew town s s' 3000 := by
  obtain ⟨most, s1, e1, m1, w1⟩ := pickI (j := j + 4) (ns := ns) (k := town) (l := [0, 3, 8, 20, 40]) (s := s) (by simp) (hh.mono (by omega))
  have hm : 0 ≤ most ∧ most ≤ 40 := by simp at m1; omega
  obtain ⟨pl, ds, m, s2, e2, hp, hn, hg, hl, hd, hz, w2⟩ := drawn_frame (j := j) (ns := ns) (town := town) (R := R) (C := C) (most := most) (s := s1) hR1 hR hC1 hC hm.1 (by omega) (w1.has (hh.mono (by omega)))
  have w := (w1.trans w2).mono (show 1 + (1 + 65 * most.toNat) ≤ 3000 by omega)
  have tk : s2.take s.length = s2 := by rw [← w.len, List.take_length]
  have e3 := l_led (j := j + 2) (R := R) (C := C) (s := s2) hp hR1 (by omega) hC1 (fun d h => (hd d h).small) hl
  simp only [List.map_cons, List.map_nil] at e1
  show ∃ p s', FTab fb ((j + 6) + 1) 27 _ s = _ ∧ _
  rw [t_law_drawn_place rfl]
  cases m with
  | now => exact absurd rfl hn
  | go p a b =>
    refine ⟨p, s2, ?_, hg, w⟩
    have lo : Dt.lo s.length p.d = true := rfl
    simp only [B_law_drawn_place, ss_cons, ss_nil, s_setT', s_set', s_par', s_expr', s_ite', s_ret', s_retN', s_raise', e_var, e_non, e_bl, e_int, e_neg, e_str, e_bin, e_cmp, e_cmp2, e_and, e_or, e_not, e_ite, e_tup, e_lst, e_ix, e_isNon, e_notNon, e_call, e_blt, e_isi, e_rev, s_try', tryO_exc, tryO_nx, tryO_rt, tryO_ite, hs_nil, hs_cons, es_nil, es_cons, List.map_cons, List.map_nil, List.replicate, List.cons_append, List.nil_append, List.append_nil, List.getElem?_cons_zero, List.getElem?_cons_succ, lookV_some, ok_bind, ok_out, stuck_bind, stuck_out, onS_tup, onS_lst, onI_int, setAll, List.set_cons_zero, List.set_cons_succ, nxO_some, nx_then, rt_then, ite_then, exc_then, exc_bind, exc_out, finish_exc, deref_int, deref_bl, deref_str, deref_non, deref_tup, deref_lst, deref_scr, cmp_eq, cmp_ne, cmp_lt, cmp_le, cmp_gt, cmp_ge, Option.map_some, of_some', tru_bl, tru_int, tru_non, tru_tup0, tru_tup1, tru_lst0, tru_lst1, brB_t, brB_f, brB_d, brB_nd, finish_ite, finish_rt, finish_nx, ite_out, ite_bind, List.length_cons, List.length_nil, sz0, sz1, sz2, sz3, sz4, sz5, sz6, sz7, sz8, Nat.reduceAdd, Nat.reduceLeDiff, Nat.zero_le, Nat.zero_add, if_true, if_false, ↓reduceIte, ix_t0, ix_t1, ix_t2, ix_t3, ix_t4, ix_t5, ix_l0, ix_l1, leave_tup, leave_lst, leave_int, leave_bl, leave_str, leave_non, lo_int, lo_bl, lo_str, lo_non, lo_tup, lo_lst, loAll_nil, loAll_cons, loAll_ints, Bool.and_true, Bool.true_and, Bool.and_self, List.take_length, bin_add, bin_sub, int1_d, int1_bl, inn, ini, ins, int', inb, inl', Bool.not_true, Bool.not_false, decide_eq_true_eq, decide_true, decide_false, brB_b, slt_hi, slt_lo, slt_m1, sll_hi, sll_lo, mul_t0, mul_t1, Int.reduceLE, Int.reduceToNat, List.take_succ_cons, List.take_zero, List.drop_succ_cons, List.drop_zero, List.take_nil, List.drop_nil, Nat.reduceAdd, e_slHi, e_slLo, e_slLH, Int.reduceAdd, Int.add_zero, Int.mul_one, Int.mul_zero, Int.reduceNeg, List.getElem?_nil, Bool.false_eq_true, Int.reduceLT, Int.reduceEq, and_true, true_and, and_false, false_and, not_true_eq_false, not_false_eq_true, of_ite, map_ite, e1, e2, e3, deref_go, ix_go, non_pl, leave_ok lo, tk]
  | over a b c =>
    have hne : ds ≠ [] := fun z => by rw [z] at hl; simp [ledR] at hl
    obtain ⟨q, a', b', hq⟩ := ledR_last hne hl
    have e4 := l_led (j := j + 2) (R := R) (C := C) (s := s2) hp hR1 (by omega) hC1 (fun d h => (hd d (List.dropLast_subset _ h)).small) hq
    have hgq : Good R C q := ledR_good (m := .go (stt R pl) 0 0) hC1 (stt_good hp hR1 hC1) hq
    have hdl : (ds.map De.d).dropLast = ds.dropLast.map De.d := by rw [List.map_dropLast]
    refine ⟨q, s2, ?_, hgq, w⟩
    have lo : Dt.lo s.length q.d = true := rfl
    have ov : evIx (MR.over a b c).d (.int 0) = some .non := ix_t0
    have dv : deref s2 (MR.over a b c).d = (MR.over a b c).d := rfl
    simp only [B_law_drawn_place, ss_cons, ss_nil, s_setT', s_set', s_par', s_expr', s_ite', s_ret', s_retN', s_raise', e_var, e_non, e_bl, e_int, e_neg, e_str, e_bin, e_cmp, e_cmp2, e_and, e_or, e_not, e_ite, e_tup, e_lst, e_ix, e_isNon, e_notNon, e_call, e_blt, e_isi, e_rev, s_try', tryO_exc, tryO_nx, tryO_rt, tryO_ite, hs_nil, hs_cons, es_nil, es_cons, List.map_cons, List.map_nil, List.replicate, List.cons_append, List.nil_append, List.append_nil, List.getElem?_cons_zero, List.getElem?_cons_succ, lookV_some, ok_bind, ok_out, stuck_bind, stuck_out, onS_tup, onS_lst, onI_int, setAll, List.set_cons_zero, List.set_cons_succ, nxO_some, nx_then, rt_then, ite_then, exc_then, exc_bind, exc_out, finish_exc, deref_int, deref_bl, deref_str, deref_non, deref_tup, deref_lst, deref_scr, cmp_eq, cmp_ne, cmp_lt, cmp_le, cmp_gt, cmp_ge, Option.map_some, of_some', tru_bl, tru_int, tru_non, tru_tup0, tru_tup1, tru_lst0, tru_lst1, brB_t, brB_f, brB_d, brB_nd, finish_ite, finish_rt, finish_nx, ite_out, ite_bind, List.length_cons, List.length_nil, sz0, sz1, sz2, sz3, sz4, sz5, sz6, sz7, sz8, Nat.reduceAdd, Nat.reduceLeDiff, Nat.zero_le, Nat.zero_add, if_true, if_false, ↓reduceIte, ix_t0, ix_t1, ix_t2, ix_t3, ix_t4, ix_t5, ix_l0, ix_l1, leave_tup, leave_lst, leave_int, leave_bl, leave_str, leave_non, lo_int, lo_bl, lo_str, lo_non, lo_tup, lo_lst, loAll_nil, loAll_cons, loAll_ints, Bool.and_true, Bool.true_and, Bool.and_self, List.take_length, bin_add, bin_sub, int1_d, int1_bl, inn, ini, ins, int', inb, inl', Bool.not_true, Bool.not_false, decide_eq_true_eq, decide_true, decide_false, brB_b, slt_hi, slt_lo, slt_m1, sll_hi, sll_lo, mul_t0, mul_t1, Int.reduceLE, Int.reduceToNat, List.take_succ_cons, List.take_zero, List.drop_succ_cons, List.drop_zero, List.take_nil, List.drop_nil, Nat.reduceAdd, e_slHi, e_slLo, e_slLH, Int.reduceAdd, Int.add_zero, Int.mul_one, Int.mul_zero, Int.reduceNeg, List.getElem?_nil, Bool.false_eq_true, Int.reduceLT, Int.reduceEq, and_true, true_and, and_false, false_and, not_true_eq_false, not_false_eq_true, of_ite, map_ite, e1, e2, e3, dv, ov, hdl, e4, deref_go, ix_go, leave_ok lo, tk]
end MP
/-! P11: plain: the program's judging. -/
namespace MP
open PySem
theorem eq_tup_nil {l : List Int} : evCmp .eq (.tup (l.map .int)) (.tup []) = some (decide (l = [])) := by
  simp only [evCmp]
  unfold evEq
  have h : okq (.tup (l.map .int)) (.tup []) = true := by
    unfold okq
    have e : (Dt.tup []).py.depth = 1 ∨ (Dt.tup []).py.depth = 0 := by first | exact .inl rfl | exact .inr rfl
    have : min (Dt.tup (l.map Dt.int)).py.depth (Dt.tup []).py.depth ≤ 40 := by rcases e with e | e <;> rw [e] <;> omega
    rw [decide_eq_true this]
    simp [Dt.pl, plA_ints, Dt.plAll]
  rw [if_pos h]
  cases l <;> rfl
theorem ne_tup_nil {l : List Int} : evCmp .ne (.tup (l.map .int)) (.tup []) = some (!decide (l = [])) := by
  have h := eq_tup_nil (l := l)
  simp only [evCmp] at h ⊢
  rw [h]; rfl
theorem max3T {a b c : Int} {l : List Int} : evBl .max1 [.tup (.int a :: .int b :: .int c :: l.map .int)] = some (.int (maxI a (b :: c :: l))) := max_intsT (l := b :: c :: l)
theorem maxI_ge : ∀ {l : List Int} {m : Int}, m ≤ maxI m l
  | [], m => Int.le_refl _
  | a :: l, m => by
    rw [maxI]
    have := maxI_ge (l := l) (m := if a > m then a else m)
    split at this <;> rename_i h <;> simp only [h, if_true, if_false] <;> omega
theorem pf_lc {F : FT} {st : Sta} {a b : Option Dt} {pots balls : List Int} : lcGo (lcOne F [a, b, some (.tup (balls.map Dt.int)), none] (.cmp .isin (.var 3) (.var 2)) (.nm 3) [3] []) (pots.map .int) st = .ok ((pots.map fun x => decide (x ∈ balls)).map .bl) st :=
  lc_all (fun x => x ∈ balls) (fun x hx => by simp only [wipeE, ss_cons, ss_nil, s_setT', s_set', s_par', s_expr', s_ite', s_ret', s_retN', s_raise', e_var, e_non, e_bl, e_int, e_neg, e_str, e_bin, e_cmp, e_cmp2, e_and, e_or, e_not, e_ite, e_tup, e_lst, e_ix, e_isNon, e_notNon, e_call, e_blt, e_isi, e_rev, s_try', tryO_exc, tryO_nx, tryO_rt, tryO_ite, hs_nil, hs_cons, es_nil, es_cons, List.map_cons, List.map_nil, List.replicate, List.cons_append, List.nil_append, List.append_nil, List.getElem?_cons_zero, List.getElem?_cons_succ, lookV_some, ok_bind, ok_out, stuck_bind, stuck_out, onS_tup, onS_lst, onI_int, setAll, List.set_cons_zero, List.set_cons_succ, nxO_some, nx_then, rt_then, ite_then, exc_then, exc_bind, exc_out, finish_exc, deref_int, deref_bl, deref_str, deref_non, deref_tup, deref_lst, deref_scr, cmp_eq, cmp_ne, cmp_lt, cmp_le, cmp_gt, cmp_ge, Option.map_some, of_some', tru_bl, tru_int, tru_non, tru_tup0, tru_tup1, tru_lst0, tru_lst1, brB_t, brB_f, brB_d, brB_nd, finish_ite, finish_rt, finish_nx, ite_out, ite_bind, List.length_cons, List.length_nil, sz0, sz1, sz2, sz3, sz4, sz5, sz6, sz7, sz8, Nat.reduceAdd, Nat.reduceLeDiff, Nat.zero_le, Nat.zero_add, if_true, if_false, ↓reduceIte, ix_t0, ix_t1, ix_t2, ix_t3, ix_t4, ix_t5, ix_l0, ix_l1, leave_tup, leave_lst, leave_int, leave_bl, leave_str, leave_non, lo_int, lo_bl, lo_str, lo_non, lo_tup, lo_lst, loAll_nil, loAll_cons, loAll_ints, Bool.and_true, Bool.true_and, Bool.and_self, List.take_length, bin_add, bin_sub, int1_d, int1_bl, inn, ini, ins, int', inb, inl', Bool.not_true, Bool.not_false, decide_eq_true_eq, decide_true, decide_false, brB_b, slt_hi, slt_lo, slt_m1, sll_hi, sll_lo, mul_t0, mul_t1, Int.reduceLE, Int.reduceToNat, List.take_succ_cons, List.take_zero, List.drop_succ_cons, List.drop_zero, List.take_nil, List.drop_nil, Nat.reduceAdd, e_slHi, e_slLo, e_slLH, Int.reduceAdd, Int.add_zero, Int.mul_one, Int.mul_zero, Int.reduceNeg, List.getElem?_nil, Bool.false_eq_true, Int.reduceLT, Int.reduceEq, and_true, true_and, and_false, false_and, not_true_eq_false, not_false_eq_true, of_ite, map_ite, in_tup])
theorem fair_iff {p : Pl} {k : Sk} : ¬ foulQ p k ↔ (k.off = false ∧ k.first ∈ canFall p.on p.free k.first ∧ ∀ x ∈ k.pots, x ∈ canFall p.on p.free k.first) := by
  unfold foulQ
  rw [not_or, not_or, Decidable.not_not, Decidable.not_not, Bool.not_eq_true, List.filter_eq_nil_iff]
  simp
theorem p_is_fair {j : Nat} {p : Pl} {k : Sk} {s : Sta} (hl : k.pots.length ≤ 1000) : FTab fb (j + 2) 29 [p.d, .tup k.ds] s = .ok (.bl (decide (¬ foulQ p k))) s := by
  have hc := p_may_fall (j := j) (p := p) (first := k.first) (s := s)
  have fi := fair_iff (p := p) (k := k)
  obtain ⟨up, on, reds, low, p0, p1, free⟩ := p
  obtain ⟨first, pots, off⟩ := k
  simp only at hl fi
  simp only [Pl.d] at hc
  have h4 : pots.length < lineM := by unfold lineM; omega
  show FTab fb ((j + 1) + 1) 29 _ s = _
  rw [t_p_is_fair rfl]
  have fd : decide (¬ foulQ ⟨up, on, reds, low, p0, p1, free⟩ ⟨first, pots, off⟩) = decide (off = false ∧ first ∈ canFall on free first ∧ ∀ x ∈ pots, x ∈ canFall on free first) := decide_eq_decide.mpr fi
  rw [fd]
  clear fd
  simp only [Pl.d, Sk.ds]
  cases off with
  | true =>
    simp only [B_p_is_fair, ss_cons, ss_nil, s_setT', s_set', s_par', s_expr', s_ite', s_ret', s_retN', s_raise', e_var, e_non, e_bl, e_int, e_neg, e_str, e_bin, e_cmp, e_cmp2, e_and, e_or, e_not, e_ite, e_tup, e_lst, e_ix, e_isNon, e_notNon, e_call, e_blt, e_isi, e_rev, s_try', tryO_exc, tryO_nx, tryO_rt, tryO_ite, hs_nil, hs_cons, es_nil, es_cons, List.map_cons, List.map_nil, List.replicate, List.cons_append, List.nil_append, List.append_nil, List.getElem?_cons_zero, List.getElem?_cons_succ, lookV_some, ok_bind, ok_out, stuck_bind, stuck_out, onS_tup, onS_lst, onI_int, setAll, List.set_cons_zero, List.set_cons_succ, nxO_some, nx_then, rt_then, ite_then, exc_then, exc_bind, exc_out, finish_exc, deref_int, deref_bl, deref_str, deref_non, deref_tup, deref_lst, deref_scr, cmp_eq, cmp_ne, cmp_lt, cmp_le, cmp_gt, cmp_ge, Option.map_some, of_some', tru_bl, tru_int, tru_non, tru_tup0, tru_tup1, tru_lst0, tru_lst1, brB_t, brB_f, brB_d, brB_nd, finish_ite, finish_rt, finish_nx, ite_out, ite_bind, List.length_cons, List.length_nil, sz0, sz1, sz2, sz3, sz4, sz5, sz6, sz7, sz8, Nat.reduceAdd, Nat.reduceLeDiff, Nat.zero_le, Nat.zero_add, if_true, if_false, ↓reduceIte, ix_t0, ix_t1, ix_t2, ix_t3, ix_t4, ix_t5, ix_l0, ix_l1, leave_tup, leave_lst, leave_int, leave_bl, leave_str, leave_non, lo_int, lo_bl, lo_str, lo_non, lo_tup, lo_lst, loAll_nil, loAll_cons, loAll_ints, Bool.and_true, Bool.true_and, Bool.and_self, List.take_length, bin_add, bin_sub, int1_d, int1_bl, inn, ini, ins, int', inb, inl', Bool.not_true, Bool.not_false, decide_eq_true_eq, decide_true, decide_false, brB_b, slt_hi, slt_lo, slt_m1, sll_hi, sll_lo, mul_t0, mul_t1, Int.reduceLE, Int.reduceToNat, List.take_succ_cons, List.take_zero, List.drop_succ_cons, List.drop_zero, List.take_nil, List.drop_nil, Nat.reduceAdd, e_slHi, e_slLo, e_slLH, Int.reduceAdd, Int.add_zero, Int.mul_one, Int.mul_zero, Int.reduceNeg, List.getElem?_nil, Bool.false_eq_true, Int.reduceLT, Int.reduceEq, and_true, true_and, and_false, false_and, not_true_eq_false, not_false_eq_true, of_ite, map_ite, hc]
    simp
  | false =>
    rcases Decidable.em (first ∈ canFall on free first) with h2 | h2
    · simp only [B_p_is_fair, ss_cons, ss_nil, s_setT', s_set', s_par', s_expr', s_ite', s_ret', s_retN', s_raise', e_var, e_non, e_bl, e_int, e_neg, e_str, e_bin, e_cmp, e_cmp2, e_and, e_or, e_not, e_ite, e_tup, e_lst, e_ix, e_isNon, e_notNon, e_call, e_blt, e_isi, e_rev, s_try', tryO_exc, tryO_nx, tryO_rt, tryO_ite, hs_nil, hs_cons, es_nil, es_cons, List.map_cons, List.map_nil, List.replicate, List.cons_append, List.nil_append, List.append_nil, List.getElem?_cons_zero, List.getElem?_cons_succ, lookV_some, ok_bind, ok_out, stuck_bind, stuck_out, onS_tup, onS_lst, onI_int, setAll, List.set_cons_zero, List.set_cons_succ, nxO_some, nx_then, rt_then, ite_then, exc_then, exc_bind, exc_out, finish_exc, deref_int, deref_bl, deref_str, deref_non, deref_tup, deref_lst, deref_scr, cmp_eq, cmp_ne, cmp_lt, cmp_le, cmp_gt, cmp_ge, Option.map_some, of_some', tru_bl, tru_int, tru_non, tru_tup0, tru_tup1, tru_lst0, tru_lst1, brB_t, brB_f, brB_d, brB_nd, finish_ite, finish_rt, finish_nx, ite_out, ite_bind, List.length_cons, List.length_nil, sz0, sz1, sz2, sz3, sz4, sz5, sz6, sz7, sz8, Nat.reduceAdd, Nat.reduceLeDiff, Nat.zero_le, Nat.zero_add, if_true, if_false, ↓reduceIte, ix_t0, ix_t1, ix_t2, ix_t3, ix_t4, ix_t5, ix_l0, ix_l1, leave_tup, leave_lst, leave_int, leave_bl, leave_str, leave_non, lo_int, lo_bl, lo_str, lo_non, lo_tup, lo_lst, loAll_nil, loAll_cons, loAll_ints, Bool.and_true, Bool.true_and, Bool.and_self, List.take_length, bin_add, bin_sub, int1_d, int1_bl, inn, ini, ins, int', inb, inl', Bool.not_true, Bool.not_false, decide_eq_true_eq, decide_true, decide_false, brB_b, slt_hi, slt_lo, slt_m1, sll_hi, sll_lo, mul_t0, mul_t1, Int.reduceLE, Int.reduceToNat, List.take_succ_cons, List.take_zero, List.drop_succ_cons, List.drop_zero, List.take_nil, List.drop_nil, Nat.reduceAdd, e_slHi, e_slLo, e_slLH, Int.reduceAdd, Int.add_zero, Int.mul_one, Int.mul_zero, Int.reduceNeg, List.getElem?_nil, Bool.false_eq_true, Int.reduceLT, Int.reduceEq, and_true, true_and, and_false, false_and, not_true_eq_false, not_false_eq_true, of_ite, map_ite, hc, in_tup, h2, e_lc, i_e, itemsOf, pf_lc, List.length_map, if_pos h4, all_bls, all_dec]
    · simp only [B_p_is_fair, ss_cons, ss_nil, s_setT', s_set', s_par', s_expr', s_ite', s_ret', s_retN', s_raise', e_var, e_non, e_bl, e_int, e_neg, e_str, e_bin, e_cmp, e_cmp2, e_and, e_or, e_not, e_ite, e_tup, e_lst, e_ix, e_isNon, e_notNon, e_call, e_blt, e_isi, e_rev, s_try', tryO_exc, tryO_nx, tryO_rt, tryO_ite, hs_nil, hs_cons, es_nil, es_cons, List.map_cons, List.map_nil, List.replicate, List.cons_append, List.nil_append, List.append_nil, List.getElem?_cons_zero, List.getElem?_cons_succ, lookV_some, ok_bind, ok_out, stuck_bind, stuck_out, onS_tup, onS_lst, onI_int, setAll, List.set_cons_zero, List.set_cons_succ, nxO_some, nx_then, rt_then, ite_then, exc_then, exc_bind, exc_out, finish_exc, deref_int, deref_bl, deref_str, deref_non, deref_tup, deref_lst, deref_scr, cmp_eq, cmp_ne, cmp_lt, cmp_le, cmp_gt, cmp_ge, Option.map_some, of_some', tru_bl, tru_int, tru_non, tru_tup0, tru_tup1, tru_lst0, tru_lst1, brB_t, brB_f, brB_d, brB_nd, finish_ite, finish_rt, finish_nx, ite_out, ite_bind, List.length_cons, List.length_nil, sz0, sz1, sz2, sz3, sz4, sz5, sz6, sz7, sz8, Nat.reduceAdd, Nat.reduceLeDiff, Nat.zero_le, Nat.zero_add, if_true, if_false, ↓reduceIte, ix_t0, ix_t1, ix_t2, ix_t3, ix_t4, ix_t5, ix_l0, ix_l1, leave_tup, leave_lst, leave_int, leave_bl, leave_str, leave_non, lo_int, lo_bl, lo_str, lo_non, lo_tup, lo_lst, loAll_nil, loAll_cons, loAll_ints, Bool.and_true, Bool.true_and, Bool.and_self, List.take_length, bin_add, bin_sub, int1_d, int1_bl, inn, ini, ins, int', inb, inl', Bool.not_true, Bool.not_false, decide_eq_true_eq, decide_true, decide_false, brB_b, slt_hi, slt_lo, slt_m1, sll_hi, sll_lo, mul_t0, mul_t1, Int.reduceLE, Int.reduceToNat, List.take_succ_cons, List.take_zero, List.drop_succ_cons, List.drop_zero, List.take_nil, List.drop_nil, Nat.reduceAdd, e_slHi, e_slLo, e_slLH, Int.reduceAdd, Int.add_zero, Int.mul_one, Int.mul_zero, Int.reduceNeg, List.getElem?_nil, Bool.false_eq_true, Int.reduceLT, Int.reduceEq, and_true, true_and, and_false, false_and, not_true_eq_false, not_false_eq_true, of_ite, map_ite, hc, in_tup, h2]
theorem sum_one {f : Int} {pots : List Int} (hf : 1 < f) (h : ∀ x ∈ pots, x = f) (so : pots.Pairwise fun a b => a < b ∨ (a = 1 ∧ b = 1)) : pots.sum = f * (if pots = [] then 0 else 1) := by
  match pots, h, so with
  | [], _, _ => simp
  | [a], h, _ => simp [h a List.mem_cons_self]
  | a :: b :: l, h, so =>
    have h1 := h a List.mem_cons_self
    have h2 := h b (List.mem_cons_of_mem _ List.mem_cons_self)
    have := (List.pairwise_cons.mp so).1 b List.mem_cons_self
    omega
theorem p_points_of {j : Nat} {p : Pl} {k : Sk} {s : Sta} (hl : k.pots.length ≤ 1000) (so : k.pots.Pairwise fun a b => a < b ∨ (a = 1 ∧ b = 1)) : FTab fb (j + 3) 30 [p.d, .tup k.ds] s = .ok (.int (judged p k).1) s := by
  have hf := p_is_fair (j := j) (p := p) (k := k) (s := s) hl
  have fi := fair_iff (p := p) (k := k)
  have ju : judged p k = if foulQ p k then ((0 : Int), maxI 4 (p.on :: k.first :: k.pots)) else if p.on = 1 then (((k.pots.length : Nat) : Int), (0 : Int)) else ((if p.on = 0 then k.first else p.on) * (if k.pots = [] then 0 else 1), 0) := rfl
  rw [ju]
  show FTab fb ((j + 2) + 1) 30 _ s = _
  rw [t_p_points_of rfl]
  by_cases hq : foulQ p k
  · rw [if_pos hq]
    rw [decide_eq_false (by simpa using hq)] at hf
    obtain ⟨up, on, reds, low, p0, p1, free⟩ := p
    obtain ⟨first, pots, off⟩ := k
    simp only [Pl.d, Sk.ds] at hf
    simp only [B_p_points_of, ss_cons, ss_nil, s_setT', s_set', s_par', s_expr', s_ite', s_ret', s_retN', s_raise', e_var, e_non, e_bl, e_int, e_neg, e_str, e_bin, e_cmp, e_cmp2, e_and, e_or, e_not, e_ite, e_tup, e_lst, e_ix, e_isNon, e_notNon, e_call, e_blt, e_isi, e_rev, s_try', tryO_exc, tryO_nx, tryO_rt, tryO_ite, hs_nil, hs_cons, es_nil, es_cons, List.map_cons, List.map_nil, List.replicate, List.cons_append, List.nil_append, List.append_nil, List.getElem?_cons_zero, List.getElem?_cons_succ, lookV_some, ok_bind, ok_out, stuck_bind, stuck_out, onS_tup, onS_lst, onI_int, setAll, List.set_cons_zero, List.set_cons_succ, nxO_some, nx_then, rt_then, ite_then, exc_then, exc_bind, exc_out, finish_exc, deref_int, deref_bl, deref_str, deref_non, deref_tup, deref_lst, deref_scr, cmp_eq, cmp_ne, cmp_lt, cmp_le, cmp_gt, cmp_ge, Option.map_some, of_some', tru_bl, tru_int, tru_non, tru_tup0, tru_tup1, tru_lst0, tru_lst1, brB_t, brB_f, brB_d, brB_nd, finish_ite, finish_rt, finish_nx, ite_out, ite_bind, List.length_cons, List.length_nil, sz0, sz1, sz2, sz3, sz4, sz5, sz6, sz7, sz8, Nat.reduceAdd, Nat.reduceLeDiff, Nat.zero_le, Nat.zero_add, if_true, if_false, ↓reduceIte, ix_t0, ix_t1, ix_t2, ix_t3, ix_t4, ix_t5, ix_l0, ix_l1, leave_tup, leave_lst, leave_int, leave_bl, leave_str, leave_non, lo_int, lo_bl, lo_str, lo_non, lo_tup, lo_lst, loAll_nil, loAll_cons, loAll_ints, Bool.and_true, Bool.true_and, Bool.and_self, List.take_length, bin_add, bin_sub, int1_d, int1_bl, inn, ini, ins, int', inb, inl', Bool.not_true, Bool.not_false, decide_eq_true_eq, decide_true, decide_false, brB_b, slt_hi, slt_lo, slt_m1, sll_hi, sll_lo, mul_t0, mul_t1, Int.reduceLE, Int.reduceToNat, List.take_succ_cons, List.take_zero, List.drop_succ_cons, List.drop_zero, List.take_nil, List.drop_nil, Nat.reduceAdd, e_slHi, e_slLo, e_slLH, Int.reduceAdd, Int.add_zero, Int.mul_one, Int.mul_zero, Int.reduceNeg, List.getElem?_nil, Bool.false_eq_true, Int.reduceLT, Int.reduceEq, and_true, true_and, and_false, false_and, not_true_eq_false, not_false_eq_true, of_ite, map_ite, Pl.d, Sk.ds, hf]
  · rw [if_neg hq]
    rw [decide_eq_true hq] at hf
    have hfa := fi.mp hq
    obtain ⟨up, on, reds, low, p0, p1, free⟩ := p
    obtain ⟨first, pots, off⟩ := k
    simp only [Pl.d, Sk.ds] at hf
    simp only at so hfa
    by_cases c1 : on = 1
    · simp only [B_p_points_of, ss_cons, ss_nil, s_setT', s_set', s_par', s_expr', s_ite', s_ret', s_retN', s_raise', e_var, e_non, e_bl, e_int, e_neg, e_str, e_bin, e_cmp, e_cmp2, e_and, e_or, e_not, e_ite, e_tup, e_lst, e_ix, e_isNon, e_notNon, e_call, e_blt, e_isi, e_rev, s_try', tryO_exc, tryO_nx, tryO_rt, tryO_ite, hs_nil, hs_cons, es_nil, es_cons, List.map_cons, List.map_nil, List.replicate, List.cons_append, List.nil_append, List.append_nil, List.getElem?_cons_zero, List.getElem?_cons_succ, lookV_some, ok_bind, ok_out, stuck_bind, stuck_out, onS_tup, onS_lst, onI_int, setAll, List.set_cons_zero, List.set_cons_succ, nxO_some, nx_then, rt_then, ite_then, exc_then, exc_bind, exc_out, finish_exc, deref_int, deref_bl, deref_str, deref_non, deref_tup, deref_lst, deref_scr, cmp_eq, cmp_ne, cmp_lt, cmp_le, cmp_gt, cmp_ge, Option.map_some, of_some', tru_bl, tru_int, tru_non, tru_tup0, tru_tup1, tru_lst0, tru_lst1, brB_t, brB_f, brB_d, brB_nd, finish_ite, finish_rt, finish_nx, ite_out, ite_bind, List.length_cons, List.length_nil, sz0, sz1, sz2, sz3, sz4, sz5, sz6, sz7, sz8, Nat.reduceAdd, Nat.reduceLeDiff, Nat.zero_le, Nat.zero_add, if_true, if_false, ↓reduceIte, ix_t0, ix_t1, ix_t2, ix_t3, ix_t4, ix_t5, ix_l0, ix_l1, leave_tup, leave_lst, leave_int, leave_bl, leave_str, leave_non, lo_int, lo_bl, lo_str, lo_non, lo_tup, lo_lst, loAll_nil, loAll_cons, loAll_ints, Bool.and_true, Bool.true_and, Bool.and_self, List.take_length, bin_add, bin_sub, int1_d, int1_bl, inn, ini, ins, int', inb, inl', Bool.not_true, Bool.not_false, decide_eq_true_eq, decide_true, decide_false, brB_b, slt_hi, slt_lo, slt_m1, sll_hi, sll_lo, mul_t0, mul_t1, Int.reduceLE, Int.reduceToNat, List.take_succ_cons, List.take_zero, List.drop_succ_cons, List.drop_zero, List.take_nil, List.drop_nil, Nat.reduceAdd, e_slHi, e_slLo, e_slLH, Int.reduceAdd, Int.add_zero, Int.mul_one, Int.mul_zero, Int.reduceNeg, List.getElem?_nil, Bool.false_eq_true, Int.reduceLT, Int.reduceEq, and_true, true_and, and_false, false_and, not_true_eq_false, not_false_eq_true, of_ite, map_ite, Pl.d, Sk.ds, hf, eq_true c1, len_tup, List.length_map]
    · by_cases c0 : on = 0
      · have hs : pots.sum = first * (if pots = [] then 0 else 1) := by
          obtain ⟨_, h2, h3⟩ := hfa
          rw [c0] at h2 h3
          by_cases h1 : 1 < first
          · have e : canFall 0 free first = [first] := by unfold canFall; rw [if_pos rfl, if_pos h1]
            rw [e] at h3
            exact sum_one h1 (fun x hx => List.mem_singleton.mp (h3 x hx)) so
          · have e : canFall 0 free first = [] := by unfold canFall; rw [if_pos rfl, if_neg h1]
            rw [e] at h2; cases h2
        simp only [B_p_points_of, ss_cons, ss_nil, s_setT', s_set', s_par', s_expr', s_ite', s_ret', s_retN', s_raise', e_var, e_non, e_bl, e_int, e_neg, e_str, e_bin, e_cmp, e_cmp2, e_and, e_or, e_not, e_ite, e_tup, e_lst, e_ix, e_isNon, e_notNon, e_call, e_blt, e_isi, e_rev, s_try', tryO_exc, tryO_nx, tryO_rt, tryO_ite, hs_nil, hs_cons, es_nil, es_cons, List.map_cons, List.map_nil, List.replicate, List.cons_append, List.nil_append, List.append_nil, List.getElem?_cons_zero, List.getElem?_cons_succ, lookV_some, ok_bind, ok_out, stuck_bind, stuck_out, onS_tup, onS_lst, onI_int, setAll, List.set_cons_zero, List.set_cons_succ, nxO_some, nx_then, rt_then, ite_then, exc_then, exc_bind, exc_out, finish_exc, deref_int, deref_bl, deref_str, deref_non, deref_tup, deref_lst, deref_scr, cmp_eq, cmp_ne, cmp_lt, cmp_le, cmp_gt, cmp_ge, Option.map_some, of_some', tru_bl, tru_int, tru_non, tru_tup0, tru_tup1, tru_lst0, tru_lst1, brB_t, brB_f, brB_d, brB_nd, finish_ite, finish_rt, finish_nx, ite_out, ite_bind, List.length_cons, List.length_nil, sz0, sz1, sz2, sz3, sz4, sz5, sz6, sz7, sz8, Nat.reduceAdd, Nat.reduceLeDiff, Nat.zero_le, Nat.zero_add, if_true, if_false, ↓reduceIte, ix_t0, ix_t1, ix_t2, ix_t3, ix_t4, ix_t5, ix_l0, ix_l1, leave_tup, leave_lst, leave_int, leave_bl, leave_str, leave_non, lo_int, lo_bl, lo_str, lo_non, lo_tup, lo_lst, loAll_nil, loAll_cons, loAll_ints, Bool.and_true, Bool.true_and, Bool.and_self, List.take_length, bin_add, bin_sub, int1_d, int1_bl, inn, ini, ins, int', inb, inl', Bool.not_true, Bool.not_false, decide_eq_true_eq, decide_true, decide_false, brB_b, slt_hi, slt_lo, slt_m1, sll_hi, sll_lo, mul_t0, mul_t1, Int.reduceLE, Int.reduceToNat, List.take_succ_cons, List.take_zero, List.drop_succ_cons, List.drop_zero, List.take_nil, List.drop_nil, Nat.reduceAdd, e_slHi, e_slLo, e_slLH, Int.reduceAdd, Int.add_zero, Int.mul_one, Int.mul_zero, Int.reduceNeg, List.getElem?_nil, Bool.false_eq_true, Int.reduceLT, Int.reduceEq, and_true, true_and, and_false, false_and, not_true_eq_false, not_false_eq_true, of_ite, map_ite, Pl.d, Sk.ds, hf, c1, eq_true c0, sum_intsT, hs]
      · by_cases hp : pots = []
        · simp only [B_p_points_of, ss_cons, ss_nil, s_setT', s_set', s_par', s_expr', s_ite', s_ret', s_retN', s_raise', e_var, e_non, e_bl, e_int, e_neg, e_str, e_bin, e_cmp, e_cmp2, e_and, e_or, e_not, e_ite, e_tup, e_lst, e_ix, e_isNon, e_notNon, e_call, e_blt, e_isi, e_rev, s_try', tryO_exc, tryO_nx, tryO_rt, tryO_ite, hs_nil, hs_cons, es_nil, es_cons, List.map_cons, List.map_nil, List.replicate, List.cons_append, List.nil_append, List.append_nil, List.getElem?_cons_zero, List.getElem?_cons_succ, lookV_some, ok_bind, ok_out, stuck_bind, stuck_out, onS_tup, onS_lst, onI_int, setAll, List.set_cons_zero, List.set_cons_succ, nxO_some, nx_then, rt_then, ite_then, exc_then, exc_bind, exc_out, finish_exc, deref_int, deref_bl, deref_str, deref_non, deref_tup, deref_lst, deref_scr, cmp_eq, cmp_ne, cmp_lt, cmp_le, cmp_gt, cmp_ge, Option.map_some, of_some', tru_bl, tru_int, tru_non, tru_tup0, tru_tup1, tru_lst0, tru_lst1, brB_t, brB_f, brB_d, brB_nd, finish_ite, finish_rt, finish_nx, ite_out, ite_bind, List.length_cons, List.length_nil, sz0, sz1, sz2, sz3, sz4, sz5, sz6, sz7, sz8, Nat.reduceAdd, Nat.reduceLeDiff, Nat.zero_le, Nat.zero_add, if_true, if_false, ↓reduceIte, ix_t0, ix_t1, ix_t2, ix_t3, ix_t4, ix_t5, ix_l0, ix_l1, leave_tup, leave_lst, leave_int, leave_bl, leave_str, leave_non, lo_int, lo_bl, lo_str, lo_non, lo_tup, lo_lst, loAll_nil, loAll_cons, loAll_ints, Bool.and_true, Bool.true_and, Bool.and_self, List.take_length, bin_add, bin_sub, int1_d, int1_bl, inn, ini, ins, int', inb, inl', Bool.not_true, Bool.not_false, decide_eq_true_eq, decide_true, decide_false, brB_b, slt_hi, slt_lo, slt_m1, sll_hi, sll_lo, mul_t0, mul_t1, Int.reduceLE, Int.reduceToNat, List.take_succ_cons, List.take_zero, List.drop_succ_cons, List.drop_zero, List.take_nil, List.drop_nil, Nat.reduceAdd, e_slHi, e_slLo, e_slLH, Int.reduceAdd, Int.add_zero, Int.mul_one, Int.mul_zero, Int.reduceNeg, List.getElem?_nil, Bool.false_eq_true, Int.reduceLT, Int.reduceEq, and_true, true_and, and_false, false_and, not_true_eq_false, not_false_eq_true, of_ite, map_ite, Pl.d, Sk.ds, hf, c1, c0, ne_tup_nil, eq_true hp, bin_mulR (show smallI 0 = true by decide)]
        · simp only [B_p_points_of, ss_cons, ss_nil, s_setT', s_set', s_par', s_expr', s_ite', s_ret', s_retN', s_raise', e_var, e_non, e_bl, e_int, e_neg, e_str, e_bin, e_cmp, e_cmp2, e_and, e_or, e_not, e_ite, e_tup, e_lst, e_ix, e_isNon, e_notNon, e_call, e_blt, e_isi, e_rev, s_try', tryO_exc, tryO_nx, tryO_rt, tryO_ite, hs_nil, hs_cons, es_nil, es_cons, List.map_cons, List.map_nil, List.replicate, List.cons_append, List.nil_append, List.append_nil, List.getElem?_cons_zero, List.getElem?_cons_succ, lookV_some, ok_bind, ok_out, stuck_bind, stuck_out, onS_tup, onS_lst, onI_int, setAll, List.set_cons_zero, List.set_cons_succ, nxO_some, nx_then, rt_then, ite_then, exc_then, exc_bind, exc_out, finish_exc, deref_int, deref_bl, deref_str, deref_non, deref_tup, deref_lst, deref_scr, cmp_eq, cmp_ne, cmp_lt, cmp_le, cmp_gt, cmp_ge, Option.map_some, of_some', tru_bl, tru_int, tru_non, tru_tup0, tru_tup1, tru_lst0, tru_lst1, brB_t, brB_f, brB_d, brB_nd, finish_ite, finish_rt, finish_nx, ite_out, ite_bind, List.length_cons, List.length_nil, sz0, sz1, sz2, sz3, sz4, sz5, sz6, sz7, sz8, Nat.reduceAdd, Nat.reduceLeDiff, Nat.zero_le, Nat.zero_add, if_true, if_false, ↓reduceIte, ix_t0, ix_t1, ix_t2, ix_t3, ix_t4, ix_t5, ix_l0, ix_l1, leave_tup, leave_lst, leave_int, leave_bl, leave_str, leave_non, lo_int, lo_bl, lo_str, lo_non, lo_tup, lo_lst, loAll_nil, loAll_cons, loAll_ints, Bool.and_true, Bool.true_and, Bool.and_self, List.take_length, bin_add, bin_sub, int1_d, int1_bl, inn, ini, ins, int', inb, inl', Bool.not_true, Bool.not_false, decide_eq_true_eq, decide_true, decide_false, brB_b, slt_hi, slt_lo, slt_m1, sll_hi, sll_lo, mul_t0, mul_t1, Int.reduceLE, Int.reduceToNat, List.take_succ_cons, List.take_zero, List.drop_succ_cons, List.drop_zero, List.take_nil, List.drop_nil, Nat.reduceAdd, e_slHi, e_slLo, e_slLH, Int.reduceAdd, Int.add_zero, Int.mul_one, Int.mul_zero, Int.reduceNeg, List.getElem?_nil, Bool.false_eq_true, Int.reduceLT, Int.reduceEq, and_true, true_and, and_false, false_and, not_true_eq_false, not_false_eq_true, of_ite, map_ite, Pl.d, Sk.ds, hf, c1, c0, ne_tup_nil, hp, bin_mulR (show smallI 1 = true by decide)]
theorem p_foul_of {j : Nat} {p : Pl} {k : Sk} {s : Sta} (hl : k.pots.length ≤ 1000) : FTab fb (j + 3) 31 [p.d, .tup k.ds] s = .ok (.int (judged p k).2) s := by
  have hf := p_is_fair (j := j) (p := p) (k := k) (s := s) hl
  have ju : judged p k = if foulQ p k then ((0 : Int), maxI 4 (p.on :: k.first :: k.pots)) else if p.on = 1 then (((k.pots.length : Nat) : Int), (0 : Int)) else ((if p.on = 0 then k.first else p.on) * (if k.pots = [] then 0 else 1), 0) := rfl
  have hq2 : ¬ foulQ p k → (judged p k).2 = 0 := fun hq => by rw [ju, if_neg hq]; split <;> rfl
  show FTab fb ((j + 2) + 1) 31 _ s = _
  rw [t_p_foul_of rfl]
  by_cases hq : foulQ p k
  · rw [ju, if_pos hq]
    rw [decide_eq_false (by simpa using hq)] at hf
    obtain ⟨up, on, reds, low, p0, p1, free⟩ := p
    obtain ⟨first, pots, off⟩ := k
    simp only [Pl.d, Sk.ds] at hf
    simp only at hl
    have h9 := add_tt (xs := [Dt.int 4, Dt.int on, Dt.int first]) (ys := pots.map Dt.int) (by simp; omega)
    simp only [B_p_foul_of, ss_cons, ss_nil, s_setT', s_set', s_par', s_expr', s_ite', s_ret', s_retN', s_raise', e_var, e_non, e_bl, e_int, e_neg, e_str, e_bin, e_cmp, e_cmp2, e_and, e_or, e_not, e_ite, e_tup, e_lst, e_ix, e_isNon, e_notNon, e_call, e_blt, e_isi, e_rev, s_try', tryO_exc, tryO_nx, tryO_rt, tryO_ite, hs_nil, hs_cons, es_nil, es_cons, List.map_cons, List.map_nil, List.replicate, List.cons_append, List.nil_append, List.append_nil, List.getElem?_cons_zero, List.getElem?_cons_succ, lookV_some, ok_bind, ok_out, stuck_bind, stuck_out, onS_tup, onS_lst, onI_int, setAll, List.set_cons_zero, List.set_cons_succ, nxO_some, nx_then, rt_then, ite_then, exc_then, exc_bind, exc_out, finish_exc, deref_int, deref_bl, deref_str, deref_non, deref_tup, deref_lst, deref_scr, cmp_eq, cmp_ne, cmp_lt, cmp_le, cmp_gt, cmp_ge, Option.map_some, of_some', tru_bl, tru_int, tru_non, tru_tup0, tru_tup1, tru_lst0, tru_lst1, brB_t, brB_f, brB_d, brB_nd, finish_ite, finish_rt, finish_nx, ite_out, ite_bind, List.length_cons, List.length_nil, sz0, sz1, sz2, sz3, sz4, sz5, sz6, sz7, sz8, Nat.reduceAdd, Nat.reduceLeDiff, Nat.zero_le, Nat.zero_add, if_true, if_false, ↓reduceIte, ix_t0, ix_t1, ix_t2, ix_t3, ix_t4, ix_t5, ix_l0, ix_l1, leave_tup, leave_lst, leave_int, leave_bl, leave_str, leave_non, lo_int, lo_bl, lo_str, lo_non, lo_tup, lo_lst, loAll_nil, loAll_cons, loAll_ints, Bool.and_true, Bool.true_and, Bool.and_self, List.take_length, bin_add, bin_sub, int1_d, int1_bl, inn, ini, ins, int', inb, inl', Bool.not_true, Bool.not_false, decide_eq_true_eq, decide_true, decide_false, brB_b, slt_hi, slt_lo, slt_m1, sll_hi, sll_lo, mul_t0, mul_t1, Int.reduceLE, Int.reduceToNat, List.take_succ_cons, List.take_zero, List.drop_succ_cons, List.drop_zero, List.take_nil, List.drop_nil, Nat.reduceAdd, e_slHi, e_slLo, e_slLH, Int.reduceAdd, Int.add_zero, Int.mul_one, Int.mul_zero, Int.reduceNeg, List.getElem?_nil, Bool.false_eq_true, Int.reduceLT, Int.reduceEq, and_true, true_and, and_false, false_and, not_true_eq_false, not_false_eq_true, of_ite, map_ite, Pl.d, Sk.ds, hf, h9, max3T]
  · rw [hq2 hq]
    rw [decide_eq_true hq] at hf
    obtain ⟨up, on, reds, low, p0, p1, free⟩ := p
    obtain ⟨first, pots, off⟩ := k
    simp only [Pl.d, Sk.ds] at hf
    simp only [B_p_foul_of, ss_cons, ss_nil, s_setT', s_set', s_par', s_expr', s_ite', s_ret', s_retN', s_raise', e_var, e_non, e_bl, e_int, e_neg, e_str, e_bin, e_cmp, e_cmp2, e_and, e_or, e_not, e_ite, e_tup, e_lst, e_ix, e_isNon, e_notNon, e_call, e_blt, e_isi, e_rev, s_try', tryO_exc, tryO_nx, tryO_rt, tryO_ite, hs_nil, hs_cons, es_nil, es_cons, List.map_cons, List.map_nil, List.replicate, List.cons_append, List.nil_append, List.append_nil, List.getElem?_cons_zero, List.getElem?_cons_succ, lookV_some, ok_bind, ok_out, stuck_bind, stuck_out, onS_tup, onS_lst, onI_int, setAll, List.set_cons_zero, List.set_cons_succ, nxO_some, nx_then, rt_then, ite_then, exc_then, exc_bind, exc_out, finish_exc, deref_int, deref_bl, deref_str, deref_non, deref_tup, deref_lst, deref_scr, cmp_eq, cmp_ne, cmp_lt, cmp_le, cmp_gt, cmp_ge, Option.map_some, of_some', tru_bl, tru_int, tru_non, tru_tup0, tru_tup1, tru_lst0, tru_lst1, brB_t, brB_f, brB_d, brB_nd, finish_ite, finish_rt, finish_nx, ite_out, ite_bind, List.length_cons, List.length_nil, sz0, sz1, sz2, sz3, sz4, sz5, sz6, sz7, sz8, Nat.reduceAdd, Nat.reduceLeDiff, Nat.zero_le, Nat.zero_add, if_true, if_false, ↓reduceIte, ix_t0, ix_t1, ix_t2, ix_t3, ix_t4, ix_t5, ix_l0, ix_l1, leave_tup, leave_lst, leave_int, leave_bl, leave_str, leave_non, lo_int, lo_bl, lo_str, lo_non, lo_tup, lo_lst, loAll_nil, loAll_cons, loAll_ints, Bool.and_true, Bool.true_and, Bool.and_self, List.take_length, bin_add, bin_sub, int1_d, int1_bl, inn, ini, ins, int', inb, inl', Bool.not_true, Bool.not_false, decide_eq_true_eq, decide_true, decide_false, brB_b, slt_hi, slt_lo, slt_m1, sll_hi, sll_lo, mul_t0, mul_t1, Int.reduceLE, Int.reduceToNat, List.take_succ_cons, List.take_zero, List.drop_succ_cons, List.drop_zero, List.take_nil, List.drop_nil, Nat.reduceAdd, e_slHi, e_slLo, e_slLH, Int.reduceAdd, Int.add_zero, Int.mul_one, Int.mul_zero, Int.reduceNeg, List.getElem?_nil, Bool.false_eq_true, Int.reduceLT, Int.reduceEq, and_true, true_and, and_false, false_and, not_true_eq_false, not_false_eq_true, of_ite, map_ite, Pl.d, Sk.ds, hf]
theorem loss_zero {p : Pl} {k : Sk} : (judged p k).2 = 0 ↔ ¬ foulQ p k := by
  have ju : judged p k = if foulQ p k then ((0 : Int), maxI 4 (p.on :: k.first :: k.pots)) else if p.on = 1 then (((k.pots.length : Nat) : Int), (0 : Int)) else ((if p.on = 0 then k.first else p.on) * (if k.pots = [] then 0 else 1), 0) := rfl
  by_cases hq : foulQ p k
  · rw [ju, if_pos hq]
    have := maxI_ge (l := p.on :: k.first :: k.pots) (m := 4)
    constructor
    · intro h; simp only at h; omega
    · intro h; exact absurd hq h
  · rw [ju, if_neg hq]
    refine ⟨fun _ => hq, fun _ => ?_⟩
    split <;> rfl
end MP
/-! P12: plain: loops, small things. -/
namespace MP
open PySem
/-- a loop that goes to its end -/
theorem for_n {one : Dt → Env → Sta → Out} (A : Dt → Prop) (P : Nat → Env → Sta → Prop) (step : ∀ n d ρ s, A d → P (n + 1) ρ s → ∃ ρ' s', one d ρ s = .nx ρ' s' ∧ P n ρ' s') :
    ∀ (L : List Dt) (ρ : Env) (s : Sta), (∀ d ∈ L, A d) → P L.length ρ s → ∃ ρ' s', forGo one L ρ s = .nx ρ' s' ∧ P 0 ρ' s'
  | [], ρ, s, _, h => ⟨ρ, s, rfl, h⟩
  | d :: L, ρ, s, ha, h => by
    obtain ⟨ρ1, s1, e1, h1⟩ := step L.length d ρ s (ha d List.mem_cons_self) h
    obtain ⟨ρ2, s2, e2, h2⟩ := for_n A P step L ρ1 s1 (fun x hx => ha x (List.mem_cons_of_mem _ hx)) h1
    exact ⟨ρ2, s2, by rw [forGo, e1, nx_then]; exact e2, h2⟩
def isInt (d : Dt) : Prop := ∃ i, d = .int i
theorem rng_int {a b : Int} : ∀ d ∈ rngD a b, isInt d := fun d h => by
  unfold rngD at h
  obtain ⟨i, _, rfl⟩ := List.mem_map.mp h
  exact ⟨_, rfl⟩
theorem sm_ints {l : List Int} (h : l.length < lineM) : Dt.sm 1 (.tup (l.map .int)) = true := by
  simp only [Dt.sm, List.length_map, decide_eq_true h, Bool.true_and, List.all_eq_true]
  intro x hx
  obtain ⟨i, _, rfl⟩ := List.mem_map.mp hx
  rfl
theorem canFall_len {a b c : Int} : (canFall a b c).length < lineM := by
  have : (canFall a b c).length ≤ 2 := by unfold canFall; split <;> (try split) <;> simp
  unfold lineM; omega
theorem deref_rs {s : Sta} {R C : Int} : deref s (Rs R C) = Rs R C := rfl
theorem ix_r0 {R C : Int} : evIx (Rs R C) (.int 0) = some (.int R) := ix_t0
theorem ix_r1 {R C : Int} : evIx (Rs R C) (.int 1) = some (.int C) := ix_t1
end MP
/-! P13: plain: the program's walk. -/
namespace MP
open PySem
theorem p_top_of {j : Nat} {R C : Int} {s : Sta} : FTab fb (j + 1) 0 [Rs R C] s = .ok (.int (C + 1)) s := by
  rw [t_p_top_of rfl]
  simp only [B_p_top_of, ss_cons, ss_nil, s_setT', s_set', s_par', s_expr', s_ite', s_ret', s_retN', s_raise', e_var, e_non, e_bl, e_int, e_neg, e_str, e_bin, e_cmp, e_cmp2, e_and, e_or, e_not, e_ite, e_tup, e_lst, e_ix, e_isNon, e_notNon, e_call, e_blt, e_isi, e_rev, s_try', tryO_exc, tryO_nx, tryO_rt, tryO_ite, hs_nil, hs_cons, es_nil, es_cons, List.map_cons, List.map_nil, List.replicate, List.cons_append, List.nil_append, List.append_nil, List.getElem?_cons_zero, List.getElem?_cons_succ, lookV_some, ok_bind, ok_out, stuck_bind, stuck_out, onS_tup, onS_lst, onI_int, setAll, List.set_cons_zero, List.set_cons_succ, nxO_some, nx_then, rt_then, ite_then, exc_then, exc_bind, exc_out, finish_exc, deref_int, deref_bl, deref_str, deref_non, deref_tup, deref_lst, deref_scr, cmp_eq, cmp_ne, cmp_lt, cmp_le, cmp_gt, cmp_ge, Option.map_some, of_some', tru_bl, tru_int, tru_non, tru_tup0, tru_tup1, tru_lst0, tru_lst1, brB_t, brB_f, brB_d, brB_nd, finish_ite, finish_rt, finish_nx, ite_out, ite_bind, List.length_cons, List.length_nil, sz0, sz1, sz2, sz3, sz4, sz5, sz6, sz7, sz8, Nat.reduceAdd, Nat.reduceLeDiff, Nat.zero_le, Nat.zero_add, if_true, if_false, ↓reduceIte, ix_t0, ix_t1, ix_t2, ix_t3, ix_t4, ix_t5, ix_l0, ix_l1, leave_tup, leave_lst, leave_int, leave_bl, leave_str, leave_non, lo_int, lo_bl, lo_str, lo_non, lo_tup, lo_lst, loAll_nil, loAll_cons, loAll_ints, Bool.and_true, Bool.true_and, Bool.and_self, List.take_length, bin_add, bin_sub, int1_d, int1_bl, inn, ini, ins, int', inb, inl', Bool.not_true, Bool.not_false, decide_eq_true_eq, decide_true, decide_false, brB_b, slt_hi, slt_lo, slt_m1, sll_hi, sll_lo, mul_t0, mul_t1, Int.reduceLE, Int.reduceToNat, List.take_succ_cons, List.take_zero, List.drop_succ_cons, List.drop_zero, List.take_nil, List.drop_nil, Nat.reduceAdd, e_slHi, e_slLo, e_slLH, Int.reduceAdd, Int.add_zero, Int.mul_one, Int.mul_zero, Int.reduceNeg, List.getElem?_nil, Bool.false_eq_true, Int.reduceLT, Int.reduceEq, and_true, true_and, and_false, false_and, not_true_eq_false, not_false_eq_true, of_ite, map_ite, deref_rs, ix_r1]
theorem p_first_place {j : Nat} {R C pl : Int} {s : Sta} : FTab fb (j + 1) 36 [Rs R C, .int pl] s = .ok (Pl.d (stt R pl)) s := by
  rw [t_p_first_place rfl]
  simp only [B_p_first_place, ss_cons, ss_nil, s_setT', s_set', s_par', s_expr', s_ite', s_ret', s_retN', s_raise', e_var, e_non, e_bl, e_int, e_neg, e_str, e_bin, e_cmp, e_cmp2, e_and, e_or, e_not, e_ite, e_tup, e_lst, e_ix, e_isNon, e_notNon, e_call, e_blt, e_isi, e_rev, s_try', tryO_exc, tryO_nx, tryO_rt, tryO_ite, hs_nil, hs_cons, es_nil, es_cons, List.map_cons, List.map_nil, List.replicate, List.cons_append, List.nil_append, List.append_nil, List.getElem?_cons_zero, List.getElem?_cons_succ, lookV_some, ok_bind, ok_out, stuck_bind, stuck_out, onS_tup, onS_lst, onI_int, setAll, List.set_cons_zero, List.set_cons_succ, nxO_some, nx_then, rt_then, ite_then, exc_then, exc_bind, exc_out, finish_exc, deref_int, deref_bl, deref_str, deref_non, deref_tup, deref_lst, deref_scr, cmp_eq, cmp_ne, cmp_lt, cmp_le, cmp_gt, cmp_ge, Option.map_some, of_some', tru_bl, tru_int, tru_non, tru_tup0, tru_tup1, tru_lst0, tru_lst1, brB_t, brB_f, brB_d, brB_nd, finish_ite, finish_rt, finish_nx, ite_out, ite_bind, List.length_cons, List.length_nil, sz0, sz1, sz2, sz3, sz4, sz5, sz6, sz7, sz8, Nat.reduceAdd, Nat.reduceLeDiff, Nat.zero_le, Nat.zero_add, if_true, if_false, ↓reduceIte, ix_t0, ix_t1, ix_t2, ix_t3, ix_t4, ix_t5, ix_l0, ix_l1, leave_tup, leave_lst, leave_int, leave_bl, leave_str, leave_non, lo_int, lo_bl, lo_str, lo_non, lo_tup, lo_lst, loAll_nil, loAll_cons, loAll_ints, Bool.and_true, Bool.true_and, Bool.and_self, List.take_length, bin_add, bin_sub, int1_d, int1_bl, inn, ini, ins, int', inb, inl', Bool.not_true, Bool.not_false, decide_eq_true_eq, decide_true, decide_false, brB_b, slt_hi, slt_lo, slt_m1, sll_hi, sll_lo, mul_t0, mul_t1, Int.reduceLE, Int.reduceToNat, List.take_succ_cons, List.take_zero, List.drop_succ_cons, List.drop_zero, List.take_nil, List.drop_nil, Nat.reduceAdd, e_slHi, e_slLo, e_slLH, Int.reduceAdd, Int.add_zero, Int.mul_one, Int.mul_zero, Int.reduceNeg, List.getElem?_nil, Bool.false_eq_true, Int.reduceLT, Int.reduceEq, and_true, true_and, and_false, false_and, not_true_eq_false, not_false_eq_true, of_ite, map_ite, deref_rs, ix_r0, Pl.d, stt]
theorem p_added {j : Nat} {a b pl m : Int} {s : Sta} : FTab fb (j + 1) 38 [.tup [.int a, .int b], .int pl, .int m] s = .ok (.tup [.int (a + if pl = 0 then m else 0), .int (b + if pl = 1 then m else 0)]) s := by
  rw [t_p_added rfl]
  by_cases h0 : pl = 0
  · have h1 : ¬ pl = 1 := by omega
    simp only [B_p_added, ss_cons, ss_nil, s_setT', s_set', s_par', s_expr', s_ite', s_ret', s_retN', s_raise', e_var, e_non, e_bl, e_int, e_neg, e_str, e_bin, e_cmp, e_cmp2, e_and, e_or, e_not, e_ite, e_tup, e_lst, e_ix, e_isNon, e_notNon, e_call, e_blt, e_isi, e_rev, s_try', tryO_exc, tryO_nx, tryO_rt, tryO_ite, hs_nil, hs_cons, es_nil, es_cons, List.map_cons, List.map_nil, List.replicate, List.cons_append, List.nil_append, List.append_nil, List.getElem?_cons_zero, List.getElem?_cons_succ, lookV_some, ok_bind, ok_out, stuck_bind, stuck_out, onS_tup, onS_lst, onI_int, setAll, List.set_cons_zero, List.set_cons_succ, nxO_some, nx_then, rt_then, ite_then, exc_then, exc_bind, exc_out, finish_exc, deref_int, deref_bl, deref_str, deref_non, deref_tup, deref_lst, deref_scr, cmp_eq, cmp_ne, cmp_lt, cmp_le, cmp_gt, cmp_ge, Option.map_some, of_some', tru_bl, tru_int, tru_non, tru_tup0, tru_tup1, tru_lst0, tru_lst1, brB_t, brB_f, brB_d, brB_nd, finish_ite, finish_rt, finish_nx, ite_out, ite_bind, List.length_cons, List.length_nil, sz0, sz1, sz2, sz3, sz4, sz5, sz6, sz7, sz8, Nat.reduceAdd, Nat.reduceLeDiff, Nat.zero_le, Nat.zero_add, if_true, if_false, ↓reduceIte, ix_t0, ix_t1, ix_t2, ix_t3, ix_t4, ix_t5, ix_l0, ix_l1, leave_tup, leave_lst, leave_int, leave_bl, leave_str, leave_non, lo_int, lo_bl, lo_str, lo_non, lo_tup, lo_lst, loAll_nil, loAll_cons, loAll_ints, Bool.and_true, Bool.true_and, Bool.and_self, List.take_length, bin_add, bin_sub, int1_d, int1_bl, inn, ini, ins, int', inb, inl', Bool.not_true, Bool.not_false, decide_eq_true_eq, decide_true, decide_false, brB_b, slt_hi, slt_lo, slt_m1, sll_hi, sll_lo, mul_t0, mul_t1, Int.reduceLE, Int.reduceToNat, List.take_succ_cons, List.take_zero, List.drop_succ_cons, List.drop_zero, List.take_nil, List.drop_nil, Nat.reduceAdd, e_slHi, e_slLo, e_slLH, Int.reduceAdd, Int.add_zero, Int.mul_one, Int.mul_zero, Int.reduceNeg, List.getElem?_nil, Bool.false_eq_true, Int.reduceLT, Int.reduceEq, and_true, true_and, and_false, false_and, not_true_eq_false, not_false_eq_true, of_ite, map_ite, eq_true h0, h1, bin_mulR (show smallI 0 = true by decide), bin_mulR (show smallI 1 = true by decide)]
  · by_cases h1 : pl = 1
    · simp only [B_p_added, ss_cons, ss_nil, s_setT', s_set', s_par', s_expr', s_ite', s_ret', s_retN', s_raise', e_var, e_non, e_bl, e_int, e_neg, e_str, e_bin, e_cmp, e_cmp2, e_and, e_or, e_not, e_ite, e_tup, e_lst, e_ix, e_isNon, e_notNon, e_call, e_blt, e_isi, e_rev, s_try', tryO_exc, tryO_nx, tryO_rt, tryO_ite, hs_nil, hs_cons, es_nil, es_cons, List.map_cons, List.map_nil, List.replicate, List.cons_append, List.nil_append, List.append_nil, List.getElem?_cons_zero, List.getElem?_cons_succ, lookV_some, ok_bind, ok_out, stuck_bind, stuck_out, onS_tup, onS_lst, onI_int, setAll, List.set_cons_zero, List.set_cons_succ, nxO_some, nx_then, rt_then, ite_then, exc_then, exc_bind, exc_out, finish_exc, deref_int, deref_bl, deref_str, deref_non, deref_tup, deref_lst, deref_scr, cmp_eq, cmp_ne, cmp_lt, cmp_le, cmp_gt, cmp_ge, Option.map_some, of_some', tru_bl, tru_int, tru_non, tru_tup0, tru_tup1, tru_lst0, tru_lst1, brB_t, brB_f, brB_d, brB_nd, finish_ite, finish_rt, finish_nx, ite_out, ite_bind, List.length_cons, List.length_nil, sz0, sz1, sz2, sz3, sz4, sz5, sz6, sz7, sz8, Nat.reduceAdd, Nat.reduceLeDiff, Nat.zero_le, Nat.zero_add, if_true, if_false, ↓reduceIte, ix_t0, ix_t1, ix_t2, ix_t3, ix_t4, ix_t5, ix_l0, ix_l1, leave_tup, leave_lst, leave_int, leave_bl, leave_str, leave_non, lo_int, lo_bl, lo_str, lo_non, lo_tup, lo_lst, loAll_nil, loAll_cons, loAll_ints, Bool.and_true, Bool.true_and, Bool.and_self, List.take_length, bin_add, bin_sub, int1_d, int1_bl, inn, ini, ins, int', inb, inl', Bool.not_true, Bool.not_false, decide_eq_true_eq, decide_true, decide_false, brB_b, slt_hi, slt_lo, slt_m1, sll_hi, sll_lo, mul_t0, mul_t1, Int.reduceLE, Int.reduceToNat, List.take_succ_cons, List.take_zero, List.drop_succ_cons, List.drop_zero, List.take_nil, List.drop_nil, Nat.reduceAdd, e_slHi, e_slLo, e_slLH, Int.reduceAdd, Int.add_zero, Int.mul_one, Int.mul_zero, Int.reduceNeg, List.getElem?_nil, Bool.false_eq_true, Int.reduceLT, Int.reduceEq, and_true, true_and, and_false, false_and, not_true_eq_false, not_false_eq_true, of_ite, map_ite, h0, eq_true h1, bin_mulR (show smallI 0 = true by decide), bin_mulR (show smallI 1 = true by decide)]
    · simp only [B_p_added, ss_cons, ss_nil, s_setT', s_set', s_par', s_expr', s_ite', s_ret', s_retN', s_raise', e_var, e_non, e_bl, e_int, e_neg, e_str, e_bin, e_cmp, e_cmp2, e_and, e_or, e_not, e_ite, e_tup, e_lst, e_ix, e_isNon, e_notNon, e_call, e_blt, e_isi, e_rev, s_try', tryO_exc, tryO_nx, tryO_rt, tryO_ite, hs_nil, hs_cons, es_nil, es_cons, List.map_cons, List.map_nil, List.replicate, List.cons_append, List.nil_append, List.append_nil, List.getElem?_cons_zero, List.getElem?_cons_succ, lookV_some, ok_bind, ok_out, stuck_bind, stuck_out, onS_tup, onS_lst, onI_int, setAll, List.set_cons_zero, List.set_cons_succ, nxO_some, nx_then, rt_then, ite_then, exc_then, exc_bind, exc_out, finish_exc, deref_int, deref_bl, deref_str, deref_non, deref_tup, deref_lst, deref_scr, cmp_eq, cmp_ne, cmp_lt, cmp_le, cmp_gt, cmp_ge, Option.map_some, of_some', tru_bl, tru_int, tru_non, tru_tup0, tru_tup1, tru_lst0, tru_lst1, brB_t, brB_f, brB_d, brB_nd, finish_ite, finish_rt, finish_nx, ite_out, ite_bind, List.length_cons, List.length_nil, sz0, sz1, sz2, sz3, sz4, sz5, sz6, sz7, sz8, Nat.reduceAdd, Nat.reduceLeDiff, Nat.zero_le, Nat.zero_add, if_true, if_false, ↓reduceIte, ix_t0, ix_t1, ix_t2, ix_t3, ix_t4, ix_t5, ix_l0, ix_l1, leave_tup, leave_lst, leave_int, leave_bl, leave_str, leave_non, lo_int, lo_bl, lo_str, lo_non, lo_tup, lo_lst, loAll_nil, loAll_cons, loAll_ints, Bool.and_true, Bool.true_and, Bool.and_self, List.take_length, bin_add, bin_sub, int1_d, int1_bl, inn, ini, ins, int', inb, inl', Bool.not_true, Bool.not_false, decide_eq_true_eq, decide_true, decide_false, brB_b, slt_hi, slt_lo, slt_m1, sll_hi, sll_lo, mul_t0, mul_t1, Int.reduceLE, Int.reduceToNat, List.take_succ_cons, List.take_zero, List.drop_succ_cons, List.drop_zero, List.take_nil, List.drop_nil, Nat.reduceAdd, e_slHi, e_slLo, e_slLH, Int.reduceAdd, Int.add_zero, Int.mul_one, Int.mul_zero, Int.reduceNeg, List.getElem?_nil, Bool.false_eq_true, Int.reduceLT, Int.reduceEq, and_true, true_and, and_false, false_and, not_true_eq_false, not_false_eq_true, of_ite, map_ite, h0, h1, bin_mulR (show smallI 0 = true by decide)]
theorem foul_gain {p : Pl} {k : Sk} (h : foulQ p k) : (judged p k).1 = 0 := by
  unfold judged
  rw [if_pos h]
theorem foul_loss {p : Pl} {k : Sk} (h : foulQ p k) : 4 ≤ (judged p k).2 := by
  unfold judged
  rw [if_pos h]
  exact maxI_ge
end MP
namespace MP
open PySem
theorem struck_head {j : Nat} {R C : Int} {p : Pl} {k : Sk} {s : Sta} (hl : k.pots.length ≤ 1000) (so : k.pots.Pairwise fun a b => a < b ∨ (a = 1 ∧ b = 1)) (hup : p.up = 0 ∨ p.up = 1) :
    evSs (FTab fb (j + 3)) (B_p_struck.take 5) ([Rs R C, p.d, .tup k.ds].map some ++ List.replicate 11 none) s = .nx [some (Rs R C), some p.d, some (.tup k.ds), some (.int p.up), some (.int p.on), some (.int (p.reds - (k.pots.count 1 : Nat))), some (.int p.low),
      some (.tup [.int (p.p0 + if p.up = 0 then (judged p k).1 else (judged p k).2), .int (p.p1 + if p.up = 0 then (judged p k).2 else (judged p k).1)]), some (.int p.free), some (.int (C + 1)), some (.int (judged p k).1), some (.int (judged p k).2), none, none] s := by
  have e1 := p_points_of (j := j) (p := p) (k := k) (s := s) hl so
  have e2 := p_foul_of (j := j) (p := p) (k := k) (s := s) hl
  generalize (judged p k).1 = g at e1
  generalize (judged p k).2 = l at e2
  have e0 := p_top_of (j := j + 2) (R := R) (C := C) (s := s)
  obtain ⟨up, on, reds, low, p0, p1, free⟩ := p
  obtain ⟨first, pots, off⟩ := k
  simp only [Pl.d, Sk.ds] at e1 e2
  rcases hup with c | c <;> simp only at c <;> subst c <;>
    simp only [B_p_struck, ss_cons, ss_nil, s_setT', s_set', s_par', s_expr', s_ite', s_ret', s_retN', s_raise', e_var, e_non, e_bl, e_int, e_neg, e_str, e_bin, e_cmp, e_cmp2, e_and, e_or, e_not, e_ite, e_tup, e_lst, e_ix, e_isNon, e_notNon, e_call, e_blt, e_isi, e_rev, s_try', tryO_exc, tryO_nx, tryO_rt, tryO_ite, hs_nil, hs_cons, es_nil, es_cons, List.map_cons, List.map_nil, List.replicate, List.cons_append, List.nil_append, List.append_nil, List.getElem?_cons_zero, List.getElem?_cons_succ, lookV_some, ok_bind, ok_out, stuck_bind, stuck_out, onS_tup, onS_lst, onI_int, setAll, List.set_cons_zero, List.set_cons_succ, nxO_some, nx_then, rt_then, ite_then, exc_then, exc_bind, exc_out, finish_exc, deref_int, deref_bl, deref_str, deref_non, deref_tup, deref_lst, deref_scr, cmp_eq, cmp_ne, cmp_lt, cmp_le, cmp_gt, cmp_ge, Option.map_some, of_some', tru_bl, tru_int, tru_non, tru_tup0, tru_tup1, tru_lst0, tru_lst1, brB_t, brB_f, brB_d, brB_nd, finish_ite, finish_rt, finish_nx, ite_out, ite_bind, List.length_cons, List.length_nil, sz0, sz1, sz2, sz3, sz4, sz5, sz6, sz7, sz8, Nat.reduceAdd, Nat.reduceLeDiff, Nat.zero_le, Nat.zero_add, if_true, if_false, ↓reduceIte, ix_t0, ix_t1, ix_t2, ix_t3, ix_t4, ix_t5, ix_l0, ix_l1, leave_tup, leave_lst, leave_int, leave_bl, leave_str, leave_non, lo_int, lo_bl, lo_str, lo_non, lo_tup, lo_lst, loAll_nil, loAll_cons, loAll_ints, Bool.and_true, Bool.true_and, Bool.and_self, List.take_length, bin_add, bin_sub, int1_d, int1_bl, inn, ini, ins, int', inb, inl', Bool.not_true, Bool.not_false, decide_eq_true_eq, decide_true, decide_false, brB_b, slt_hi, slt_lo, slt_m1, sll_hi, sll_lo, mul_t0, mul_t1, Int.reduceLE, Int.reduceToNat, List.take_succ_cons, List.take_zero, List.drop_succ_cons, List.drop_zero, List.take_nil, List.drop_nil, Nat.reduceAdd, e_slHi, e_slLo, e_slLH, Int.reduceAdd, Int.add_zero, Int.mul_one, Int.mul_zero, Int.reduceNeg, List.getElem?_nil, Bool.false_eq_true, Int.reduceLT, Int.reduceEq, and_true, true_and, and_false, false_and, not_true_eq_false, not_false_eq_true, of_ite, map_ite, Pl.d, Sk.ds, e0, e1, e2, p_added, e_mth, ok_ct, mt_count, Int.reduceSub]
end MP
/-! Q1: plain: tests put together. -/
namespace MP
open PySem
theorem nd_ {p : Prop} [Decidable p] : (!decide p) = decide (¬ p) := by by_cases h : p <;> simp [h]
theorem and_db {p : Prop} [Decidable p] {b : Bool} {s : Sta} : (if p then Res.ok (Dt.bl b) s else Res.ok (Dt.bl (decide p)) s) = Res.ok (Dt.bl (decide (p ∧ b = true))) s := by by_cases h : p <;> simp [h]
theorem or_db {p : Prop} [Decidable p] {b : Bool} {s : Sta} : (if p then Res.ok (Dt.bl (decide p)) s else Res.ok (Dt.bl b) s) = Res.ok (Dt.bl (decide (p ∨ b = true))) s := by by_cases h : p <;> simp [h]
theorem mrI {p : Prop} [Decidable p] {a b : Int} {s : Sta} : (if p then Res.ok (Dt.int a) s else Res.ok (Dt.int b) s) = Res.ok (Dt.int (if p then a else b)) s := by split <;> rfl
end MP
/-! P15: plain: the program's struck against the law's moved. -/
namespace MP
open PySem
def ptail (top : Int) (p : Pl) (pots : List Int) (g l a b left : Int) : MR :=
  if p.on = top ∧ (0 < l ∨ top ∈ pots) then (if a = b then .go ⟨1 - p.up, top, 0, top, a, b, 0⟩ a b else .over (if a < b then 1 else 0) a b)
  else if 0 < g then .go ⟨p.up, if p.on = 1 then 0 else if 0 < left then 1 else (if l = 0 ∧ 1 < p.on ∧ p.on ∈ pots then p.low + 1 else p.low), left, (if l = 0 ∧ 1 < p.on ∧ p.on ∈ pots then p.low + 1 else p.low), a, b, 0⟩ a b
  else .go ⟨1 - p.up, if 0 < left then 1 else (if l = 0 ∧ 1 < p.on ∧ p.on ∈ pots then p.low + 1 else p.low), left, (if l = 0 ∧ 1 < p.on ∧ p.on ∈ pots then p.low + 1 else p.low), a, b, if 0 < l then 1 else 0⟩ a b
theorem struck_tail {F : FT} {R : Dt} {first top g l a b left : Int} {off : Bool} {p : Pl} {pots : List Int} {s : Sta} :
    finish s.length (evSs F (B_p_struck.drop 5) [some R, some p.d, some (.tup [.int first, .tup (pots.map .int), .bl off]), some (.int p.up), some (.int p.on), some (.int left), some (.int p.low), some (.tup [.int a, .int b]), some (.int p.free), some (.int top), some (.int g), some (.int l), none, none] s) =
      .ok (ptail top p pots g l a b left).d s := by
  obtain ⟨up, on, reds, low, p0, p1, free⟩ := p
  simp only [ptail, Pl.d]
  simp only [B_p_struck, ss_cons, ss_nil, s_setT', s_set', s_par', s_expr', s_ite', s_ret', s_retN', s_raise', e_var, e_non, e_bl, e_int, e_neg, e_str, e_bin, e_cmp, e_cmp2, e_and, e_or, e_not, e_ite, e_tup, e_lst, e_ix, e_isNon, e_notNon, e_call, e_blt, e_isi, e_rev, s_try', tryO_exc, tryO_nx, tryO_rt, tryO_ite, hs_nil, hs_cons, es_nil, es_cons, List.map_cons, List.map_nil, List.replicate, List.cons_append, List.nil_append, List.append_nil, List.getElem?_cons_zero, List.getElem?_cons_succ, lookV_some, ok_bind, ok_out, stuck_bind, stuck_out, onS_tup, onS_lst, onI_int, setAll, List.set_cons_zero, List.set_cons_succ, nxO_some, nx_then, rt_then, ite_then, exc_then, exc_bind, exc_out, finish_exc, deref_int, deref_bl, deref_str, deref_non, deref_tup, deref_lst, deref_scr, cmp_eq, cmp_ne, cmp_lt, cmp_le, cmp_gt, cmp_ge, Option.map_some, of_some', tru_bl, tru_int, tru_non, tru_tup0, tru_tup1, tru_lst0, tru_lst1, brB_t, brB_f, brB_d, finish_ite, finish_rt, finish_nx, ite_out, ite_bind, List.length_cons, List.length_nil, sz0, sz1, sz2, sz3, sz4, sz5, sz6, sz7, sz8, Nat.reduceAdd, Nat.reduceLeDiff, Nat.zero_le, Nat.zero_add, if_true, if_false, ↓reduceIte, ix_t0, ix_t1, ix_t2, ix_t3, ix_t4, ix_t5, ix_l0, ix_l1, leave_tup, leave_lst, leave_int, leave_bl, leave_str, leave_non, lo_int, lo_bl, lo_str, lo_non, lo_tup, lo_lst, loAll_nil, loAll_cons, loAll_ints, Bool.and_true, Bool.true_and, Bool.and_self, List.take_length, bin_add, bin_sub, int1_d, int1_bl, inn, ini, ins, int', inb, inl', Bool.not_true, Bool.not_false, decide_eq_true_eq, decide_true, decide_false, brB_b, slt_hi, slt_lo, slt_m1, sll_hi, sll_lo, mul_t0, mul_t1, Int.reduceLE, Int.reduceToNat, List.take_succ_cons, List.take_zero, List.drop_succ_cons, List.drop_zero, List.take_nil, List.drop_nil, Nat.reduceAdd, e_slHi, e_slLo, e_slLH, Int.reduceAdd, Int.add_zero, Int.mul_one, Int.mul_zero, Int.reduceNeg, List.getElem?_nil, Bool.false_eq_true, Int.reduceLT, Int.reduceEq, and_true, true_and, and_false, false_and, not_true_eq_false, not_false_eq_true, of_ite, map_ite, nd_, and_db, or_db, ite_not, decide_eq_false_iff_not, mrI, in_tup]
  by_cases c1 : (on = top ∧ (0 < l ∨ top ∈ pots))
  · have e1 := eq_true c1
    by_cases c2 : a = b
    · simp only [e1, eq_true c2, MR.d, Pl.d, if_true, if_false, not_true_eq_false, and_false]
    · simp only [e1, c2, MR.d, Pl.d, if_true, if_false, not_false_eq_true, and_true]
  · have e1 := eq_false c1
    simp only [e1, if_false, false_and]
    by_cases c3 : (l = 0 ∧ 1 < on ∧ on ∈ pots)
    · have e3 := eq_true c3
      by_cases c5 : 0 < g <;> simp only [e3, c5, MR.d, Pl.d, if_true, if_false]
    · have e3 := eq_false c3
      by_cases c5 : 0 < g <;> simp only [e3, c5, MR.d, Pl.d, if_true, if_false]
theorem ptail_eq {R C : Int} {p : Pl} {k : Sk} {a b left : Int} (G : Good R C p) (hC : 1 ≤ C) (hf : k.first ≤ C + 1) :
    ptail (C + 1) p k.pots (judged p k).1 (judged p k).2 a b left = mtail (C + 1) p k.pots (judged p k).1 (judged p k).2 a b left := by
  have ju : judged p k = if foulQ p k then ((0 : Int), maxI 4 (p.on :: k.first :: k.pots)) else if p.on = 1 then (((k.pots.length : Nat) : Int), (0 : Int)) else ((if p.on = 0 then k.first else p.on) * (if k.pots = [] then 0 else 1), 0) := rfl
  have h1 : (p.on = C + 1 ∧ (0 < (judged p k).2 ∨ C + 1 ∈ k.pots)) ↔ (p.on = C + 1 ∧ (0 < (judged p k).2 ∨ 0 < (judged p k).1)) := by
    refine and_congr_right fun ho => ?_
    by_cases hq : foulQ p k
    · have := foul_loss hq
      constructor <;> intro _ <;> left <;> omega
    · have fi := fair_iff.mp hq
      rw [ju, if_neg hq, if_neg (by omega), if_neg (by omega)]
      have ec : canFall p.on p.free k.first = [p.on] := by
        unfold canFall
        rw [if_neg (by omega), if_neg (by omega)]
      rw [ec] at fi
      by_cases hp : k.pots = []
      · simp [hp]
      · simp only [if_neg hp]
        refine ⟨fun _ => .inr (by omega), fun _ => .inr ?_⟩
        obtain ⟨x, hx⟩ := List.exists_mem_of_ne_nil _ hp
        have := List.mem_singleton.mp (fi.2.2 x hx)
        rw [← ho, ← this]; exact hx
  have h2 : ((judged p k).2 = 0 ∧ 1 < p.on ∧ p.on ∈ k.pots) ↔ (0 < (judged p k).1 ∧ p.on = p.low ∧ p.on ∈ k.pots) := by
    have hl := loss_zero (p := p) (k := k)
    have G1 := G.on; have G2 := G.l2
    constructor
    · rintro ⟨z, o, m⟩
      have hq := hl.mp z
      refine ⟨?_, by omega, m⟩
      have hp : k.pots ≠ [] := fun e => by rw [e] at m; cases m
      rw [ju, if_neg hq, if_neg (by omega), if_neg (by omega), if_neg hp]
      simp only; omega
    · rintro ⟨z, o, m⟩
      refine ⟨hl.mpr fun hq => ?_, by omega, m⟩
      have := foul_gain hq
      omega
  unfold ptail mtail mlow
  simp only [h1, h2]
theorem p_struck {j : Nat} {R C : Int} {p : Pl} {k : Sk} {s : Sta} (G : Good R C p) (hC : 1 ≤ C) (hf : k.first ≤ C + 1) (hl : k.pots.length ≤ 1000) (so : k.pots.Pairwise fun a b => a < b ∨ (a = 1 ∧ b = 1)) (hh : isHere p k) :
    FTab fb (j + 4) 39 [Rs R C, p.d, .tup k.ds] s = .ok (moved C p (.stroke k)).d s := by
  show FTab fb ((j + 3) + 1) 39 _ s = _
  rw [t_p_struck rfl]
  have split : evSs (FTab fb (j + 3)) B_p_struck ([Rs R C, p.d, .tup k.ds].map some ++ List.replicate 11 none) s = (evSs (FTab fb (j + 3)) (B_p_struck.take 5) ([Rs R C, p.d, .tup k.ds].map some ++ List.replicate 11 none) s).andThen fun ρ s => evSs (FTab fb (j + 3)) (B_p_struck.drop 5) ρ s := by
    rw [← ss_app]; rfl
  rw [split, struck_head hl so G.up, nx_then]
  simp only [moved, if_pos hh]
  rw [← ptail_eq G hC hf]
  exact struck_tail
end MP
/-! P16: plain: the program's behind, walked. -/
namespace MP
open PySem
/-- behind a deed, or refused -/
def MR.r (m : MR) (s : Sta) : Res Dt := match m with
  | .now => .exc ⟨5, 0⟩ s
  | m => .ok m.d s
theorem mr_ok {m : MR} {s : Sta} (h : m ≠ .now) : m.r s = .ok m.d s := by cases m <;> first | rfl | exact absurd rfl h
theorem mtail_now {top : Int} {p : Pl} {pots : List Int} {g l a b left : Int} : mtail top p pots g l a b left ≠ .now := by
  intro z
  unfold mtail at z
  split at z
  · split at z <;> cases z
  · split at z <;> cases z
theorem p_behind {j : Nat} {R C : Int} {p : Pl} {de : De} {s : Sta} (G : Good R C p) (hR : R ≤ 1000) (hC : 1 ≤ C) (o : DeOk R C de) :
    FTab fb (j + 5) 40 [Rs R C, p.d, de.d] s = (moved C p de).r s := by
  show FTab fb ((j + 4) + 1) 40 _ s = _
  rw [t_p_behind rfl]
  have e0 := p_top_of (j := j + 3) (R := R) (C := C) (s := s)
  cases de with
  | give =>
    obtain ⟨up, on, reds, low, p0, p1, free⟩ := p
    simp only [B_p_behind, ss_cons, ss_nil, s_setT', s_set', s_par', s_expr', s_ite', s_ret', s_retN', s_raise', e_var, e_non, e_bl, e_int, e_neg, e_str, e_bin, e_cmp, e_cmp2, e_and, e_or, e_not, e_ite, e_tup, e_lst, e_ix, e_isNon, e_notNon, e_call, e_blt, e_isi, e_rev, s_try', tryO_exc, tryO_nx, tryO_rt, tryO_ite, hs_nil, hs_cons, es_nil, es_cons, List.map_cons, List.map_nil, List.replicate, List.cons_append, List.nil_append, List.append_nil, List.getElem?_cons_zero, List.getElem?_cons_succ, lookV_some, ok_bind, ok_out, stuck_bind, stuck_out, onS_tup, onS_lst, onI_int, setAll, List.set_cons_zero, List.set_cons_succ, nxO_some, nx_then, rt_then, ite_then, exc_then, exc_bind, exc_out, finish_exc, deref_int, deref_bl, deref_str, deref_non, deref_tup, deref_lst, deref_scr, cmp_eq, cmp_ne, cmp_lt, cmp_le, cmp_gt, cmp_ge, Option.map_some, of_some', tru_bl, tru_int, tru_non, tru_tup0, tru_tup1, tru_lst0, tru_lst1, brB_t, brB_f, brB_d, finish_ite, finish_rt, finish_nx, ite_out, ite_bind, List.length_cons, List.length_nil, sz0, sz1, sz2, sz3, sz4, sz5, sz6, sz7, sz8, Nat.reduceAdd, Nat.reduceLeDiff, Nat.zero_le, Nat.zero_add, if_true, if_false, ↓reduceIte, ix_t0, ix_t1, ix_t2, ix_t3, ix_t4, ix_t5, ix_l0, ix_l1, leave_tup, leave_lst, leave_int, leave_bl, leave_str, leave_non, lo_int, lo_bl, lo_str, lo_non, lo_tup, lo_lst, loAll_nil, loAll_cons, loAll_ints, Bool.and_true, Bool.true_and, Bool.and_self, List.take_length, bin_add, bin_sub, int1_d, int1_bl, inn, ini, ins, int', inb, inl', Bool.not_true, Bool.not_false, decide_eq_true_eq, decide_true, decide_false, brB_b, slt_hi, slt_lo, slt_m1, sll_hi, sll_lo, mul_t0, mul_t1, Int.reduceLE, Int.reduceToNat, List.take_succ_cons, List.take_zero, List.drop_succ_cons, List.drop_zero, List.take_nil, List.drop_nil, Nat.reduceAdd, e_slHi, e_slLo, e_slLH, Int.reduceAdd, Int.add_zero, Int.mul_one, Int.mul_zero, Int.reduceNeg, List.getElem?_nil, Bool.false_eq_true, Int.reduceLT, Int.reduceEq, and_true, true_and, and_false, false_and, not_true_eq_false, not_false_eq_true, of_ite, map_ite, nd_, and_db, or_db, ite_not, decide_eq_false_iff_not, mrI, Pl.d, De.d, eq_str, moved, MR.r, MR.d]
  | free =>
    obtain ⟨up, on, reds, low, p0, p1, free⟩ := p
    simp only [B_p_behind, ss_cons, ss_nil, s_setT', s_set', s_par', s_expr', s_ite', s_ret', s_retN', s_raise', e_var, e_non, e_bl, e_int, e_neg, e_str, e_bin, e_cmp, e_cmp2, e_and, e_or, e_not, e_ite, e_tup, e_lst, e_ix, e_isNon, e_notNon, e_call, e_blt, e_isi, e_rev, s_try', tryO_exc, tryO_nx, tryO_rt, tryO_ite, hs_nil, hs_cons, es_nil, es_cons, List.map_cons, List.map_nil, List.replicate, List.cons_append, List.nil_append, List.append_nil, List.getElem?_cons_zero, List.getElem?_cons_succ, lookV_some, ok_bind, ok_out, stuck_bind, stuck_out, onS_tup, onS_lst, onI_int, setAll, List.set_cons_zero, List.set_cons_succ, nxO_some, nx_then, rt_then, ite_then, exc_then, exc_bind, exc_out, finish_exc, deref_int, deref_bl, deref_str, deref_non, deref_tup, deref_lst, deref_scr, cmp_eq, cmp_ne, cmp_lt, cmp_le, cmp_gt, cmp_ge, Option.map_some, of_some', tru_bl, tru_int, tru_non, tru_tup0, tru_tup1, tru_lst0, tru_lst1, brB_t, brB_f, brB_d, finish_ite, finish_rt, finish_nx, ite_out, ite_bind, List.length_cons, List.length_nil, sz0, sz1, sz2, sz3, sz4, sz5, sz6, sz7, sz8, Nat.reduceAdd, Nat.reduceLeDiff, Nat.zero_le, Nat.zero_add, if_true, if_false, ↓reduceIte, ix_t0, ix_t1, ix_t2, ix_t3, ix_t4, ix_t5, ix_l0, ix_l1, leave_tup, leave_lst, leave_int, leave_bl, leave_str, leave_non, lo_int, lo_bl, lo_str, lo_non, lo_tup, lo_lst, loAll_nil, loAll_cons, loAll_ints, Bool.and_true, Bool.true_and, Bool.and_self, List.take_length, bin_add, bin_sub, int1_d, int1_bl, inn, ini, ins, int', inb, inl', Bool.not_true, Bool.not_false, decide_eq_true_eq, decide_true, decide_false, brB_b, slt_hi, slt_lo, slt_m1, sll_hi, sll_lo, mul_t0, mul_t1, Int.reduceLE, Int.reduceToNat, List.take_succ_cons, List.take_zero, List.drop_succ_cons, List.drop_zero, List.take_nil, List.drop_nil, Nat.reduceAdd, e_slHi, e_slLo, e_slLH, Int.reduceAdd, Int.add_zero, Int.mul_one, Int.mul_zero, Int.reduceNeg, List.getElem?_nil, Bool.false_eq_true, Int.reduceLT, Int.reduceEq, and_true, true_and, and_false, false_and, not_true_eq_false, not_false_eq_true, of_ite, map_ite, nd_, and_db, or_db, ite_not, decide_eq_false_iff_not, mrI, Pl.d, De.d, eq_str, s_fg, s_fs, moved, e0, s_raise', exc_then, finish_exc]
    by_cases c1 : free = 1 <;> by_cases c2 : on = C + 1 <;> simp [c1, c2, MR.r, MR.d, Pl.d]
  | pass =>
    obtain ⟨up, on, reds, low, p0, p1, free⟩ := p
    simp only [B_p_behind, ss_cons, ss_nil, s_setT', s_set', s_par', s_expr', s_ite', s_ret', s_retN', s_raise', e_var, e_non, e_bl, e_int, e_neg, e_str, e_bin, e_cmp, e_cmp2, e_and, e_or, e_not, e_ite, e_tup, e_lst, e_ix, e_isNon, e_notNon, e_call, e_blt, e_isi, e_rev, s_try', tryO_exc, tryO_nx, tryO_rt, tryO_ite, hs_nil, hs_cons, es_nil, es_cons, List.map_cons, List.map_nil, List.replicate, List.cons_append, List.nil_append, List.append_nil, List.getElem?_cons_zero, List.getElem?_cons_succ, lookV_some, ok_bind, ok_out, stuck_bind, stuck_out, onS_tup, onS_lst, onI_int, setAll, List.set_cons_zero, List.set_cons_succ, nxO_some, nx_then, rt_then, ite_then, exc_then, exc_bind, exc_out, finish_exc, deref_int, deref_bl, deref_str, deref_non, deref_tup, deref_lst, deref_scr, cmp_eq, cmp_ne, cmp_lt, cmp_le, cmp_gt, cmp_ge, Option.map_some, of_some', tru_bl, tru_int, tru_non, tru_tup0, tru_tup1, tru_lst0, tru_lst1, brB_t, brB_f, brB_d, finish_ite, finish_rt, finish_nx, ite_out, ite_bind, List.length_cons, List.length_nil, sz0, sz1, sz2, sz3, sz4, sz5, sz6, sz7, sz8, Nat.reduceAdd, Nat.reduceLeDiff, Nat.zero_le, Nat.zero_add, if_true, if_false, ↓reduceIte, ix_t0, ix_t1, ix_t2, ix_t3, ix_t4, ix_t5, ix_l0, ix_l1, leave_tup, leave_lst, leave_int, leave_bl, leave_str, leave_non, lo_int, lo_bl, lo_str, lo_non, lo_tup, lo_lst, loAll_nil, loAll_cons, loAll_ints, Bool.and_true, Bool.true_and, Bool.and_self, List.take_length, bin_add, bin_sub, int1_d, int1_bl, inn, ini, ins, int', inb, inl', Bool.not_true, Bool.not_false, decide_eq_true_eq, decide_true, decide_false, brB_b, slt_hi, slt_lo, slt_m1, sll_hi, sll_lo, mul_t0, mul_t1, Int.reduceLE, Int.reduceToNat, List.take_succ_cons, List.take_zero, List.drop_succ_cons, List.drop_zero, List.take_nil, List.drop_nil, Nat.reduceAdd, e_slHi, e_slLo, e_slLH, Int.reduceAdd, Int.add_zero, Int.mul_one, Int.mul_zero, Int.reduceNeg, List.getElem?_nil, Bool.false_eq_true, Int.reduceLT, Int.reduceEq, and_true, true_and, and_false, false_and, not_true_eq_false, not_false_eq_true, of_ite, map_ite, nd_, and_db, or_db, ite_not, decide_eq_false_iff_not, mrI, Pl.d, De.d, eq_str, s_pg, s_ps, s_pf, moved, e0, s_raise', exc_then, finish_exc]
    by_cases c1 : free = 1 <;> simp [c1, MR.r, MR.d, Pl.d]
  | stroke k =>
    have ok : SkOk R C k := o
    have hl : k.pots.length ≤ 1000 := by have := ok.ln; omega
    have e1 := p_is_there (j := j + 3) (R := Rs R C) (p := p) (k := k) (s := s) hl
    have hth := there_here (p := p) (k := k) G.r0 G.l2 ok.f0 fun x hx => (ok.p1 x hx).1
    by_cases hi : isHere p k
    · have e2 := p_struck (j := j) (s := s) G hC ok.fT hl ok.so hi
      rw [decide_eq_true (hth.mpr hi)] at e1
      have hn : moved C p (.stroke k) ≠ .now := by
        simp only [moved, if_pos hi]
        exact mtail_now
      rw [mr_ok hn]
      generalize moved C p (.stroke k) = m at e2
      obtain ⟨up, on, reds, low, p0, p1, free⟩ := p
      simp only [Pl.d, Sk.ds] at e1 e2
      have lo : Dt.lo s.length m.d = true := by cases m <;> simp [MR.d, Pl.d, Dt.lo, Dt.loAll]
      simp only [B_p_behind, ss_cons, ss_nil, s_setT', s_set', s_par', s_expr', s_ite', s_ret', s_retN', s_raise', e_var, e_non, e_bl, e_int, e_neg, e_str, e_bin, e_cmp, e_cmp2, e_and, e_or, e_not, e_ite, e_tup, e_lst, e_ix, e_isNon, e_notNon, e_call, e_blt, e_isi, e_rev, s_try', tryO_exc, tryO_nx, tryO_rt, tryO_ite, hs_nil, hs_cons, es_nil, es_cons, List.map_cons, List.map_nil, List.replicate, List.cons_append, List.nil_append, List.append_nil, List.getElem?_cons_zero, List.getElem?_cons_succ, lookV_some, ok_bind, ok_out, stuck_bind, stuck_out, onS_tup, onS_lst, onI_int, setAll, List.set_cons_zero, List.set_cons_succ, nxO_some, nx_then, rt_then, ite_then, exc_then, exc_bind, exc_out, finish_exc, deref_int, deref_bl, deref_str, deref_non, deref_tup, deref_lst, deref_scr, cmp_eq, cmp_ne, cmp_lt, cmp_le, cmp_gt, cmp_ge, Option.map_some, of_some', tru_bl, tru_int, tru_non, tru_tup0, tru_tup1, tru_lst0, tru_lst1, brB_t, brB_f, brB_d, finish_ite, finish_rt, finish_nx, ite_out, ite_bind, List.length_cons, List.length_nil, sz0, sz1, sz2, sz3, sz4, sz5, sz6, sz7, sz8, Nat.reduceAdd, Nat.reduceLeDiff, Nat.zero_le, Nat.zero_add, if_true, if_false, ↓reduceIte, ix_t0, ix_t1, ix_t2, ix_t3, ix_t4, ix_t5, ix_l0, ix_l1, leave_tup, leave_lst, leave_int, leave_bl, leave_str, leave_non, lo_int, lo_bl, lo_str, lo_non, lo_tup, lo_lst, loAll_nil, loAll_cons, loAll_ints, Bool.and_true, Bool.true_and, Bool.and_self, List.take_length, bin_add, bin_sub, int1_d, int1_bl, inn, ini, ins, int', inb, inl', Bool.not_true, Bool.not_false, decide_eq_true_eq, decide_true, decide_false, brB_b, slt_hi, slt_lo, slt_m1, sll_hi, sll_lo, mul_t0, mul_t1, Int.reduceLE, Int.reduceToNat, List.take_succ_cons, List.take_zero, List.drop_succ_cons, List.drop_zero, List.take_nil, List.drop_nil, Nat.reduceAdd, e_slHi, e_slLo, e_slLH, Int.reduceAdd, Int.add_zero, Int.mul_one, Int.mul_zero, Int.reduceNeg, List.getElem?_nil, Bool.false_eq_true, Int.reduceLT, Int.reduceEq, and_true, true_and, and_false, false_and, not_true_eq_false, not_false_eq_true, of_ite, map_ite, nd_, and_db, or_db, ite_not, decide_eq_false_iff_not, mrI, Pl.d, De.d, Sk.ds, eq_str, s_sg, e1, e2, leave_ok lo]
    · rw [decide_eq_false fun z => hi (hth.mp z)] at e1
      simp only [moved, if_neg hi, MR.r]
      obtain ⟨up, on, reds, low, p0, p1, free⟩ := p
      simp only [Pl.d, Sk.ds] at e1
      simp only [B_p_behind, ss_cons, ss_nil, s_setT', s_set', s_par', s_expr', s_ite', s_ret', s_retN', s_raise', e_var, e_non, e_bl, e_int, e_neg, e_str, e_bin, e_cmp, e_cmp2, e_and, e_or, e_not, e_ite, e_tup, e_lst, e_ix, e_isNon, e_notNon, e_call, e_blt, e_isi, e_rev, s_try', tryO_exc, tryO_nx, tryO_rt, tryO_ite, hs_nil, hs_cons, es_nil, es_cons, List.map_cons, List.map_nil, List.replicate, List.cons_append, List.nil_append, List.append_nil, List.getElem?_cons_zero, List.getElem?_cons_succ, lookV_some, ok_bind, ok_out, stuck_bind, stuck_out, onS_tup, onS_lst, onI_int, setAll, List.set_cons_zero, List.set_cons_succ, nxO_some, nx_then, rt_then, ite_then, exc_then, exc_bind, exc_out, finish_exc, deref_int, deref_bl, deref_str, deref_non, deref_tup, deref_lst, deref_scr, cmp_eq, cmp_ne, cmp_lt, cmp_le, cmp_gt, cmp_ge, Option.map_some, of_some', tru_bl, tru_int, tru_non, tru_tup0, tru_tup1, tru_lst0, tru_lst1, brB_t, brB_f, brB_d, finish_ite, finish_rt, finish_nx, ite_out, ite_bind, List.length_cons, List.length_nil, sz0, sz1, sz2, sz3, sz4, sz5, sz6, sz7, sz8, Nat.reduceAdd, Nat.reduceLeDiff, Nat.zero_le, Nat.zero_add, if_true, if_false, ↓reduceIte, ix_t0, ix_t1, ix_t2, ix_t3, ix_t4, ix_t5, ix_l0, ix_l1, leave_tup, leave_lst, leave_int, leave_bl, leave_str, leave_non, lo_int, lo_bl, lo_str, lo_non, lo_tup, lo_lst, loAll_nil, loAll_cons, loAll_ints, Bool.and_true, Bool.true_and, Bool.and_self, List.take_length, bin_add, bin_sub, int1_d, int1_bl, inn, ini, ins, int', inb, inl', Bool.not_true, Bool.not_false, decide_eq_true_eq, decide_true, decide_false, brB_b, slt_hi, slt_lo, slt_m1, sll_hi, sll_lo, mul_t0, mul_t1, Int.reduceLE, Int.reduceToNat, List.take_succ_cons, List.take_zero, List.drop_succ_cons, List.drop_zero, List.take_nil, List.drop_nil, Nat.reduceAdd, e_slHi, e_slLo, e_slLH, Int.reduceAdd, Int.add_zero, Int.mul_one, Int.mul_zero, Int.reduceNeg, List.getElem?_nil, Bool.false_eq_true, Int.reduceLT, Int.reduceEq, and_true, true_and, and_false, false_and, not_true_eq_false, not_false_eq_true, of_ite, map_ite, nd_, and_db, or_db, ite_not, decide_eq_false_iff_not, mrI, Pl.d, De.d, Sk.ds, eq_str, s_sg, e1, s_raise', exc_then, finish_exc]
theorem led_now {C : Int} : ∀ {ds : List De} {m : MR}, ledR C .now ds = some m → m = .now
  | [], m, h => by simp only [ledR] at h; cases h; rfl
  | _ :: _, _, h => by simp [ledR] at h
theorem p_walked {j : Nat} {R C pl : Int} {ds : List De} {m : MR} {s : Sta} (hp : pl = 0 ∨ pl = 1) (hR : 1 ≤ R) (hR2 : R ≤ 1000) (hC : 1 ≤ C) (hs : ∀ d ∈ ds, DeOk R C d) (h : ledR C (.go (stt R pl) 0 0) ds = some m) (hn : m ≠ .now) :
    FTab fb (j + 6) 47 [Rs R C, .tup [.int pl, .tup (ds.map De.d)]] s = .ok m.d s := by
  show FTab fb ((j + 5) + 1) 47 _ s = _
  rw [t_p_walked rfl]
  have hb := p_first_place (j := j + 4) (R := R) (C := C) (pl := pl) (s := s)
  have go : ∀ (ds : List De) (m0 : MR) (f x : Option Dt), (∀ d ∈ ds, DeOk R C d) → m0.good R C → ledR C m0 ds = some m →
      ∃ y, forGo (forOne (FTab fb (j + 5)) (.nm 3) [.set 2 (.call 40 [.var 0, .ix (.var 2) (.int 0), .var 3])]) (ds.map De.d) [some (Rs R C), f, some m0.d, x] s = .nx [some (Rs R C), f, some m.d, y] s := by
    intro ds
    induction ds with
    | nil =>
      intro m0 f x _ _ h
      simp only [ledR] at h
      cases h
      exact ⟨x, rfl⟩
    | cons d ds ih =>
      intro m0 f x hs hg h
      cases m0 with
      | now => simp [ledR] at h
      | over _ _ _ => simp [ledR] at h
      | go p a b =>
        simp only [ledR] at h
        have hg' : Good R C p := hg
        have hm := p_behind (j := j) (s := s) hg' hR2 hC (hs d List.mem_cons_self)
        rw [mr_ok fun z => hn (led_now (by rw [z] at h; exact h))] at hm
        obtain ⟨y, hy⟩ := ih (moved C p d) f (some d.d) (fun e he => hs e (List.mem_cons_of_mem _ he)) (by cases hq : moved C p d with
          | go q a' b' => exact moved_good hg' hC hq
          | _ => trivial) h
        refine ⟨y, ?_⟩
        rw [List.map_cons, forGo, forOne_nm]
        simp only [ss_cons, ss_nil, s_setT', s_set', s_par', s_expr', s_ite', s_ret', s_retN', s_raise', e_var, e_non, e_bl, e_int, e_neg, e_str, e_bin, e_cmp, e_cmp2, e_and, e_or, e_not, e_ite, e_tup, e_lst, e_ix, e_isNon, e_notNon, e_call, e_blt, e_isi, e_rev, s_try', tryO_exc, tryO_nx, tryO_rt, tryO_ite, hs_nil, hs_cons, es_nil, es_cons, List.map_cons, List.map_nil, List.replicate, List.cons_append, List.nil_append, List.append_nil, List.getElem?_cons_zero, List.getElem?_cons_succ, lookV_some, ok_bind, ok_out, stuck_bind, stuck_out, onS_tup, onS_lst, onI_int, setAll, List.set_cons_zero, List.set_cons_succ, nxO_some, nx_then, rt_then, ite_then, exc_then, exc_bind, exc_out, finish_exc, deref_int, deref_bl, deref_str, deref_non, deref_tup, deref_lst, deref_scr, cmp_eq, cmp_ne, cmp_lt, cmp_le, cmp_gt, cmp_ge, Option.map_some, of_some', tru_bl, tru_int, tru_non, tru_tup0, tru_tup1, tru_lst0, tru_lst1, brB_t, brB_f, brB_d, brB_nd, finish_ite, finish_rt, finish_nx, ite_out, ite_bind, List.length_cons, List.length_nil, sz0, sz1, sz2, sz3, sz4, sz5, sz6, sz7, sz8, Nat.reduceAdd, Nat.reduceLeDiff, Nat.zero_le, Nat.zero_add, if_true, if_false, ↓reduceIte, ix_t0, ix_t1, ix_t2, ix_t3, ix_t4, ix_t5, ix_l0, ix_l1, leave_tup, leave_lst, leave_int, leave_bl, leave_str, leave_non, lo_int, lo_bl, lo_str, lo_non, lo_tup, lo_lst, loAll_nil, loAll_cons, loAll_ints, Bool.and_true, Bool.true_and, Bool.and_self, List.take_length, bin_add, bin_sub, int1_d, int1_bl, inn, ini, ins, int', inb, inl', Bool.not_true, Bool.not_false, decide_eq_true_eq, decide_true, decide_false, brB_b, slt_hi, slt_lo, slt_m1, sll_hi, sll_lo, mul_t0, mul_t1, Int.reduceLE, Int.reduceToNat, List.take_succ_cons, List.take_zero, List.drop_succ_cons, List.drop_zero, List.take_nil, List.drop_nil, Nat.reduceAdd, e_slHi, e_slLo, e_slLH, Int.reduceAdd, Int.add_zero, Int.mul_one, Int.mul_zero, Int.reduceNeg, List.getElem?_nil, Bool.false_eq_true, Int.reduceLT, Int.reduceEq, and_true, true_and, and_false, false_and, not_true_eq_false, not_false_eq_true, of_ite, map_ite, deref_go, ix_go, hm]
        exact hy
  obtain ⟨y, hy⟩ := go ds (.go (stt R pl) 0 0) (some (.tup [.int pl, .tup (ds.map De.d)])) none hs (stt_good hp hR hC) h
  have e : Dt.tup [Pl.d (stt R pl), .non, .tup [.int 0, .int 0]] = (MR.go (stt R pl) 0 0).d := rfl
  have lo : Dt.lo s.length m.d = true := by cases m <;> simp [MR.d, Pl.d, Dt.lo, Dt.loAll]
  simp only [B_p_walked, ss_cons, ss_nil, s_setT', s_set', s_par', s_expr', s_ite', s_ret', s_retN', s_raise', e_var, e_non, e_bl, e_int, e_neg, e_str, e_bin, e_cmp, e_cmp2, e_and, e_or, e_not, e_ite, e_tup, e_lst, e_ix, e_isNon, e_notNon, e_call, e_blt, e_isi, e_rev, s_try', tryO_exc, tryO_nx, tryO_rt, tryO_ite, hs_nil, hs_cons, es_nil, es_cons, List.map_cons, List.map_nil, List.replicate, List.cons_append, List.nil_append, List.append_nil, List.getElem?_cons_zero, List.getElem?_cons_succ, lookV_some, ok_bind, ok_out, stuck_bind, stuck_out, onS_tup, onS_lst, onI_int, setAll, List.set_cons_zero, List.set_cons_succ, nxO_some, nx_then, rt_then, ite_then, exc_then, exc_bind, exc_out, finish_exc, deref_int, deref_bl, deref_str, deref_non, deref_tup, deref_lst, deref_scr, cmp_eq, cmp_ne, cmp_lt, cmp_le, cmp_gt, cmp_ge, Option.map_some, of_some', tru_bl, tru_int, tru_non, tru_tup0, tru_tup1, tru_lst0, tru_lst1, brB_t, brB_f, brB_d, brB_nd, finish_ite, finish_rt, finish_nx, ite_out, ite_bind, List.length_cons, List.length_nil, sz0, sz1, sz2, sz3, sz4, sz5, sz6, sz7, sz8, Nat.reduceAdd, Nat.reduceLeDiff, Nat.zero_le, Nat.zero_add, if_true, if_false, ↓reduceIte, ix_t0, ix_t1, ix_t2, ix_t3, ix_t4, ix_t5, ix_l0, ix_l1, leave_tup, leave_lst, leave_int, leave_bl, leave_str, leave_non, lo_int, lo_bl, lo_str, lo_non, lo_tup, lo_lst, loAll_nil, loAll_cons, loAll_ints, Bool.and_true, Bool.true_and, Bool.and_self, List.take_length, bin_add, bin_sub, int1_d, int1_bl, inn, ini, ins, int', inb, inl', Bool.not_true, Bool.not_false, decide_eq_true_eq, decide_true, decide_false, brB_b, slt_hi, slt_lo, slt_m1, sll_hi, sll_lo, mul_t0, mul_t1, Int.reduceLE, Int.reduceToNat, List.take_succ_cons, List.take_zero, List.drop_succ_cons, List.drop_zero, List.take_nil, List.drop_nil, Nat.reduceAdd, e_slHi, e_slLo, e_slLH, Int.reduceAdd, Int.add_zero, Int.mul_one, Int.mul_zero, Int.reduceNeg, List.getElem?_nil, Bool.false_eq_true, Int.reduceLT, Int.reduceEq, and_true, true_and, and_false, false_and, not_true_eq_false, not_false_eq_true, of_ite, map_ite, hb, s_for', i_e, items_tup, e, hy, leave_ok lo]
def MR.won : MR → Dt
  | .over w _ _ => .int w
  | _ => .non
def MR.pts : MR → Dt
  | .over _ a b => .tup [.int a, .int b]
  | .go _ a b => .tup [.int a, .int b]
  | .now => .non
theorem mr_parts {m : MR} (h : m ≠ .now) : m.d = .tup [m.pl, m.won, m.pts] := by cases m <;> first | rfl | exact absurd rfl h
/-- a frame without fault, what it comes to -/
structure Frm (R C pl : Int) (ds : List De) (m : MR) : Prop where
  hp : pl = 0 ∨ pl = 1
  R1 : 1 ≤ R
  R2 : R ≤ 100
  C1 : 1 ≤ C
  C2 : C ≤ 50
  ok : ∀ d ∈ ds, DeOk R C d
  led : ledR C (.go (stt R pl) 0 0) ds = some m
  nn : m ≠ .now
def Fd (pl : Int) (ds : List De) : Dt := .tup [.int pl, .tup (ds.map De.d)]
section
variable {R C pl : Int} {ds : List De} {m : MR}
theorem Frm.good (f : Frm R C pl ds m) : m.good R C := ledR_good (m := .go (stt R pl) 0 0) f.C1 (stt_good f.hp f.R1 f.C1) f.led
theorem Frm.goodp {p : Pl} {a b : Int} (f : Frm R C pl ds (.go p a b)) : Good R C p := f.good
theorem Frm.nil (hp : pl = 0 ∨ pl = 1) (R1 : 1 ≤ R) (R2 : R ≤ 100) (C1 : 1 ≤ C) (C2 : C ≤ 50) : Frm R C pl [] (.go (stt R pl) 0 0) := ⟨hp, R1, R2, C1, C2, (fun _ h => nomatch h), rfl, fun z => by cases z⟩
theorem Frm.snoc {p : Pl} {a b : Int} {d : De} (f : Frm R C pl ds (.go p a b)) (o : DeOk R C d) (h : moved C p d ≠ .now) : Frm R C pl (ds ++ [d]) (moved C p d) :=
  ⟨f.hp, f.R1, f.R2, f.C1, f.C2, fun x hx => by
    rcases List.mem_append.mp hx with hx | hx
    · exact f.ok x hx
    · rw [List.mem_singleton.mp hx]; exact o, ledR_snoc f.led, h⟩
theorem led_pre {C : Int} : ∀ {ds es : List De} {m0 m : MR}, ledR C m0 (ds ++ es) = some m → m ≠ .now → ∃ m1, ledR C m0 ds = some m1 ∧ m1 ≠ .now ∧ ledR C m1 es = some m
  | [], es, m0, m, h, hn => ⟨m0, rfl, fun z => hn (led_now (by rw [z] at h; exact h)), h⟩
  | d :: ds, es, .go p a b, m, h, hn => by
    simp only [List.cons_append, ledR] at h
    obtain ⟨m1, h1, h2, h3⟩ := led_pre h hn
    exact ⟨m1, by simp only [ledR]; exact h1, h2, h3⟩
  | d :: ds, es, .now, m, h, hn => by simp [ledR] at h
  | d :: ds, es, .over _ _ _, m, h, hn => by simp [ledR] at h
theorem Frm.pre {es : List De} (f : Frm R C pl (ds ++ es) m) : ∃ m1, Frm R C pl ds m1 ∧ ledR C m1 es = some m := by
  obtain ⟨m1, h1, h2, h3⟩ := led_pre f.led f.nn
  exact ⟨m1, ⟨f.hp, f.R1, f.R2, f.C1, f.C2, fun x hx => f.ok x (List.mem_append_left _ hx), h1, h2⟩, h3⟩
theorem l_led' {j : Nat} {s : Sta} (f : Frm R C pl ds m) : FTab fb (j + 4) 23 [Rs R C, Fd pl ds] s = .ok m.d s := l_led f.hp f.R1 (by have := f.R2; omega) f.C1 (fun d h => (f.ok d h).small) f.led
theorem p_walked' {j : Nat} {s : Sta} (f : Frm R C pl ds m) : FTab fb (j + 6) 47 [Rs R C, Fd pl ds] s = .ok m.d s := p_walked f.hp f.R1 (by have := f.R2; omega) f.C1 f.ok f.led f.nn
theorem p_place_of {j : Nat} {s : Sta} (f : Frm R C pl ds m) : FTab fb (j + 7) 48 [Rs R C, Fd pl ds] s = .ok m.pl s := by
  have e := p_walked' (j := j) (s := s) f
  show FTab fb ((j + 6) + 1) 48 _ s = _
  rw [t_p_place_of rfl]
  have lo : Dt.lo s.length m.pl = true := by cases m <;> simp [MR.pl, Pl.d, Dt.lo, Dt.loAll]
  rw [mr_parts f.nn] at e
  simp only [B_p_place_of, ss_cons, ss_nil, s_setT', s_set', s_par', s_expr', s_ite', s_ret', s_retN', s_raise', e_var, e_non, e_bl, e_int, e_neg, e_str, e_bin, e_cmp, e_cmp2, e_and, e_or, e_not, e_ite, e_tup, e_lst, e_ix, e_isNon, e_notNon, e_call, e_blt, e_isi, e_rev, s_try', tryO_exc, tryO_nx, tryO_rt, tryO_ite, hs_nil, hs_cons, es_nil, es_cons, List.map_cons, List.map_nil, List.replicate, List.cons_append, List.nil_append, List.append_nil, List.getElem?_cons_zero, List.getElem?_cons_succ, lookV_some, ok_bind, ok_out, stuck_bind, stuck_out, onS_tup, onS_lst, onI_int, setAll, List.set_cons_zero, List.set_cons_succ, nxO_some, nx_then, rt_then, ite_then, exc_then, exc_bind, exc_out, finish_exc, deref_int, deref_bl, deref_str, deref_non, deref_tup, deref_lst, deref_scr, cmp_eq, cmp_ne, cmp_lt, cmp_le, cmp_gt, cmp_ge, Option.map_some, of_some', tru_bl, tru_int, tru_non, tru_tup0, tru_tup1, tru_lst0, tru_lst1, brB_t, brB_f, brB_d, brB_nd, finish_ite, finish_rt, finish_nx, ite_out, ite_bind, List.length_cons, List.length_nil, sz0, sz1, sz2, sz3, sz4, sz5, sz6, sz7, sz8, Nat.reduceAdd, Nat.reduceLeDiff, Nat.zero_le, Nat.zero_add, if_true, if_false, ↓reduceIte, ix_t0, ix_t1, ix_t2, ix_t3, ix_t4, ix_t5, ix_l0, ix_l1, leave_tup, leave_lst, leave_int, leave_bl, leave_str, leave_non, lo_int, lo_bl, lo_str, lo_non, lo_tup, lo_lst, loAll_nil, loAll_cons, loAll_ints, Bool.and_true, Bool.true_and, Bool.and_self, List.take_length, bin_add, bin_sub, int1_d, int1_bl, inn, ini, ins, int', inb, inl', Bool.not_true, Bool.not_false, decide_eq_true_eq, decide_true, decide_false, brB_b, slt_hi, slt_lo, slt_m1, sll_hi, sll_lo, mul_t0, mul_t1, Int.reduceLE, Int.reduceToNat, List.take_succ_cons, List.take_zero, List.drop_succ_cons, List.drop_zero, List.take_nil, List.drop_nil, Nat.reduceAdd, e_slHi, e_slLo, e_slLH, Int.reduceAdd, Int.add_zero, Int.mul_one, Int.mul_zero, Int.reduceNeg, List.getElem?_nil, Bool.false_eq_true, Int.reduceLT, Int.reduceEq, and_true, true_and, and_false, false_and, not_true_eq_false, not_false_eq_true, of_ite, map_ite, e, leave_ok lo]
theorem p_points_in {j : Nat} {s : Sta} (f : Frm R C pl ds m) : FTab fb (j + 7) 49 [Rs R C, Fd pl ds] s = .ok m.pts s := by
  have e := p_walked' (j := j) (s := s) f
  show FTab fb ((j + 6) + 1) 49 _ s = _
  rw [t_p_points_in rfl]
  have lo : Dt.lo s.length m.pts = true := by cases m <;> simp [MR.pts, Dt.lo, Dt.loAll]
  rw [mr_parts f.nn] at e
  simp only [B_p_points_in, ss_cons, ss_nil, s_setT', s_set', s_par', s_expr', s_ite', s_ret', s_retN', s_raise', e_var, e_non, e_bl, e_int, e_neg, e_str, e_bin, e_cmp, e_cmp2, e_and, e_or, e_not, e_ite, e_tup, e_lst, e_ix, e_isNon, e_notNon, e_call, e_blt, e_isi, e_rev, s_try', tryO_exc, tryO_nx, tryO_rt, tryO_ite, hs_nil, hs_cons, es_nil, es_cons, List.map_cons, List.map_nil, List.replicate, List.cons_append, List.nil_append, List.append_nil, List.getElem?_cons_zero, List.getElem?_cons_succ, lookV_some, ok_bind, ok_out, stuck_bind, stuck_out, onS_tup, onS_lst, onI_int, setAll, List.set_cons_zero, List.set_cons_succ, nxO_some, nx_then, rt_then, ite_then, exc_then, exc_bind, exc_out, finish_exc, deref_int, deref_bl, deref_str, deref_non, deref_tup, deref_lst, deref_scr, cmp_eq, cmp_ne, cmp_lt, cmp_le, cmp_gt, cmp_ge, Option.map_some, of_some', tru_bl, tru_int, tru_non, tru_tup0, tru_tup1, tru_lst0, tru_lst1, brB_t, brB_f, brB_d, brB_nd, finish_ite, finish_rt, finish_nx, ite_out, ite_bind, List.length_cons, List.length_nil, sz0, sz1, sz2, sz3, sz4, sz5, sz6, sz7, sz8, Nat.reduceAdd, Nat.reduceLeDiff, Nat.zero_le, Nat.zero_add, if_true, if_false, ↓reduceIte, ix_t0, ix_t1, ix_t2, ix_t3, ix_t4, ix_t5, ix_l0, ix_l1, leave_tup, leave_lst, leave_int, leave_bl, leave_str, leave_non, lo_int, lo_bl, lo_str, lo_non, lo_tup, lo_lst, loAll_nil, loAll_cons, loAll_ints, Bool.and_true, Bool.true_and, Bool.and_self, List.take_length, bin_add, bin_sub, int1_d, int1_bl, inn, ini, ins, int', inb, inl', Bool.not_true, Bool.not_false, decide_eq_true_eq, decide_true, decide_false, brB_b, slt_hi, slt_lo, slt_m1, sll_hi, sll_lo, mul_t0, mul_t1, Int.reduceLE, Int.reduceToNat, List.take_succ_cons, List.take_zero, List.drop_succ_cons, List.drop_zero, List.take_nil, List.drop_nil, Nat.reduceAdd, e_slHi, e_slLo, e_slLH, Int.reduceAdd, Int.add_zero, Int.mul_one, Int.mul_zero, Int.reduceNeg, List.getElem?_nil, Bool.false_eq_true, Int.reduceLT, Int.reduceEq, and_true, true_and, and_false, false_and, not_true_eq_false, not_false_eq_true, of_ite, map_ite, e, leave_ok lo]
theorem p_winner_of {j : Nat} {s : Sta} (f : Frm R C pl ds m) : FTab fb (j + 7) 50 [Rs R C, Fd pl ds] s = .ok m.won s := by
  have e := p_walked' (j := j) (s := s) f
  show FTab fb ((j + 6) + 1) 50 _ s = _
  rw [t_p_winner_of rfl]
  have lo : Dt.lo s.length m.won = true := by cases m <;> simp [MR.won, Dt.lo]
  rw [mr_parts f.nn] at e
  simp only [B_p_winner_of, ss_cons, ss_nil, s_setT', s_set', s_par', s_expr', s_ite', s_ret', s_retN', s_raise', e_var, e_non, e_bl, e_int, e_neg, e_str, e_bin, e_cmp, e_cmp2, e_and, e_or, e_not, e_ite, e_tup, e_lst, e_ix, e_isNon, e_notNon, e_call, e_blt, e_isi, e_rev, s_try', tryO_exc, tryO_nx, tryO_rt, tryO_ite, hs_nil, hs_cons, es_nil, es_cons, List.map_cons, List.map_nil, List.replicate, List.cons_append, List.nil_append, List.append_nil, List.getElem?_cons_zero, List.getElem?_cons_succ, lookV_some, ok_bind, ok_out, stuck_bind, stuck_out, onS_tup, onS_lst, onI_int, setAll, List.set_cons_zero, List.set_cons_succ, nxO_some, nx_then, rt_then, ite_then, exc_then, exc_bind, exc_out, finish_exc, deref_int, deref_bl, deref_str, deref_non, deref_tup, deref_lst, deref_scr, cmp_eq, cmp_ne, cmp_lt, cmp_le, cmp_gt, cmp_ge, Option.map_some, of_some', tru_bl, tru_int, tru_non, tru_tup0, tru_tup1, tru_lst0, tru_lst1, brB_t, brB_f, brB_d, brB_nd, finish_ite, finish_rt, finish_nx, ite_out, ite_bind, List.length_cons, List.length_nil, sz0, sz1, sz2, sz3, sz4, sz5, sz6, sz7, sz8, Nat.reduceAdd, Nat.reduceLeDiff, Nat.zero_le, Nat.zero_add, if_true, if_false, ↓reduceIte, ix_t0, ix_t1, ix_t2, ix_t3, ix_t4, ix_t5, ix_l0, ix_l1, leave_tup, leave_lst, leave_int, leave_bl, leave_str, leave_non, lo_int, lo_bl, lo_str, lo_non, lo_tup, lo_lst, loAll_nil, loAll_cons, loAll_ints, Bool.and_true, Bool.true_and, Bool.and_self, List.take_length, bin_add, bin_sub, int1_d, int1_bl, inn, ini, ins, int', inb, inl', Bool.not_true, Bool.not_false, decide_eq_true_eq, decide_true, decide_false, brB_b, slt_hi, slt_lo, slt_m1, sll_hi, sll_lo, mul_t0, mul_t1, Int.reduceLE, Int.reduceToNat, List.take_succ_cons, List.take_zero, List.drop_succ_cons, List.drop_zero, List.take_nil, List.drop_nil, Nat.reduceAdd, e_slHi, e_slLo, e_slLH, Int.reduceAdd, Int.add_zero, Int.mul_one, Int.mul_zero, Int.reduceNeg, List.getElem?_nil, Bool.false_eq_true, Int.reduceLT, Int.reduceEq, and_true, true_and, and_false, false_and, not_true_eq_false, not_false_eq_true, of_ite, map_ite, e, leave_ok lo]
/-- a frame that is drawn -/
theorem drawn_frm {j : Nat} {ns : List Int} {town : Nat} {most : Int} {s : Sta} (hR1 : 1 ≤ R) (hR : R ≤ 100) (hC1 : 1 ≤ C) (hC : C ≤ 50) (h0 : 0 ≤ most) (hm : most ≤ 100) (hh : Has town s (1 + 65 * most.toNat)) :
    ∃ pl ds m s', FTab fb (j + 6) 26 [.scr ns, .ref town, Rs R C, .int most] s = .ok (Fd pl ds) s' ∧ Frm R C pl ds m ∧ ds.length ≤ most.toNat ∧ Drew town s s' (1 + 65 * most.toNat) := by
  obtain ⟨pl, ds, m, s', e, hp, hn, hg, hl, hd, hz, w⟩ := drawn_frame (j := j) (ns := ns) hR1 hR hC1 hC h0 hm hh
  exact ⟨pl, ds, m, s', e, ⟨hp, hR1, hR, hC1, hC, hd, hl, hn⟩, hz, w⟩
end
end MP
/-! P17: plain: loops by numbers; frames at each deed. -/
namespace MP
open PySem
theorem rngD_cons {a b : Int} (h : a < b) : rngD a b = .int a :: rngD (a + 1) b := by
  unfold rngD
  have e : (b - a).toNat = (b - (a + 1)).toNat + 1 := by omega
  rw [e, List.range_succ_eq_map, List.map_cons, List.map_map]
  congr 1
  · simp
  · apply List.map_congr_left
    intro i _
    simp only [Function.comp]
    congr 1
    omega
theorem rngD_nil {a b : Int} (h : b ≤ a) : rngD a b = [] := by
  unfold rngD
  have e : (b - a).toNat = 0 := by omega
  rw [e]; rfl
/-- a loop over numbers that goes to its end -/
theorem for_rng {one : Dt → Env → Sta → Out} {b : Int} (P : Int → Env → Sta → Prop) : ∀ (n : Nat) (a : Int) (ρ : Env) (s : Sta), (b - a).toNat = n → (∀ i ρ s, a ≤ i → i < b → P i ρ s → ∃ ρ' s', one (.int i) ρ s = .nx ρ' s' ∧ P (i + 1) ρ' s') → a ≤ b → P a ρ s →
    ∃ ρ' s', forGo one (rngD a b) ρ s = .nx ρ' s' ∧ P b ρ' s'
  | 0, a, ρ, s, hn, step, hab, h => by
    have e : a = b := by omega
    subst e
    exact ⟨ρ, s, by rw [rngD_nil (by omega)]; rfl, h⟩
  | n + 1, a, ρ, s, hn, step, hab, h => by
    obtain ⟨ρ1, s1, e1, h1⟩ := step a ρ s (by omega) (by omega) h
    obtain ⟨ρ2, s2, e2, h2⟩ := for_rng P n (a + 1) ρ1 s1 (by omega) (fun i ρ s h1 h2 h3 => step i ρ s (by omega) h2 h3) (by omega) h1
    exact ⟨ρ2, s2, by rw [rngD_cons (by omega), forGo, e1, nx_then]; exact e2, h2⟩
theorem nx_intro {o : Out} {ρ : Env} {s : Sta} {P : Env → Sta → Prop} (e : o = .nx ρ s) (h : P ρ s) : ∃ ρ' s', o = .nx ρ' s' ∧ P ρ' s' := ⟨ρ, s, e, h⟩
theorem led_det {C : Int} {m0 m1 m2 : MR} {ds : List De} (a : ledR C m0 ds = some m1) (b : ledR C m0 ds = some m2) : m1 = m2 := by rw [a] at b; cases b; rfl
theorem led_app {C : Int} : ∀ {ds es : List De} {m0 m1 : MR}, ledR C m0 ds = some m1 → ledR C m0 (ds ++ es) = ledR C m1 es
  | [], es, m0, m1, h => by simp only [ledR] at h; cases h; rfl
  | d :: ds, es, .go p a b, m1, h => by simp only [List.cons_append, ledR] at h ⊢; exact led_app h
  | d :: ds, es, .now, m1, h => by simp [ledR] at h
  | d :: ds, es, .over _ _ _, m1, h => by simp [ledR] at h
/-- one deed more of a frame -/
theorem Frm.at {R C pl : Int} {ds : List De} {m mi : MR} (f : Frm R C pl ds m) {i : Nat} {d : De} (hd : ds[i]? = some d) (fi : Frm R C pl (ds.take i) mi) :
    ∃ p a b, mi = .go p a b ∧ Good R C p ∧ DeOk R C d ∧ moved C p d ≠ .now ∧ Frm R C pl (ds.take (i + 1)) (moved C p d) := by
  have hi := (List.getElem?_eq_some_iff.mp hd).1
  have e1 : ds = ds.take (i + 1) ++ ds.drop (i + 1) := (List.take_append_drop _ _).symm
  have f0 : Frm R C pl (ds.take (i + 1) ++ ds.drop (i + 1)) m := by rw [← e1]; exact f
  obtain ⟨m1, f1, _⟩ := f0.pre
  have e2 : ds.take (i + 1) = ds.take i ++ [d] := by rw [List.take_add_one, hd]; rfl
  have l1 := f1.led
  rw [e2, led_app fi.led] at l1
  have hok := f.ok d (List.mem_of_getElem? hd)
  cases mi with
  | now => exact absurd rfl fi.nn
  | over _ _ _ => simp [ledR] at l1
  | go p a b =>
    simp only [ledR] at l1
    cases l1
    exact ⟨p, a, b, rfl, fi.goodp, hok, f1.nn, f1⟩
theorem ix_map {ds : List De} {i : Nat} {d : De} (h : ds[i]? = some d) : evIx (.tup (ds.map De.d)) (.int (i : Int)) = some d.d := atI_nat (by rw [List.getElem?_map, h]; rfl)
theorem sm_pl {p : Pl} : Dt.sm 2 p.d = true := by simp [Pl.d, Dt.sm, lineM]
theorem sm_mr {m : MR} : Dt.sm 3 m.d = true := by cases m <;> simp [MR.d, Pl.d, Dt.sm, lineM]
end MP
/-! P18: plain: what can still be made. -/
namespace MP
open PySem
/-- the colours' worths from low to the top, together -/
def colSum (C low : Int) : Int := (rg low (C + 2)).sum
theorem p_colours_of {j : Nat} {R C low : Int} {s : Sta} (h1 : -1000 ≤ low) (h2 : low ≤ 1000) (h3 : 0 ≤ C) (h4 : C ≤ 100) : FTab fb (j + 2) 1 [Rs R C, .int low] s = .ok (.tup ((rg low (C + 2)).map .int)) s := by
  show FTab fb ((j + 1) + 1) 1 _ s = _
  rw [t_p_colours_of rfl]
  have e := p_top_of (j := j) (R := R) (C := C) (s := s)
  have hr : okRng low (C + 2) = true := okr h1 h2 (by omega) (by omega)
  have e2 : C + 1 + 1 = C + 2 := by omega
  have lo : Dt.lo s.length (.tup ((rg low (C + 2)).map .int)) = true := by rw [lo_tup, loAll_ints]
  simp only [B_p_colours_of, ss_cons, ss_nil, s_setT', s_set', s_par', s_expr', s_ite', s_ret', s_retN', s_raise', e_var, e_non, e_bl, e_int, e_neg, e_str, e_bin, e_cmp, e_cmp2, e_and, e_or, e_not, e_ite, e_tup, e_lst, e_ix, e_isNon, e_notNon, e_call, e_blt, e_isi, e_rev, s_try', tryO_exc, tryO_nx, tryO_rt, tryO_ite, hs_nil, hs_cons, es_nil, es_cons, List.map_cons, List.map_nil, List.replicate, List.cons_append, List.nil_append, List.append_nil, List.getElem?_cons_zero, List.getElem?_cons_succ, lookV_some, ok_bind, ok_out, stuck_bind, stuck_out, onS_tup, onS_lst, onI_int, setAll, List.set_cons_zero, List.set_cons_succ, nxO_some, nx_then, rt_then, ite_then, exc_then, exc_bind, exc_out, finish_exc, deref_int, deref_bl, deref_str, deref_non, deref_tup, deref_lst, deref_scr, cmp_eq, cmp_ne, cmp_lt, cmp_le, cmp_gt, cmp_ge, Option.map_some, of_some', tru_bl, tru_int, tru_non, tru_tup0, tru_tup1, tru_lst0, tru_lst1, brB_t, brB_f, brB_d, brB_nd, finish_ite, finish_rt, finish_nx, ite_out, ite_bind, List.length_cons, List.length_nil, sz0, sz1, sz2, sz3, sz4, sz5, sz6, sz7, sz8, Nat.reduceAdd, Nat.reduceLeDiff, Nat.zero_le, Nat.zero_add, if_true, if_false, ↓reduceIte, ix_t0, ix_t1, ix_t2, ix_t3, ix_t4, ix_t5, ix_l0, ix_l1, leave_tup, leave_lst, leave_int, leave_bl, leave_str, leave_non, lo_int, lo_bl, lo_str, lo_non, lo_tup, lo_lst, loAll_nil, loAll_cons, loAll_ints, Bool.and_true, Bool.true_and, Bool.and_self, List.take_length, bin_add, bin_sub, int1_d, int1_bl, inn, ini, ins, int', inb, inl', Bool.not_true, Bool.not_false, decide_eq_true_eq, decide_true, decide_false, brB_b, slt_hi, slt_lo, slt_m1, sll_hi, sll_lo, mul_t0, mul_t1, Int.reduceLE, Int.reduceToNat, List.take_succ_cons, List.take_zero, List.drop_succ_cons, List.drop_zero, List.take_nil, List.drop_nil, Nat.reduceAdd, e_slHi, e_slLo, e_slLH, Int.reduceAdd, Int.add_zero, Int.mul_one, Int.mul_zero, Int.reduceNeg, List.getElem?_nil, Bool.false_eq_true, Int.reduceLT, Int.reduceEq, and_true, true_and, and_false, false_and, not_true_eq_false, not_false_eq_true, of_ite, map_ite, e_trng, e, e2, hr, rngD_rg]
def restOf (C reds low : Int) : Int := reds * (1 + (C + 1)) + colSum C low
theorem small_of {a : Int} (h1 : -10000 ≤ a) (h2 : a ≤ 10000) : smallI a = true := small_lit (by omega) (by omega)
theorem p_rest_of {j : Nat} {R C reds low : Int} {s : Sta} (h1 : -1000 ≤ low) (h2 : low ≤ 1000) (h3 : 0 ≤ C) (h4 : C ≤ 100) : FTab fb (j + 3) 69 [Rs R C, .int reds, .int low] s = .ok (.int (restOf C reds low)) s := by
  show FTab fb ((j + 2) + 1) 69 _ s = _
  rw [t_p_rest_of rfl]
  have e := p_top_of (j := j + 1) (R := R) (C := C) (s := s)
  have e2 := p_colours_of (j := j) (R := R) (s := s) h1 h2 h3 h4
  simp only [B_p_rest_of, ss_cons, ss_nil, s_setT', s_set', s_par', s_expr', s_ite', s_ret', s_retN', s_raise', e_var, e_non, e_bl, e_int, e_neg, e_str, e_bin, e_cmp, e_cmp2, e_and, e_or, e_not, e_ite, e_tup, e_lst, e_ix, e_isNon, e_notNon, e_call, e_blt, e_isi, e_rev, s_try', tryO_exc, tryO_nx, tryO_rt, tryO_ite, hs_nil, hs_cons, es_nil, es_cons, List.map_cons, List.map_nil, List.replicate, List.cons_append, List.nil_append, List.append_nil, List.getElem?_cons_zero, List.getElem?_cons_succ, lookV_some, ok_bind, ok_out, stuck_bind, stuck_out, onS_tup, onS_lst, onI_int, setAll, List.set_cons_zero, List.set_cons_succ, nxO_some, nx_then, rt_then, ite_then, exc_then, exc_bind, exc_out, finish_exc, deref_int, deref_bl, deref_str, deref_non, deref_tup, deref_lst, deref_scr, cmp_eq, cmp_ne, cmp_lt, cmp_le, cmp_gt, cmp_ge, Option.map_some, of_some', tru_bl, tru_int, tru_non, tru_tup0, tru_tup1, tru_lst0, tru_lst1, brB_t, brB_f, brB_d, brB_nd, finish_ite, finish_rt, finish_nx, ite_out, ite_bind, List.length_cons, List.length_nil, sz0, sz1, sz2, sz3, sz4, sz5, sz6, sz7, sz8, Nat.reduceAdd, Nat.reduceLeDiff, Nat.zero_le, Nat.zero_add, if_true, if_false, ↓reduceIte, ix_t0, ix_t1, ix_t2, ix_t3, ix_t4, ix_t5, ix_l0, ix_l1, leave_tup, leave_lst, leave_int, leave_bl, leave_str, leave_non, lo_int, lo_bl, lo_str, lo_non, lo_tup, lo_lst, loAll_nil, loAll_cons, loAll_ints, Bool.and_true, Bool.true_and, Bool.and_self, List.take_length, bin_add, bin_sub, int1_d, int1_bl, inn, ini, ins, int', inb, inl', Bool.not_true, Bool.not_false, decide_eq_true_eq, decide_true, decide_false, brB_b, slt_hi, slt_lo, slt_m1, sll_hi, sll_lo, mul_t0, mul_t1, Int.reduceLE, Int.reduceToNat, List.take_succ_cons, List.take_zero, List.drop_succ_cons, List.drop_zero, List.take_nil, List.drop_nil, Nat.reduceAdd, e_slHi, e_slLo, e_slLH, Int.reduceAdd, Int.add_zero, Int.mul_one, Int.mul_zero, Int.reduceNeg, List.getElem?_nil, Bool.false_eq_true, Int.reduceLT, Int.reduceEq, and_true, true_and, and_false, false_and, not_true_eq_false, not_false_eq_true, of_ite, map_ite, e, e2, bin_mulR (small_of (a := 1 + (C + 1)) (by omega) (by omega)), sum_intsT]
  rfl
def stillOf (C : Int) (p : Pl) : Int := if p.on = 0 then restOf C p.reds p.low + (C + 1) else if p.free < 2 then restOf C p.reds p.low else restOf C p.reds p.low + (if p.on = 1 then 1 + (C + 1) else p.on)
theorem p_still {j : Nat} {R C : Int} {p : Pl} {s : Sta} (G : Good R C p) (h3 : 0 ≤ C) (h4 : C ≤ 100) : FTab fb (j + 4) 70 [Rs R C, p.d] s = .ok (.int (stillOf C p)) s := by
  show FTab fb ((j + 3) + 1) 70 _ s = _
  rw [t_p_still rfl]
  have e := p_top_of (j := j + 2) (R := R) (C := C) (s := s)
  have e2 := p_rest_of (j := j) (R := R) (C := C) (reds := p.reds) (low := p.low) (s := s) (by have := G.l2; omega) (by have := G.lT; omega) h3 h4
  obtain ⟨up, on, reds, low, p0, p1, free⟩ := p
  simp only at e2
  unfold stillOf
  simp only [B_p_still, ss_cons, ss_nil, s_setT', s_set', s_par', s_expr', s_ite', s_ret', s_retN', s_raise', e_var, e_non, e_bl, e_int, e_neg, e_str, e_bin, e_cmp, e_cmp2, e_and, e_or, e_not, e_ite, e_tup, e_lst, e_ix, e_isNon, e_notNon, e_call, e_blt, e_isi, e_rev, s_try', tryO_exc, tryO_nx, tryO_rt, tryO_ite, hs_nil, hs_cons, es_nil, es_cons, List.map_cons, List.map_nil, List.replicate, List.cons_append, List.nil_append, List.append_nil, List.getElem?_cons_zero, List.getElem?_cons_succ, lookV_some, ok_bind, ok_out, stuck_bind, stuck_out, onS_tup, onS_lst, onI_int, setAll, List.set_cons_zero, List.set_cons_succ, nxO_some, nx_then, rt_then, ite_then, exc_then, exc_bind, exc_out, finish_exc, deref_int, deref_bl, deref_str, deref_non, deref_tup, deref_lst, deref_scr, cmp_eq, cmp_ne, cmp_lt, cmp_le, cmp_gt, cmp_ge, Option.map_some, of_some', tru_bl, tru_int, tru_non, tru_tup0, tru_tup1, tru_lst0, tru_lst1, brB_t, brB_f, brB_d, finish_ite, finish_rt, finish_nx, ite_out, ite_bind, List.length_cons, List.length_nil, sz0, sz1, sz2, sz3, sz4, sz5, sz6, sz7, sz8, Nat.reduceAdd, Nat.reduceLeDiff, Nat.zero_le, Nat.zero_add, if_true, if_false, ↓reduceIte, ix_t0, ix_t1, ix_t2, ix_t3, ix_t4, ix_t5, ix_l0, ix_l1, leave_tup, leave_lst, leave_int, leave_bl, leave_str, leave_non, lo_int, lo_bl, lo_str, lo_non, lo_tup, lo_lst, loAll_nil, loAll_cons, loAll_ints, Bool.and_true, Bool.true_and, Bool.and_self, List.take_length, bin_add, bin_sub, int1_d, int1_bl, inn, ini, ins, int', inb, inl', Bool.not_true, Bool.not_false, decide_eq_true_eq, decide_true, decide_false, brB_b, slt_hi, slt_lo, slt_m1, sll_hi, sll_lo, mul_t0, mul_t1, Int.reduceLE, Int.reduceToNat, List.take_succ_cons, List.take_zero, List.drop_succ_cons, List.drop_zero, List.take_nil, List.drop_nil, Nat.reduceAdd, e_slHi, e_slLo, e_slLH, Int.reduceAdd, Int.add_zero, Int.mul_one, Int.mul_zero, Int.reduceNeg, List.getElem?_nil, Bool.false_eq_true, Int.reduceLT, Int.reduceEq, and_true, true_and, and_false, false_and, not_true_eq_false, not_false_eq_true, of_ite, map_ite, nd_, and_db, or_db, ite_not, decide_eq_false_iff_not, mrI, Pl.d, e, e2]
  by_cases c1 : on = 0 <;> by_cases c2 : free < 2 <;> by_cases c3 : on = 1 <;> simp only [c1, c2, c3, if_true, if_false]
/-- the balls of the greatest row -/
def rowOf (C : Int) (p : Pl) : List Int :=
  (if p.free = 2 then (if p.on = 1 then [C + 1, C + 1] else if p.on = 0 then [C + 1, C + 1] else [C + 1]) else if p.on = 0 then [C + 1] else []) ++ (List.replicate p.reds.toNat [1, C + 1]).flatten ++ rg p.low (C + 2)
def stk (b : Int) : Dt := .tup [.int b, .tup [.int b], .bl false]
theorem row_lc {F : FT} {ρ : Env} {i : Nat} {l : List Int} {s : Sta} (hi : i < ρ.length) : lcGo (lcOne F ρ (.tup [.var i, .tup [.var i], .bl false]) (.nm i) [i] []) (l.map .int) s = .ok (l.map stk) s := by
  rw [lcGo_map (g := fun x => some (stk x)) fun x hx => ?_]
  · congr 1
    induction l with
    | nil => rfl
    | cons x l ih => simp [ih]
  · have : ((wipeE ρ [i]).set i (some (.int x)))[i]? = some (some (.int x)) := List.getElem?_set_self (by rw [wipeE_len]; exact hi)
    rw [lcOne_nil]
    simp only [ss_cons, ss_nil, s_setT', s_set', s_par', s_expr', s_ite', s_ret', s_retN', s_raise', e_var, e_non, e_bl, e_int, e_neg, e_str, e_bin, e_cmp, e_cmp2, e_and, e_or, e_not, e_ite, e_tup, e_lst, e_ix, e_isNon, e_notNon, e_call, e_blt, e_isi, e_rev, s_try', tryO_exc, tryO_nx, tryO_rt, tryO_ite, hs_nil, hs_cons, es_nil, es_cons, List.map_cons, List.map_nil, List.replicate, List.cons_append, List.nil_append, List.append_nil, List.getElem?_cons_zero, List.getElem?_cons_succ, lookV_some, ok_bind, ok_out, stuck_bind, stuck_out, onS_tup, onS_lst, onI_int, setAll, List.set_cons_zero, List.set_cons_succ, nxO_some, nx_then, rt_then, ite_then, exc_then, exc_bind, exc_out, finish_exc, deref_int, deref_bl, deref_str, deref_non, deref_tup, deref_lst, deref_scr, cmp_eq, cmp_ne, cmp_lt, cmp_le, cmp_gt, cmp_ge, Option.map_some, of_some', tru_bl, tru_int, tru_non, tru_tup0, tru_tup1, tru_lst0, tru_lst1, brB_t, brB_f, brB_d, brB_nd, finish_ite, finish_rt, finish_nx, ite_out, ite_bind, List.length_cons, List.length_nil, sz0, sz1, sz2, sz3, sz4, sz5, sz6, sz7, sz8, Nat.reduceAdd, Nat.reduceLeDiff, Nat.zero_le, Nat.zero_add, if_true, if_false, ↓reduceIte, ix_t0, ix_t1, ix_t2, ix_t3, ix_t4, ix_t5, ix_l0, ix_l1, leave_tup, leave_lst, leave_int, leave_bl, leave_str, leave_non, lo_int, lo_bl, lo_str, lo_non, lo_tup, lo_lst, loAll_nil, loAll_cons, loAll_ints, Bool.and_true, Bool.true_and, Bool.and_self, List.take_length, bin_add, bin_sub, int1_d, int1_bl, inn, ini, ins, int', inb, inl', Bool.not_true, Bool.not_false, decide_eq_true_eq, decide_true, decide_false, brB_b, slt_hi, slt_lo, slt_m1, sll_hi, sll_lo, mul_t0, mul_t1, Int.reduceLE, Int.reduceToNat, List.take_succ_cons, List.take_zero, List.drop_succ_cons, List.drop_zero, List.take_nil, List.drop_nil, Nat.reduceAdd, e_slHi, e_slLo, e_slLH, Int.reduceAdd, Int.add_zero, Int.mul_one, Int.mul_zero, Int.reduceNeg, List.getElem?_nil, Bool.false_eq_true, Int.reduceLT, Int.reduceEq, and_true, true_and, and_false, false_and, not_true_eq_false, not_false_eq_true, of_ite, map_ite, this]
    rfl
theorem map_flat {l : List Int} : ∀ n : Nat, (List.replicate n (l.map Dt.int)).flatten = ((List.replicate n l).flatten).map Dt.int
  | 0 => rfl
  | n + 1 => by rw [List.replicate_succ, List.replicate_succ, List.flatten_cons, List.flatten_cons, map_flat n, List.map_append]
theorem len_flat {l : List Int} : ∀ n : Nat, ((List.replicate n l).flatten).length = n * l.length
  | 0 => by simp
  | n + 1 => by rw [List.replicate_succ, List.flatten_cons, List.length_append, len_flat n]; rw [Nat.succ_mul]; omega
theorem loAll_map {α : Type} {f : α → Dt} {n : Nat} (h : ∀ a, Dt.lo n (f a) = true) : ∀ l : List α, Dt.loAll n (l.map f) = true
  | [] => rfl
  | a :: l => by rw [List.map_cons, Dt.loAll, h a, loAll_map h l]; rfl
theorem row_rep {C reds : Int} (h0 : 0 ≤ reds) (h1 : reds ≤ 100) : evBin .mul (.tup [.int 1, .int (C + 1)]) (.int reds) = some (.tup (((List.replicate reds.toNat [1, C + 1]).flatten).map .int)) := by
  rw [mul_tn (by omega) (by omega) (by simp)]
  unfold repL
  have := map_flat (l := [1, C + 1]) reds.toNat
  simp only [List.map_cons, List.map_nil] at this
  rw [this]
theorem add_ints {a b : List Int} (h : a.length + b.length ≤ 100000) : evBin .add (.tup (a.map .int)) (.tup (b.map .int)) = some (.tup ((a ++ b).map .int)) := by
  rw [add_tt (by simp; omega), List.map_append]
theorem add_intsL {a b : List Int} (h : a.length + b.length ≤ 100000) : evBin .add (.lst (a.map .int)) (.lst (b.map .int)) = some (.lst ((a ++ b).map .int)) := by
  rw [add_ll (by simp; omega), List.map_append]
theorem p_best_row {j : Nat} {R C : Int} {p : Pl} {s : Sta} (G : Good R C p) (hR : R ≤ 100) (h3 : 0 ≤ C) (h4 : C ≤ 100) : FTab fb (j + 4) 71 [Rs R C, p.d] s = .ok (.tup ((rowOf C p).map stk)) s := by
  show FTab fb ((j + 3) + 1) 71 _ s = _
  rw [t_p_best_row rfl]
  have e := p_top_of (j := j + 2) (R := R) (C := C) (s := s)
  have e2 := p_colours_of (j := j + 1) (R := R) (C := C) (low := p.low) (s := s) (by have := G.l2; omega) (by have := G.lT; omega) h3 h4
  have G1 := G.r0; have G2 := G.rR; have G3 := G.l2; have G4 := G.lT
  obtain ⟨up, on, reds, low, p0, p1, free⟩ := p
  simp only at e2 G1 G2 G3 G4
  have er := row_rep (C := C) G1 (by omega)
  have lr : ((List.replicate reds.toNat [1, C + 1]).flatten).length ≤ 200 := by rw [len_flat]; simp; omega
  have lc : (rg low (C + 2)).length ≤ 200 := by rw [len_rg]; omega
  generalize hrw : (List.replicate reds.toNat [1, C + 1]).flatten = rr at er lr
  have fin : ∀ pre : List Int, pre.length ≤ 2 → ∀ ρ : Env, 10 < ρ.length → ρ[9]? = some (some (.tup (((pre ++ rr) ++ rg low (C + 2)).map .int))) →
      evSs (FTab fb (j + 3)) [.ret (.blt .tupleOf [.lc (.tup [.var 10, .tup [.var 10], .bl false]) (.nm 10) (.e (.var 9)) [10] []])] ρ s = .rt (.tup (((pre ++ rr) ++ rg low (C + 2)).map stk)) s := by
    intro pre hp ρ hl h9
    have hz : (((pre ++ rr) ++ rg low (C + 2)).map Dt.int).length < lineM := by unfold lineM; simp; omega
    simp only [ss_cons, ss_nil, s_setT', s_set', s_par', s_expr', s_ite', s_ret', s_retN', s_raise', e_var, e_non, e_bl, e_int, e_neg, e_str, e_bin, e_cmp, e_cmp2, e_and, e_or, e_not, e_ite, e_tup, e_lst, e_ix, e_isNon, e_notNon, e_call, e_blt, e_isi, e_rev, s_try', tryO_exc, tryO_nx, tryO_rt, tryO_ite, hs_nil, hs_cons, es_nil, es_cons, List.map_cons, List.map_nil, List.replicate, List.cons_append, List.nil_append, List.append_nil, List.getElem?_cons_zero, List.getElem?_cons_succ, lookV_some, ok_bind, ok_out, stuck_bind, stuck_out, onS_tup, onS_lst, onI_int, setAll, List.set_cons_zero, List.set_cons_succ, nxO_some, nx_then, rt_then, ite_then, exc_then, exc_bind, exc_out, finish_exc, deref_int, deref_bl, deref_str, deref_non, deref_tup, deref_lst, deref_scr, cmp_eq, cmp_ne, cmp_lt, cmp_le, cmp_gt, cmp_ge, Option.map_some, of_some', tru_bl, tru_int, tru_non, tru_tup0, tru_tup1, tru_lst0, tru_lst1, brB_t, brB_f, brB_d, brB_nd, finish_ite, finish_rt, finish_nx, ite_out, ite_bind, List.length_cons, List.length_nil, sz0, sz1, sz2, sz3, sz4, sz5, sz6, sz7, sz8, Nat.reduceAdd, Nat.reduceLeDiff, Nat.zero_le, Nat.zero_add, if_true, if_false, ↓reduceIte, ix_t0, ix_t1, ix_t2, ix_t3, ix_t4, ix_t5, ix_l0, ix_l1, leave_tup, leave_lst, leave_int, leave_bl, leave_str, leave_non, lo_int, lo_bl, lo_str, lo_non, lo_tup, lo_lst, loAll_nil, loAll_cons, loAll_ints, Bool.and_true, Bool.true_and, Bool.and_self, List.take_length, bin_add, bin_sub, int1_d, int1_bl, inn, ini, ins, int', inb, inl', Bool.not_true, Bool.not_false, decide_eq_true_eq, decide_true, decide_false, brB_b, slt_hi, slt_lo, slt_m1, sll_hi, sll_lo, mul_t0, mul_t1, Int.reduceLE, Int.reduceToNat, List.take_succ_cons, List.take_zero, List.drop_succ_cons, List.drop_zero, List.take_nil, List.drop_nil, Nat.reduceAdd, e_slHi, e_slLo, e_slLH, Int.reduceAdd, Int.add_zero, Int.mul_one, Int.mul_zero, Int.reduceNeg, List.getElem?_nil, Bool.false_eq_true, Int.reduceLT, Int.reduceEq, and_true, true_and, and_false, false_and, not_true_eq_false, not_false_eq_true, of_ite, map_ite, e_lc, i_e, h9, itemsOf, row_lc hl, if_pos hz, tupleOf_lst]
  have a1 : ∀ pre : List Int, pre.length ≤ 2 → evBin .add (.tup (pre.map .int)) (.tup (rr.map .int)) = some (.tup ((pre ++ rr).map .int)) := fun pre hp => add_ints (by omega)
  have a2 : ∀ pre : List Int, pre.length ≤ 2 → evBin .add (.tup ((pre ++ rr).map .int)) (.tup ((rg low (C + 2)).map .int)) = some (.tup (((pre ++ rr) ++ rg low (C + 2)).map .int)) := fun pre hp => add_ints (by simp; omega)
  have spl : B_p_best_row = B_p_best_row.take 6 ++ [.ret (.blt .tupleOf [.lc (.tup [.var 10, .tup [.var 10], .bl false]) (.nm 10) (.e (.var 9)) [10] []])] := rfl
  have lo : ∀ l : List Int, Dt.lo s.length (.tup (l.map stk)) = true := fun l => by rw [lo_tup]; exact loAll_map (fun a => rfl) l
  have main : ∀ pre : List Int, pre.length ≤ 2 → rowOf C ⟨up, on, reds, low, p0, p1, free⟩ = (pre ++ rr) ++ rg low (C + 2) →
      ∀ {ρ : Env}, evSs (FTab fb (j + 3)) (B_p_best_row.take 6) ([Rs R C, Pl.d ⟨up, on, reds, low, p0, p1, free⟩].map some ++ List.replicate 9 none) s = .nx ρ s → 10 < ρ.length → ρ[9]? = some (some (.tup (((pre ++ rr) ++ rg low (C + 2)).map .int))) →
      finish s.length (evSs (FTab fb (j + 3)) B_p_best_row ([Rs R C, Pl.d ⟨up, on, reds, low, p0, p1, free⟩].map some ++ List.replicate 9 none) s) = .ok (.tup ((rowOf C ⟨up, on, reds, low, p0, p1, free⟩).map stk)) s := by
    intro pre hp hr ρ he hl h9
    rw [spl, ss_app, he, nx_then, fin pre hp ρ hl h9, finish_rt, leave_ok (lo _), List.take_length, hr]
  have b0 := a1 [] (by simp); have b1 := a1 [C + 1] (by simp); have b2 := a1 [C + 1, C + 1] (by simp)
  have c0 := a2 [] (by simp); have c1 := a2 [C + 1] (by simp); have c2 := a2 [C + 1, C + 1] (by simp)
  simp only [List.map_cons, List.map_nil, List.cons_append, List.nil_append] at b0 b1 b2 c0 c1 c2
  have tt1 : evBin .add (.tup [Dt.int (C + 1)]) (.tup [.int (C + 1)]) = some (.tup [.int (C + 1), .int (C + 1)]) := add_tt (by simp)
  have tt0 : evBin .add (.tup []) (.tup [.int (C + 1)]) = some (.tup [.int (C + 1)]) := add_tt (by simp)
  by_cases f2 : free = 2
  · by_cases o1 : on = 1
    · apply main [C + 1, C + 1] (by simp) (by simp [rowOf, f2, o1, hrw])
      · simp only [B_p_best_row, ss_cons, ss_nil, s_setT', s_set', s_par', s_expr', s_ite', s_ret', s_retN', s_raise', e_var, e_non, e_bl, e_int, e_neg, e_str, e_bin, e_cmp, e_cmp2, e_and, e_or, e_not, e_ite, e_tup, e_lst, e_ix, e_isNon, e_notNon, e_call, e_blt, e_isi, e_rev, s_try', tryO_exc, tryO_nx, tryO_rt, tryO_ite, hs_nil, hs_cons, es_nil, es_cons, List.map_cons, List.map_nil, List.replicate, List.cons_append, List.nil_append, List.append_nil, List.getElem?_cons_zero, List.getElem?_cons_succ, lookV_some, ok_bind, ok_out, stuck_bind, stuck_out, onS_tup, onS_lst, onI_int, setAll, List.set_cons_zero, List.set_cons_succ, nxO_some, nx_then, rt_then, ite_then, exc_then, exc_bind, exc_out, finish_exc, deref_int, deref_bl, deref_str, deref_non, deref_tup, deref_lst, deref_scr, cmp_eq, cmp_ne, cmp_lt, cmp_le, cmp_gt, cmp_ge, Option.map_some, of_some', tru_bl, tru_int, tru_non, tru_tup0, tru_tup1, tru_lst0, tru_lst1, brB_t, brB_f, brB_d, brB_nd, finish_ite, finish_rt, finish_nx, ite_out, ite_bind, List.length_cons, List.length_nil, sz0, sz1, sz2, sz3, sz4, sz5, sz6, sz7, sz8, Nat.reduceAdd, Nat.reduceLeDiff, Nat.zero_le, Nat.zero_add, if_true, if_false, ↓reduceIte, ix_t0, ix_t1, ix_t2, ix_t3, ix_t4, ix_t5, ix_l0, ix_l1, leave_tup, leave_lst, leave_int, leave_bl, leave_str, leave_non, lo_int, lo_bl, lo_str, lo_non, lo_tup, lo_lst, loAll_nil, loAll_cons, loAll_ints, Bool.and_true, Bool.true_and, Bool.and_self, List.take_length, bin_add, bin_sub, int1_d, int1_bl, inn, ini, ins, int', inb, inl', Bool.not_true, Bool.not_false, decide_eq_true_eq, decide_true, decide_false, brB_b, slt_hi, slt_lo, slt_m1, sll_hi, sll_lo, mul_t0, mul_t1, Int.reduceLE, Int.reduceToNat, List.take_succ_cons, List.take_zero, List.drop_succ_cons, List.drop_zero, List.take_nil, List.drop_nil, Nat.reduceAdd, e_slHi, e_slLo, e_slLH, Int.reduceAdd, Int.add_zero, Int.mul_one, Int.mul_zero, Int.reduceNeg, List.getElem?_nil, Bool.false_eq_true, Int.reduceLT, Int.reduceEq, and_true, true_and, and_false, false_and, not_true_eq_false, not_false_eq_true, of_ite, map_ite, Pl.d, e, e2, eq_true f2, eq_true o1, show ¬ (1 : Int) = 0 by decide, f2, o1, tt1, er, b2, c2]; rfl
      · simp
      · rfl
    · by_cases o0 : on = 0
      · apply main [C + 1, C + 1] (by simp) (by simp [rowOf, f2, o0, hrw])
        · simp only [B_p_best_row, ss_cons, ss_nil, s_setT', s_set', s_par', s_expr', s_ite', s_ret', s_retN', s_raise', e_var, e_non, e_bl, e_int, e_neg, e_str, e_bin, e_cmp, e_cmp2, e_and, e_or, e_not, e_ite, e_tup, e_lst, e_ix, e_isNon, e_notNon, e_call, e_blt, e_isi, e_rev, s_try', tryO_exc, tryO_nx, tryO_rt, tryO_ite, hs_nil, hs_cons, es_nil, es_cons, List.map_cons, List.map_nil, List.replicate, List.cons_append, List.nil_append, List.append_nil, List.getElem?_cons_zero, List.getElem?_cons_succ, lookV_some, ok_bind, ok_out, stuck_bind, stuck_out, onS_tup, onS_lst, onI_int, setAll, List.set_cons_zero, List.set_cons_succ, nxO_some, nx_then, rt_then, ite_then, exc_then, exc_bind, exc_out, finish_exc, deref_int, deref_bl, deref_str, deref_non, deref_tup, deref_lst, deref_scr, cmp_eq, cmp_ne, cmp_lt, cmp_le, cmp_gt, cmp_ge, Option.map_some, of_some', tru_bl, tru_int, tru_non, tru_tup0, tru_tup1, tru_lst0, tru_lst1, brB_t, brB_f, brB_d, brB_nd, finish_ite, finish_rt, finish_nx, ite_out, ite_bind, List.length_cons, List.length_nil, sz0, sz1, sz2, sz3, sz4, sz5, sz6, sz7, sz8, Nat.reduceAdd, Nat.reduceLeDiff, Nat.zero_le, Nat.zero_add, if_true, if_false, ↓reduceIte, ix_t0, ix_t1, ix_t2, ix_t3, ix_t4, ix_t5, ix_l0, ix_l1, leave_tup, leave_lst, leave_int, leave_bl, leave_str, leave_non, lo_int, lo_bl, lo_str, lo_non, lo_tup, lo_lst, loAll_nil, loAll_cons, loAll_ints, Bool.and_true, Bool.true_and, Bool.and_self, List.take_length, bin_add, bin_sub, int1_d, int1_bl, inn, ini, ins, int', inb, inl', Bool.not_true, Bool.not_false, decide_eq_true_eq, decide_true, decide_false, brB_b, slt_hi, slt_lo, slt_m1, sll_hi, sll_lo, mul_t0, mul_t1, Int.reduceLE, Int.reduceToNat, List.take_succ_cons, List.take_zero, List.drop_succ_cons, List.drop_zero, List.take_nil, List.drop_nil, Nat.reduceAdd, e_slHi, e_slLo, e_slLH, Int.reduceAdd, Int.add_zero, Int.mul_one, Int.mul_zero, Int.reduceNeg, List.getElem?_nil, Bool.false_eq_true, Int.reduceLT, Int.reduceEq, and_true, true_and, and_false, false_and, not_true_eq_false, not_false_eq_true, of_ite, map_ite, Pl.d, e, e2, eq_true f2, eq_true o0, f2, o0, tt1, er, b2, c2]; rfl
        · simp
        · rfl
      · apply main [C + 1] (by simp) (by simp [rowOf, f2, o1, o0, hrw])
        · simp only [B_p_best_row, ss_cons, ss_nil, s_setT', s_set', s_par', s_expr', s_ite', s_ret', s_retN', s_raise', e_var, e_non, e_bl, e_int, e_neg, e_str, e_bin, e_cmp, e_cmp2, e_and, e_or, e_not, e_ite, e_tup, e_lst, e_ix, e_isNon, e_notNon, e_call, e_blt, e_isi, e_rev, s_try', tryO_exc, tryO_nx, tryO_rt, tryO_ite, hs_nil, hs_cons, es_nil, es_cons, List.map_cons, List.map_nil, List.replicate, List.cons_append, List.nil_append, List.append_nil, List.getElem?_cons_zero, List.getElem?_cons_succ, lookV_some, ok_bind, ok_out, stuck_bind, stuck_out, onS_tup, onS_lst, onI_int, setAll, List.set_cons_zero, List.set_cons_succ, nxO_some, nx_then, rt_then, ite_then, exc_then, exc_bind, exc_out, finish_exc, deref_int, deref_bl, deref_str, deref_non, deref_tup, deref_lst, deref_scr, cmp_eq, cmp_ne, cmp_lt, cmp_le, cmp_gt, cmp_ge, Option.map_some, of_some', tru_bl, tru_int, tru_non, tru_tup0, tru_tup1, tru_lst0, tru_lst1, brB_t, brB_f, brB_d, brB_nd, finish_ite, finish_rt, finish_nx, ite_out, ite_bind, List.length_cons, List.length_nil, sz0, sz1, sz2, sz3, sz4, sz5, sz6, sz7, sz8, Nat.reduceAdd, Nat.reduceLeDiff, Nat.zero_le, Nat.zero_add, if_true, if_false, ↓reduceIte, ix_t0, ix_t1, ix_t2, ix_t3, ix_t4, ix_t5, ix_l0, ix_l1, leave_tup, leave_lst, leave_int, leave_bl, leave_str, leave_non, lo_int, lo_bl, lo_str, lo_non, lo_tup, lo_lst, loAll_nil, loAll_cons, loAll_ints, Bool.and_true, Bool.true_and, Bool.and_self, List.take_length, bin_add, bin_sub, int1_d, int1_bl, inn, ini, ins, int', inb, inl', Bool.not_true, Bool.not_false, decide_eq_true_eq, decide_true, decide_false, brB_b, slt_hi, slt_lo, slt_m1, sll_hi, sll_lo, mul_t0, mul_t1, Int.reduceLE, Int.reduceToNat, List.take_succ_cons, List.take_zero, List.drop_succ_cons, List.drop_zero, List.take_nil, List.drop_nil, Nat.reduceAdd, e_slHi, e_slLo, e_slLH, Int.reduceAdd, Int.add_zero, Int.mul_one, Int.mul_zero, Int.reduceNeg, List.getElem?_nil, Bool.false_eq_true, Int.reduceLT, Int.reduceEq, and_true, true_and, and_false, false_and, not_true_eq_false, not_false_eq_true, of_ite, map_ite, Pl.d, e, e2, eq_true f2, o1, f2, o0, er, b1, c1]; rfl
        · simp
        · rfl
  · by_cases o0 : on = 0
    · apply main [C + 1] (by simp) (by simp [rowOf, f2, o0, hrw])
      · simp only [B_p_best_row, ss_cons, ss_nil, s_setT', s_set', s_par', s_expr', s_ite', s_ret', s_retN', s_raise', e_var, e_non, e_bl, e_int, e_neg, e_str, e_bin, e_cmp, e_cmp2, e_and, e_or, e_not, e_ite, e_tup, e_lst, e_ix, e_isNon, e_notNon, e_call, e_blt, e_isi, e_rev, s_try', tryO_exc, tryO_nx, tryO_rt, tryO_ite, hs_nil, hs_cons, es_nil, es_cons, List.map_cons, List.map_nil, List.replicate, List.cons_append, List.nil_append, List.append_nil, List.getElem?_cons_zero, List.getElem?_cons_succ, lookV_some, ok_bind, ok_out, stuck_bind, stuck_out, onS_tup, onS_lst, onI_int, setAll, List.set_cons_zero, List.set_cons_succ, nxO_some, nx_then, rt_then, ite_then, exc_then, exc_bind, exc_out, finish_exc, deref_int, deref_bl, deref_str, deref_non, deref_tup, deref_lst, deref_scr, cmp_eq, cmp_ne, cmp_lt, cmp_le, cmp_gt, cmp_ge, Option.map_some, of_some', tru_bl, tru_int, tru_non, tru_tup0, tru_tup1, tru_lst0, tru_lst1, brB_t, brB_f, brB_d, brB_nd, finish_ite, finish_rt, finish_nx, ite_out, ite_bind, List.length_cons, List.length_nil, sz0, sz1, sz2, sz3, sz4, sz5, sz6, sz7, sz8, Nat.reduceAdd, Nat.reduceLeDiff, Nat.zero_le, Nat.zero_add, if_true, if_false, ↓reduceIte, ix_t0, ix_t1, ix_t2, ix_t3, ix_t4, ix_t5, ix_l0, ix_l1, leave_tup, leave_lst, leave_int, leave_bl, leave_str, leave_non, lo_int, lo_bl, lo_str, lo_non, lo_tup, lo_lst, loAll_nil, loAll_cons, loAll_ints, Bool.and_true, Bool.true_and, Bool.and_self, List.take_length, bin_add, bin_sub, int1_d, int1_bl, inn, ini, ins, int', inb, inl', Bool.not_true, Bool.not_false, decide_eq_true_eq, decide_true, decide_false, brB_b, slt_hi, slt_lo, slt_m1, sll_hi, sll_lo, mul_t0, mul_t1, Int.reduceLE, Int.reduceToNat, List.take_succ_cons, List.take_zero, List.drop_succ_cons, List.drop_zero, List.take_nil, List.drop_nil, Nat.reduceAdd, e_slHi, e_slLo, e_slLH, Int.reduceAdd, Int.add_zero, Int.mul_one, Int.mul_zero, Int.reduceNeg, List.getElem?_nil, Bool.false_eq_true, Int.reduceLT, Int.reduceEq, and_true, true_and, and_false, false_and, not_true_eq_false, not_false_eq_true, of_ite, map_ite, Pl.d, e, e2, f2, eq_true o0, tt0, er, b1, c1]; rfl
      · simp
      · rfl
    · apply main [] (by simp) (by simp [rowOf, f2, o0, hrw])
      · simp only [B_p_best_row, ss_cons, ss_nil, s_setT', s_set', s_par', s_expr', s_ite', s_ret', s_retN', s_raise', e_var, e_non, e_bl, e_int, e_neg, e_str, e_bin, e_cmp, e_cmp2, e_and, e_or, e_not, e_ite, e_tup, e_lst, e_ix, e_isNon, e_notNon, e_call, e_blt, e_isi, e_rev, s_try', tryO_exc, tryO_nx, tryO_rt, tryO_ite, hs_nil, hs_cons, es_nil, es_cons, List.map_cons, List.map_nil, List.replicate, List.cons_append, List.nil_append, List.append_nil, List.getElem?_cons_zero, List.getElem?_cons_succ, lookV_some, ok_bind, ok_out, stuck_bind, stuck_out, onS_tup, onS_lst, onI_int, setAll, List.set_cons_zero, List.set_cons_succ, nxO_some, nx_then, rt_then, ite_then, exc_then, exc_bind, exc_out, finish_exc, deref_int, deref_bl, deref_str, deref_non, deref_tup, deref_lst, deref_scr, cmp_eq, cmp_ne, cmp_lt, cmp_le, cmp_gt, cmp_ge, Option.map_some, of_some', tru_bl, tru_int, tru_non, tru_tup0, tru_tup1, tru_lst0, tru_lst1, brB_t, brB_f, brB_d, brB_nd, finish_ite, finish_rt, finish_nx, ite_out, ite_bind, List.length_cons, List.length_nil, sz0, sz1, sz2, sz3, sz4, sz5, sz6, sz7, sz8, Nat.reduceAdd, Nat.reduceLeDiff, Nat.zero_le, Nat.zero_add, if_true, if_false, ↓reduceIte, ix_t0, ix_t1, ix_t2, ix_t3, ix_t4, ix_t5, ix_l0, ix_l1, leave_tup, leave_lst, leave_int, leave_bl, leave_str, leave_non, lo_int, lo_bl, lo_str, lo_non, lo_tup, lo_lst, loAll_nil, loAll_cons, loAll_ints, Bool.and_true, Bool.true_and, Bool.and_self, List.take_length, bin_add, bin_sub, int1_d, int1_bl, inn, ini, ins, int', inb, inl', Bool.not_true, Bool.not_false, decide_eq_true_eq, decide_true, decide_false, brB_b, slt_hi, slt_lo, slt_m1, sll_hi, sll_lo, mul_t0, mul_t1, Int.reduceLE, Int.reduceToNat, List.take_succ_cons, List.take_zero, List.drop_succ_cons, List.drop_zero, List.take_nil, List.drop_nil, Nat.reduceAdd, e_slHi, e_slLo, e_slLH, Int.reduceAdd, Int.add_zero, Int.mul_one, Int.mul_zero, Int.reduceNeg, List.getElem?_nil, Bool.false_eq_true, Int.reduceLT, Int.reduceEq, and_true, true_and, and_false, false_and, not_true_eq_false, not_false_eq_true, of_ite, map_ite, Pl.d, e, e2, f2, o0, er, b0, c0]; rfl
      · simp
      · rfl
end MP
/-! P19: plain: bounds of points; cells; needs. -/
namespace MP
open PySem
theorem maxI_le {B : Int} : ∀ {l : List Int} {m : Int}, m ≤ B → (∀ x ∈ l, x ≤ B) → maxI m l ≤ B
  | [], m, h, _ => h
  | a :: l, m, h, hl => by
    rw [maxI]
    refine maxI_le ?_ fun x hx => hl x (List.mem_cons_of_mem _ hx)
    have := hl a List.mem_cons_self
    split <;> omega
theorem judged_bd {R C : Int} {p : Pl} {k : Sk} (G : Good R C p) (o : SkOk R C k) (hC : 1 ≤ C) (hC2 : C ≤ 50) : 0 ≤ (judged p k).1 ∧ (judged p k).1 ≤ 100 ∧ 0 ≤ (judged p k).2 ∧ (judged p k).2 ≤ 100 := by
  have ju : judged p k = if foulQ p k then ((0 : Int), maxI 4 (p.on :: k.first :: k.pots)) else if p.on = 1 then (((k.pots.length : Nat) : Int), (0 : Int)) else ((if p.on = 0 then k.first else p.on) * (if k.pots = [] then 0 else 1), 0) := rfl
  have h1 := o.f0; have h2 := o.fT; have h3 := o.ln; have h4 := G.on; have h5 := G.l2; have h6 := G.lT
  rw [ju]
  split
  · have a := maxI_ge (l := p.on :: k.first :: k.pots) (m := 4)
    have b := maxI_le (B := 100) (l := p.on :: k.first :: k.pots) (m := 4) (by omega) (fun x hx => by
      rcases List.mem_cons.mp hx with rfl | hx
      · omega
      · rcases List.mem_cons.mp hx with rfl | hx
        · omega
        · have := (o.p1 x hx).2; omega)
    simp only; omega
  · split
    · simp only; omega
    · by_cases hp : k.pots = [] <;> by_cases ho : p.on = 0 <;> simp only [hp, ho, if_true, if_false] <;> omega
theorem mtail_pts {top : Int} {p q : Pl} {pots : List Int} {g l a b left a' b' : Int} (h : mtail top p pots g l a b left = .go q a' b') : q.p0 = a ∧ q.p1 = b ∧ a' = a ∧ b' = b := by
  unfold mtail at h
  split at h
  · split at h <;> cases h
    exact ⟨rfl, rfl, rfl, rfl⟩
  · split at h <;> cases h <;> exact ⟨rfl, rfl, rfl, rfl⟩
theorem moved_pts {R C : Int} {p q : Pl} {d : De} {a b : Int} (G : Good R C p) (o : DeOk R C d) (hC : 1 ≤ C) (hC2 : C ≤ 50) (h : moved C p d = .go q a b) : p.p0 ≤ q.p0 ∧ q.p0 ≤ p.p0 + 100 ∧ p.p1 ≤ q.p1 ∧ q.p1 ≤ p.p1 + 100 ∧ a = q.p0 ∧ b = q.p1 := by
  cases d with
  | give => simp [moved] at h
  | free =>
    simp only [moved] at h
    split at h <;> cases h
    exact ⟨Int.le_refl _, Int.le_add_of_nonneg_right (by decide), Int.le_refl _, Int.le_add_of_nonneg_right (by decide), rfl, rfl⟩
  | pass =>
    simp only [moved] at h
    split at h <;> cases h
    exact ⟨Int.le_refl _, Int.le_add_of_nonneg_right (by decide), Int.le_refl _, Int.le_add_of_nonneg_right (by decide), rfl, rfl⟩
  | stroke k =>
    have bd := judged_bd G (show SkOk R C k from o) hC hC2
    simp only [moved] at h
    split at h
    · obtain ⟨e1, e2, e3, e4⟩ := mtail_pts h
      rw [e1, e2, e3, e4]
      split <;> omega
    · cases h
theorem led_pts {R C : Int} (hC : 1 ≤ C) (hC2 : C ≤ 50) : ∀ {ds : List De} {p q : Pl} {a b a' b' : Int}, Good R C p → (∀ d ∈ ds, DeOk R C d) → ledR C (.go p a b) ds = some (.go q a' b') → p.p0 ≤ q.p0 ∧ q.p0 ≤ p.p0 + 100 * ds.length ∧ p.p1 ≤ q.p1 ∧ q.p1 ≤ p.p1 + 100 * ds.length
  | [], p, q, a, b, a', b', G, o, h => by simp only [ledR] at h; cases h; simp
  | d :: ds, p, q, a, b, a', b', G, o, h => by
    simp only [ledR] at h
    cases hm : moved C p d with
    | now => rw [hm] at h; have := led_now h; cases this
    | over _ _ _ => rw [hm] at h; cases ds <;> simp [ledR] at h
    | go r x y =>
      rw [hm] at h
      have m := moved_pts G (o d List.mem_cons_self) hC hC2 hm
      have ih := led_pts hC hC2 (moved_good G hC hm) (fun e he => o e (List.mem_cons_of_mem _ he)) h
      rw [List.length_cons]
      omega
theorem Frm.pts {R C pl : Int} {ds : List De} {p : Pl} {a b : Int} (f : Frm R C pl ds (.go p a b)) : 0 ≤ p.p0 ∧ p.p0 ≤ 100 * ds.length ∧ 0 ≤ p.p1 ∧ p.p1 ≤ 100 * ds.length := by
  have := led_pts f.C1 f.C2 (stt_good f.hp f.R1 f.C1) f.ok f.led
  simpa [stt] using this
/-- a place that is drawn, the frame behind it -/
theorem drawn_placeF {j : Nat} {ns : List Int} {town : Nat} {R C : Int} {s : Sta} (hR1 : 1 ≤ R) (hR : R ≤ 100) (hC1 : 1 ≤ C) (hC : C ≤ 50) (hh : Has town s 3000) :
    ∃ p pl ds a b s', FTab fb (j + 7) 27 [.scr ns, .ref town, Rs R C] s = .ok (Pl.d p) s' ∧ Frm R C pl ds (.go p a b) ∧ ds.length ≤ 40 ∧ Drew town s s' 3000 := by
  obtain ⟨most, s1, e1, m1, w1⟩ := pickI (j := j + 4) (ns := ns) (k := town) (l := [0, 3, 8, 20, 40]) (s := s) (by simp) (hh.mono (by omega))
  have hm : 0 ≤ most ∧ most ≤ 40 := by simp at m1; omega
  obtain ⟨pl, ds, m, s2, e2, f, hz, w2⟩ := drawn_frm (j := j) (ns := ns) (town := town) (R := R) (C := C) (most := most) (s := s1) hR1 hR hC1 hC hm.1 (by omega) (w1.has (hh.mono (by omega)))
  have w := (w1.trans w2).mono (show 1 + (1 + 65 * most.toNat) ≤ 3000 by omega)
  have tk : s2.take s.length = s2 := by rw [← w.len, List.take_length]
  have e3 := l_led' (j := j + 2) (s := s2) f
  simp only [List.map_cons, List.map_nil] at e1
  simp only [Fd] at e2 e3
  show ∃ p pl ds a b s', FTab fb ((j + 6) + 1) 27 _ s = _ ∧ _
  rw [t_law_drawn_place rfl]
  cases m with
  | now => exact absurd rfl f.nn
  | go p a b =>
    refine ⟨p, pl, ds, a, b, s2, ?_, f, by omega, w⟩
    have lo : Dt.lo s.length p.d = true := rfl
    simp only [B_law_drawn_place, ss_cons, ss_nil, s_setT', s_set', s_par', s_expr', s_ite', s_ret', s_retN', s_raise', e_var, e_non, e_bl, e_int, e_neg, e_str, e_bin, e_cmp, e_cmp2, e_and, e_or, e_not, e_ite, e_tup, e_lst, e_ix, e_isNon, e_notNon, e_call, e_blt, e_isi, e_rev, s_try', tryO_exc, tryO_nx, tryO_rt, tryO_ite, hs_nil, hs_cons, es_nil, es_cons, List.map_cons, List.map_nil, List.replicate, List.cons_append, List.nil_append, List.append_nil, List.getElem?_cons_zero, List.getElem?_cons_succ, lookV_some, ok_bind, ok_out, stuck_bind, stuck_out, onS_tup, onS_lst, onI_int, setAll, List.set_cons_zero, List.set_cons_succ, nxO_some, nx_then, rt_then, ite_then, exc_then, exc_bind, exc_out, finish_exc, deref_int, deref_bl, deref_str, deref_non, deref_tup, deref_lst, deref_scr, cmp_eq, cmp_ne, cmp_lt, cmp_le, cmp_gt, cmp_ge, Option.map_some, of_some', tru_bl, tru_int, tru_non, tru_tup0, tru_tup1, tru_lst0, tru_lst1, brB_t, brB_f, brB_d, brB_nd, finish_ite, finish_rt, finish_nx, ite_out, ite_bind, List.length_cons, List.length_nil, sz0, sz1, sz2, sz3, sz4, sz5, sz6, sz7, sz8, Nat.reduceAdd, Nat.reduceLeDiff, Nat.zero_le, Nat.zero_add, if_true, if_false, ↓reduceIte, ix_t0, ix_t1, ix_t2, ix_t3, ix_t4, ix_t5, ix_l0, ix_l1, leave_tup, leave_lst, leave_int, leave_bl, leave_str, leave_non, lo_int, lo_bl, lo_str, lo_non, lo_tup, lo_lst, loAll_nil, loAll_cons, loAll_ints, Bool.and_true, Bool.true_and, Bool.and_self, List.take_length, bin_add, bin_sub, int1_d, int1_bl, inn, ini, ins, int', inb, inl', Bool.not_true, Bool.not_false, decide_eq_true_eq, decide_true, decide_false, brB_b, slt_hi, slt_lo, slt_m1, sll_hi, sll_lo, mul_t0, mul_t1, Int.reduceLE, Int.reduceToNat, List.take_succ_cons, List.take_zero, List.drop_succ_cons, List.drop_zero, List.take_nil, List.drop_nil, Nat.reduceAdd, e_slHi, e_slLo, e_slLH, Int.reduceAdd, Int.add_zero, Int.mul_one, Int.mul_zero, Int.reduceNeg, List.getElem?_nil, Bool.false_eq_true, Int.reduceLT, Int.reduceEq, and_true, true_and, and_false, false_and, not_true_eq_false, not_false_eq_true, of_ite, map_ite, e1, e2, e3, deref_go, ix_go, non_pl, leave_ok lo, tk]
  | over a b c =>
    have hne : ds ≠ [] := fun z => by have := f.led; rw [z] at this; simp [ledR] at this
    obtain ⟨q, a', b', hq⟩ := ledR_last hne f.led
    have f4 : Frm R C pl ds.dropLast (.go q a' b') := ⟨f.hp, f.R1, f.R2, f.C1, f.C2, fun d h => f.ok d (List.dropLast_subset _ h), hq, fun z => by cases z⟩
    have e4 := l_led' (j := j + 2) (s := s2) f4
    simp only [Fd] at e4
    have hdl : (ds.map De.d).dropLast = ds.dropLast.map De.d := by rw [List.map_dropLast]
    refine ⟨q, pl, ds.dropLast, a', b', s2, ?_, f4, by rw [List.length_dropLast]; omega, w⟩
    have lo : Dt.lo s.length q.d = true := rfl
    have ov : evIx (MR.over a b c).d (.int 0) = some .non := ix_t0
    have dv : deref s2 (MR.over a b c).d = (MR.over a b c).d := rfl
    simp only [B_law_drawn_place, ss_cons, ss_nil, s_setT', s_set', s_par', s_expr', s_ite', s_ret', s_retN', s_raise', e_var, e_non, e_bl, e_int, e_neg, e_str, e_bin, e_cmp, e_cmp2, e_and, e_or, e_not, e_ite, e_tup, e_lst, e_ix, e_isNon, e_notNon, e_call, e_blt, e_isi, e_rev, s_try', tryO_exc, tryO_nx, tryO_rt, tryO_ite, hs_nil, hs_cons, es_nil, es_cons, List.map_cons, List.map_nil, List.replicate, List.cons_append, List.nil_append, List.append_nil, List.getElem?_cons_zero, List.getElem?_cons_succ, lookV_some, ok_bind, ok_out, stuck_bind, stuck_out, onS_tup, onS_lst, onI_int, setAll, List.set_cons_zero, List.set_cons_succ, nxO_some, nx_then, rt_then, ite_then, exc_then, exc_bind, exc_out, finish_exc, deref_int, deref_bl, deref_str, deref_non, deref_tup, deref_lst, deref_scr, cmp_eq, cmp_ne, cmp_lt, cmp_le, cmp_gt, cmp_ge, Option.map_some, of_some', tru_bl, tru_int, tru_non, tru_tup0, tru_tup1, tru_lst0, tru_lst1, brB_t, brB_f, brB_d, brB_nd, finish_ite, finish_rt, finish_nx, ite_out, ite_bind, List.length_cons, List.length_nil, sz0, sz1, sz2, sz3, sz4, sz5, sz6, sz7, sz8, Nat.reduceAdd, Nat.reduceLeDiff, Nat.zero_le, Nat.zero_add, if_true, if_false, ↓reduceIte, ix_t0, ix_t1, ix_t2, ix_t3, ix_t4, ix_t5, ix_l0, ix_l1, leave_tup, leave_lst, leave_int, leave_bl, leave_str, leave_non, lo_int, lo_bl, lo_str, lo_non, lo_tup, lo_lst, loAll_nil, loAll_cons, loAll_ints, Bool.and_true, Bool.true_and, Bool.and_self, List.take_length, bin_add, bin_sub, int1_d, int1_bl, inn, ini, ins, int', inb, inl', Bool.not_true, Bool.not_false, decide_eq_true_eq, decide_true, decide_false, brB_b, slt_hi, slt_lo, slt_m1, sll_hi, sll_lo, mul_t0, mul_t1, Int.reduceLE, Int.reduceToNat, List.take_succ_cons, List.take_zero, List.drop_succ_cons, List.drop_zero, List.take_nil, List.drop_nil, Nat.reduceAdd, e_slHi, e_slLo, e_slLH, Int.reduceAdd, Int.add_zero, Int.mul_one, Int.mul_zero, Int.reduceNeg, List.getElem?_nil, Bool.false_eq_true, Int.reduceLT, Int.reduceEq, and_true, true_and, and_false, false_and, not_true_eq_false, not_false_eq_true, of_ite, map_ite, e1, e2, e3, dv, ov, hdl, e4, deref_go, ix_go, leave_ok lo, tk]
/-! ### cells -/
section
variable {F : FT} {ρ : Env} {s s1 s2 : Sta} {x e i : E} {k : Nat} {ds es : List Dt} {d : Dt}
theorem ext_ok (hx : evE F ρ x s = .ok (.ref k) s) (he : evE F ρ e s = .ok (.lst es) s1) (hs : s[k]? = some (.lst ds)) (hk : s1[k]? = some (.lst ds)) (hl : ds.length + es.length ≤ lineM) (lo : Dt.loAll k es = true) : evE F ρ (.ext x e) s = .ok .non (setCell s1 k (ds ++ es)) := by
  rw [evE, hx]
  simp only [Res.bind, isCell_of hs, if_true, he, deref, hk, hl, lo, decide_true, Bool.and_self]
theorem app_ok (hx : evE F ρ x s = .ok (.ref k) s) (he : evE F ρ e s = .ok d s1) (hs : s[k]? = some (.lst ds)) (hk : s1[k]? = some (.lst ds)) (hl : ds.length < lineM) (lo : Dt.lo k d = true) : evE F ρ (.app x e) s = .ok .non (setCell s1 k (ds ++ [d])) := by
  rw [evE, hx]
  simp only [Res.bind, isCell_of hs, if_true, he, hk, hl, lo, decide_true, Bool.and_self]
theorem pop_ok (hx : evE F ρ x s = .ok (.ref k) s) (hs : s[k]? = some (.lst (ds ++ [d]))) : evE F ρ (.pop x) s = .ok d (setCell s k ds) := by
  rw [evE, hx]
  simp only [Res.bind, hs, List.getLast?_append, List.getLast?_singleton, Option.some_or, List.dropLast_concat]
theorem set_get {s : Sta} {k : Nat} {ds es : List Dt} (h : s[k]? = some (.lst ds)) : (setCell s k es)[k]? = some (.lst es) := by
  unfold setCell; rw [List.getElem?_set_self (List.getElem?_eq_some_iff.mp h).1]
theorem set_set {s : Sta} {k : Nat} {ds es : List Dt} : setCell (setCell s k ds) k es = setCell s k es := by unfold setCell; rw [List.set_set]
theorem set_len {s : Sta} {k : Nat} {ds : List Dt} : (setCell s k ds).length = s.length := by unfold setCell; rw [List.length_set]
theorem set_ne {s : Sta} {k j : Nat} {ds : List Dt} (h : j ≠ k) : (setCell s k ds)[j]? = s[j]? := by unfold setCell; rw [List.getElem?_set_ne (Ne.symm h)]
theorem set_take {s : Sta} {k n : Nat} {ds : List Dt} (h : n ≤ k) : (setCell s k ds).take n = s.take n := by unfold setCell; rw [List.take_set_of_le h]
theorem set_same {s : Sta} {k : Nat} {ds : List Dt} (h : s[k]? = some (.lst ds)) : setCell s k ds = s := by
  unfold setCell
  apply List.ext_getElem?
  intro i
  by_cases hi : k = i
  · subst hi; rw [List.getElem?_set_self (List.getElem?_eq_some_iff.mp h).1, h]
  · rw [List.getElem?_set_ne hi]
end
def needsOf (lack : Int) : Int := if lack < 0 then 0 else lack / 4 + 1
theorem pt_ix {a b : Int} {pl : Int} (h : pl = 0 ∨ pl = 1) : evIx (.tup [.int a, .int b]) (.int pl) = some (.int (if pl = 0 then a else b)) := by
  rcases h with rfl | rfl
  · exact ix_t0
  · exact ix_t1
theorem g4 : (0 : Int) < 4 ∧ (4 : Int) < 1073741824 := by decide
theorem p_needs {j : Nat} {R C pl : Int} {p : Pl} {s : Sta} (h1 : 0 ≤ p.low) (h2 : p.low ≤ 1000) (h3 : 0 ≤ C) (h4 : C ≤ 100) (hp : pl = 0 ∨ pl = 1) :
    FTab fb (j + 4) 72 [Rs R C, p.d, .int pl] s = .ok (.int (needsOf ((if pl = 0 then p.p1 else p.p0) - (if pl = 0 then p.p0 else p.p1) - restOf C p.reds p.low))) s := by
  show FTab fb ((j + 3) + 1) 72 _ s = _
  rw [t_p_needs rfl]
  have e2 := p_rest_of (j := j) (R := R) (C := C) (reds := p.reds) (low := p.low) (s := s) (by omega) h2 h3 h4
  have ip := pt_ix (a := p.p0) (b := p.p1) hp
  have iq := pt_ix (a := p.p0) (b := p.p1) (pl := 1 - pl) (by omega)
  have ea : (if 1 - pl = 0 then p.p0 else p.p1) = if pl = 0 then p.p1 else p.p0 := by rcases hp with rfl | rfl <;> simp
  rw [ea] at iq
  obtain ⟨up, on, reds, low, p0, p1, free⟩ := p
  simp only at e2 ip iq
  simp only [B_p_needs, ss_cons, ss_nil, s_setT', s_set', s_par', s_expr', s_ite', s_ret', s_retN', s_raise', e_var, e_non, e_bl, e_int, e_neg, e_str, e_bin, e_cmp, e_cmp2, e_and, e_or, e_not, e_ite, e_tup, e_lst, e_ix, e_isNon, e_notNon, e_call, e_blt, e_isi, e_rev, s_try', tryO_exc, tryO_nx, tryO_rt, tryO_ite, hs_nil, hs_cons, es_nil, es_cons, List.map_cons, List.map_nil, List.replicate, List.cons_append, List.nil_append, List.append_nil, List.getElem?_cons_zero, List.getElem?_cons_succ, lookV_some, ok_bind, ok_out, stuck_bind, stuck_out, onS_tup, onS_lst, onI_int, setAll, List.set_cons_zero, List.set_cons_succ, nxO_some, nx_then, rt_then, ite_then, exc_then, exc_bind, exc_out, finish_exc, deref_int, deref_bl, deref_str, deref_non, deref_tup, deref_lst, deref_scr, cmp_eq, cmp_ne, cmp_lt, cmp_le, cmp_gt, cmp_ge, Option.map_some, of_some', tru_bl, tru_int, tru_non, tru_tup0, tru_tup1, tru_lst0, tru_lst1, brB_t, brB_f, brB_d, finish_ite, finish_rt, finish_nx, ite_out, ite_bind, List.length_cons, List.length_nil, sz0, sz1, sz2, sz3, sz4, sz5, sz6, sz7, sz8, Nat.reduceAdd, Nat.reduceLeDiff, Nat.zero_le, Nat.zero_add, if_true, if_false, ↓reduceIte, ix_t0, ix_t1, ix_t2, ix_t3, ix_t4, ix_t5, ix_l0, ix_l1, leave_tup, leave_lst, leave_int, leave_bl, leave_str, leave_non, lo_int, lo_bl, lo_str, lo_non, lo_tup, lo_lst, loAll_nil, loAll_cons, loAll_ints, Bool.and_true, Bool.true_and, Bool.and_self, List.take_length, bin_add, bin_sub, int1_d, int1_bl, inn, ini, ins, int', inb, inl', Bool.not_true, Bool.not_false, decide_eq_true_eq, decide_true, decide_false, brB_b, slt_hi, slt_lo, slt_m1, sll_hi, sll_lo, mul_t0, mul_t1, Int.reduceLE, Int.reduceToNat, List.take_succ_cons, List.take_zero, List.drop_succ_cons, List.drop_zero, List.take_nil, List.drop_nil, Nat.reduceAdd, e_slHi, e_slLo, e_slLH, Int.reduceAdd, Int.add_zero, Int.mul_one, Int.mul_zero, Int.reduceNeg, List.getElem?_nil, Bool.false_eq_true, Int.reduceLT, Int.reduceEq, and_true, true_and, and_false, false_and, not_true_eq_false, not_false_eq_true, of_ite, map_ite, nd_, and_db, or_db, ite_not, decide_eq_false_iff_not, mrI, Pl.d, e2, ip, iq, bin_fdiv g4]
  unfold needsOf
  split <;> rfl
theorem p_is_safe {j : Nat} {R C pl : Int} {p : Pl} {s : Sta} (h1 : 0 ≤ p.low) (h2 : p.low ≤ 1000) (h3 : 0 ≤ C) (h4 : C ≤ 100) (hp : pl = 0 ∨ pl = 1) :
    FTab fb (j + 4) 73 [Rs R C, p.d, .int pl] s = .ok (.bl (decide (restOf C p.reds p.low < (if pl = 0 then p.p0 else p.p1) - (if pl = 0 then p.p1 else p.p0)))) s := by
  show FTab fb ((j + 3) + 1) 73 _ s = _
  rw [t_p_is_safe rfl]
  have e2 := p_rest_of (j := j) (R := R) (C := C) (reds := p.reds) (low := p.low) (s := s) (by omega) h2 h3 h4
  have ip := pt_ix (a := p.p0) (b := p.p1) hp
  have iq := pt_ix (a := p.p0) (b := p.p1) (pl := 1 - pl) (by omega)
  have ea : (if 1 - pl = 0 then p.p0 else p.p1) = if pl = 0 then p.p1 else p.p0 := by rcases hp with rfl | rfl <;> simp
  rw [ea] at iq
  obtain ⟨up, on, reds, low, p0, p1, free⟩ := p
  simp only at e2 ip iq
  simp only [B_p_is_safe, ss_cons, ss_nil, s_setT', s_set', s_par', s_expr', s_ite', s_ret', s_retN', s_raise', e_var, e_non, e_bl, e_int, e_neg, e_str, e_bin, e_cmp, e_cmp2, e_and, e_or, e_not, e_ite, e_tup, e_lst, e_ix, e_isNon, e_notNon, e_call, e_blt, e_isi, e_rev, s_try', tryO_exc, tryO_nx, tryO_rt, tryO_ite, hs_nil, hs_cons, es_nil, es_cons, List.map_cons, List.map_nil, List.replicate, List.cons_append, List.nil_append, List.append_nil, List.getElem?_cons_zero, List.getElem?_cons_succ, lookV_some, ok_bind, ok_out, stuck_bind, stuck_out, onS_tup, onS_lst, onI_int, setAll, List.set_cons_zero, List.set_cons_succ, nxO_some, nx_then, rt_then, ite_then, exc_then, exc_bind, exc_out, finish_exc, deref_int, deref_bl, deref_str, deref_non, deref_tup, deref_lst, deref_scr, cmp_eq, cmp_ne, cmp_lt, cmp_le, cmp_gt, cmp_ge, Option.map_some, of_some', tru_bl, tru_int, tru_non, tru_tup0, tru_tup1, tru_lst0, tru_lst1, brB_t, brB_f, brB_d, finish_ite, finish_rt, finish_nx, ite_out, ite_bind, List.length_cons, List.length_nil, sz0, sz1, sz2, sz3, sz4, sz5, sz6, sz7, sz8, Nat.reduceAdd, Nat.reduceLeDiff, Nat.zero_le, Nat.zero_add, if_true, if_false, ↓reduceIte, ix_t0, ix_t1, ix_t2, ix_t3, ix_t4, ix_t5, ix_l0, ix_l1, leave_tup, leave_lst, leave_int, leave_bl, leave_str, leave_non, lo_int, lo_bl, lo_str, lo_non, lo_tup, lo_lst, loAll_nil, loAll_cons, loAll_ints, Bool.and_true, Bool.true_and, Bool.and_self, List.take_length, bin_add, bin_sub, int1_d, int1_bl, inn, ini, ins, int', inb, inl', Bool.not_true, Bool.not_false, decide_eq_true_eq, decide_true, decide_false, brB_b, slt_hi, slt_lo, slt_m1, sll_hi, sll_lo, mul_t0, mul_t1, Int.reduceLE, Int.reduceToNat, List.take_succ_cons, List.take_zero, List.drop_succ_cons, List.drop_zero, List.take_nil, List.drop_nil, Nat.reduceAdd, e_slHi, e_slLo, e_slLH, Int.reduceAdd, Int.add_zero, Int.mul_one, Int.mul_zero, Int.reduceNeg, List.getElem?_nil, Bool.false_eq_true, Int.reduceLT, Int.reduceEq, and_true, true_and, and_false, false_and, not_true_eq_false, not_false_eq_true, of_ite, map_ite, nd_, and_db, or_db, ite_not, decide_eq_false_iff_not, mrI, Pl.d, e2, ip, iq]
end MP
/-! P20: plain: while; the balls of the greatest row by the law. -/
namespace MP
open PySem
def whileT (F : FT) (c : E) : Env → Sta → Out := fun ρ s => (evE F ρ c s).out ρ fun x s => match evTru (deref s x) with
    | some true => .nx ρ s
    | some false => .rt .non s
    | none => .stuck
theorem s_while' {F : FT} {n : Nat} {c : E} {body : List S} {ρ : Env} {s : Sta} : evS F (.whileS n c body) ρ s = whileGo (whileT F c) (fun ρ s => evSs F body ρ s) n ρ s := by rw [evS]; rfl
/-- a while whose test is true or false, by a measure -/
theorem while_n {F : FT} {c : E} {body : List S} (P : Nat → Env → Sta → Prop) (step : ∀ m ρ s, P m ρ s → (evE F ρ c s = .ok (.bl false) s ∧ m = 0) ∨ (∃ m', m = m' + 1 ∧ evE F ρ c s = .ok (.bl true) s ∧ ∃ ρ' s', evSs F body ρ s = .nx ρ' s' ∧ P m' ρ' s')) :
    ∀ (m n : Nat) (ρ : Env) (s : Sta), m < n → P m ρ s → ∃ ρ' s', whileGo (whileT F c) (fun ρ s => evSs F body ρ s) n ρ s = .nx ρ' s' ∧ P 0 ρ' s'
  | m, 0, _, _, h, _ => absurd h (Nat.not_lt_zero _)
  | m, n + 1, ρ, s, h, hp => by
    rcases step m ρ s hp with ⟨e, rfl⟩ | ⟨m', rfl, e, ρ1, s1, e1, h1⟩
    · refine ⟨ρ, s, ?_, hp⟩
      rw [whileGo]
      have : whileT F c ρ s = .rt .non s := by unfold whileT; rw [e]; rfl
      rw [this]
    · obtain ⟨ρ2, s2, e2, h2⟩ := while_n P step m' n ρ1 s1 (by omega) h1
      refine ⟨ρ2, s2, ?_, h2⟩
      rw [whileGo]
      have : whileT F c ρ s = .nx ρ s := by unfold whileT; rw [e]; rfl
      rw [this]
      simp only [e1, nx_then]
      exact e2
def headOf (C : Int) (p : Pl) : List Int := if p.on = 0 then [C + 1] else if p.free = 2 then (if p.on = 1 then [C + 1, C + 1] else [C + 1]) else []
def ballsOf (C : Int) (p : Pl) : List Int := headOf C p ++ (List.replicate p.reds.toNat [1, C + 1]).flatten ++ rg p.low (C + 2)
theorem flat_succ {l : List Int} (n : Nat) : (List.replicate (n + 1) l).flatten = (List.replicate n l).flatten ++ l := by
  rw [List.replicate_succ', List.flatten_append]; simp
theorem lb_loop {F : FT} {C reds : Int} {pre : List Int} {K : Nat} {S : Sta} {R pl a2 a3 a4 a5 a6 a7 y10 : Option Dt} (h0 : 0 ≤ reds) (h1 : reds ≤ 100) (hp : pre.length ≤ 2) (hS : S[K]? = some (.lst (pre.map .int))) :
    ∃ y, forGo (forOne F (.nm 10) B_law_balls_f1) (rngD 0 reds) [R, pl, a2, a3, a4, a5, a6, a7, some (.int (C + 1)), some (.ref K), y10] S = .nx [R, pl, a2, a3, a4, a5, a6, a7, some (.int (C + 1)), some (.ref K), y] (setCell S K ((pre ++ (List.replicate reds.toNat [1, C + 1]).flatten).map .int)) := by
  obtain ⟨ρ', s', e, y, h1, h2⟩ := for_rng (one := forOne F (.nm 10) B_law_balls_f1) (b := reds)
    (fun i ρ' s' => ∃ y, ρ' = [R, pl, a2, a3, a4, a5, a6, a7, some (.int (C + 1)), some (.ref K), y] ∧ s' = setCell S K ((pre ++ (List.replicate i.toNat [1, C + 1]).flatten).map .int)) _ 0
    [R, pl, a2, a3, a4, a5, a6, a7, some (.int (C + 1)), some (.ref K), y10] S rfl (fun i ρ s' i0 i1 hP => by
      obtain ⟨y, rfl, rfl⟩ := hP
      have hs := set_get (es := (pre ++ (List.replicate i.toNat [1, C + 1]).flatten).map .int) hS
      have lz := len_flat (l := [1, C + 1]) i.toNat
      have e := ext_ok (F := F) (ρ := [R, pl, a2, a3, a4, a5, a6, a7, some (.int (C + 1)), some (.ref K), some (.int i)]) (x := .var 9) (e := .lst [.int 1, .var 8]) (es := [.int 1, .int (C + 1)]) (s := setCell S K ((pre ++ (List.replicate i.toNat [1, C + 1]).flatten).map .int)) (s1 := setCell S K ((pre ++ (List.replicate i.toNat [1, C + 1]).flatten).map .int))
        (by simp only [ss_cons, ss_nil, s_setT', s_set', s_par', s_expr', s_ite', s_ret', s_retN', s_raise', e_var, e_non, e_bl, e_int, e_neg, e_str, e_bin, e_cmp, e_cmp2, e_and, e_or, e_not, e_ite, e_tup, e_lst, e_ix, e_isNon, e_notNon, e_call, e_blt, e_isi, e_rev, s_try', tryO_exc, tryO_nx, tryO_rt, tryO_ite, hs_nil, hs_cons, es_nil, es_cons, List.map_cons, List.map_nil, List.replicate, List.cons_append, List.nil_append, List.append_nil, List.getElem?_cons_zero, List.getElem?_cons_succ, lookV_some, ok_bind, ok_out, stuck_bind, stuck_out, onS_tup, onS_lst, onI_int, setAll, List.set_cons_zero, List.set_cons_succ, nxO_some, nx_then, rt_then, ite_then, exc_then, exc_bind, exc_out, finish_exc, deref_int, deref_bl, deref_str, deref_non, deref_tup, deref_lst, deref_scr, cmp_eq, cmp_ne, cmp_lt, cmp_le, cmp_gt, cmp_ge, Option.map_some, of_some', tru_bl, tru_int, tru_non, tru_tup0, tru_tup1, tru_lst0, tru_lst1, brB_t, brB_f, brB_d, brB_nd, finish_ite, finish_rt, finish_nx, ite_out, ite_bind, List.length_cons, List.length_nil, sz0, sz1, sz2, sz3, sz4, sz5, sz6, sz7, sz8, Nat.reduceAdd, Nat.reduceLeDiff, Nat.zero_le, Nat.zero_add, if_true, if_false, ↓reduceIte, ix_t0, ix_t1, ix_t2, ix_t3, ix_t4, ix_t5, ix_l0, ix_l1, leave_tup, leave_lst, leave_int, leave_bl, leave_str, leave_non, lo_int, lo_bl, lo_str, lo_non, lo_tup, lo_lst, loAll_nil, loAll_cons, loAll_ints, Bool.and_true, Bool.true_and, Bool.and_self, List.take_length, bin_add, bin_sub, int1_d, int1_bl, inn, ini, ins, int', inb, inl', Bool.not_true, Bool.not_false, decide_eq_true_eq, decide_true, decide_false, brB_b, slt_hi, slt_lo, slt_m1, sll_hi, sll_lo, mul_t0, mul_t1, Int.reduceLE, Int.reduceToNat, List.take_succ_cons, List.take_zero, List.drop_succ_cons, List.drop_zero, List.take_nil, List.drop_nil, Nat.reduceAdd, e_slHi, e_slLo, e_slLH, Int.reduceAdd, Int.add_zero, Int.mul_one, Int.mul_zero, Int.reduceNeg, List.getElem?_nil, Bool.false_eq_true, Int.reduceLT, Int.reduceEq, and_true, true_and, and_false, false_and, not_true_eq_false, not_false_eq_true, of_ite, map_ite]) (by simp only [ss_cons, ss_nil, s_setT', s_set', s_par', s_expr', s_ite', s_ret', s_retN', s_raise', e_var, e_non, e_bl, e_int, e_neg, e_str, e_bin, e_cmp, e_cmp2, e_and, e_or, e_not, e_ite, e_tup, e_lst, e_ix, e_isNon, e_notNon, e_call, e_blt, e_isi, e_rev, s_try', tryO_exc, tryO_nx, tryO_rt, tryO_ite, hs_nil, hs_cons, es_nil, es_cons, List.map_cons, List.map_nil, List.replicate, List.cons_append, List.nil_append, List.append_nil, List.getElem?_cons_zero, List.getElem?_cons_succ, lookV_some, ok_bind, ok_out, stuck_bind, stuck_out, onS_tup, onS_lst, onI_int, setAll, List.set_cons_zero, List.set_cons_succ, nxO_some, nx_then, rt_then, ite_then, exc_then, exc_bind, exc_out, finish_exc, deref_int, deref_bl, deref_str, deref_non, deref_tup, deref_lst, deref_scr, cmp_eq, cmp_ne, cmp_lt, cmp_le, cmp_gt, cmp_ge, Option.map_some, of_some', tru_bl, tru_int, tru_non, tru_tup0, tru_tup1, tru_lst0, tru_lst1, brB_t, brB_f, brB_d, brB_nd, finish_ite, finish_rt, finish_nx, ite_out, ite_bind, List.length_cons, List.length_nil, sz0, sz1, sz2, sz3, sz4, sz5, sz6, sz7, sz8, Nat.reduceAdd, Nat.reduceLeDiff, Nat.zero_le, Nat.zero_add, if_true, if_false, ↓reduceIte, ix_t0, ix_t1, ix_t2, ix_t3, ix_t4, ix_t5, ix_l0, ix_l1, leave_tup, leave_lst, leave_int, leave_bl, leave_str, leave_non, lo_int, lo_bl, lo_str, lo_non, lo_tup, lo_lst, loAll_nil, loAll_cons, loAll_ints, Bool.and_true, Bool.true_and, Bool.and_self, List.take_length, bin_add, bin_sub, int1_d, int1_bl, inn, ini, ins, int', inb, inl', Bool.not_true, Bool.not_false, decide_eq_true_eq, decide_true, decide_false, brB_b, slt_hi, slt_lo, slt_m1, sll_hi, sll_lo, mul_t0, mul_t1, Int.reduceLE, Int.reduceToNat, List.take_succ_cons, List.take_zero, List.drop_succ_cons, List.drop_zero, List.take_nil, List.drop_nil, Nat.reduceAdd, e_slHi, e_slLo, e_slLH, Int.reduceAdd, Int.add_zero, Int.mul_one, Int.mul_zero, Int.reduceNeg, List.getElem?_nil, Bool.false_eq_true, Int.reduceLT, Int.reduceEq, and_true, true_and, and_false, false_and, not_true_eq_false, not_false_eq_true, of_ite, map_ite]) hs hs (by unfold lineM; simp only [List.length_map, List.length_append, lz, List.length_cons, List.length_nil]; omega) rfl
      rw [set_set] at e
      apply nx_intro
      · rw [forOne_nm]
        simp only [B_law_balls_f1, ss_cons, ss_nil, s_expr', List.set_cons_succ, List.set_cons_zero, e, ok_out, nx_then]
        rfl
      · refine ⟨_, rfl, ?_⟩
        rw [show (i + 1).toNat = i.toNat + 1 by omega, flat_succ]
        simp) (by omega) ⟨y10, rfl, by simp [set_same hS]⟩
  subst h1 h2
  exact ⟨y, e⟩
theorem lrng_eq {F : FT} {ρ : Env} {s : Sta} {a b : Int} {x y : E} (hx : evE F ρ x s = .ok (.int a) s) (hy : evE F ρ y s = .ok (.int b) s) (hr : okRng a b = true) : evE F ρ (.lrng x y) s = .ok (.lst ((rg a b).map .int)) s := by
  rw [e_lrng, hx]
  simp only [ok_bind, hy, onI_int, hr, if_true, rngD_rg]
theorem l_balls {j : Nat} {R C : Int} {p : Pl} {s : Sta} (h1 : 0 ≤ p.reds) (h2 : p.reds ≤ 100) (h3 : 2 ≤ p.low) (h4 : p.low ≤ C + 1) (h5 : C ≤ 100) : FTab fb (j + 1) 78 [Rs R C, p.d] s = .ok (.lst ((ballsOf C p).map .int)) s := by
  rw [t_law_balls rfl]
  obtain ⟨up, on, reds, low, p0, p1, free⟩ := p
  simp only at h1 h2 h3 h4
  have hr0 : okRng 0 reds = true := okr (by omega) (by omega) (by omega) (by omega)
  have hr1 : okRng low (C + 1 + 1) = true := okr (by omega) (by omega) (by omega) (by omega)
  -- behind the head
  have tail : ∀ (S : Sta) (K : Nat) (pre : List Int), pre = headOf C ⟨up, on, reds, low, p0, p1, free⟩ → S.take s.length = s → s.length ≤ K → S[K]? = some (.lst (pre.map .int)) →
      finish s.length (evSs (FTab fb j) (B_law_balls.drop 4) [some (Rs R C), some (Pl.d ⟨up, on, reds, low, p0, p1, free⟩), some (.int up), some (.int on), some (.int reds), some (.int low), some (.tup [.int p0, .int p1]), some (.int free), some (.int (C + 1)), some (.ref K), none] S) =
        .ok (.lst ((ballsOf C ⟨up, on, reds, low, p0, p1, free⟩).map .int)) s := by
    intro S K pre hpre ht hk hS
    have hp : pre.length ≤ 2 := by rw [hpre]; unfold headOf; split <;> (try split) <;> (try split) <;> simp
    obtain ⟨y, e⟩ := lb_loop (F := FTab fb j) (C := C) (R := some (Rs R C)) (pl := some (Pl.d ⟨up, on, reds, low, p0, p1, free⟩)) (a2 := some (.int up)) (a3 := some (.int on)) (a4 := some (.int reds)) (a5 := some (.int low)) (a6 := some (.tup [.int p0, .int p1])) (a7 := some (.int free)) (y10 := none) h1 h2 hp hS
    have hs2 := set_get (es := (pre ++ (List.replicate reds.toNat [1, C + 1]).flatten).map .int) hS
    have lz := len_flat (l := [1, C + 1]) reds.toNat
    have lr := len_rg (a := low) (b := C + 1 + 1)
    have ha := add_intsL (a := pre ++ (List.replicate reds.toNat [1, C + 1]).flatten) (b := rg low (C + 1 + 1)) (by simp only [List.length_append, lz, lr, List.length_cons, List.length_nil]; omega)
    have hl : evE (FTab fb j) [some (Rs R C), some (Pl.d ⟨up, on, reds, low, p0, p1, free⟩), some (.int up), some (.int on), some (.int reds), some (.int low), some (.tup [.int p0, .int p1]), some (.int free), some (.int (C + 1)), some (.ref K), y] (.lrng (.var 5) (.bin .add (.var 8) (.int 1))) (setCell S K ((pre ++ (List.replicate reds.toNat [1, C + 1]).flatten).map .int)) = .ok (.lst ((rg low (C + 1 + 1)).map .int)) (setCell S K ((pre ++ (List.replicate reds.toNat [1, C + 1]).flatten).map .int)) :=
      lrng_eq (by simp only [ss_cons, ss_nil, s_setT', s_set', s_par', s_expr', s_ite', s_ret', s_retN', s_raise', e_var, e_non, e_bl, e_int, e_neg, e_str, e_bin, e_cmp, e_cmp2, e_and, e_or, e_not, e_ite, e_tup, e_lst, e_ix, e_isNon, e_notNon, e_call, e_blt, e_isi, e_rev, s_try', tryO_exc, tryO_nx, tryO_rt, tryO_ite, hs_nil, hs_cons, es_nil, es_cons, List.map_cons, List.map_nil, List.replicate, List.cons_append, List.nil_append, List.append_nil, List.getElem?_cons_zero, List.getElem?_cons_succ, lookV_some, ok_bind, ok_out, stuck_bind, stuck_out, onS_tup, onS_lst, onI_int, setAll, List.set_cons_zero, List.set_cons_succ, nxO_some, nx_then, rt_then, ite_then, exc_then, exc_bind, exc_out, finish_exc, deref_int, deref_bl, deref_str, deref_non, deref_tup, deref_lst, deref_scr, cmp_eq, cmp_ne, cmp_lt, cmp_le, cmp_gt, cmp_ge, Option.map_some, of_some', tru_bl, tru_int, tru_non, tru_tup0, tru_tup1, tru_lst0, tru_lst1, brB_t, brB_f, brB_d, brB_nd, finish_ite, finish_rt, finish_nx, ite_out, ite_bind, List.length_cons, List.length_nil, sz0, sz1, sz2, sz3, sz4, sz5, sz6, sz7, sz8, Nat.reduceAdd, Nat.reduceLeDiff, Nat.zero_le, Nat.zero_add, if_true, if_false, ↓reduceIte, ix_t0, ix_t1, ix_t2, ix_t3, ix_t4, ix_t5, ix_l0, ix_l1, leave_tup, leave_lst, leave_int, leave_bl, leave_str, leave_non, lo_int, lo_bl, lo_str, lo_non, lo_tup, lo_lst, loAll_nil, loAll_cons, loAll_ints, Bool.and_true, Bool.true_and, Bool.and_self, List.take_length, bin_add, bin_sub, int1_d, int1_bl, inn, ini, ins, int', inb, inl', Bool.not_true, Bool.not_false, decide_eq_true_eq, decide_true, decide_false, brB_b, slt_hi, slt_lo, slt_m1, sll_hi, sll_lo, mul_t0, mul_t1, Int.reduceLE, Int.reduceToNat, List.take_succ_cons, List.take_zero, List.drop_succ_cons, List.drop_zero, List.take_nil, List.drop_nil, Nat.reduceAdd, e_slHi, e_slLo, e_slLH, Int.reduceAdd, Int.add_zero, Int.mul_one, Int.mul_zero, Int.reduceNeg, List.getElem?_nil, Bool.false_eq_true, Int.reduceLT, Int.reduceEq, and_true, true_and, and_false, false_and, not_true_eq_false, not_false_eq_true, of_ite, map_ite]) (by simp only [ss_cons, ss_nil, s_setT', s_set', s_par', s_expr', s_ite', s_ret', s_retN', s_raise', e_var, e_non, e_bl, e_int, e_neg, e_str, e_bin, e_cmp, e_cmp2, e_and, e_or, e_not, e_ite, e_tup, e_lst, e_ix, e_isNon, e_notNon, e_call, e_blt, e_isi, e_rev, s_try', tryO_exc, tryO_nx, tryO_rt, tryO_ite, hs_nil, hs_cons, es_nil, es_cons, List.map_cons, List.map_nil, List.replicate, List.cons_append, List.nil_append, List.append_nil, List.getElem?_cons_zero, List.getElem?_cons_succ, lookV_some, ok_bind, ok_out, stuck_bind, stuck_out, onS_tup, onS_lst, onI_int, setAll, List.set_cons_zero, List.set_cons_succ, nxO_some, nx_then, rt_then, ite_then, exc_then, exc_bind, exc_out, finish_exc, deref_int, deref_bl, deref_str, deref_non, deref_tup, deref_lst, deref_scr, cmp_eq, cmp_ne, cmp_lt, cmp_le, cmp_gt, cmp_ge, Option.map_some, of_some', tru_bl, tru_int, tru_non, tru_tup0, tru_tup1, tru_lst0, tru_lst1, brB_t, brB_f, brB_d, brB_nd, finish_ite, finish_rt, finish_nx, ite_out, ite_bind, List.length_cons, List.length_nil, sz0, sz1, sz2, sz3, sz4, sz5, sz6, sz7, sz8, Nat.reduceAdd, Nat.reduceLeDiff, Nat.zero_le, Nat.zero_add, if_true, if_false, ↓reduceIte, ix_t0, ix_t1, ix_t2, ix_t3, ix_t4, ix_t5, ix_l0, ix_l1, leave_tup, leave_lst, leave_int, leave_bl, leave_str, leave_non, lo_int, lo_bl, lo_str, lo_non, lo_tup, lo_lst, loAll_nil, loAll_cons, loAll_ints, Bool.and_true, Bool.true_and, Bool.and_self, List.take_length, bin_add, bin_sub, int1_d, int1_bl, inn, ini, ins, int', inb, inl', Bool.not_true, Bool.not_false, decide_eq_true_eq, decide_true, decide_false, brB_b, slt_hi, slt_lo, slt_m1, sll_hi, sll_lo, mul_t0, mul_t1, Int.reduceLE, Int.reduceToNat, List.take_succ_cons, List.take_zero, List.drop_succ_cons, List.drop_zero, List.take_nil, List.drop_nil, Nat.reduceAdd, e_slHi, e_slLo, e_slLH, Int.reduceAdd, Int.add_zero, Int.mul_one, Int.mul_zero, Int.reduceNeg, List.getElem?_nil, Bool.false_eq_true, Int.reduceLT, Int.reduceEq, and_true, true_and, and_false, false_and, not_true_eq_false, not_false_eq_true, of_ite, map_ite]) hr1
    have lo : Dt.lo s.length (.lst ((ballsOf C ⟨up, on, reds, low, p0, p1, free⟩).map .int)) = true := by rw [lo_lst, loAll_ints]
    have eb : (pre ++ (List.replicate reds.toNat [1, C + 1]).flatten) ++ rg low (C + 1 + 1) = ballsOf C ⟨up, on, reds, low, p0, p1, free⟩ := by
      rw [hpre, show C + 1 + 1 = C + 2 by omega]; rfl
    rw [eb] at ha
    have e0 : evSs (FTab fb j) (B_law_balls.drop 4) [some (Rs R C), some (Pl.d ⟨up, on, reds, low, p0, p1, free⟩), some (.int up), some (.int on), some (.int reds), some (.int low), some (.tup [.int p0, .int p1]), some (.int free), some (.int (C + 1)), some (.ref K), none] S = .rt (.lst ((ballsOf C ⟨up, on, reds, low, p0, p1, free⟩).map .int)) (setCell S K ((pre ++ (List.replicate reds.toNat [1, C + 1]).flatten).map .int)) := by
      have b1 : B_law_balls.drop 4 = [.forS (.nm 10) (.rng1 (.var 4)) B_law_balls_f1, .ret (.bin .add (.var 9) (.lrng (.var 5) (.bin .add (.var 8) (.int 1))))] := rfl
      rw [b1, ss_cons, s_for', i_rng1, e_var]
      simp only [List.getElem?_cons_succ, List.getElem?_cons_zero, lookV_some, ok_bind, onI_int, hr0, if_true, ok_out, e, nx_then, ss_cons, s_ret', e_bin, hl, e_var, deref_ref hs2, deref_lst, ha, of_some', rt_then]
    rw [e0, finish_rt, leave_ok lo, set_take hk, ht]
  have spl : evSs (FTab fb j) B_law_balls ([Rs R C, Pl.d ⟨up, on, reds, low, p0, p1, free⟩].map some ++ List.replicate 9 none) s = (evSs (FTab fb j) (B_law_balls.take 4) ([Rs R C, Pl.d ⟨up, on, reds, low, p0, p1, free⟩].map some ++ List.replicate 9 none) s).andThen fun ρ s => evSs (FTab fb j) (B_law_balls.drop 4) ρ s := by
    rw [← ss_app]; rfl
  rw [spl]
  have dl : ∀ n : Nat, decide (n ≤ n) = true := fun n => by simp
  by_cases o0 : on = 0
  · by_cases f2 : free = 2
    · have e : evSs (FTab fb j) (B_law_balls.take 4) ([Rs R C, Pl.d ⟨up, on, reds, low, p0, p1, free⟩].map some ++ List.replicate 9 none) s = .nx [some (Rs R C), some (Pl.d ⟨up, on, reds, low, p0, p1, free⟩), some (.int up), some (.int on), some (.int reds), some (.int low), some (.tup [.int p0, .int p1]), some (.int free), some (.int (C + 1)), some (.ref (s.length + 2)), none] (s ++ [.lst []] ++ [.lst [.int (C + 1)]] ++ [.lst [.int (C + 1)]]) := by
        subst o0 f2
        simp only [B_law_balls, ss_cons, ss_nil, s_setT', s_set', s_par', s_expr', s_ite', s_ret', s_retN', s_raise', e_var, e_non, e_bl, e_int, e_neg, e_str, e_bin, e_cmp, e_cmp2, e_and, e_or, e_not, e_ite, e_tup, e_lst, e_ix, e_isNon, e_notNon, e_call, e_blt, e_isi, e_rev, s_try', tryO_exc, tryO_nx, tryO_rt, tryO_ite, hs_nil, hs_cons, es_nil, es_cons, List.map_cons, List.map_nil, List.replicate, List.cons_append, List.nil_append, List.append_nil, List.getElem?_cons_zero, List.getElem?_cons_succ, lookV_some, ok_bind, ok_out, stuck_bind, stuck_out, onS_tup, onS_lst, onI_int, setAll, List.set_cons_zero, List.set_cons_succ, nxO_some, nx_then, rt_then, ite_then, exc_then, exc_bind, exc_out, finish_exc, deref_int, deref_bl, deref_str, deref_non, deref_tup, deref_lst, deref_scr, cmp_eq, cmp_ne, cmp_lt, cmp_le, cmp_gt, cmp_ge, Option.map_some, of_some', tru_bl, tru_int, tru_non, tru_tup0, tru_tup1, tru_lst0, tru_lst1, brB_t, brB_f, brB_d, brB_nd, finish_ite, finish_rt, finish_nx, ite_out, ite_bind, List.length_cons, List.length_nil, sz0, sz1, sz2, sz3, sz4, sz5, sz6, sz7, sz8, Nat.reduceAdd, Nat.reduceLeDiff, Nat.zero_le, Nat.zero_add, if_true, if_false, ↓reduceIte, ix_t0, ix_t1, ix_t2, ix_t3, ix_t4, ix_t5, ix_l0, ix_l1, leave_tup, leave_lst, leave_int, leave_bl, leave_str, leave_non, lo_int, lo_bl, lo_str, lo_non, lo_tup, lo_lst, loAll_nil, loAll_cons, loAll_ints, Bool.and_true, Bool.true_and, Bool.and_self, List.take_length, bin_add, bin_sub, int1_d, int1_bl, inn, ini, ins, int', inb, inl', Bool.not_true, Bool.not_false, decide_eq_true_eq, decide_true, decide_false, brB_b, slt_hi, slt_lo, slt_m1, sll_hi, sll_lo, mul_t0, mul_t1, Int.reduceLE, Int.reduceToNat, List.take_succ_cons, List.take_zero, List.drop_succ_cons, List.drop_zero, List.take_nil, List.drop_nil, Nat.reduceAdd, e_slHi, e_slLo, e_slLH, Int.reduceAdd, Int.add_zero, Int.mul_one, Int.mul_zero, Int.reduceNeg, List.getElem?_nil, Bool.false_eq_true, Int.reduceLT, Int.reduceEq, and_true, true_and, and_false, false_and, not_true_eq_false, not_false_eq_true, of_ite, map_ite, Pl.d, deref_rs, ix_r1, e_mlst, List.length_append, decide_eq_true sz0, decide_eq_true sz1]
      rw [e, nx_then]
      refine tail _ _ [C + 1] (by simp [headOf, o0]) ?_ (by omega) ?_
      · simp [List.take_append_of_le_length]
      · rw [List.getElem?_append_right (by simp)]; simp
    · have e : evSs (FTab fb j) (B_law_balls.take 4) ([Rs R C, Pl.d ⟨up, on, reds, low, p0, p1, free⟩].map some ++ List.replicate 9 none) s = .nx [some (Rs R C), some (Pl.d ⟨up, on, reds, low, p0, p1, free⟩), some (.int up), some (.int on), some (.int reds), some (.int low), some (.tup [.int p0, .int p1]), some (.int free), some (.int (C + 1)), some (.ref (s.length + 1)), none] (s ++ [.lst []] ++ [.lst [.int (C + 1)]]) := by
        subst o0
        simp only [B_law_balls, ss_cons, ss_nil, s_setT', s_set', s_par', s_expr', s_ite', s_ret', s_retN', s_raise', e_var, e_non, e_bl, e_int, e_neg, e_str, e_bin, e_cmp, e_cmp2, e_and, e_or, e_not, e_ite, e_tup, e_lst, e_ix, e_isNon, e_notNon, e_call, e_blt, e_isi, e_rev, s_try', tryO_exc, tryO_nx, tryO_rt, tryO_ite, hs_nil, hs_cons, es_nil, es_cons, List.map_cons, List.map_nil, List.replicate, List.cons_append, List.nil_append, List.append_nil, List.getElem?_cons_zero, List.getElem?_cons_succ, lookV_some, ok_bind, ok_out, stuck_bind, stuck_out, onS_tup, onS_lst, onI_int, setAll, List.set_cons_zero, List.set_cons_succ, nxO_some, nx_then, rt_then, ite_then, exc_then, exc_bind, exc_out, finish_exc, deref_int, deref_bl, deref_str, deref_non, deref_tup, deref_lst, deref_scr, cmp_eq, cmp_ne, cmp_lt, cmp_le, cmp_gt, cmp_ge, Option.map_some, of_some', tru_bl, tru_int, tru_non, tru_tup0, tru_tup1, tru_lst0, tru_lst1, brB_t, brB_f, brB_d, brB_nd, finish_ite, finish_rt, finish_nx, ite_out, ite_bind, List.length_cons, List.length_nil, sz0, sz1, sz2, sz3, sz4, sz5, sz6, sz7, sz8, Nat.reduceAdd, Nat.reduceLeDiff, Nat.zero_le, Nat.zero_add, if_true, if_false, ↓reduceIte, ix_t0, ix_t1, ix_t2, ix_t3, ix_t4, ix_t5, ix_l0, ix_l1, leave_tup, leave_lst, leave_int, leave_bl, leave_str, leave_non, lo_int, lo_bl, lo_str, lo_non, lo_tup, lo_lst, loAll_nil, loAll_cons, loAll_ints, Bool.and_true, Bool.true_and, Bool.and_self, List.take_length, bin_add, bin_sub, int1_d, int1_bl, inn, ini, ins, int', inb, inl', Bool.not_true, Bool.not_false, decide_eq_true_eq, decide_true, decide_false, brB_b, slt_hi, slt_lo, slt_m1, sll_hi, sll_lo, mul_t0, mul_t1, Int.reduceLE, Int.reduceToNat, List.take_succ_cons, List.take_zero, List.drop_succ_cons, List.drop_zero, List.take_nil, List.drop_nil, Nat.reduceAdd, e_slHi, e_slLo, e_slLH, Int.reduceAdd, Int.add_zero, Int.mul_one, Int.mul_zero, Int.reduceNeg, List.getElem?_nil, Bool.false_eq_true, Int.reduceLT, Int.reduceEq, and_true, true_and, and_false, false_and, not_true_eq_false, not_false_eq_true, of_ite, map_ite, Pl.d, deref_rs, ix_r1, e_mlst, f2, List.length_append, decide_eq_true sz0, decide_eq_true sz1]
      rw [e, nx_then]
      refine tail _ _ [C + 1] (by simp [headOf, o0]) ?_ (by omega) ?_
      · simp [List.take_append_of_le_length]
      · rw [List.getElem?_append_right (by simp)]; simp
  · by_cases f2 : free = 2
    · by_cases o1 : on = 1
      · have e : evSs (FTab fb j) (B_law_balls.take 4) ([Rs R C, Pl.d ⟨up, on, reds, low, p0, p1, free⟩].map some ++ List.replicate 9 none) s = .nx [some (Rs R C), some (Pl.d ⟨up, on, reds, low, p0, p1, free⟩), some (.int up), some (.int on), some (.int reds), some (.int low), some (.tup [.int p0, .int p1]), some (.int free), some (.int (C + 1)), some (.ref (s.length + 1)), none] (s ++ [.lst []] ++ [.lst [.int (C + 1), .int (C + 1)]]) := by
          subst o1 f2
          simp only [B_law_balls, ss_cons, ss_nil, s_setT', s_set', s_par', s_expr', s_ite', s_ret', s_retN', s_raise', e_var, e_non, e_bl, e_int, e_neg, e_str, e_bin, e_cmp, e_cmp2, e_and, e_or, e_not, e_ite, e_tup, e_lst, e_ix, e_isNon, e_notNon, e_call, e_blt, e_isi, e_rev, s_try', tryO_exc, tryO_nx, tryO_rt, tryO_ite, hs_nil, hs_cons, es_nil, es_cons, List.map_cons, List.map_nil, List.replicate, List.cons_append, List.nil_append, List.append_nil, List.getElem?_cons_zero, List.getElem?_cons_succ, lookV_some, ok_bind, ok_out, stuck_bind, stuck_out, onS_tup, onS_lst, onI_int, setAll, List.set_cons_zero, List.set_cons_succ, nxO_some, nx_then, rt_then, ite_then, exc_then, exc_bind, exc_out, finish_exc, deref_int, deref_bl, deref_str, deref_non, deref_tup, deref_lst, deref_scr, cmp_eq, cmp_ne, cmp_lt, cmp_le, cmp_gt, cmp_ge, Option.map_some, of_some', tru_bl, tru_int, tru_non, tru_tup0, tru_tup1, tru_lst0, tru_lst1, brB_t, brB_f, brB_d, brB_nd, finish_ite, finish_rt, finish_nx, ite_out, ite_bind, List.length_cons, List.length_nil, sz0, sz1, sz2, sz3, sz4, sz5, sz6, sz7, sz8, Nat.reduceAdd, Nat.reduceLeDiff, Nat.zero_le, Nat.zero_add, if_true, if_false, ↓reduceIte, ix_t0, ix_t1, ix_t2, ix_t3, ix_t4, ix_t5, ix_l0, ix_l1, leave_tup, leave_lst, leave_int, leave_bl, leave_str, leave_non, lo_int, lo_bl, lo_str, lo_non, lo_tup, lo_lst, loAll_nil, loAll_cons, loAll_ints, Bool.and_true, Bool.true_and, Bool.and_self, List.take_length, bin_add, bin_sub, int1_d, int1_bl, inn, ini, ins, int', inb, inl', Bool.not_true, Bool.not_false, decide_eq_true_eq, decide_true, decide_false, brB_b, slt_hi, slt_lo, slt_m1, sll_hi, sll_lo, mul_t0, mul_t1, Int.reduceLE, Int.reduceToNat, List.take_succ_cons, List.take_zero, List.drop_succ_cons, List.drop_zero, List.take_nil, List.drop_nil, Nat.reduceAdd, e_slHi, e_slLo, e_slLH, Int.reduceAdd, Int.add_zero, Int.mul_one, Int.mul_zero, Int.reduceNeg, List.getElem?_nil, Bool.false_eq_true, Int.reduceLT, Int.reduceEq, and_true, true_and, and_false, false_and, not_true_eq_false, not_false_eq_true, of_ite, map_ite, Pl.d, deref_rs, ix_r1, e_mlst, show ¬ (1 : Int) = 0 by decide, List.length_append, decide_eq_true sz0, decide_eq_true sz1, decide_eq_true sz2]
        rw [e, nx_then]
        refine tail _ _ [C + 1, C + 1] (by simp [headOf, o1, f2]) ?_ (by omega) ?_
        · simp [List.take_append_of_le_length]
        · rw [List.getElem?_append_right (by simp)]; simp
      · have e : evSs (FTab fb j) (B_law_balls.take 4) ([Rs R C, Pl.d ⟨up, on, reds, low, p0, p1, free⟩].map some ++ List.replicate 9 none) s = .nx [some (Rs R C), some (Pl.d ⟨up, on, reds, low, p0, p1, free⟩), some (.int up), some (.int on), some (.int reds), some (.int low), some (.tup [.int p0, .int p1]), some (.int free), some (.int (C + 1)), some (.ref (s.length + 1)), none] (s ++ [.lst []] ++ [.lst [.int (C + 1)]]) := by
          subst f2
          simp only [B_law_balls, ss_cons, ss_nil, s_setT', s_set', s_par', s_expr', s_ite', s_ret', s_retN', s_raise', e_var, e_non, e_bl, e_int, e_neg, e_str, e_bin, e_cmp, e_cmp2, e_and, e_or, e_not, e_ite, e_tup, e_lst, e_ix, e_isNon, e_notNon, e_call, e_blt, e_isi, e_rev, s_try', tryO_exc, tryO_nx, tryO_rt, tryO_ite, hs_nil, hs_cons, es_nil, es_cons, List.map_cons, List.map_nil, List.replicate, List.cons_append, List.nil_append, List.append_nil, List.getElem?_cons_zero, List.getElem?_cons_succ, lookV_some, ok_bind, ok_out, stuck_bind, stuck_out, onS_tup, onS_lst, onI_int, setAll, List.set_cons_zero, List.set_cons_succ, nxO_some, nx_then, rt_then, ite_then, exc_then, exc_bind, exc_out, finish_exc, deref_int, deref_bl, deref_str, deref_non, deref_tup, deref_lst, deref_scr, cmp_eq, cmp_ne, cmp_lt, cmp_le, cmp_gt, cmp_ge, Option.map_some, of_some', tru_bl, tru_int, tru_non, tru_tup0, tru_tup1, tru_lst0, tru_lst1, brB_t, brB_f, brB_d, brB_nd, finish_ite, finish_rt, finish_nx, ite_out, ite_bind, List.length_cons, List.length_nil, sz0, sz1, sz2, sz3, sz4, sz5, sz6, sz7, sz8, Nat.reduceAdd, Nat.reduceLeDiff, Nat.zero_le, Nat.zero_add, if_true, if_false, ↓reduceIte, ix_t0, ix_t1, ix_t2, ix_t3, ix_t4, ix_t5, ix_l0, ix_l1, leave_tup, leave_lst, leave_int, leave_bl, leave_str, leave_non, lo_int, lo_bl, lo_str, lo_non, lo_tup, lo_lst, loAll_nil, loAll_cons, loAll_ints, Bool.and_true, Bool.true_and, Bool.and_self, List.take_length, bin_add, bin_sub, int1_d, int1_bl, inn, ini, ins, int', inb, inl', Bool.not_true, Bool.not_false, decide_eq_true_eq, decide_true, decide_false, brB_b, slt_hi, slt_lo, slt_m1, sll_hi, sll_lo, mul_t0, mul_t1, Int.reduceLE, Int.reduceToNat, List.take_succ_cons, List.take_zero, List.drop_succ_cons, List.drop_zero, List.take_nil, List.drop_nil, Nat.reduceAdd, e_slHi, e_slLo, e_slLH, Int.reduceAdd, Int.add_zero, Int.mul_one, Int.mul_zero, Int.reduceNeg, List.getElem?_nil, Bool.false_eq_true, Int.reduceLT, Int.reduceEq, and_true, true_and, and_false, false_and, not_true_eq_false, not_false_eq_true, of_ite, map_ite, Pl.d, deref_rs, ix_r1, e_mlst, o0, o1, List.length_append, decide_eq_true sz0, decide_eq_true sz1, decide_eq_true sz2]
        rw [e, nx_then]
        refine tail _ _ [C + 1] (by simp [headOf, o0, o1, f2]) ?_ (by omega) ?_
        · simp [List.take_append_of_le_length]
        · rw [List.getElem?_append_right (by simp)]; simp
    · have e : evSs (FTab fb j) (B_law_balls.take 4) ([Rs R C, Pl.d ⟨up, on, reds, low, p0, p1, free⟩].map some ++ List.replicate 9 none) s = .nx [some (Rs R C), some (Pl.d ⟨up, on, reds, low, p0, p1, free⟩), some (.int up), some (.int on), some (.int reds), some (.int low), some (.tup [.int p0, .int p1]), some (.int free), some (.int (C + 1)), some (.ref s.length), none] (s ++ [.lst []]) := by
        simp only [B_law_balls, ss_cons, ss_nil, s_setT', s_set', s_par', s_expr', s_ite', s_ret', s_retN', s_raise', e_var, e_non, e_bl, e_int, e_neg, e_str, e_bin, e_cmp, e_cmp2, e_and, e_or, e_not, e_ite, e_tup, e_lst, e_ix, e_isNon, e_notNon, e_call, e_blt, e_isi, e_rev, s_try', tryO_exc, tryO_nx, tryO_rt, tryO_ite, hs_nil, hs_cons, es_nil, es_cons, List.map_cons, List.map_nil, List.replicate, List.cons_append, List.nil_append, List.append_nil, List.getElem?_cons_zero, List.getElem?_cons_succ, lookV_some, ok_bind, ok_out, stuck_bind, stuck_out, onS_tup, onS_lst, onI_int, setAll, List.set_cons_zero, List.set_cons_succ, nxO_some, nx_then, rt_then, ite_then, exc_then, exc_bind, exc_out, finish_exc, deref_int, deref_bl, deref_str, deref_non, deref_tup, deref_lst, deref_scr, cmp_eq, cmp_ne, cmp_lt, cmp_le, cmp_gt, cmp_ge, Option.map_some, of_some', tru_bl, tru_int, tru_non, tru_tup0, tru_tup1, tru_lst0, tru_lst1, brB_t, brB_f, brB_d, brB_nd, finish_ite, finish_rt, finish_nx, ite_out, ite_bind, List.length_cons, List.length_nil, sz0, sz1, sz2, sz3, sz4, sz5, sz6, sz7, sz8, Nat.reduceAdd, Nat.reduceLeDiff, Nat.zero_le, Nat.zero_add, if_true, if_false, ↓reduceIte, ix_t0, ix_t1, ix_t2, ix_t3, ix_t4, ix_t5, ix_l0, ix_l1, leave_tup, leave_lst, leave_int, leave_bl, leave_str, leave_non, lo_int, lo_bl, lo_str, lo_non, lo_tup, lo_lst, loAll_nil, loAll_cons, loAll_ints, Bool.and_true, Bool.true_and, Bool.and_self, List.take_length, bin_add, bin_sub, int1_d, int1_bl, inn, ini, ins, int', inb, inl', Bool.not_true, Bool.not_false, decide_eq_true_eq, decide_true, decide_false, brB_b, slt_hi, slt_lo, slt_m1, sll_hi, sll_lo, mul_t0, mul_t1, Int.reduceLE, Int.reduceToNat, List.take_succ_cons, List.take_zero, List.drop_succ_cons, List.drop_zero, List.take_nil, List.drop_nil, Nat.reduceAdd, e_slHi, e_slLo, e_slLH, Int.reduceAdd, Int.add_zero, Int.mul_one, Int.mul_zero, Int.reduceNeg, List.getElem?_nil, Bool.false_eq_true, Int.reduceLT, Int.reduceEq, and_true, true_and, and_false, false_and, not_true_eq_false, not_false_eq_true, of_ite, map_ite, Pl.d, deref_rs, ix_r1, e_mlst, o0, f2, List.length_append, decide_eq_true sz0, decide_eq_true sz1, decide_eq_true sz2]
      rw [e, nx_then]
      refine tail _ _ [] (by simp [headOf, o0, f2]) ?_ (by omega) ?_
      · simp [List.take_append_of_le_length]
      · rw [List.getElem?_append_right (by simp)]; simp
end MP
/-! P21: plain: visits. -/
namespace MP
open PySem
/-- a visit: who, how much, how many strokes -/
structure Vi where
  who : Int
  pts : Int
  many : Int
def Vi.t (v : Vi) : Dt := .tup [.int v.who, .int v.pts, .int v.many]
def Vi.l (v : Vi) : Dt := .lst [.int v.who, .int v.pts, .int v.many]
/-- a visit's stroke more -/
def vadd (fd : List Vi) (fr : Bool) (up g : Int) : List Vi :=
  if fr = true then fd ++ [⟨up, g, 1⟩] else match fd.getLast? with
    | some v => fd.dropLast ++ [⟨up, v.pts + g, v.many + 1⟩]
    | none => fd
def nextFresh (up : Int) : MR → Bool
  | .go q _ _ => decide (q.up ≠ up)
  | _ => true
/-- the visits behind deeds -/
def vis (C : Int) : MR → List Vi → Bool → List De → List Vi
  | _, fd, _, [] => fd
  | .go p _ _, fd, fr, .stroke k :: ds => vis C (moved C p (.stroke k)) (vadd fd fr p.up (judged p k).1) (nextFresh p.up (moved C p (.stroke k))) ds
  | .go p _ _, fd, _, .pass :: ds => vis C (moved C p .pass) fd true ds
  | .go p _ _, fd, fr, d :: ds => vis C (moved C p d) fd fr ds
  | _, fd, _, _ :: _ => fd
/-- the visit that goes on is who is up's -/
def VOk (m : MR) (fd : List Vi) (fr : Bool) : Prop := match m with
  | .go p _ _ => fr = false → ∃ v, fd.getLast? = some v ∧ v.who = p.up
  | _ => True
theorem vadd_last {fd : List Vi} {fr : Bool} {up g : Int} (h : fr = false → ∃ v, fd.getLast? = some v) : ∃ v, (vadd fd fr up g).getLast? = some v ∧ v.who = up := by
  unfold vadd
  cases fr with
  | true => exact ⟨⟨up, g, 1⟩, by simp, rfl⟩
  | false =>
    obtain ⟨v, hv⟩ := h rfl
    simp only [Bool.false_eq_true, if_false, hv]
    exact ⟨⟨up, v.pts + g, v.many + 1⟩, by simp, rfl⟩
theorem vok_stroke {R C : Int} {p : Pl} {a b : Int} {k : Sk} {fd : List Vi} {fr : Bool} (h : VOk (.go p a b) fd fr) : VOk (moved C p (.stroke k)) (vadd fd fr p.up (judged p k).1) (nextFresh p.up (moved C p (.stroke k))) := by
  have hl := vadd_last (fd := fd) (fr := fr) (up := p.up) (g := (judged p k).1) fun e => by obtain ⟨v, hv, _⟩ := h e; exact ⟨v, hv⟩
  cases hm : moved C p (.stroke k) with
  | now => trivial
  | over _ _ _ => trivial
  | go q _ _ =>
    intro e
    simp only [nextFresh, decide_eq_false_iff_not, Decidable.not_not] at e
    obtain ⟨v, h1, h2⟩ := hl
    exact ⟨v, h1, by rw [h2, e]⟩
theorem vok_free {C : Int} {p : Pl} {a b : Int} {fd : List Vi} {fr : Bool} (h : VOk (.go p a b) fd fr) : VOk (moved C p .free) fd fr := by
  simp only [moved]
  split
  · exact h
  · trivial
theorem vok_true {m : MR} {fd : List Vi} : VOk m fd true := by cases m <;> first | trivial | (intro e; cases e)
theorem last_split {fd : List Vi} {v : Vi} (h : fd.getLast? = some v) : fd = fd.dropLast ++ [v] := by
  obtain ⟨ys, rfl⟩ := List.getLast?_eq_some_iff.mp h
  simp
theorem vadd_false {fd : List Vi} {v : Vi} {g : Int} (h : fd.getLast? = some v) : vadd fd false v.who g = fd.dropLast ++ [⟨v.who, v.pts + g, v.many + 1⟩] := by
  unfold vadd; simp only [Bool.false_eq_true, if_false, h]
theorem vadd_true {fd : List Vi} {up g : Int} : vadd fd true up g = fd ++ [⟨up, g, 1⟩] := rfl
theorem vadd_len {fd : List Vi} {fr : Bool} {up g : Int} : (vadd fd fr up g).length ≤ fd.length + 1 := by
  unfold vadd
  split
  · simp
  · split <;> simp <;> omega
def tailFresh (up : Int) : MR → Bool
  | .go q _ _ => decide (q.up ≠ up)
  | _ => false
theorem ix_mrpl {m : MR} (h : m ≠ .now) : evIx m.d (.int 0) = some m.pl := ix_mr h
theorem deref_mr {m : MR} {s : Sta} : deref s m.d = m.d := by cases m <;> rfl
theorem pv_stroke {j : Nat} {R C : Int} {p : Pl} {k : Sk} {a b : Int} {K : Nat} {S : Sta} {fd : List Vi} {fr : Bool} {f x6 x7 x8 x9 x10 x5 : Option Dt} (G : Good R C p) (hR : R ≤ 1000) (hC : 1 ≤ C) (o : SkOk R C k) (hn : moved C p (.stroke k) ≠ .now) (hv : VOk (.go p a b) fd fr) (hl : fd.length ≤ 1000) (hS : S[K]? = some (.lst (fd.map Vi.t))) :
    ∃ y7 y8 y9 y10, forOne (FTab fb (j + 5)) (.nm 5) B_p_visits_f1 (De.stroke k).d [some (Rs R C), f, some (.ref K), some p.d, some (.bl fr), x5, x6, x7, x8, x9, x10] S =
      .nx [some (Rs R C), f, some (.ref K), some (moved C p (.stroke k)).pl, some (.bl (tailFresh p.up (moved C p (.stroke k)))), some (De.stroke k).d, some (moved C p (.stroke k)).pl, y7, y8, y9, y10] (setCell S K ((vadd fd fr p.up (judged p k).1).map Vi.t)) := by
  have e1 := p_behind (j := j) (s := S) G hR hC (show DeOk R C (.stroke k) from o)
  rw [mr_ok hn] at e1
  have e2 := p_points_of (j := j + 2) (p := p) (k := k) (s := S) (by have := o.ln; omega) o.so
  have ei := ix_mrpl hn
  have ed : (De.stroke k).d = .tup (.str "stroke" :: k.ds) := rfl
  have eu : evIx p.d (.int 0) = some (.int p.up) := ix_t0
  have dp : ∀ s, deref s p.d = p.d := fun s => rfl
  generalize hm : moved C p (.stroke k) = m at e1 ei hn ⊢
  generalize (judged p k).1 = g at e2 ⊢
  cases fr with
  | true =>
    refine ⟨some (.int g), some (.int p.up), some (.int 0), some (.int 0), ?_⟩
    have h2 := set_get (es := fd.map Vi.t ++ [.tup [.int p.up, .int 0, .int 0]]) hS
    have h3 := set_get (es := fd.map Vi.t) h2
    rw [set_set] at h3
    have a1 := app_ok (F := FTab fb (j + 5)) (ρ := [some (Rs R C), f, some (.ref K), some p.d, some (.bl true), some (De.stroke k).d, some m.pl, some (.int g), x8, x9, x10]) (x := .var 2) (e := .tup [.ix (.var 3) (.int 0), .int 0, .int 0]) (d := .tup [.int p.up, .int 0, .int 0]) (s := S) (s1 := S) (by simp only [ss_cons, ss_nil, s_setT', s_set', s_par', s_expr', s_ite', s_ret', s_retN', s_raise', e_var, e_non, e_bl, e_int, e_neg, e_str, e_bin, e_cmp, e_cmp2, e_and, e_or, e_not, e_ite, e_tup, e_lst, e_ix, e_isNon, e_notNon, e_call, e_blt, e_isi, e_rev, s_try', tryO_exc, tryO_nx, tryO_rt, tryO_ite, hs_nil, hs_cons, es_nil, es_cons, List.map_cons, List.map_nil, List.replicate, List.cons_append, List.nil_append, List.append_nil, List.getElem?_cons_zero, List.getElem?_cons_succ, lookV_some, ok_bind, ok_out, stuck_bind, stuck_out, onS_tup, onS_lst, onI_int, setAll, List.set_cons_zero, List.set_cons_succ, nxO_some, nx_then, rt_then, ite_then, exc_then, exc_bind, exc_out, finish_exc, deref_int, deref_bl, deref_str, deref_non, deref_tup, deref_lst, deref_scr, cmp_eq, cmp_ne, cmp_lt, cmp_le, cmp_gt, cmp_ge, Option.map_some, of_some', tru_bl, tru_int, tru_non, tru_tup0, tru_tup1, tru_lst0, tru_lst1, brB_t, brB_f, brB_d, brB_nd, finish_ite, finish_rt, finish_nx, ite_out, ite_bind, List.length_cons, List.length_nil, sz0, sz1, sz2, sz3, sz4, sz5, sz6, sz7, sz8, Nat.reduceAdd, Nat.reduceLeDiff, Nat.zero_le, Nat.zero_add, if_true, if_false, ↓reduceIte, ix_t0, ix_t1, ix_t2, ix_t3, ix_t4, ix_t5, ix_l0, ix_l1, leave_tup, leave_lst, leave_int, leave_bl, leave_str, leave_non, lo_int, lo_bl, lo_str, lo_non, lo_tup, lo_lst, loAll_nil, loAll_cons, loAll_ints, Bool.and_true, Bool.true_and, Bool.and_self, List.take_length, bin_add, bin_sub, int1_d, int1_bl, inn, ini, ins, int', inb, inl', Bool.not_true, Bool.not_false, decide_eq_true_eq, decide_true, decide_false, brB_b, slt_hi, slt_lo, slt_m1, sll_hi, sll_lo, mul_t0, mul_t1, Int.reduceLE, Int.reduceToNat, List.take_succ_cons, List.take_zero, List.drop_succ_cons, List.drop_zero, List.take_nil, List.drop_nil, Nat.reduceAdd, e_slHi, e_slLo, e_slLH, Int.reduceAdd, Int.add_zero, Int.mul_one, Int.mul_zero, Int.reduceNeg, List.getElem?_nil, Bool.false_eq_true, Int.reduceLT, Int.reduceEq, and_true, true_and, and_false, false_and, not_true_eq_false, not_false_eq_true, of_ite, map_ite]) (by simp only [ss_cons, ss_nil, s_setT', s_set', s_par', s_expr', s_ite', s_ret', s_retN', s_raise', e_var, e_non, e_bl, e_int, e_neg, e_str, e_bin, e_cmp, e_cmp2, e_and, e_or, e_not, e_ite, e_tup, e_lst, e_ix, e_isNon, e_notNon, e_call, e_blt, e_isi, e_rev, s_try', tryO_exc, tryO_nx, tryO_rt, tryO_ite, hs_nil, hs_cons, es_nil, es_cons, List.map_cons, List.map_nil, List.replicate, List.cons_append, List.nil_append, List.append_nil, List.getElem?_cons_zero, List.getElem?_cons_succ, lookV_some, ok_bind, ok_out, stuck_bind, stuck_out, onS_tup, onS_lst, onI_int, setAll, List.set_cons_zero, List.set_cons_succ, nxO_some, nx_then, rt_then, ite_then, exc_then, exc_bind, exc_out, finish_exc, deref_int, deref_bl, deref_str, deref_non, deref_tup, deref_lst, deref_scr, cmp_eq, cmp_ne, cmp_lt, cmp_le, cmp_gt, cmp_ge, Option.map_some, of_some', tru_bl, tru_int, tru_non, tru_tup0, tru_tup1, tru_lst0, tru_lst1, brB_t, brB_f, brB_d, brB_nd, finish_ite, finish_rt, finish_nx, ite_out, ite_bind, List.length_cons, List.length_nil, sz0, sz1, sz2, sz3, sz4, sz5, sz6, sz7, sz8, Nat.reduceAdd, Nat.reduceLeDiff, Nat.zero_le, Nat.zero_add, if_true, if_false, ↓reduceIte, ix_t0, ix_t1, ix_t2, ix_t3, ix_t4, ix_t5, ix_l0, ix_l1, leave_tup, leave_lst, leave_int, leave_bl, leave_str, leave_non, lo_int, lo_bl, lo_str, lo_non, lo_tup, lo_lst, loAll_nil, loAll_cons, loAll_ints, Bool.and_true, Bool.true_and, Bool.and_self, List.take_length, bin_add, bin_sub, int1_d, int1_bl, inn, ini, ins, int', inb, inl', Bool.not_true, Bool.not_false, decide_eq_true_eq, decide_true, decide_false, brB_b, slt_hi, slt_lo, slt_m1, sll_hi, sll_lo, mul_t0, mul_t1, Int.reduceLE, Int.reduceToNat, List.take_succ_cons, List.take_zero, List.drop_succ_cons, List.drop_zero, List.take_nil, List.drop_nil, Nat.reduceAdd, e_slHi, e_slLo, e_slLH, Int.reduceAdd, Int.add_zero, Int.mul_one, Int.mul_zero, Int.reduceNeg, List.getElem?_nil, Bool.false_eq_true, Int.reduceLT, Int.reduceEq, and_true, true_and, and_false, false_and, not_true_eq_false, not_false_eq_true, of_ite, map_ite, dp, eu]) hS hS (by unfold lineM; simp; omega) rfl
    have a2 := pop_ok (F := FTab fb (j + 5)) (ρ := [some (Rs R C), f, some (.ref K), some p.d, some (.bl true), some (De.stroke k).d, some m.pl, some (.int g), x8, x9, x10]) (x := .var 2) (by simp only [ss_cons, ss_nil, s_setT', s_set', s_par', s_expr', s_ite', s_ret', s_retN', s_raise', e_var, e_non, e_bl, e_int, e_neg, e_str, e_bin, e_cmp, e_cmp2, e_and, e_or, e_not, e_ite, e_tup, e_lst, e_ix, e_isNon, e_notNon, e_call, e_blt, e_isi, e_rev, s_try', tryO_exc, tryO_nx, tryO_rt, tryO_ite, hs_nil, hs_cons, es_nil, es_cons, List.map_cons, List.map_nil, List.replicate, List.cons_append, List.nil_append, List.append_nil, List.getElem?_cons_zero, List.getElem?_cons_succ, lookV_some, ok_bind, ok_out, stuck_bind, stuck_out, onS_tup, onS_lst, onI_int, setAll, List.set_cons_zero, List.set_cons_succ, nxO_some, nx_then, rt_then, ite_then, exc_then, exc_bind, exc_out, finish_exc, deref_int, deref_bl, deref_str, deref_non, deref_tup, deref_lst, deref_scr, cmp_eq, cmp_ne, cmp_lt, cmp_le, cmp_gt, cmp_ge, Option.map_some, of_some', tru_bl, tru_int, tru_non, tru_tup0, tru_tup1, tru_lst0, tru_lst1, brB_t, brB_f, brB_d, brB_nd, finish_ite, finish_rt, finish_nx, ite_out, ite_bind, List.length_cons, List.length_nil, sz0, sz1, sz2, sz3, sz4, sz5, sz6, sz7, sz8, Nat.reduceAdd, Nat.reduceLeDiff, Nat.zero_le, Nat.zero_add, if_true, if_false, ↓reduceIte, ix_t0, ix_t1, ix_t2, ix_t3, ix_t4, ix_t5, ix_l0, ix_l1, leave_tup, leave_lst, leave_int, leave_bl, leave_str, leave_non, lo_int, lo_bl, lo_str, lo_non, lo_tup, lo_lst, loAll_nil, loAll_cons, loAll_ints, Bool.and_true, Bool.true_and, Bool.and_self, List.take_length, bin_add, bin_sub, int1_d, int1_bl, inn, ini, ins, int', inb, inl', Bool.not_true, Bool.not_false, decide_eq_true_eq, decide_true, decide_false, brB_b, slt_hi, slt_lo, slt_m1, sll_hi, sll_lo, mul_t0, mul_t1, Int.reduceLE, Int.reduceToNat, List.take_succ_cons, List.take_zero, List.drop_succ_cons, List.drop_zero, List.take_nil, List.drop_nil, Nat.reduceAdd, e_slHi, e_slLo, e_slLH, Int.reduceAdd, Int.add_zero, Int.mul_one, Int.mul_zero, Int.reduceNeg, List.getElem?_nil, Bool.false_eq_true, Int.reduceLT, Int.reduceEq, and_true, true_and, and_false, false_and, not_true_eq_false, not_false_eq_true, of_ite, map_ite]) h2
    have a3 := app_ok (F := FTab fb (j + 5)) (ρ := [some (Rs R C), f, some (.ref K), some p.d, some (.bl true), some (De.stroke k).d, some m.pl, some (.int g), some (.int p.up), some (.int 0), some (.int 0)]) (x := .var 2) (e := .tup [.var 8, .bin .add (.var 9) (.var 7), .bin .add (.var 10) (.int 1)]) (d := .tup [.int p.up, .int (0 + g), .int (0 + 1)]) (s := setCell S K (fd.map Vi.t)) (s1 := setCell S K (fd.map Vi.t)) (by simp only [ss_cons, ss_nil, s_setT', s_set', s_par', s_expr', s_ite', s_ret', s_retN', s_raise', e_var, e_non, e_bl, e_int, e_neg, e_str, e_bin, e_cmp, e_cmp2, e_and, e_or, e_not, e_ite, e_tup, e_lst, e_ix, e_isNon, e_notNon, e_call, e_blt, e_isi, e_rev, s_try', tryO_exc, tryO_nx, tryO_rt, tryO_ite, hs_nil, hs_cons, es_nil, es_cons, List.map_cons, List.map_nil, List.replicate, List.cons_append, List.nil_append, List.append_nil, List.getElem?_cons_zero, List.getElem?_cons_succ, lookV_some, ok_bind, ok_out, stuck_bind, stuck_out, onS_tup, onS_lst, onI_int, setAll, List.set_cons_zero, List.set_cons_succ, nxO_some, nx_then, rt_then, ite_then, exc_then, exc_bind, exc_out, finish_exc, deref_int, deref_bl, deref_str, deref_non, deref_tup, deref_lst, deref_scr, cmp_eq, cmp_ne, cmp_lt, cmp_le, cmp_gt, cmp_ge, Option.map_some, of_some', tru_bl, tru_int, tru_non, tru_tup0, tru_tup1, tru_lst0, tru_lst1, brB_t, brB_f, brB_d, brB_nd, finish_ite, finish_rt, finish_nx, ite_out, ite_bind, List.length_cons, List.length_nil, sz0, sz1, sz2, sz3, sz4, sz5, sz6, sz7, sz8, Nat.reduceAdd, Nat.reduceLeDiff, Nat.zero_le, Nat.zero_add, if_true, if_false, ↓reduceIte, ix_t0, ix_t1, ix_t2, ix_t3, ix_t4, ix_t5, ix_l0, ix_l1, leave_tup, leave_lst, leave_int, leave_bl, leave_str, leave_non, lo_int, lo_bl, lo_str, lo_non, lo_tup, lo_lst, loAll_nil, loAll_cons, loAll_ints, Bool.and_true, Bool.true_and, Bool.and_self, List.take_length, bin_add, bin_sub, int1_d, int1_bl, inn, ini, ins, int', inb, inl', Bool.not_true, Bool.not_false, decide_eq_true_eq, decide_true, decide_false, brB_b, slt_hi, slt_lo, slt_m1, sll_hi, sll_lo, mul_t0, mul_t1, Int.reduceLE, Int.reduceToNat, List.take_succ_cons, List.take_zero, List.drop_succ_cons, List.drop_zero, List.take_nil, List.drop_nil, Nat.reduceAdd, e_slHi, e_slLo, e_slLH, Int.reduceAdd, Int.add_zero, Int.mul_one, Int.mul_zero, Int.reduceNeg, List.getElem?_nil, Bool.false_eq_true, Int.reduceLT, Int.reduceEq, and_true, true_and, and_false, false_and, not_true_eq_false, not_false_eq_true, of_ite, map_ite]) (by simp only [ss_cons, ss_nil, s_setT', s_set', s_par', s_expr', s_ite', s_ret', s_retN', s_raise', e_var, e_non, e_bl, e_int, e_neg, e_str, e_bin, e_cmp, e_cmp2, e_and, e_or, e_not, e_ite, e_tup, e_lst, e_ix, e_isNon, e_notNon, e_call, e_blt, e_isi, e_rev, s_try', tryO_exc, tryO_nx, tryO_rt, tryO_ite, hs_nil, hs_cons, es_nil, es_cons, List.map_cons, List.map_nil, List.replicate, List.cons_append, List.nil_append, List.append_nil, List.getElem?_cons_zero, List.getElem?_cons_succ, lookV_some, ok_bind, ok_out, stuck_bind, stuck_out, onS_tup, onS_lst, onI_int, setAll, List.set_cons_zero, List.set_cons_succ, nxO_some, nx_then, rt_then, ite_then, exc_then, exc_bind, exc_out, finish_exc, deref_int, deref_bl, deref_str, deref_non, deref_tup, deref_lst, deref_scr, cmp_eq, cmp_ne, cmp_lt, cmp_le, cmp_gt, cmp_ge, Option.map_some, of_some', tru_bl, tru_int, tru_non, tru_tup0, tru_tup1, tru_lst0, tru_lst1, brB_t, brB_f, brB_d, brB_nd, finish_ite, finish_rt, finish_nx, ite_out, ite_bind, List.length_cons, List.length_nil, sz0, sz1, sz2, sz3, sz4, sz5, sz6, sz7, sz8, Nat.reduceAdd, Nat.reduceLeDiff, Nat.zero_le, Nat.zero_add, if_true, if_false, ↓reduceIte, ix_t0, ix_t1, ix_t2, ix_t3, ix_t4, ix_t5, ix_l0, ix_l1, leave_tup, leave_lst, leave_int, leave_bl, leave_str, leave_non, lo_int, lo_bl, lo_str, lo_non, lo_tup, lo_lst, loAll_nil, loAll_cons, loAll_ints, Bool.and_true, Bool.true_and, Bool.and_self, List.take_length, bin_add, bin_sub, int1_d, int1_bl, inn, ini, ins, int', inb, inl', Bool.not_true, Bool.not_false, decide_eq_true_eq, decide_true, decide_false, brB_b, slt_hi, slt_lo, slt_m1, sll_hi, sll_lo, mul_t0, mul_t1, Int.reduceLE, Int.reduceToNat, List.take_succ_cons, List.take_zero, List.drop_succ_cons, List.drop_zero, List.take_nil, List.drop_nil, Nat.reduceAdd, e_slHi, e_slLo, e_slLH, Int.reduceAdd, Int.add_zero, Int.mul_one, Int.mul_zero, Int.reduceNeg, List.getElem?_nil, Bool.false_eq_true, Int.reduceLT, Int.reduceEq, and_true, true_and, and_false, false_and, not_true_eq_false, not_false_eq_true, of_ite, map_ite]) h3 h3 (by unfold lineM; simp; omega) rfl
    rw [set_set] at a2 a3
    rw [forOne_nm]
    simp only [ed] at a1 a2 a3 e1 ⊢
    cases m with
    | now => exact absurd rfl hn
    | over _ _ _ =>
      simp only [MR.pl] at a1 a2 a3
      simp only [B_p_visits_f1, ss_cons, ss_nil, s_setT', s_set', s_par', s_expr', s_ite', s_ret', s_retN', s_raise', e_var, e_non, e_bl, e_int, e_neg, e_str, e_bin, e_cmp, e_cmp2, e_and, e_or, e_not, e_ite, e_tup, e_lst, e_ix, e_isNon, e_notNon, e_call, e_blt, e_isi, e_rev, s_try', tryO_exc, tryO_nx, tryO_rt, tryO_ite, hs_nil, hs_cons, es_nil, es_cons, List.map_cons, List.map_nil, List.replicate, List.cons_append, List.nil_append, List.append_nil, List.getElem?_cons_zero, List.getElem?_cons_succ, lookV_some, ok_bind, ok_out, stuck_bind, stuck_out, onS_tup, onS_lst, onI_int, setAll, List.set_cons_zero, List.set_cons_succ, nxO_some, nx_then, rt_then, ite_then, exc_then, exc_bind, exc_out, finish_exc, deref_int, deref_bl, deref_str, deref_non, deref_tup, deref_lst, deref_scr, cmp_eq, cmp_ne, cmp_lt, cmp_le, cmp_gt, cmp_ge, Option.map_some, of_some', tru_bl, tru_int, tru_non, tru_tup0, tru_tup1, tru_lst0, tru_lst1, brB_t, brB_f, brB_d, finish_ite, finish_rt, finish_nx, ite_out, ite_bind, List.length_cons, List.length_nil, sz0, sz1, sz2, sz3, sz4, sz5, sz6, sz7, sz8, Nat.reduceAdd, Nat.reduceLeDiff, Nat.zero_le, Nat.zero_add, if_true, if_false, ↓reduceIte, ix_t0, ix_t1, ix_t2, ix_t3, ix_t4, ix_t5, ix_l0, ix_l1, leave_tup, leave_lst, leave_int, leave_bl, leave_str, leave_non, lo_int, lo_bl, lo_str, lo_non, lo_tup, lo_lst, loAll_nil, loAll_cons, loAll_ints, Bool.and_true, Bool.true_and, Bool.and_self, List.take_length, bin_add, bin_sub, int1_d, int1_bl, inn, ini, ins, int', inb, inl', Bool.not_true, Bool.not_false, decide_eq_true_eq, decide_true, decide_false, brB_b, slt_hi, slt_lo, slt_m1, sll_hi, sll_lo, mul_t0, mul_t1, Int.reduceLE, Int.reduceToNat, List.take_succ_cons, List.take_zero, List.drop_succ_cons, List.drop_zero, List.take_nil, List.drop_nil, Nat.reduceAdd, e_slHi, e_slLo, e_slLH, Int.reduceAdd, Int.add_zero, Int.mul_one, Int.mul_zero, Int.reduceNeg, List.getElem?_nil, Bool.false_eq_true, Int.reduceLT, Int.reduceEq, and_true, true_and, and_false, false_and, not_true_eq_false, not_false_eq_true, of_ite, map_ite, nd_, and_db, or_db, ite_not, decide_eq_false_iff_not, mrI, e1, ei, deref_mr, dp, eu, eq_str, e2, a1, a2, a3, vadd_true, List.map_append, Vi.t, MR.pl, tailFresh, Int.zero_add]
    | go q _ _ =>
      have nq : Dt.isNon q.d = false := rfl
      have eq : evIx q.d (.int 0) = some (.int q.up) := ix_t0
      have dq : ∀ s, deref s q.d = q.d := fun s => rfl
      simp only [MR.pl] at a1 a2 a3
      simp only [B_p_visits_f1, ss_cons, ss_nil, s_setT', s_set', s_par', s_expr', s_ite', s_ret', s_retN', s_raise', e_var, e_non, e_bl, e_int, e_neg, e_str, e_bin, e_cmp, e_cmp2, e_and, e_or, e_not, e_ite, e_tup, e_lst, e_ix, e_isNon, e_notNon, e_call, e_blt, e_isi, e_rev, s_try', tryO_exc, tryO_nx, tryO_rt, tryO_ite, hs_nil, hs_cons, es_nil, es_cons, List.map_cons, List.map_nil, List.replicate, List.cons_append, List.nil_append, List.append_nil, List.getElem?_cons_zero, List.getElem?_cons_succ, lookV_some, ok_bind, ok_out, stuck_bind, stuck_out, onS_tup, onS_lst, onI_int, setAll, List.set_cons_zero, List.set_cons_succ, nxO_some, nx_then, rt_then, ite_then, exc_then, exc_bind, exc_out, finish_exc, deref_int, deref_bl, deref_str, deref_non, deref_tup, deref_lst, deref_scr, cmp_eq, cmp_ne, cmp_lt, cmp_le, cmp_gt, cmp_ge, Option.map_some, of_some', tru_bl, tru_int, tru_non, tru_tup0, tru_tup1, tru_lst0, tru_lst1, brB_t, brB_f, brB_d, finish_ite, finish_rt, finish_nx, ite_out, ite_bind, List.length_cons, List.length_nil, sz0, sz1, sz2, sz3, sz4, sz5, sz6, sz7, sz8, Nat.reduceAdd, Nat.reduceLeDiff, Nat.zero_le, Nat.zero_add, if_true, if_false, ↓reduceIte, ix_t0, ix_t1, ix_t2, ix_t3, ix_t4, ix_t5, ix_l0, ix_l1, leave_tup, leave_lst, leave_int, leave_bl, leave_str, leave_non, lo_int, lo_bl, lo_str, lo_non, lo_tup, lo_lst, loAll_nil, loAll_cons, loAll_ints, Bool.and_true, Bool.true_and, Bool.and_self, List.take_length, bin_add, bin_sub, int1_d, int1_bl, inn, ini, ins, int', inb, inl', Bool.not_true, Bool.not_false, decide_eq_true_eq, decide_true, decide_false, brB_b, slt_hi, slt_lo, slt_m1, sll_hi, sll_lo, mul_t0, mul_t1, Int.reduceLE, Int.reduceToNat, List.take_succ_cons, List.take_zero, List.drop_succ_cons, List.drop_zero, List.take_nil, List.drop_nil, Nat.reduceAdd, e_slHi, e_slLo, e_slLH, Int.reduceAdd, Int.add_zero, Int.mul_one, Int.mul_zero, Int.reduceNeg, List.getElem?_nil, Bool.false_eq_true, Int.reduceLT, Int.reduceEq, and_true, true_and, and_false, false_and, not_true_eq_false, not_false_eq_true, of_ite, map_ite, nd_, and_db, or_db, ite_not, decide_eq_false_iff_not, mrI, e1, ei, deref_mr, dp, eu, eq_str, e2, a1, a2, a3, vadd_true, List.map_append, Vi.t, MR.pl, tailFresh, nq, dq, eq, Int.zero_add]
  | false =>
    obtain ⟨v, hv1, hv2⟩ := hv rfl
    have hsp := last_split hv1
    refine ⟨some (.int g), some (.int v.who), some (.int v.pts), some (.int v.many), ?_⟩
    have hS' : S[K]? = some (.lst (fd.dropLast.map Vi.t ++ [v.t])) := by
      rw [hS, hsp]
      simp
    have h3 := set_get (es := fd.dropLast.map Vi.t) hS'
    have a2 := pop_ok (F := FTab fb (j + 5)) (ρ := [some (Rs R C), f, some (.ref K), some p.d, some (.bl false), some (De.stroke k).d, some m.pl, some (.int g), x8, x9, x10]) (x := .var 2) (by simp only [ss_cons, ss_nil, s_setT', s_set', s_par', s_expr', s_ite', s_ret', s_retN', s_raise', e_var, e_non, e_bl, e_int, e_neg, e_str, e_bin, e_cmp, e_cmp2, e_and, e_or, e_not, e_ite, e_tup, e_lst, e_ix, e_isNon, e_notNon, e_call, e_blt, e_isi, e_rev, s_try', tryO_exc, tryO_nx, tryO_rt, tryO_ite, hs_nil, hs_cons, es_nil, es_cons, List.map_cons, List.map_nil, List.replicate, List.cons_append, List.nil_append, List.append_nil, List.getElem?_cons_zero, List.getElem?_cons_succ, lookV_some, ok_bind, ok_out, stuck_bind, stuck_out, onS_tup, onS_lst, onI_int, setAll, List.set_cons_zero, List.set_cons_succ, nxO_some, nx_then, rt_then, ite_then, exc_then, exc_bind, exc_out, finish_exc, deref_int, deref_bl, deref_str, deref_non, deref_tup, deref_lst, deref_scr, cmp_eq, cmp_ne, cmp_lt, cmp_le, cmp_gt, cmp_ge, Option.map_some, of_some', tru_bl, tru_int, tru_non, tru_tup0, tru_tup1, tru_lst0, tru_lst1, brB_t, brB_f, brB_d, brB_nd, finish_ite, finish_rt, finish_nx, ite_out, ite_bind, List.length_cons, List.length_nil, sz0, sz1, sz2, sz3, sz4, sz5, sz6, sz7, sz8, Nat.reduceAdd, Nat.reduceLeDiff, Nat.zero_le, Nat.zero_add, if_true, if_false, ↓reduceIte, ix_t0, ix_t1, ix_t2, ix_t3, ix_t4, ix_t5, ix_l0, ix_l1, leave_tup, leave_lst, leave_int, leave_bl, leave_str, leave_non, lo_int, lo_bl, lo_str, lo_non, lo_tup, lo_lst, loAll_nil, loAll_cons, loAll_ints, Bool.and_true, Bool.true_and, Bool.and_self, List.take_length, bin_add, bin_sub, int1_d, int1_bl, inn, ini, ins, int', inb, inl', Bool.not_true, Bool.not_false, decide_eq_true_eq, decide_true, decide_false, brB_b, slt_hi, slt_lo, slt_m1, sll_hi, sll_lo, mul_t0, mul_t1, Int.reduceLE, Int.reduceToNat, List.take_succ_cons, List.take_zero, List.drop_succ_cons, List.drop_zero, List.take_nil, List.drop_nil, Nat.reduceAdd, e_slHi, e_slLo, e_slLH, Int.reduceAdd, Int.add_zero, Int.mul_one, Int.mul_zero, Int.reduceNeg, List.getElem?_nil, Bool.false_eq_true, Int.reduceLT, Int.reduceEq, and_true, true_and, and_false, false_and, not_true_eq_false, not_false_eq_true, of_ite, map_ite]) hS'
    have a3 := app_ok (F := FTab fb (j + 5)) (ρ := [some (Rs R C), f, some (.ref K), some p.d, some (.bl false), some (De.stroke k).d, some m.pl, some (.int g), some (.int v.who), some (.int v.pts), some (.int v.many)]) (x := .var 2) (e := .tup [.var 8, .bin .add (.var 9) (.var 7), .bin .add (.var 10) (.int 1)]) (d := .tup [.int v.who, .int (v.pts + g), .int (v.many + 1)]) (s := setCell S K (fd.dropLast.map Vi.t)) (s1 := setCell S K (fd.dropLast.map Vi.t)) (by simp only [ss_cons, ss_nil, s_setT', s_set', s_par', s_expr', s_ite', s_ret', s_retN', s_raise', e_var, e_non, e_bl, e_int, e_neg, e_str, e_bin, e_cmp, e_cmp2, e_and, e_or, e_not, e_ite, e_tup, e_lst, e_ix, e_isNon, e_notNon, e_call, e_blt, e_isi, e_rev, s_try', tryO_exc, tryO_nx, tryO_rt, tryO_ite, hs_nil, hs_cons, es_nil, es_cons, List.map_cons, List.map_nil, List.replicate, List.cons_append, List.nil_append, List.append_nil, List.getElem?_cons_zero, List.getElem?_cons_succ, lookV_some, ok_bind, ok_out, stuck_bind, stuck_out, onS_tup, onS_lst, onI_int, setAll, List.set_cons_zero, List.set_cons_succ, nxO_some, nx_then, rt_then, ite_then, exc_then, exc_bind, exc_out, finish_exc, deref_int, deref_bl, deref_str, deref_non, deref_tup, deref_lst, deref_scr, cmp_eq, cmp_ne, cmp_lt, cmp_le, cmp_gt, cmp_ge, Option.map_some, of_some', tru_bl, tru_int, tru_non, tru_tup0, tru_tup1, tru_lst0, tru_lst1, brB_t, brB_f, brB_d, brB_nd, finish_ite, finish_rt, finish_nx, ite_out, ite_bind, List.length_cons, List.length_nil, sz0, sz1, sz2, sz3, sz4, sz5, sz6, sz7, sz8, Nat.reduceAdd, Nat.reduceLeDiff, Nat.zero_le, Nat.zero_add, if_true, if_false, ↓reduceIte, ix_t0, ix_t1, ix_t2, ix_t3, ix_t4, ix_t5, ix_l0, ix_l1, leave_tup, leave_lst, leave_int, leave_bl, leave_str, leave_non, lo_int, lo_bl, lo_str, lo_non, lo_tup, lo_lst, loAll_nil, loAll_cons, loAll_ints, Bool.and_true, Bool.true_and, Bool.and_self, List.take_length, bin_add, bin_sub, int1_d, int1_bl, inn, ini, ins, int', inb, inl', Bool.not_true, Bool.not_false, decide_eq_true_eq, decide_true, decide_false, brB_b, slt_hi, slt_lo, slt_m1, sll_hi, sll_lo, mul_t0, mul_t1, Int.reduceLE, Int.reduceToNat, List.take_succ_cons, List.take_zero, List.drop_succ_cons, List.drop_zero, List.take_nil, List.drop_nil, Nat.reduceAdd, e_slHi, e_slLo, e_slLH, Int.reduceAdd, Int.add_zero, Int.mul_one, Int.mul_zero, Int.reduceNeg, List.getElem?_nil, Bool.false_eq_true, Int.reduceLT, Int.reduceEq, and_true, true_and, and_false, false_and, not_true_eq_false, not_false_eq_true, of_ite, map_ite]) (by simp only [ss_cons, ss_nil, s_setT', s_set', s_par', s_expr', s_ite', s_ret', s_retN', s_raise', e_var, e_non, e_bl, e_int, e_neg, e_str, e_bin, e_cmp, e_cmp2, e_and, e_or, e_not, e_ite, e_tup, e_lst, e_ix, e_isNon, e_notNon, e_call, e_blt, e_isi, e_rev, s_try', tryO_exc, tryO_nx, tryO_rt, tryO_ite, hs_nil, hs_cons, es_nil, es_cons, List.map_cons, List.map_nil, List.replicate, List.cons_append, List.nil_append, List.append_nil, List.getElem?_cons_zero, List.getElem?_cons_succ, lookV_some, ok_bind, ok_out, stuck_bind, stuck_out, onS_tup, onS_lst, onI_int, setAll, List.set_cons_zero, List.set_cons_succ, nxO_some, nx_then, rt_then, ite_then, exc_then, exc_bind, exc_out, finish_exc, deref_int, deref_bl, deref_str, deref_non, deref_tup, deref_lst, deref_scr, cmp_eq, cmp_ne, cmp_lt, cmp_le, cmp_gt, cmp_ge, Option.map_some, of_some', tru_bl, tru_int, tru_non, tru_tup0, tru_tup1, tru_lst0, tru_lst1, brB_t, brB_f, brB_d, brB_nd, finish_ite, finish_rt, finish_nx, ite_out, ite_bind, List.length_cons, List.length_nil, sz0, sz1, sz2, sz3, sz4, sz5, sz6, sz7, sz8, Nat.reduceAdd, Nat.reduceLeDiff, Nat.zero_le, Nat.zero_add, if_true, if_false, ↓reduceIte, ix_t0, ix_t1, ix_t2, ix_t3, ix_t4, ix_t5, ix_l0, ix_l1, leave_tup, leave_lst, leave_int, leave_bl, leave_str, leave_non, lo_int, lo_bl, lo_str, lo_non, lo_tup, lo_lst, loAll_nil, loAll_cons, loAll_ints, Bool.and_true, Bool.true_and, Bool.and_self, List.take_length, bin_add, bin_sub, int1_d, int1_bl, inn, ini, ins, int', inb, inl', Bool.not_true, Bool.not_false, decide_eq_true_eq, decide_true, decide_false, brB_b, slt_hi, slt_lo, slt_m1, sll_hi, sll_lo, mul_t0, mul_t1, Int.reduceLE, Int.reduceToNat, List.take_succ_cons, List.take_zero, List.drop_succ_cons, List.drop_zero, List.take_nil, List.drop_nil, Nat.reduceAdd, e_slHi, e_slLo, e_slLH, Int.reduceAdd, Int.add_zero, Int.mul_one, Int.mul_zero, Int.reduceNeg, List.getElem?_nil, Bool.false_eq_true, Int.reduceLT, Int.reduceEq, and_true, true_and, and_false, false_and, not_true_eq_false, not_false_eq_true, of_ite, map_ite]) h3 h3 (by unfold lineM; simp; omega) rfl
    rw [set_set] at a3
    rw [forOne_nm]
    have vt : v.t = .tup [.int v.who, .int v.pts, .int v.many] := rfl
    simp only [ed] at a2 a3 e1 ⊢
    cases m with
    | now => exact absurd rfl hn
    | over _ _ _ =>
      simp only [MR.pl] at a2 a3
      simp only [B_p_visits_f1, ss_cons, ss_nil, s_setT', s_set', s_par', s_expr', s_ite', s_ret', s_retN', s_raise', e_var, e_non, e_bl, e_int, e_neg, e_str, e_bin, e_cmp, e_cmp2, e_and, e_or, e_not, e_ite, e_tup, e_lst, e_ix, e_isNon, e_notNon, e_call, e_blt, e_isi, e_rev, s_try', tryO_exc, tryO_nx, tryO_rt, tryO_ite, hs_nil, hs_cons, es_nil, es_cons, List.map_cons, List.map_nil, List.replicate, List.cons_append, List.nil_append, List.append_nil, List.getElem?_cons_zero, List.getElem?_cons_succ, lookV_some, ok_bind, ok_out, stuck_bind, stuck_out, onS_tup, onS_lst, onI_int, setAll, List.set_cons_zero, List.set_cons_succ, nxO_some, nx_then, rt_then, ite_then, exc_then, exc_bind, exc_out, finish_exc, deref_int, deref_bl, deref_str, deref_non, deref_tup, deref_lst, deref_scr, cmp_eq, cmp_ne, cmp_lt, cmp_le, cmp_gt, cmp_ge, Option.map_some, of_some', tru_bl, tru_int, tru_non, tru_tup0, tru_tup1, tru_lst0, tru_lst1, brB_t, brB_f, brB_d, finish_ite, finish_rt, finish_nx, ite_out, ite_bind, List.length_cons, List.length_nil, sz0, sz1, sz2, sz3, sz4, sz5, sz6, sz7, sz8, Nat.reduceAdd, Nat.reduceLeDiff, Nat.zero_le, Nat.zero_add, if_true, if_false, ↓reduceIte, ix_t0, ix_t1, ix_t2, ix_t3, ix_t4, ix_t5, ix_l0, ix_l1, leave_tup, leave_lst, leave_int, leave_bl, leave_str, leave_non, lo_int, lo_bl, lo_str, lo_non, lo_tup, lo_lst, loAll_nil, loAll_cons, loAll_ints, Bool.and_true, Bool.true_and, Bool.and_self, List.take_length, bin_add, bin_sub, int1_d, int1_bl, inn, ini, ins, int', inb, inl', Bool.not_true, Bool.not_false, decide_eq_true_eq, decide_true, decide_false, brB_b, slt_hi, slt_lo, slt_m1, sll_hi, sll_lo, mul_t0, mul_t1, Int.reduceLE, Int.reduceToNat, List.take_succ_cons, List.take_zero, List.drop_succ_cons, List.drop_zero, List.take_nil, List.drop_nil, Nat.reduceAdd, e_slHi, e_slLo, e_slLH, Int.reduceAdd, Int.add_zero, Int.mul_one, Int.mul_zero, Int.reduceNeg, List.getElem?_nil, Bool.false_eq_true, Int.reduceLT, Int.reduceEq, and_true, true_and, and_false, false_and, not_true_eq_false, not_false_eq_true, of_ite, map_ite, nd_, and_db, or_db, ite_not, decide_eq_false_iff_not, mrI, e1, ei, deref_mr, dp, eu, eq_str, e2, a2, vt, a3, ← hv2, vadd_false hv1, List.map_append, Vi.t, MR.pl, tailFresh]
    | go q _ _ =>
      have nq : Dt.isNon q.d = false := rfl
      have eq : evIx q.d (.int 0) = some (.int q.up) := ix_t0
      have dq : ∀ s, deref s q.d = q.d := fun s => rfl
      simp only [MR.pl] at a2 a3
      simp only [B_p_visits_f1, ss_cons, ss_nil, s_setT', s_set', s_par', s_expr', s_ite', s_ret', s_retN', s_raise', e_var, e_non, e_bl, e_int, e_neg, e_str, e_bin, e_cmp, e_cmp2, e_and, e_or, e_not, e_ite, e_tup, e_lst, e_ix, e_isNon, e_notNon, e_call, e_blt, e_isi, e_rev, s_try', tryO_exc, tryO_nx, tryO_rt, tryO_ite, hs_nil, hs_cons, es_nil, es_cons, List.map_cons, List.map_nil, List.replicate, List.cons_append, List.nil_append, List.append_nil, List.getElem?_cons_zero, List.getElem?_cons_succ, lookV_some, ok_bind, ok_out, stuck_bind, stuck_out, onS_tup, onS_lst, onI_int, setAll, List.set_cons_zero, List.set_cons_succ, nxO_some, nx_then, rt_then, ite_then, exc_then, exc_bind, exc_out, finish_exc, deref_int, deref_bl, deref_str, deref_non, deref_tup, deref_lst, deref_scr, cmp_eq, cmp_ne, cmp_lt, cmp_le, cmp_gt, cmp_ge, Option.map_some, of_some', tru_bl, tru_int, tru_non, tru_tup0, tru_tup1, tru_lst0, tru_lst1, brB_t, brB_f, brB_d, finish_ite, finish_rt, finish_nx, ite_out, ite_bind, List.length_cons, List.length_nil, sz0, sz1, sz2, sz3, sz4, sz5, sz6, sz7, sz8, Nat.reduceAdd, Nat.reduceLeDiff, Nat.zero_le, Nat.zero_add, if_true, if_false, ↓reduceIte, ix_t0, ix_t1, ix_t2, ix_t3, ix_t4, ix_t5, ix_l0, ix_l1, leave_tup, leave_lst, leave_int, leave_bl, leave_str, leave_non, lo_int, lo_bl, lo_str, lo_non, lo_tup, lo_lst, loAll_nil, loAll_cons, loAll_ints, Bool.and_true, Bool.true_and, Bool.and_self, List.take_length, bin_add, bin_sub, int1_d, int1_bl, inn, ini, ins, int', inb, inl', Bool.not_true, Bool.not_false, decide_eq_true_eq, decide_true, decide_false, brB_b, slt_hi, slt_lo, slt_m1, sll_hi, sll_lo, mul_t0, mul_t1, Int.reduceLE, Int.reduceToNat, List.take_succ_cons, List.take_zero, List.drop_succ_cons, List.drop_zero, List.take_nil, List.drop_nil, Nat.reduceAdd, e_slHi, e_slLo, e_slLH, Int.reduceAdd, Int.add_zero, Int.mul_one, Int.mul_zero, Int.reduceNeg, List.getElem?_nil, Bool.false_eq_true, Int.reduceLT, Int.reduceEq, and_true, true_and, and_false, false_and, not_true_eq_false, not_false_eq_true, of_ite, map_ite, nd_, and_db, or_db, ite_not, decide_eq_false_iff_not, mrI, e1, ei, deref_mr, dp, eu, eq_str, e2, a2, vt, a3, ← hv2, vadd_false hv1, List.map_append, Vi.t, MR.pl, tailFresh, nq, dq, eq]
end MP
/-! P22: plain: the program's visits. -/
namespace MP
open PySem
theorem s_gp : ¬ (Str.ofString "give" = Str.ofString "pass") := by decide +kernel
theorem s_fp : ¬ (Str.ofString "free" = Str.ofString "pass") := by decide +kernel
/-- a deed that is no stroke -/
def De.fresh : De → Bool → Bool
  | .pass, _ => true
  | _, fr => fr
theorem pv_other {j : Nat} {R C : Int} {p : Pl} {d : De} {K : Nat} {S : Sta} {fr : Bool} {f x5 x6 x7 x8 x9 x10 : Option Dt} (G : Good R C p) (hR : R ≤ 1000) (hC : 1 ≤ C) (hd : ∀ k, d ≠ .stroke k) (hn : moved C p d ≠ .now) :
    forOne (FTab fb (j + 5)) (.nm 5) B_p_visits_f1 d.d [some (Rs R C), f, some (.ref K), some p.d, some (.bl fr), x5, x6, x7, x8, x9, x10] S =
      .nx [some (Rs R C), f, some (.ref K), some (moved C p d).pl, some (.bl (d.fresh fr)), some d.d, some (moved C p d).pl, x7, x8, x9, x10] S := by
  have e1 := p_behind (j := j) (s := S) (de := d) G hR hC (by cases d <;> first | trivial | exact absurd rfl (hd _))
  rw [mr_ok hn] at e1
  have ei := ix_mrpl hn
  generalize moved C p d = m at e1 ei hn ⊢
  rw [forOne_nm]
  cases d with
  | stroke k => exact absurd rfl (hd k)
  | give => simp only [De.d] at e1 ⊢; simp only [B_p_visits_f1, ss_cons, ss_nil, s_setT', s_set', s_par', s_expr', s_ite', s_ret', s_retN', s_raise', e_var, e_non, e_bl, e_int, e_neg, e_str, e_bin, e_cmp, e_cmp2, e_and, e_or, e_not, e_ite, e_tup, e_lst, e_ix, e_isNon, e_notNon, e_call, e_blt, e_isi, e_rev, s_try', tryO_exc, tryO_nx, tryO_rt, tryO_ite, hs_nil, hs_cons, es_nil, es_cons, List.map_cons, List.map_nil, List.replicate, List.cons_append, List.nil_append, List.append_nil, List.getElem?_cons_zero, List.getElem?_cons_succ, lookV_some, ok_bind, ok_out, stuck_bind, stuck_out, onS_tup, onS_lst, onI_int, setAll, List.set_cons_zero, List.set_cons_succ, nxO_some, nx_then, rt_then, ite_then, exc_then, exc_bind, exc_out, finish_exc, deref_int, deref_bl, deref_str, deref_non, deref_tup, deref_lst, deref_scr, cmp_eq, cmp_ne, cmp_lt, cmp_le, cmp_gt, cmp_ge, Option.map_some, of_some', tru_bl, tru_int, tru_non, tru_tup0, tru_tup1, tru_lst0, tru_lst1, brB_t, brB_f, brB_d, brB_nd, finish_ite, finish_rt, finish_nx, ite_out, ite_bind, List.length_cons, List.length_nil, sz0, sz1, sz2, sz3, sz4, sz5, sz6, sz7, sz8, Nat.reduceAdd, Nat.reduceLeDiff, Nat.zero_le, Nat.zero_add, if_true, if_false, ↓reduceIte, ix_t0, ix_t1, ix_t2, ix_t3, ix_t4, ix_t5, ix_l0, ix_l1, leave_tup, leave_lst, leave_int, leave_bl, leave_str, leave_non, lo_int, lo_bl, lo_str, lo_non, lo_tup, lo_lst, loAll_nil, loAll_cons, loAll_ints, Bool.and_true, Bool.true_and, Bool.and_self, List.take_length, bin_add, bin_sub, int1_d, int1_bl, inn, ini, ins, int', inb, inl', Bool.not_true, Bool.not_false, decide_eq_true_eq, decide_true, decide_false, brB_b, slt_hi, slt_lo, slt_m1, sll_hi, sll_lo, mul_t0, mul_t1, Int.reduceLE, Int.reduceToNat, List.take_succ_cons, List.take_zero, List.drop_succ_cons, List.drop_zero, List.take_nil, List.drop_nil, Nat.reduceAdd, e_slHi, e_slLo, e_slLH, Int.reduceAdd, Int.add_zero, Int.mul_one, Int.mul_zero, Int.reduceNeg, List.getElem?_nil, Bool.false_eq_true, Int.reduceLT, Int.reduceEq, and_true, true_and, and_false, false_and, not_true_eq_false, not_false_eq_true, of_ite, map_ite, e1, ei, deref_mr, eq_str, s_gs, s_gp, De.fresh]
  | free => simp only [De.d] at e1 ⊢; simp only [B_p_visits_f1, ss_cons, ss_nil, s_setT', s_set', s_par', s_expr', s_ite', s_ret', s_retN', s_raise', e_var, e_non, e_bl, e_int, e_neg, e_str, e_bin, e_cmp, e_cmp2, e_and, e_or, e_not, e_ite, e_tup, e_lst, e_ix, e_isNon, e_notNon, e_call, e_blt, e_isi, e_rev, s_try', tryO_exc, tryO_nx, tryO_rt, tryO_ite, hs_nil, hs_cons, es_nil, es_cons, List.map_cons, List.map_nil, List.replicate, List.cons_append, List.nil_append, List.append_nil, List.getElem?_cons_zero, List.getElem?_cons_succ, lookV_some, ok_bind, ok_out, stuck_bind, stuck_out, onS_tup, onS_lst, onI_int, setAll, List.set_cons_zero, List.set_cons_succ, nxO_some, nx_then, rt_then, ite_then, exc_then, exc_bind, exc_out, finish_exc, deref_int, deref_bl, deref_str, deref_non, deref_tup, deref_lst, deref_scr, cmp_eq, cmp_ne, cmp_lt, cmp_le, cmp_gt, cmp_ge, Option.map_some, of_some', tru_bl, tru_int, tru_non, tru_tup0, tru_tup1, tru_lst0, tru_lst1, brB_t, brB_f, brB_d, brB_nd, finish_ite, finish_rt, finish_nx, ite_out, ite_bind, List.length_cons, List.length_nil, sz0, sz1, sz2, sz3, sz4, sz5, sz6, sz7, sz8, Nat.reduceAdd, Nat.reduceLeDiff, Nat.zero_le, Nat.zero_add, if_true, if_false, ↓reduceIte, ix_t0, ix_t1, ix_t2, ix_t3, ix_t4, ix_t5, ix_l0, ix_l1, leave_tup, leave_lst, leave_int, leave_bl, leave_str, leave_non, lo_int, lo_bl, lo_str, lo_non, lo_tup, lo_lst, loAll_nil, loAll_cons, loAll_ints, Bool.and_true, Bool.true_and, Bool.and_self, List.take_length, bin_add, bin_sub, int1_d, int1_bl, inn, ini, ins, int', inb, inl', Bool.not_true, Bool.not_false, decide_eq_true_eq, decide_true, decide_false, brB_b, slt_hi, slt_lo, slt_m1, sll_hi, sll_lo, mul_t0, mul_t1, Int.reduceLE, Int.reduceToNat, List.take_succ_cons, List.take_zero, List.drop_succ_cons, List.drop_zero, List.take_nil, List.drop_nil, Nat.reduceAdd, e_slHi, e_slLo, e_slLH, Int.reduceAdd, Int.add_zero, Int.mul_one, Int.mul_zero, Int.reduceNeg, List.getElem?_nil, Bool.false_eq_true, Int.reduceLT, Int.reduceEq, and_true, true_and, and_false, false_and, not_true_eq_false, not_false_eq_true, of_ite, map_ite, e1, ei, deref_mr, eq_str, s_fs, s_fp, De.fresh]
  | pass => simp only [De.d] at e1 ⊢; simp only [B_p_visits_f1, ss_cons, ss_nil, s_setT', s_set', s_par', s_expr', s_ite', s_ret', s_retN', s_raise', e_var, e_non, e_bl, e_int, e_neg, e_str, e_bin, e_cmp, e_cmp2, e_and, e_or, e_not, e_ite, e_tup, e_lst, e_ix, e_isNon, e_notNon, e_call, e_blt, e_isi, e_rev, s_try', tryO_exc, tryO_nx, tryO_rt, tryO_ite, hs_nil, hs_cons, es_nil, es_cons, List.map_cons, List.map_nil, List.replicate, List.cons_append, List.nil_append, List.append_nil, List.getElem?_cons_zero, List.getElem?_cons_succ, lookV_some, ok_bind, ok_out, stuck_bind, stuck_out, onS_tup, onS_lst, onI_int, setAll, List.set_cons_zero, List.set_cons_succ, nxO_some, nx_then, rt_then, ite_then, exc_then, exc_bind, exc_out, finish_exc, deref_int, deref_bl, deref_str, deref_non, deref_tup, deref_lst, deref_scr, cmp_eq, cmp_ne, cmp_lt, cmp_le, cmp_gt, cmp_ge, Option.map_some, of_some', tru_bl, tru_int, tru_non, tru_tup0, tru_tup1, tru_lst0, tru_lst1, brB_t, brB_f, brB_d, brB_nd, finish_ite, finish_rt, finish_nx, ite_out, ite_bind, List.length_cons, List.length_nil, sz0, sz1, sz2, sz3, sz4, sz5, sz6, sz7, sz8, Nat.reduceAdd, Nat.reduceLeDiff, Nat.zero_le, Nat.zero_add, if_true, if_false, ↓reduceIte, ix_t0, ix_t1, ix_t2, ix_t3, ix_t4, ix_t5, ix_l0, ix_l1, leave_tup, leave_lst, leave_int, leave_bl, leave_str, leave_non, lo_int, lo_bl, lo_str, lo_non, lo_tup, lo_lst, loAll_nil, loAll_cons, loAll_ints, Bool.and_true, Bool.true_and, Bool.and_self, List.take_length, bin_add, bin_sub, int1_d, int1_bl, inn, ini, ins, int', inb, inl', Bool.not_true, Bool.not_false, decide_eq_true_eq, decide_true, decide_false, brB_b, slt_hi, slt_lo, slt_m1, sll_hi, sll_lo, mul_t0, mul_t1, Int.reduceLE, Int.reduceToNat, List.take_succ_cons, List.take_zero, List.drop_succ_cons, List.drop_zero, List.take_nil, List.drop_nil, Nat.reduceAdd, e_slHi, e_slLo, e_slLH, Int.reduceAdd, Int.add_zero, Int.mul_one, Int.mul_zero, Int.reduceNeg, List.getElem?_nil, Bool.false_eq_true, Int.reduceLT, Int.reduceEq, and_true, true_and, and_false, false_and, not_true_eq_false, not_false_eq_true, of_ite, map_ite, e1, ei, deref_mr, eq_str, s_ps, De.fresh]
theorem vis_other {C : Int} {p : Pl} {a b : Int} {d : De} {fd : List Vi} {fr : Bool} {ds : List De} (hd : ∀ k, d ≠ .stroke k) : vis C (.go p a b) fd fr (d :: ds) = vis C (moved C p d) fd (d.fresh fr) ds := by
  cases d <;> first | rfl | exact absurd rfl (hd _)
theorem vok_other {C : Int} {p : Pl} {a b : Int} {d : De} {fd : List Vi} {fr : Bool} (hd : ∀ k, d ≠ .stroke k) (h : VOk (.go p a b) fd fr) : VOk (moved C p d) fd (d.fresh fr) := by
  cases d with
  | stroke k => exact absurd rfl (hd k)
  | free => exact vok_free h
  | pass => exact vok_true
  | give => simp only [moved]; trivial
theorem vis_nil {C : Int} {m : MR} {fd : List Vi} {fr : Bool} : vis C m fd fr [] = fd := by cases m <;> rfl
theorem pv_go {j : Nat} {R C : Int} {m : MR} {K : Nat} {f : Option Dt} (hR : R ≤ 1000) (hC : 1 ≤ C) (hn : m ≠ .now) : ∀ (ds : List De) (m0 : MR) (fd : List Vi) (fr fr' : Bool) (S : Sta) (x5 x6 x7 x8 x9 x10 : Option Dt), (∀ d ∈ ds, DeOk R C d) → m0.good R C → ledR C m0 ds = some m → VOk m0 fd fr → (∀ p a b, m0 = .go p a b → fr' = fr) → fd.length + ds.length ≤ 1000 → S[K]? = some (.lst (fd.map Vi.t)) →
    ∃ y3 y4 y5 y6 y7 y8 y9 y10, forGo (forOne (FTab fb (j + 5)) (.nm 5) B_p_visits_f1) (ds.map De.d) [some (Rs R C), f, some (.ref K), some m0.pl, some (.bl fr'), x5, x6, x7, x8, x9, x10] S =
      .nx [some (Rs R C), f, some (.ref K), y3, y4, y5, y6, y7, y8, y9, y10] (setCell S K ((vis C m0 fd fr ds).map Vi.t))
  | [], m0, fd, fr, fr', S, x5, x6, x7, x8, x9, x10, _, _, h, _, _, _, hS => ⟨_, _, _, _, _, _, _, _, by rw [vis_nil, set_same hS]; rfl⟩
  | d :: ds, .now, fd, fr, fr', S, x5, x6, x7, x8, x9, x10, hs, hg, h, hv, hf, hl, hS => by simp [ledR] at h
  | d :: ds, .over _ _ _, fd, fr, fr', S, x5, x6, x7, x8, x9, x10, hs, hg, h, hv, hf, hl, hS => by simp [ledR] at h
  | d :: ds, .go p a b, fd, fr, fr', S, x5, x6, x7, x8, x9, x10, hs, hg, h, hv, hf, hl, hS => by
    simp only [ledR] at h
    have hg' : Good R C p := hg
    have ho := hs d List.mem_cons_self
    have hnn : moved C p d ≠ .now := fun z => hn (led_now (by rw [z] at h; exact h))
    have hgg : (moved C p d).good R C := by
      cases hq : moved C p d with
      | go q a' b' => exact moved_good hg' hC hq
      | _ => trivial
    cases hf p a b rfl
    rw [List.map_cons, forGo]
    simp only [List.length_cons] at hl
    by_cases hk : ∃ k, d = .stroke k
    · obtain ⟨k, rfl⟩ := hk
      obtain ⟨y7, y8, y9, y10, e⟩ := pv_stroke (j := j) (a := a) (b := b) (f := f) (x5 := x5) (x6 := x6) (x7 := x7) (x8 := x8) (x9 := x9) (x10 := x10) hg' hR hC ho hnn hv (by omega) hS
      have e0 : (MR.go p a b).pl = p.d := rfl
      rw [e0, e, nx_then]
      have hS2 := set_get (es := (vadd fd fr p.up (judged p k).1).map Vi.t) hS
      obtain ⟨z3, z4, z5, z6, z7, z8, z9, z10, e2⟩ := pv_go (j := j) (f := f) hR hC hn ds (moved C p (.stroke k)) (vadd fd fr p.up (judged p k).1) (nextFresh p.up (moved C p (.stroke k))) (tailFresh p.up (moved C p (.stroke k))) (setCell S K ((vadd fd fr p.up (judged p k).1).map Vi.t)) (some (De.stroke k).d) (some (moved C p (.stroke k)).pl) y7 y8 y9 y10
        (fun x hx => hs x (List.mem_cons_of_mem _ hx)) hgg h (vok_stroke (R := R) hv) (fun q _ _ hq => by rw [hq]; rfl) (by have := vadd_len (fd := fd) (fr := fr) (up := p.up) (g := (judged p k).1); omega) hS2
      rw [set_set] at e2
      exact ⟨_, _, _, _, _, _, _, _, e2⟩
    · have hd : ∀ k, d ≠ .stroke k := fun k z => hk ⟨k, z⟩
      have e := pv_other (j := j) (S := S) (K := K) (fr := fr) (f := f) (x5 := x5) (x6 := x6) (x7 := x7) (x8 := x8) (x9 := x9) (x10 := x10) hg' hR hC hd hnn
      have e0 : (MR.go p a b).pl = p.d := rfl
      rw [e0, e, nx_then, vis_other hd]
      exact pv_go hR hC hn ds (moved C p d) fd (d.fresh fr) (d.fresh fr) S _ _ _ _ _ _ (fun x hx => hs x (List.mem_cons_of_mem _ hx)) hgg h (vok_other hd hv) (fun _ _ _ _ => rfl) (by omega) hS
/-- the visits of a frame -/
def visits (R C pl : Int) (ds : List De) : List Vi := vis C (.go (stt R pl) 0 0) [] true ds
theorem loAll_vi {n : Nat} (l : List Vi) : Dt.loAll n (l.map Vi.t) = true := loAll_map (fun _ => rfl) l
theorem p_visits {j : Nat} {R C pl : Int} {ds : List De} {m : MR} {s : Sta} (f : Frm R C pl ds m) (hz : ds.length ≤ 1000) : FTab fb (j + 6) 59 [Rs R C, Fd pl ds] s = .ok (.tup ((visits R C pl ds).map Vi.t)) s := by
  show FTab fb ((j + 5) + 1) 59 _ s = _
  rw [t_p_visits rfl]
  have hb := p_first_place (j := j + 4) (R := R) (C := C) (pl := pl) (s := (s ++ [Cell.lst []] : Sta))
  have hS : (s ++ [Cell.lst []] : Sta)[s.length]? = some (.lst (([] : List Vi).map Vi.t)) := by simp
  obtain ⟨y3, y4, y5, y6, y7, y8, y9, y10, e⟩ := pv_go (j := j) (f := some (Fd pl ds)) (K := s.length) (by have := f.R2; omega) f.C1 f.nn ds (.go (stt R pl) 0 0) [] true true (s ++ [Cell.lst []] : Sta) none none none none none none f.ok (stt_good f.hp f.R1 f.C1) f.led vok_true (fun _ _ _ _ => rfl) (by simpa using hz) hS
  have hg := set_get (es := (visits R C pl ds).map Vi.t) hS
  have lo : Dt.lo s.length (.tup ((visits R C pl ds).map Vi.t)) = true := by rw [lo_tup]; exact loAll_vi _
  have e0 : (MR.go (stt R pl) 0 0).pl = (stt R pl).d := rfl
  have ev : vis C (.go (stt R pl) 0 0) [] true ds = visits R C pl ds := rfl
  simp only [Fd, e0, ev] at e
  simp only [B_p_visits, ss_cons, ss_nil, s_setT', s_set', s_par', s_expr', s_ite', s_ret', s_retN', s_raise', e_var, e_non, e_bl, e_int, e_neg, e_str, e_bin, e_cmp, e_cmp2, e_and, e_or, e_not, e_ite, e_tup, e_lst, e_ix, e_isNon, e_notNon, e_call, e_blt, e_isi, e_rev, s_try', tryO_exc, tryO_nx, tryO_rt, tryO_ite, hs_nil, hs_cons, es_nil, es_cons, List.map_cons, List.map_nil, List.replicate, List.cons_append, List.nil_append, List.append_nil, List.getElem?_cons_zero, List.getElem?_cons_succ, lookV_some, ok_bind, ok_out, stuck_bind, stuck_out, onS_tup, onS_lst, onI_int, setAll, List.set_cons_zero, List.set_cons_succ, nxO_some, nx_then, rt_then, ite_then, exc_then, exc_bind, exc_out, finish_exc, deref_int, deref_bl, deref_str, deref_non, deref_tup, deref_lst, deref_scr, cmp_eq, cmp_ne, cmp_lt, cmp_le, cmp_gt, cmp_ge, Option.map_some, of_some', tru_bl, tru_int, tru_non, tru_tup0, tru_tup1, tru_lst0, tru_lst1, brB_t, brB_f, brB_d, brB_nd, finish_ite, finish_rt, finish_nx, ite_out, ite_bind, List.length_cons, List.length_nil, sz0, sz1, sz2, sz3, sz4, sz5, sz6, sz7, sz8, Nat.reduceAdd, Nat.reduceLeDiff, Nat.zero_le, Nat.zero_add, if_true, if_false, ↓reduceIte, ix_t0, ix_t1, ix_t2, ix_t3, ix_t4, ix_t5, ix_l0, ix_l1, leave_tup, leave_lst, leave_int, leave_bl, leave_str, leave_non, lo_int, lo_bl, lo_str, lo_non, lo_tup, lo_lst, loAll_nil, loAll_cons, loAll_ints, Bool.and_true, Bool.true_and, Bool.and_self, List.take_length, bin_add, bin_sub, int1_d, int1_bl, inn, ini, ins, int', inb, inl', Bool.not_true, Bool.not_false, decide_eq_true_eq, decide_true, decide_false, brB_b, slt_hi, slt_lo, slt_m1, sll_hi, sll_lo, mul_t0, mul_t1, Int.reduceLE, Int.reduceToNat, List.take_succ_cons, List.take_zero, List.drop_succ_cons, List.drop_zero, List.take_nil, List.drop_nil, Nat.reduceAdd, e_slHi, e_slLo, e_slLH, Int.reduceAdd, Int.add_zero, Int.mul_one, Int.mul_zero, Int.reduceNeg, List.getElem?_nil, Bool.false_eq_true, Int.reduceLT, Int.reduceEq, and_true, true_and, and_false, false_and, not_true_eq_false, not_false_eq_true, of_ite, map_ite, Fd, e_mlst, decide_eq_true sz0, hb, s_for', i_e, items_tup, e]
  simp only [deref_ref hg, tupleOf_lst, ss_cons, ss_nil, s_setT', s_set', s_par', s_expr', s_ite', s_ret', s_retN', s_raise', e_var, e_non, e_bl, e_int, e_neg, e_str, e_bin, e_cmp, e_cmp2, e_and, e_or, e_not, e_ite, e_tup, e_lst, e_ix, e_isNon, e_notNon, e_call, e_blt, e_isi, e_rev, s_try', tryO_exc, tryO_nx, tryO_rt, tryO_ite, hs_nil, hs_cons, es_nil, es_cons, List.map_cons, List.map_nil, List.replicate, List.cons_append, List.nil_append, List.append_nil, List.getElem?_cons_zero, List.getElem?_cons_succ, lookV_some, ok_bind, ok_out, stuck_bind, stuck_out, onS_tup, onS_lst, onI_int, setAll, List.set_cons_zero, List.set_cons_succ, nxO_some, nx_then, rt_then, ite_then, exc_then, exc_bind, exc_out, finish_exc, deref_int, deref_bl, deref_str, deref_non, deref_tup, deref_lst, deref_scr, cmp_eq, cmp_ne, cmp_lt, cmp_le, cmp_gt, cmp_ge, Option.map_some, of_some', tru_bl, tru_int, tru_non, tru_tup0, tru_tup1, tru_lst0, tru_lst1, brB_t, brB_f, brB_d, brB_nd, finish_ite, finish_rt, finish_nx, ite_out, ite_bind, List.length_cons, List.length_nil, sz0, sz1, sz2, sz3, sz4, sz5, sz6, sz7, sz8, Nat.reduceAdd, Nat.reduceLeDiff, Nat.zero_le, Nat.zero_add, if_true, if_false, ↓reduceIte, ix_t0, ix_t1, ix_t2, ix_t3, ix_t4, ix_t5, ix_l0, ix_l1, leave_tup, leave_lst, leave_int, leave_bl, leave_str, leave_non, lo_int, lo_bl, lo_str, lo_non, lo_tup, lo_lst, loAll_nil, loAll_cons, loAll_ints, Bool.and_true, Bool.true_and, Bool.and_self, List.take_length, bin_add, bin_sub, int1_d, int1_bl, inn, ini, ins, int', inb, inl', Bool.not_true, Bool.not_false, decide_eq_true_eq, decide_true, decide_false, brB_b, slt_hi, slt_lo, slt_m1, sll_hi, sll_lo, mul_t0, mul_t1, Int.reduceLE, Int.reduceToNat, List.take_succ_cons, List.take_zero, List.drop_succ_cons, List.drop_zero, List.take_nil, List.drop_nil, Nat.reduceAdd, e_slHi, e_slLo, e_slLH, Int.reduceAdd, Int.add_zero, Int.mul_one, Int.mul_zero, Int.reduceNeg, List.getElem?_nil, Bool.false_eq_true, Int.reduceLT, Int.reduceEq, and_true, true_and, and_false, false_and, not_true_eq_false, not_false_eq_true, of_ite, map_ite, leave_ok lo]
  rw [set_take (Nat.le_refl _)]
  simp
end MP
/-! P23: plain: cells set at a place; the law's own visits. -/
namespace MP
open PySem
section
variable {F : FT} {ρ : Env} {s : Sta}
def setIxO (o j d : Dt) (ρ : Env) (s : Sta) : Out := match o, j with
    | .ref k, .int i => match s[k]? with
      | some (.lst ds) => match L2.ixN ds.length i with
        | some n => if Dt.lo k d then .nx ρ (setCell s k (ds.set n d)) else .stuck
        | none => .stuck
      | _ => .stuck
    | _, _ => .stuck
theorem s_setIx' {x ix e : E} : evS F (.setIx x ix e) ρ s = (evE F ρ e s).out ρ fun d s => (evE F ρ x s).out ρ fun o s => (evE F ρ ix s).out ρ fun j s => setIxO o j d ρ s := by rw [evS]; rfl
theorem setIxO_mk {k n : Nat} {i : Int} {d : Dt} {ds : List Dt} (h : s[k]? = some (.lst ds)) (hi : L2.ixN ds.length i = some n) (lo : Dt.lo k d = true) : setIxO (.ref k) (.int i) d ρ s = .nx ρ (setCell s k (ds.set n d)) := by
  unfold setIxO; simp only [h, hi, lo, if_true]
theorem ixN_last {n : Nat} : L2.ixN (n + 1) (-1) = some n := by
  unfold L2.ixN
  rw [if_neg (by omega), if_pos (by omega)]
  congr 1
  omega
theorem setIxO_last {k : Nat} {d e : Dt} {ds : List Dt} (h : s[k]? = some (.lst (ds ++ [e]))) (lo : Dt.lo k d = true) : setIxO (.ref k) (.int (-1)) d ρ s = .nx ρ (setCell s k (ds ++ [d])) := by
  rw [setIxO_mk (n := ds.length) h (by rw [List.length_append]; exact ixN_last) lo]
  congr 2
  simp
theorem ix_last {ds : List Dt} {d : Dt} : evIx (.lst (ds ++ [d])) (.int (-1)) = some d := by
  show L2.atI _ _ = _
  unfold L2.atI
  rw [List.length_append, show [d].length = 1 from rfl, ixN_last]
  simp
end
theorem s_sp : ¬ (Str.ofString "stroke" = Str.ofString "pass") := by decide +kernel
theorem lv_stroke {j : Nat} {R C : Int} {p : Pl} {k : Sk} {a b : Int} {K : Nat} {S : Sta} {fd : List Vi} {fr : Bool} {f x5 x6 x7 x8 : Option Dt} (G : Good R C p) (hR : R ≤ 1000) (hC : 1 ≤ C) (o : SkOk R C k) (hn : moved C p (.stroke k) ≠ .now) (hv : VOk (.go p a b) fd fr) (hl : fd.length ≤ 1000) (hS : S[K]? = some (.lst (fd.map Vi.l))) :
    ∃ y7, forOne (FTab fb (j + 5)) (.nm 5) B_law_own_visits_f1 (De.stroke k).d [some (Rs R C), f, some (.ref K), some (MR.go p a b).d, some (.bl fr), x5, x6, x7, x8] S =
      .nx [some (Rs R C), f, some (.ref K), some (moved C p (.stroke k)).d, some (.bl (nextFresh p.up (moved C p (.stroke k)))), some (De.stroke k).d, some p.d, y7, x8] (setCell S K ((vadd fd fr p.up (judged p k).1).map Vi.l)) := by
  have e1 := l_moved (j := j + 2) (R := R) (C := C) (p := p) (de := .stroke k) (s := S) G.up (by have := G.l2; omega) (by have := G.rR; omega) (DeOk.small (show DeOk R C (.stroke k) from o))
  have e2 := l_judged (j := j + 3) (p := p) (k := k) (s := S) (by have := o.ln; omega)
  have ed : (De.stroke k).d = .tup (.str "stroke" :: k.ds) := rfl
  have eu : evIx p.d (.int 0) = some (.int p.up) := ix_t0
  have dp : ∀ s, deref s p.d = p.d := fun s => rfl
  generalize hm : moved C p (.stroke k) = m at e1 hn ⊢
  generalize (judged p k).1 = g at e2 ⊢
  have i2 : ∀ {a b c : Dt} {l : List Dt}, evIx (.lst (a :: b :: c :: l)) (.int 2) = some c := atI_nat (i := 2) rfl
  have orb : ∀ (b : Bool) (s : Sta), (if b = true then Res.ok (Dt.bl b) s else Res.ok (Dt.bl false) s) = Res.ok (Dt.bl b) s := by intro b s; cases b <;> rfl
  have orc : ∀ (p : Prop) [Decidable p] (s : Sta), (if p then Res.ok (Dt.bl (decide p)) s else Res.ok (Dt.bl false) s) = Res.ok (Dt.bl (decide p)) s := by intro p _ s; by_cases h : p <;> simp [h]
  refine ⟨some (.int g), ?_⟩
  simp only [ed] at e1 ⊢
  have idv : ∀ {w c d : Dt}, evIx (.tup [w, c, d]) (.int 0) = some w := ix_t0
  cases fr with
  | true =>
    have h2 := set_get (es := fd.map Vi.l ++ [.lst [.int p.up, .int 0, .int 0]]) hS
    have a1 := app_ok (F := FTab fb (j + 5)) (ρ := [some (Rs R C), f, some (.ref K), some m.d, some (.bl true), some (.tup (.str "stroke" :: k.ds)), some p.d, some (.int g), x8]) (x := .var 2) (e := .lst [.ix (.var 6) (.int 0), .int 0, .int 0]) (d := .lst [.int p.up, .int 0, .int 0]) (s := S) (s1 := S) (by simp only [ss_cons, ss_nil, s_setT', s_set', s_par', s_expr', s_ite', s_ret', s_retN', s_raise', e_var, e_non, e_bl, e_int, e_neg, e_str, e_bin, e_cmp, e_cmp2, e_and, e_or, e_not, e_ite, e_tup, e_lst, e_ix, e_isNon, e_notNon, e_call, e_blt, e_isi, e_rev, s_try', tryO_exc, tryO_nx, tryO_rt, tryO_ite, hs_nil, hs_cons, es_nil, es_cons, List.map_cons, List.map_nil, List.replicate, List.cons_append, List.nil_append, List.append_nil, List.getElem?_cons_zero, List.getElem?_cons_succ, lookV_some, ok_bind, ok_out, stuck_bind, stuck_out, onS_tup, onS_lst, onI_int, setAll, List.set_cons_zero, List.set_cons_succ, nxO_some, nx_then, rt_then, ite_then, exc_then, exc_bind, exc_out, finish_exc, deref_int, deref_bl, deref_str, deref_non, deref_tup, deref_lst, deref_scr, cmp_eq, cmp_ne, cmp_lt, cmp_le, cmp_gt, cmp_ge, Option.map_some, of_some', tru_bl, tru_int, tru_non, tru_tup0, tru_tup1, tru_lst0, tru_lst1, brB_t, brB_f, brB_d, brB_nd, finish_ite, finish_rt, finish_nx, ite_out, ite_bind, List.length_cons, List.length_nil, sz0, sz1, sz2, sz3, sz4, sz5, sz6, sz7, sz8, Nat.reduceAdd, Nat.reduceLeDiff, Nat.zero_le, Nat.zero_add, if_true, if_false, ↓reduceIte, ix_t0, ix_t1, ix_t2, ix_t3, ix_t4, ix_t5, ix_l0, ix_l1, leave_tup, leave_lst, leave_int, leave_bl, leave_str, leave_non, lo_int, lo_bl, lo_str, lo_non, lo_tup, lo_lst, loAll_nil, loAll_cons, loAll_ints, Bool.and_true, Bool.true_and, Bool.and_self, List.take_length, bin_add, bin_sub, int1_d, int1_bl, inn, ini, ins, int', inb, inl', Bool.not_true, Bool.not_false, decide_eq_true_eq, decide_true, decide_false, brB_b, slt_hi, slt_lo, slt_m1, sll_hi, sll_lo, mul_t0, mul_t1, Int.reduceLE, Int.reduceToNat, List.take_succ_cons, List.take_zero, List.drop_succ_cons, List.drop_zero, List.take_nil, List.drop_nil, Nat.reduceAdd, e_slHi, e_slLo, e_slLH, Int.reduceAdd, Int.add_zero, Int.mul_one, Int.mul_zero, Int.reduceNeg, List.getElem?_nil, Bool.false_eq_true, Int.reduceLT, Int.reduceEq, and_true, true_and, and_false, false_and, not_true_eq_false, not_false_eq_true, of_ite, map_ite]) (by simp only [ss_cons, ss_nil, s_setT', s_set', s_par', s_expr', s_ite', s_ret', s_retN', s_raise', e_var, e_non, e_bl, e_int, e_neg, e_str, e_bin, e_cmp, e_cmp2, e_and, e_or, e_not, e_ite, e_tup, e_lst, e_ix, e_isNon, e_notNon, e_call, e_blt, e_isi, e_rev, s_try', tryO_exc, tryO_nx, tryO_rt, tryO_ite, hs_nil, hs_cons, es_nil, es_cons, List.map_cons, List.map_nil, List.replicate, List.cons_append, List.nil_append, List.append_nil, List.getElem?_cons_zero, List.getElem?_cons_succ, lookV_some, ok_bind, ok_out, stuck_bind, stuck_out, onS_tup, onS_lst, onI_int, setAll, List.set_cons_zero, List.set_cons_succ, nxO_some, nx_then, rt_then, ite_then, exc_then, exc_bind, exc_out, finish_exc, deref_int, deref_bl, deref_str, deref_non, deref_tup, deref_lst, deref_scr, cmp_eq, cmp_ne, cmp_lt, cmp_le, cmp_gt, cmp_ge, Option.map_some, of_some', tru_bl, tru_int, tru_non, tru_tup0, tru_tup1, tru_lst0, tru_lst1, brB_t, brB_f, brB_d, brB_nd, finish_ite, finish_rt, finish_nx, ite_out, ite_bind, List.length_cons, List.length_nil, sz0, sz1, sz2, sz3, sz4, sz5, sz6, sz7, sz8, Nat.reduceAdd, Nat.reduceLeDiff, Nat.zero_le, Nat.zero_add, if_true, if_false, ↓reduceIte, ix_t0, ix_t1, ix_t2, ix_t3, ix_t4, ix_t5, ix_l0, ix_l1, leave_tup, leave_lst, leave_int, leave_bl, leave_str, leave_non, lo_int, lo_bl, lo_str, lo_non, lo_tup, lo_lst, loAll_nil, loAll_cons, loAll_ints, Bool.and_true, Bool.true_and, Bool.and_self, List.take_length, bin_add, bin_sub, int1_d, int1_bl, inn, ini, ins, int', inb, inl', Bool.not_true, Bool.not_false, decide_eq_true_eq, decide_true, decide_false, brB_b, slt_hi, slt_lo, slt_m1, sll_hi, sll_lo, mul_t0, mul_t1, Int.reduceLE, Int.reduceToNat, List.take_succ_cons, List.take_zero, List.drop_succ_cons, List.drop_zero, List.take_nil, List.drop_nil, Nat.reduceAdd, e_slHi, e_slLo, e_slLH, Int.reduceAdd, Int.add_zero, Int.mul_one, Int.mul_zero, Int.reduceNeg, List.getElem?_nil, Bool.false_eq_true, Int.reduceLT, Int.reduceEq, and_true, true_and, and_false, false_and, not_true_eq_false, not_false_eq_true, of_ite, map_ite, dp, eu]) hS hS (by unfold lineM; simp; omega) rfl
    have ds' := deref_ref h2
    have si := fun (ρ : Env) => setIxO_last (ρ := ρ) (d := .lst [.int p.up, .int (0 + g), .int (0 + 1)]) h2 rfl
    rw [set_set] at si
    simp only [Int.zero_add] at si
    rw [forOne_nm]
    cases m with
    | now => exact absurd rfl hn
    | over w c d =>
      have im : evIx (MR.over w c d).d (.int 0) = some .non := ix_t0
      simp only [B_law_own_visits_f1, ss_cons, ss_nil, s_setT', s_set', s_par', s_expr', s_ite', s_ret', s_retN', s_raise', e_var, e_non, e_bl, e_int, e_neg, e_str, e_bin, e_cmp, e_cmp2, e_and, e_or, e_not, e_ite, e_tup, e_lst, e_ix, e_isNon, e_notNon, e_call, e_blt, e_isi, e_rev, s_try', tryO_exc, tryO_nx, tryO_rt, tryO_ite, hs_nil, hs_cons, es_nil, es_cons, List.map_cons, List.map_nil, List.replicate, List.cons_append, List.nil_append, List.append_nil, List.getElem?_cons_zero, List.getElem?_cons_succ, lookV_some, ok_bind, ok_out, stuck_bind, stuck_out, onS_tup, onS_lst, onI_int, setAll, List.set_cons_zero, List.set_cons_succ, nxO_some, nx_then, rt_then, ite_then, exc_then, exc_bind, exc_out, finish_exc, deref_int, deref_bl, deref_str, deref_non, deref_tup, deref_lst, deref_scr, cmp_eq, cmp_ne, cmp_lt, cmp_le, cmp_gt, cmp_ge, Option.map_some, of_some', tru_bl, tru_int, tru_non, tru_tup0, tru_tup1, tru_lst0, tru_lst1, brB_t, brB_f, brB_d, finish_ite, finish_rt, finish_nx, ite_out, ite_bind, List.length_cons, List.length_nil, sz0, sz1, sz2, sz3, sz4, sz5, sz6, sz7, sz8, Nat.reduceAdd, Nat.reduceLeDiff, Nat.zero_le, Nat.zero_add, if_true, if_false, ↓reduceIte, ix_t0, ix_t1, ix_t2, ix_t3, ix_t4, ix_t5, ix_l0, ix_l1, leave_tup, leave_lst, leave_int, leave_bl, leave_str, leave_non, lo_int, lo_bl, lo_str, lo_non, lo_tup, lo_lst, loAll_nil, loAll_cons, loAll_ints, Bool.and_true, Bool.true_and, Bool.and_self, List.take_length, bin_add, bin_sub, int1_d, int1_bl, inn, ini, ins, int', inb, inl', Bool.not_true, Bool.not_false, decide_eq_true_eq, decide_true, decide_false, brB_b, slt_hi, slt_lo, slt_m1, sll_hi, sll_lo, mul_t0, mul_t1, Int.reduceLE, Int.reduceToNat, List.take_succ_cons, List.take_zero, List.drop_succ_cons, List.drop_zero, List.take_nil, List.drop_nil, Nat.reduceAdd, e_slHi, e_slLo, e_slLH, Int.reduceAdd, Int.add_zero, Int.mul_one, Int.mul_zero, Int.reduceNeg, List.getElem?_nil, Bool.false_eq_true, Int.reduceLT, Int.reduceEq, and_true, true_and, and_false, false_and, not_true_eq_false, not_false_eq_true, of_ite, map_ite, nd_, and_db, or_db, ite_not, decide_eq_false_iff_not, mrI, deref_go, ix_go, e1, eq_str, e2, a1, s_setIx', ds', ix_last, i2, dp, eu, si, deref_mr, im, nextFresh, vadd_true, List.map_append, Vi.l, Int.zero_add]
    | go q c d =>
      have im : evIx (MR.go q c d).d (.int 0) = some q.d := ix_t0
      have nq : Dt.isNon q.d = false := rfl
      have eq : evIx q.d (.int 0) = some (.int q.up) := ix_t0
      have dq : ∀ s, deref s q.d = q.d := fun s => rfl
      simp only [B_law_own_visits_f1, ss_cons, ss_nil, s_setT', s_set', s_par', s_expr', s_ite', s_ret', s_retN', s_raise', e_var, e_non, e_bl, e_int, e_neg, e_str, e_bin, e_cmp, e_cmp2, e_and, e_or, e_not, e_ite, e_tup, e_lst, e_ix, e_isNon, e_notNon, e_call, e_blt, e_isi, e_rev, s_try', tryO_exc, tryO_nx, tryO_rt, tryO_ite, hs_nil, hs_cons, es_nil, es_cons, List.map_cons, List.map_nil, List.replicate, List.cons_append, List.nil_append, List.append_nil, List.getElem?_cons_zero, List.getElem?_cons_succ, lookV_some, ok_bind, ok_out, stuck_bind, stuck_out, onS_tup, onS_lst, onI_int, setAll, List.set_cons_zero, List.set_cons_succ, nxO_some, nx_then, rt_then, ite_then, exc_then, exc_bind, exc_out, finish_exc, deref_int, deref_bl, deref_str, deref_non, deref_tup, deref_lst, deref_scr, cmp_eq, cmp_ne, cmp_lt, cmp_le, cmp_gt, cmp_ge, Option.map_some, of_some', tru_bl, tru_int, tru_non, tru_tup0, tru_tup1, tru_lst0, tru_lst1, brB_t, brB_f, brB_d, finish_ite, finish_rt, finish_nx, ite_out, ite_bind, List.length_cons, List.length_nil, sz0, sz1, sz2, sz3, sz4, sz5, sz6, sz7, sz8, Nat.reduceAdd, Nat.reduceLeDiff, Nat.zero_le, Nat.zero_add, if_true, if_false, ↓reduceIte, ix_t0, ix_t1, ix_t2, ix_t3, ix_t4, ix_t5, ix_l0, ix_l1, leave_tup, leave_lst, leave_int, leave_bl, leave_str, leave_non, lo_int, lo_bl, lo_str, lo_non, lo_tup, lo_lst, loAll_nil, loAll_cons, loAll_ints, Bool.and_true, Bool.true_and, Bool.and_self, List.take_length, bin_add, bin_sub, int1_d, int1_bl, inn, ini, ins, int', inb, inl', Bool.not_true, Bool.not_false, decide_eq_true_eq, decide_true, decide_false, brB_b, slt_hi, slt_lo, slt_m1, sll_hi, sll_lo, mul_t0, mul_t1, Int.reduceLE, Int.reduceToNat, List.take_succ_cons, List.take_zero, List.drop_succ_cons, List.drop_zero, List.take_nil, List.drop_nil, Nat.reduceAdd, e_slHi, e_slLo, e_slLH, Int.reduceAdd, Int.add_zero, Int.mul_one, Int.mul_zero, Int.reduceNeg, List.getElem?_nil, Bool.false_eq_true, Int.reduceLT, Int.reduceEq, and_true, true_and, and_false, false_and, not_true_eq_false, not_false_eq_true, of_ite, map_ite, nd_, and_db, or_db, ite_not, decide_eq_false_iff_not, mrI, deref_go, ix_go, e1, eq_str, e2, a1, s_setIx', ds', ix_last, i2, dp, eu, si, deref_mr, im, nq, dq, eq, s_sp, orc, nextFresh, vadd_true, List.map_append, Vi.l, Int.zero_add]
  | false =>
    obtain ⟨v, hv1, hv2⟩ := hv rfl
    have hsp := last_split hv1
    have hS' : S[K]? = some (.lst (fd.dropLast.map Vi.l ++ [v.l])) := by
      rw [hS, hsp]
      simp
    have ds' := deref_ref hS'
    have vl : v.l = .lst [.int v.who, .int v.pts, .int v.many] := rfl
    have si := fun (ρ : Env) => setIxO_last (ρ := ρ) (d := .lst [.int v.who, .int (v.pts + g), .int (v.many + 1)]) hS' rfl
    rw [← hv2] at eu
    rw [forOne_nm]
    cases m with
    | now => exact absurd rfl hn
    | over w c d =>
      have im : evIx (MR.over w c d).d (.int 0) = some .non := ix_t0
      simp only [B_law_own_visits_f1, ss_cons, ss_nil, s_setT', s_set', s_par', s_expr', s_ite', s_ret', s_retN', s_raise', e_var, e_non, e_bl, e_int, e_neg, e_str, e_bin, e_cmp, e_cmp2, e_and, e_or, e_not, e_ite, e_tup, e_lst, e_ix, e_isNon, e_notNon, e_call, e_blt, e_isi, e_rev, s_try', tryO_exc, tryO_nx, tryO_rt, tryO_ite, hs_nil, hs_cons, es_nil, es_cons, List.map_cons, List.map_nil, List.replicate, List.cons_append, List.nil_append, List.append_nil, List.getElem?_cons_zero, List.getElem?_cons_succ, lookV_some, ok_bind, ok_out, stuck_bind, stuck_out, onS_tup, onS_lst, onI_int, setAll, List.set_cons_zero, List.set_cons_succ, nxO_some, nx_then, rt_then, ite_then, exc_then, exc_bind, exc_out, finish_exc, deref_int, deref_bl, deref_str, deref_non, deref_tup, deref_lst, deref_scr, cmp_eq, cmp_ne, cmp_lt, cmp_le, cmp_gt, cmp_ge, Option.map_some, of_some', tru_bl, tru_int, tru_non, tru_tup0, tru_tup1, tru_lst0, tru_lst1, brB_t, brB_f, brB_d, finish_ite, finish_rt, finish_nx, ite_out, ite_bind, List.length_cons, List.length_nil, sz0, sz1, sz2, sz3, sz4, sz5, sz6, sz7, sz8, Nat.reduceAdd, Nat.reduceLeDiff, Nat.zero_le, Nat.zero_add, if_true, if_false, ↓reduceIte, ix_t0, ix_t1, ix_t2, ix_t3, ix_t4, ix_t5, ix_l0, ix_l1, leave_tup, leave_lst, leave_int, leave_bl, leave_str, leave_non, lo_int, lo_bl, lo_str, lo_non, lo_tup, lo_lst, loAll_nil, loAll_cons, loAll_ints, Bool.and_true, Bool.true_and, Bool.and_self, List.take_length, bin_add, bin_sub, int1_d, int1_bl, inn, ini, ins, int', inb, inl', Bool.not_true, Bool.not_false, decide_eq_true_eq, decide_true, decide_false, brB_b, slt_hi, slt_lo, slt_m1, sll_hi, sll_lo, mul_t0, mul_t1, Int.reduceLE, Int.reduceToNat, List.take_succ_cons, List.take_zero, List.drop_succ_cons, List.drop_zero, List.take_nil, List.drop_nil, Nat.reduceAdd, e_slHi, e_slLo, e_slLH, Int.reduceAdd, Int.add_zero, Int.mul_one, Int.mul_zero, Int.reduceNeg, List.getElem?_nil, Bool.false_eq_true, Int.reduceLT, Int.reduceEq, and_true, true_and, and_false, false_and, not_true_eq_false, not_false_eq_true, of_ite, map_ite, nd_, and_db, or_db, ite_not, decide_eq_false_iff_not, mrI, deref_go, ix_go, e1, eq_str, e2, s_setIx', ds', ix_last, vl, i2, dp, eu, si, deref_mr, im, nextFresh, vadd_false hv1, List.map_append, Vi.l, ← hv2]
    | go q c d =>
      have im : evIx (MR.go q c d).d (.int 0) = some q.d := ix_t0
      have nq : Dt.isNon q.d = false := rfl
      have eq : evIx q.d (.int 0) = some (.int q.up) := ix_t0
      have dq : ∀ s, deref s q.d = q.d := fun s => rfl
      simp only [B_law_own_visits_f1, ss_cons, ss_nil, s_setT', s_set', s_par', s_expr', s_ite', s_ret', s_retN', s_raise', e_var, e_non, e_bl, e_int, e_neg, e_str, e_bin, e_cmp, e_cmp2, e_and, e_or, e_not, e_ite, e_tup, e_lst, e_ix, e_isNon, e_notNon, e_call, e_blt, e_isi, e_rev, s_try', tryO_exc, tryO_nx, tryO_rt, tryO_ite, hs_nil, hs_cons, es_nil, es_cons, List.map_cons, List.map_nil, List.replicate, List.cons_append, List.nil_append, List.append_nil, List.getElem?_cons_zero, List.getElem?_cons_succ, lookV_some, ok_bind, ok_out, stuck_bind, stuck_out, onS_tup, onS_lst, onI_int, setAll, List.set_cons_zero, List.set_cons_succ, nxO_some, nx_then, rt_then, ite_then, exc_then, exc_bind, exc_out, finish_exc, deref_int, deref_bl, deref_str, deref_non, deref_tup, deref_lst, deref_scr, cmp_eq, cmp_ne, cmp_lt, cmp_le, cmp_gt, cmp_ge, Option.map_some, of_some', tru_bl, tru_int, tru_non, tru_tup0, tru_tup1, tru_lst0, tru_lst1, brB_t, brB_f, brB_d, finish_ite, finish_rt, finish_nx, ite_out, ite_bind, List.length_cons, List.length_nil, sz0, sz1, sz2, sz3, sz4, sz5, sz6, sz7, sz8, Nat.reduceAdd, Nat.reduceLeDiff, Nat.zero_le, Nat.zero_add, if_true, if_false, ↓reduceIte, ix_t0, ix_t1, ix_t2, ix_t3, ix_t4, ix_t5, ix_l0, ix_l1, leave_tup, leave_lst, leave_int, leave_bl, leave_str, leave_non, lo_int, lo_bl, lo_str, lo_non, lo_tup, lo_lst, loAll_nil, loAll_cons, loAll_ints, Bool.and_true, Bool.true_and, Bool.and_self, List.take_length, bin_add, bin_sub, int1_d, int1_bl, inn, ini, ins, int', inb, inl', Bool.not_true, Bool.not_false, decide_eq_true_eq, decide_true, decide_false, brB_b, slt_hi, slt_lo, slt_m1, sll_hi, sll_lo, mul_t0, mul_t1, Int.reduceLE, Int.reduceToNat, List.take_succ_cons, List.take_zero, List.drop_succ_cons, List.drop_zero, List.take_nil, List.drop_nil, Nat.reduceAdd, e_slHi, e_slLo, e_slLH, Int.reduceAdd, Int.add_zero, Int.mul_one, Int.mul_zero, Int.reduceNeg, List.getElem?_nil, Bool.false_eq_true, Int.reduceLT, Int.reduceEq, and_true, true_and, and_false, false_and, not_true_eq_false, not_false_eq_true, of_ite, map_ite, nd_, and_db, or_db, ite_not, decide_eq_false_iff_not, mrI, deref_go, ix_go, e1, eq_str, e2, s_setIx', ds', ix_last, vl, i2, dp, eu, si, deref_mr, im, nq, dq, eq, s_sp, orc, nextFresh, vadd_false hv1, List.map_append, Vi.l, ← hv2]
end MP
/-! P24: plain: the law's own visits, breaks. -/
namespace MP
open PySem
theorem lcGoG_map {gd : Sta → Bool} {one : Dt → Sta → Res (Option Dt)} {γ : Type} {f : γ → Dt} {g : γ → Option Dt} : ∀ {l : List γ} {s : Sta}, gd s = true → (∀ x ∈ l, one (f x) s = .ok (g x) s) → lcGoG gd one (l.map f) s = .ok (l.filterMap g) s
  | [], s, hg, _ => by rw [List.map_nil, lcGoG, if_pos hg]; rfl
  | x :: l, s, hg, h => by
    rw [List.map_cons, lcGoG, if_pos hg, h x List.mem_cons_self]
    simp only
    rw [lcGoG_map hg fun y hy => h y (List.mem_cons_of_mem _ hy)]
    cases hgx : g x <;> simp [hgx]
theorem or_bb {b c : Bool} {s : Sta} : (if b = true then Res.ok (Dt.bl b) s else Res.ok (Dt.bl c) s) = Res.ok (Dt.bl (b || c)) s := by cases b <;> rfl
theorem lv_other {j : Nat} {R C : Int} {p : Pl} {d : De} {a b : Int} {K : Nat} {S : Sta} {fr : Bool} {f x5 x6 x7 x8 : Option Dt} (G : Good R C p) (hR : R ≤ 1000) (hC : 1 ≤ C) (hd : ∀ k, d ≠ .stroke k) (hn : moved C p d ≠ .now) :
    forOne (FTab fb (j + 5)) (.nm 5) B_law_own_visits_f1 d.d [some (Rs R C), f, some (.ref K), some (MR.go p a b).d, some (.bl fr), x5, x6, x7, x8] S =
      .nx [some (Rs R C), f, some (.ref K), some (moved C p d).d, some (.bl (d.fresh fr)), some d.d, some p.d, x7, x8] S := by
  have e1 := l_moved (j := j + 2) (R := R) (C := C) (p := p) (de := d) (s := S) G.up (by have := G.l2; omega) (by have := G.rR; omega) (by cases d <;> first | trivial | exact absurd rfl (hd _))
  generalize moved C p d = m at e1 hn ⊢
  rw [forOne_nm]
  cases d with
  | stroke k => exact absurd rfl (hd k)
  | give => simp only [De.d] at e1 ⊢; simp only [B_law_own_visits_f1, ss_cons, ss_nil, s_setT', s_set', s_par', s_expr', s_ite', s_ret', s_retN', s_raise', e_var, e_non, e_bl, e_int, e_neg, e_str, e_bin, e_cmp, e_cmp2, e_and, e_or, e_not, e_ite, e_tup, e_lst, e_ix, e_isNon, e_notNon, e_call, e_blt, e_isi, e_rev, s_try', tryO_exc, tryO_nx, tryO_rt, tryO_ite, hs_nil, hs_cons, es_nil, es_cons, List.map_cons, List.map_nil, List.replicate, List.cons_append, List.nil_append, List.append_nil, List.getElem?_cons_zero, List.getElem?_cons_succ, lookV_some, ok_bind, ok_out, stuck_bind, stuck_out, onS_tup, onS_lst, onI_int, setAll, List.set_cons_zero, List.set_cons_succ, nxO_some, nx_then, rt_then, ite_then, exc_then, exc_bind, exc_out, finish_exc, deref_int, deref_bl, deref_str, deref_non, deref_tup, deref_lst, deref_scr, cmp_eq, cmp_ne, cmp_lt, cmp_le, cmp_gt, cmp_ge, Option.map_some, of_some', tru_bl, tru_int, tru_non, tru_tup0, tru_tup1, tru_lst0, tru_lst1, brB_t, brB_f, brB_d, brB_nd, finish_ite, finish_rt, finish_nx, ite_out, ite_bind, List.length_cons, List.length_nil, sz0, sz1, sz2, sz3, sz4, sz5, sz6, sz7, sz8, Nat.reduceAdd, Nat.reduceLeDiff, Nat.zero_le, Nat.zero_add, if_true, if_false, ↓reduceIte, ix_t0, ix_t1, ix_t2, ix_t3, ix_t4, ix_t5, ix_l0, ix_l1, leave_tup, leave_lst, leave_int, leave_bl, leave_str, leave_non, lo_int, lo_bl, lo_str, lo_non, lo_tup, lo_lst, loAll_nil, loAll_cons, loAll_ints, Bool.and_true, Bool.true_and, Bool.and_self, List.take_length, bin_add, bin_sub, int1_d, int1_bl, inn, ini, ins, int', inb, inl', Bool.not_true, Bool.not_false, decide_eq_true_eq, decide_true, decide_false, brB_b, slt_hi, slt_lo, slt_m1, sll_hi, sll_lo, mul_t0, mul_t1, Int.reduceLE, Int.reduceToNat, List.take_succ_cons, List.take_zero, List.drop_succ_cons, List.drop_zero, List.take_nil, List.drop_nil, Nat.reduceAdd, e_slHi, e_slLo, e_slLH, Int.reduceAdd, Int.add_zero, Int.mul_one, Int.mul_zero, Int.reduceNeg, List.getElem?_nil, Bool.false_eq_true, Int.reduceLT, Int.reduceEq, and_true, true_and, and_false, false_and, not_true_eq_false, not_false_eq_true, of_ite, map_ite, deref_go, ix_go, e1, deref_mr, eq_str, s_gs, s_gp, or_bb, Bool.or_false, De.fresh]
  | free => simp only [De.d] at e1 ⊢; simp only [B_law_own_visits_f1, ss_cons, ss_nil, s_setT', s_set', s_par', s_expr', s_ite', s_ret', s_retN', s_raise', e_var, e_non, e_bl, e_int, e_neg, e_str, e_bin, e_cmp, e_cmp2, e_and, e_or, e_not, e_ite, e_tup, e_lst, e_ix, e_isNon, e_notNon, e_call, e_blt, e_isi, e_rev, s_try', tryO_exc, tryO_nx, tryO_rt, tryO_ite, hs_nil, hs_cons, es_nil, es_cons, List.map_cons, List.map_nil, List.replicate, List.cons_append, List.nil_append, List.append_nil, List.getElem?_cons_zero, List.getElem?_cons_succ, lookV_some, ok_bind, ok_out, stuck_bind, stuck_out, onS_tup, onS_lst, onI_int, setAll, List.set_cons_zero, List.set_cons_succ, nxO_some, nx_then, rt_then, ite_then, exc_then, exc_bind, exc_out, finish_exc, deref_int, deref_bl, deref_str, deref_non, deref_tup, deref_lst, deref_scr, cmp_eq, cmp_ne, cmp_lt, cmp_le, cmp_gt, cmp_ge, Option.map_some, of_some', tru_bl, tru_int, tru_non, tru_tup0, tru_tup1, tru_lst0, tru_lst1, brB_t, brB_f, brB_d, brB_nd, finish_ite, finish_rt, finish_nx, ite_out, ite_bind, List.length_cons, List.length_nil, sz0, sz1, sz2, sz3, sz4, sz5, sz6, sz7, sz8, Nat.reduceAdd, Nat.reduceLeDiff, Nat.zero_le, Nat.zero_add, if_true, if_false, ↓reduceIte, ix_t0, ix_t1, ix_t2, ix_t3, ix_t4, ix_t5, ix_l0, ix_l1, leave_tup, leave_lst, leave_int, leave_bl, leave_str, leave_non, lo_int, lo_bl, lo_str, lo_non, lo_tup, lo_lst, loAll_nil, loAll_cons, loAll_ints, Bool.and_true, Bool.true_and, Bool.and_self, List.take_length, bin_add, bin_sub, int1_d, int1_bl, inn, ini, ins, int', inb, inl', Bool.not_true, Bool.not_false, decide_eq_true_eq, decide_true, decide_false, brB_b, slt_hi, slt_lo, slt_m1, sll_hi, sll_lo, mul_t0, mul_t1, Int.reduceLE, Int.reduceToNat, List.take_succ_cons, List.take_zero, List.drop_succ_cons, List.drop_zero, List.take_nil, List.drop_nil, Nat.reduceAdd, e_slHi, e_slLo, e_slLH, Int.reduceAdd, Int.add_zero, Int.mul_one, Int.mul_zero, Int.reduceNeg, List.getElem?_nil, Bool.false_eq_true, Int.reduceLT, Int.reduceEq, and_true, true_and, and_false, false_and, not_true_eq_false, not_false_eq_true, of_ite, map_ite, deref_go, ix_go, e1, deref_mr, eq_str, s_fs, s_fp, or_bb, Bool.or_false, De.fresh]
  | pass => simp only [De.d] at e1 ⊢; simp only [B_law_own_visits_f1, ss_cons, ss_nil, s_setT', s_set', s_par', s_expr', s_ite', s_ret', s_retN', s_raise', e_var, e_non, e_bl, e_int, e_neg, e_str, e_bin, e_cmp, e_cmp2, e_and, e_or, e_not, e_ite, e_tup, e_lst, e_ix, e_isNon, e_notNon, e_call, e_blt, e_isi, e_rev, s_try', tryO_exc, tryO_nx, tryO_rt, tryO_ite, hs_nil, hs_cons, es_nil, es_cons, List.map_cons, List.map_nil, List.replicate, List.cons_append, List.nil_append, List.append_nil, List.getElem?_cons_zero, List.getElem?_cons_succ, lookV_some, ok_bind, ok_out, stuck_bind, stuck_out, onS_tup, onS_lst, onI_int, setAll, List.set_cons_zero, List.set_cons_succ, nxO_some, nx_then, rt_then, ite_then, exc_then, exc_bind, exc_out, finish_exc, deref_int, deref_bl, deref_str, deref_non, deref_tup, deref_lst, deref_scr, cmp_eq, cmp_ne, cmp_lt, cmp_le, cmp_gt, cmp_ge, Option.map_some, of_some', tru_bl, tru_int, tru_non, tru_tup0, tru_tup1, tru_lst0, tru_lst1, brB_t, brB_f, brB_d, brB_nd, finish_ite, finish_rt, finish_nx, ite_out, ite_bind, List.length_cons, List.length_nil, sz0, sz1, sz2, sz3, sz4, sz5, sz6, sz7, sz8, Nat.reduceAdd, Nat.reduceLeDiff, Nat.zero_le, Nat.zero_add, if_true, if_false, ↓reduceIte, ix_t0, ix_t1, ix_t2, ix_t3, ix_t4, ix_t5, ix_l0, ix_l1, leave_tup, leave_lst, leave_int, leave_bl, leave_str, leave_non, lo_int, lo_bl, lo_str, lo_non, lo_tup, lo_lst, loAll_nil, loAll_cons, loAll_ints, Bool.and_true, Bool.true_and, Bool.and_self, List.take_length, bin_add, bin_sub, int1_d, int1_bl, inn, ini, ins, int', inb, inl', Bool.not_true, Bool.not_false, decide_eq_true_eq, decide_true, decide_false, brB_b, slt_hi, slt_lo, slt_m1, sll_hi, sll_lo, mul_t0, mul_t1, Int.reduceLE, Int.reduceToNat, List.take_succ_cons, List.take_zero, List.drop_succ_cons, List.drop_zero, List.take_nil, List.drop_nil, Nat.reduceAdd, e_slHi, e_slLo, e_slLH, Int.reduceAdd, Int.add_zero, Int.mul_one, Int.mul_zero, Int.reduceNeg, List.getElem?_nil, Bool.false_eq_true, Int.reduceLT, Int.reduceEq, and_true, true_and, and_false, false_and, not_true_eq_false, not_false_eq_true, of_ite, map_ite, deref_go, ix_go, e1, deref_mr, eq_str, s_ps, or_bb, Bool.or_true, De.fresh]
theorem lv_go {j : Nat} {R C : Int} {m : MR} {K : Nat} {f : Option Dt} (hR : R ≤ 1000) (hC : 1 ≤ C) (hn : m ≠ .now) : ∀ (ds : List De) (m0 : MR) (fd : List Vi) (fr : Bool) (S : Sta) (x5 x6 x7 x8 : Option Dt), (∀ d ∈ ds, DeOk R C d) → m0.good R C → ledR C m0 ds = some m → VOk m0 fd fr → fd.length + ds.length ≤ 1000 → S[K]? = some (.lst (fd.map Vi.l)) →
    ∃ y4 y5 y6 y7, forGo (forOne (FTab fb (j + 5)) (.nm 5) B_law_own_visits_f1) (ds.map De.d) [some (Rs R C), f, some (.ref K), some m0.d, some (.bl fr), x5, x6, x7, x8] S =
      .nx [some (Rs R C), f, some (.ref K), some m.d, y4, y5, y6, y7, x8] (setCell S K ((vis C m0 fd fr ds).map Vi.l))
  | [], m0, fd, fr, S, x5, x6, x7, x8, _, _, h, _, _, hS => by
    simp only [ledR] at h; cases h
    exact ⟨_, _, _, _, by rw [vis_nil, set_same hS]; rfl⟩
  | d :: ds, .now, fd, fr, S, x5, x6, x7, x8, hs, hg, h, hv, hl, hS => by simp [ledR] at h
  | d :: ds, .over _ _ _, fd, fr, S, x5, x6, x7, x8, hs, hg, h, hv, hl, hS => by simp [ledR] at h
  | d :: ds, .go p a b, fd, fr, S, x5, x6, x7, x8, hs, hg, h, hv, hl, hS => by
    simp only [ledR] at h
    have hg' : Good R C p := hg
    have ho := hs d List.mem_cons_self
    have hnn : moved C p d ≠ .now := fun z => hn (led_now (by rw [z] at h; exact h))
    have hgg : (moved C p d).good R C := by
      cases hq : moved C p d with
      | go q a' b' => exact moved_good hg' hC hq
      | _ => trivial
    rw [List.map_cons, forGo]
    simp only [List.length_cons] at hl
    by_cases hk : ∃ k, d = .stroke k
    · obtain ⟨k, rfl⟩ := hk
      obtain ⟨y7, e⟩ := lv_stroke (j := j) (a := a) (b := b) (f := f) (x5 := x5) (x6 := x6) (x7 := x7) (x8 := x8) hg' hR hC ho hnn hv (by omega) hS
      rw [e, nx_then]
      have hS2 := set_get (es := (vadd fd fr p.up (judged p k).1).map Vi.l) hS
      obtain ⟨z4, z5, z6, z7, e2⟩ := lv_go (j := j) (f := f) hR hC hn ds (moved C p (.stroke k)) (vadd fd fr p.up (judged p k).1) (nextFresh p.up (moved C p (.stroke k))) (setCell S K ((vadd fd fr p.up (judged p k).1).map Vi.l)) (some (De.stroke k).d) (some p.d) y7 x8
        (fun x hx => hs x (List.mem_cons_of_mem _ hx)) hgg h (vok_stroke (R := R) hv) (by have := vadd_len (fd := fd) (fr := fr) (up := p.up) (g := (judged p k).1); omega) hS2
      rw [set_set] at e2
      exact ⟨_, _, _, _, e2⟩
    · have hd : ∀ k, d ≠ .stroke k := fun k z => hk ⟨k, z⟩
      have e := lv_other (j := j) (S := S) (K := K) (fr := fr) (f := f) (a := a) (b := b) (x5 := x5) (x6 := x6) (x7 := x7) (x8 := x8) hg' hR hC hd hnn
      rw [e, nx_then, vis_other hd]
      exact lv_go hR hC hn ds (moved C p d) fd (d.fresh fr) S _ _ _ _ (fun x hx => hs x (List.mem_cons_of_mem _ hx)) hgg h (vok_other hd hv) (by omega) hS
theorem vis_len {C : Int} : ∀ {ds : List De} {m : MR} {fd : List Vi} {fr : Bool}, (vis C m fd fr ds).length ≤ fd.length + ds.length
  | [], m, fd, fr => by rw [vis_nil]; simp
  | d :: ds, .now, fd, fr => by simp [vis]
  | d :: ds, .over _ _ _, fd, fr => by simp [vis]
  | d :: ds, .go p a b, fd, fr => by
    rw [List.length_cons]
    by_cases hk : ∃ k, d = .stroke k
    · obtain ⟨k, rfl⟩ := hk
      have h1 := vis_len (C := C) (ds := ds) (m := moved C p (.stroke k)) (fd := vadd fd fr p.up (judged p k).1) (fr := nextFresh p.up (moved C p (.stroke k)))
      have h2 := vadd_len (fd := fd) (fr := fr) (up := p.up) (g := (judged p k).1)
      simp only [vis]
      omega
    · have hd : ∀ k, d ≠ .stroke k := fun k z => hk ⟨k, z⟩
      rw [vis_other hd]
      have := vis_len (C := C) (ds := ds) (m := moved C p d) (fd := fd) (fr := d.fresh fr)
      omega
theorem visits_len {R C pl : Int} {ds : List De} : (visits R C pl ds).length ≤ ds.length := by have := vis_len (C := C) (ds := ds) (m := .go (stt R pl) 0 0) (fd := []) (fr := true); simpa [visits] using this
theorem filterMap_some' {α β : Type} {g : α → β} : ∀ l : List α, l.filterMap (fun x => some (g x)) = l.map g
  | [] => rfl
  | x :: l => by simp
theorem l_own_visits {j : Nat} {R C pl : Int} {ds : List De} {m : MR} {s : Sta} (f : Frm R C pl ds m) (hz : ds.length ≤ 1000) : FTab fb (j + 6) 62 [Rs R C, Fd pl ds] s = .ok (.tup ((visits R C pl ds).map Vi.t)) s := by
  show FTab fb ((j + 5) + 1) 62 _ s = _
  rw [t_law_own_visits rfl]
  have hb := l_begin (j := j + 4) (R := R) (C := C) (pl := pl) (s := (s ++ [Cell.lst []] : Sta))
  have hS : (s ++ [Cell.lst []] : Sta)[s.length]? = some (.lst (([] : List Vi).map Vi.l)) := by simp
  obtain ⟨y4, y5, y6, y7, e⟩ := lv_go (j := j) (f := some (Fd pl ds)) (K := s.length) (by have := f.R2; omega) f.C1 f.nn ds (.go (stt R pl) 0 0) [] true (s ++ [Cell.lst []] : Sta) none none none none f.ok (stt_good f.hp f.R1 f.C1) f.led vok_true (by simpa using hz) hS
  have hg := set_get (es := (visits R C pl ds).map Vi.l) hS
  have lo : Dt.lo s.length (.tup ((visits R C pl ds).map Vi.t)) = true := by rw [lo_tup]; exact loAll_vi _
  have e0 : (MR.go (stt R pl) 0 0).d = .tup [(stt R pl).d, .non, .tup [.int 0, .int 0]] := rfl
  have ev : vis C (.go (stt R pl) 0 0) [] true ds = visits R C pl ds := rfl
  have hcell := cellOf_mk (ρ := [some (Rs R C), some (Fd pl ds), some (.ref s.length), some m.d, y4, y5, y6, y7, none]) (i := 2) rfl hg
  simp only [Fd, ev] at e hcell
  have lz := visits_len (R := R) (C := C) (pl := pl) (ds := ds)
  have hlc : lcGoG (fun s' => cellIs s' s.length ((visits R C pl ds).map Vi.l)) (lcOne (FTab fb (j + 5)) [some (Rs R C), some (.tup [.int pl, .tup (ds.map De.d)]), some (.ref s.length), some m.d, y4, y5, y6, y7, none] (.blt .tupleOf [.var 8]) (.nm 8) [8] []) ((visits R C pl ds).map Vi.l) (setCell (s ++ [Cell.lst []]) s.length ((visits R C pl ds).map Vi.l)) = .ok ((visits R C pl ds).map Vi.t) (setCell (s ++ [Cell.lst []]) s.length ((visits R C pl ds).map Vi.l)) := by
    rw [lcGoG_map (g := fun v => some v.t) (cellIs_mk hg) fun v hv => ?_, filterMap_some']
    rw [lcOne_nil]
    have vl : v.l = .lst [.int v.who, .int v.pts, .int v.many] := rfl
    simp only [wipeE, ss_cons, ss_nil, s_setT', s_set', s_par', s_expr', s_ite', s_ret', s_retN', s_raise', e_var, e_non, e_bl, e_int, e_neg, e_str, e_bin, e_cmp, e_cmp2, e_and, e_or, e_not, e_ite, e_tup, e_lst, e_ix, e_isNon, e_notNon, e_call, e_blt, e_isi, e_rev, s_try', tryO_exc, tryO_nx, tryO_rt, tryO_ite, hs_nil, hs_cons, es_nil, es_cons, List.map_cons, List.map_nil, List.replicate, List.cons_append, List.nil_append, List.append_nil, List.getElem?_cons_zero, List.getElem?_cons_succ, lookV_some, ok_bind, ok_out, stuck_bind, stuck_out, onS_tup, onS_lst, onI_int, setAll, List.set_cons_zero, List.set_cons_succ, nxO_some, nx_then, rt_then, ite_then, exc_then, exc_bind, exc_out, finish_exc, deref_int, deref_bl, deref_str, deref_non, deref_tup, deref_lst, deref_scr, cmp_eq, cmp_ne, cmp_lt, cmp_le, cmp_gt, cmp_ge, Option.map_some, of_some', tru_bl, tru_int, tru_non, tru_tup0, tru_tup1, tru_lst0, tru_lst1, brB_t, brB_f, brB_d, brB_nd, finish_ite, finish_rt, finish_nx, ite_out, ite_bind, List.length_cons, List.length_nil, sz0, sz1, sz2, sz3, sz4, sz5, sz6, sz7, sz8, Nat.reduceAdd, Nat.reduceLeDiff, Nat.zero_le, Nat.zero_add, if_true, if_false, ↓reduceIte, ix_t0, ix_t1, ix_t2, ix_t3, ix_t4, ix_t5, ix_l0, ix_l1, leave_tup, leave_lst, leave_int, leave_bl, leave_str, leave_non, lo_int, lo_bl, lo_str, lo_non, lo_tup, lo_lst, loAll_nil, loAll_cons, loAll_ints, Bool.and_true, Bool.true_and, Bool.and_self, List.take_length, bin_add, bin_sub, int1_d, int1_bl, inn, ini, ins, int', inb, inl', Bool.not_true, Bool.not_false, decide_eq_true_eq, decide_true, decide_false, brB_b, slt_hi, slt_lo, slt_m1, sll_hi, sll_lo, mul_t0, mul_t1, Int.reduceLE, Int.reduceToNat, List.take_succ_cons, List.take_zero, List.drop_succ_cons, List.drop_zero, List.take_nil, List.drop_nil, Nat.reduceAdd, e_slHi, e_slLo, e_slLH, Int.reduceAdd, Int.add_zero, Int.mul_one, Int.mul_zero, Int.reduceNeg, List.getElem?_nil, Bool.false_eq_true, Int.reduceLT, Int.reduceEq, and_true, true_and, and_false, false_and, not_true_eq_false, not_false_eq_true, of_ite, map_ite, vl, tupleOf_lst, Vi.t]
  simp only [B_law_own_visits, ss_cons, ss_nil, s_setT', s_set', s_par', s_expr', s_ite', s_ret', s_retN', s_raise', e_var, e_non, e_bl, e_int, e_neg, e_str, e_bin, e_cmp, e_cmp2, e_and, e_or, e_not, e_ite, e_tup, e_lst, e_ix, e_isNon, e_notNon, e_call, e_blt, e_isi, e_rev, s_try', tryO_exc, tryO_nx, tryO_rt, tryO_ite, hs_nil, hs_cons, es_nil, es_cons, List.map_cons, List.map_nil, List.replicate, List.cons_append, List.nil_append, List.append_nil, List.getElem?_cons_zero, List.getElem?_cons_succ, lookV_some, ok_bind, ok_out, stuck_bind, stuck_out, onS_tup, onS_lst, onI_int, setAll, List.set_cons_zero, List.set_cons_succ, nxO_some, nx_then, rt_then, ite_then, exc_then, exc_bind, exc_out, finish_exc, deref_int, deref_bl, deref_str, deref_non, deref_tup, deref_lst, deref_scr, cmp_eq, cmp_ne, cmp_lt, cmp_le, cmp_gt, cmp_ge, Option.map_some, of_some', tru_bl, tru_int, tru_non, tru_tup0, tru_tup1, tru_lst0, tru_lst1, brB_t, brB_f, brB_d, brB_nd, finish_ite, finish_rt, finish_nx, ite_out, ite_bind, List.length_cons, List.length_nil, sz0, sz1, sz2, sz3, sz4, sz5, sz6, sz7, sz8, Nat.reduceAdd, Nat.reduceLeDiff, Nat.zero_le, Nat.zero_add, if_true, if_false, ↓reduceIte, ix_t0, ix_t1, ix_t2, ix_t3, ix_t4, ix_t5, ix_l0, ix_l1, leave_tup, leave_lst, leave_int, leave_bl, leave_str, leave_non, lo_int, lo_bl, lo_str, lo_non, lo_tup, lo_lst, loAll_nil, loAll_cons, loAll_ints, Bool.and_true, Bool.true_and, Bool.and_self, List.take_length, bin_add, bin_sub, int1_d, int1_bl, inn, ini, ins, int', inb, inl', Bool.not_true, Bool.not_false, decide_eq_true_eq, decide_true, decide_false, brB_b, slt_hi, slt_lo, slt_m1, sll_hi, sll_lo, mul_t0, mul_t1, Int.reduceLE, Int.reduceToNat, List.take_succ_cons, List.take_zero, List.drop_succ_cons, List.drop_zero, List.take_nil, List.drop_nil, Nat.reduceAdd, e_slHi, e_slLo, e_slLH, Int.reduceAdd, Int.add_zero, Int.mul_one, Int.mul_zero, Int.reduceNeg, List.getElem?_nil, Bool.false_eq_true, Int.reduceLT, Int.reduceEq, and_true, true_and, and_false, false_and, not_true_eq_false, not_false_eq_true, of_ite, map_ite, Fd, e_mlst, decide_eq_true sz0, hb, s_for', i_e, items_tup, e, e_lcC hcell, hlc, List.length_map, if_pos (show (visits R C pl ds).length < lineM by unfold lineM; omega), tupleOf_lst, leave_ok lo]
  rw [set_take (Nat.le_refl _)]
  simp
end MP
/-! P25: plain: breaks, best breaks. -/
namespace MP
open PySem
theorem lcOne_t1 {F : FT} {ρ ρ' : Env} {elt c : E} {tg : Tg} {own : List Nat} {d x : Dt} {s s1 : Sta} (h1 : bindTg tg d (wipeE ρ own) = some ρ') (h : evE F ρ' c s = .ok x s1) :
    lcOne F ρ elt tg own [c] d s = lcIf (evTru (deref s1 x)) s1 fun s1 => evE F ρ' elt s1 := by
  unfold lcOne; simp only [h1, evIfs, h, ok_bind]
  rcases evTru (deref s1 x) with _ | (_ | _) <;> rfl
theorem lcOne_t0 {F : FT} {ρ ρ' : Env} {elt : E} {tg : Tg} {own : List Nat} {d : Dt} {s : Sta} (h1 : bindTg tg d (wipeE ρ own) = some ρ') :
    lcOne F ρ elt tg own [] d s = (evE F ρ' elt s).bind fun x s2 => .ok (some x) s2 := by
  unfold lcOne; simp only [h1, evIfs]
theorem forOne_t {F : FT} {ρ ρ' : Env} {tg : Tg} {body : List S} {d : Dt} {s : Sta} (h1 : bindTg tg d ρ = some ρ') : forOne F tg body d ρ s = evSs F body ρ' s := by
  unfold forOne; rw [h1]
theorem filterMap_if {α β : Type} {p : α → Prop} [DecidablePred p] {g : α → β} : ∀ l : List α, l.filterMap (fun x => if p x then some (g x) else none) = (l.filter fun x => decide (p x)).map g
  | [] => rfl
  | x :: l => by
    have := filterMap_if (p := p) (g := g) l
    by_cases h : p x <;> simp [List.filterMap_cons, List.filter_cons, h, this]
def breaksOf (rows : List Vi) (least : Int) : List Dt := (rows.filter fun v => decide (least ≤ v.pts)).map fun v => .tup [.int v.who, .int v.pts]
theorem br_sm {rows : List Vi} {least : Int} (h : rows.length ≤ 1000) : Dt.sm 2 (.tup (breaksOf rows least)) = true := by
  simp only [Dt.sm, breaksOf, List.length_map, Bool.and_eq_true, decide_eq_true_eq, List.all_eq_true]
  refine ⟨by unfold lineM; have := List.length_filter_le (fun v : Vi => decide (least ≤ v.pts)) rows; omega, fun d hd => ?_⟩
  obtain ⟨v, _, rfl⟩ := List.mem_map.mp hd
  simp [Dt.sm, lineM]
theorem vi_sm {rows : List Vi} (h : rows.length ≤ 1000) : Dt.sm 2 (.tup (rows.map Vi.t)) = true := by
  simp only [Dt.sm, List.length_map, Bool.and_eq_true, decide_eq_true_eq, List.all_eq_true]
  refine ⟨by unfold lineM; omega, fun d hd => ?_⟩
  obtain ⟨v, _, rfl⟩ := List.mem_map.mp hd
  simp [Vi.t, Dt.sm, lineM]
theorem br_lo {n : Nat} {rows : List Vi} {least : Int} : Dt.lo n (.tup (breaksOf rows least)) = true := by rw [lo_tup]; exact loAll_map (fun _ => rfl) _
/-- one row of a comprehension by a least -/
theorem p_breaks {j : Nat} {R C pl least : Int} {ds : List De} {m : MR} {s : Sta} (f : Frm R C pl ds m) (hz : ds.length ≤ 1000) : FTab fb (j + 7) 60 [Rs R C, Fd pl ds, .int least] s = .ok (.tup (breaksOf (visits R C pl ds) least)) s := by
  show FTab fb ((j + 6) + 1) 60 _ s = _
  rw [t_p_breaks rfl]
  have e := p_visits (j := j) (s := s) f hz
  have lz := visits_len (R := R) (C := C) (pl := pl) (ds := ds)
  have hlc : lcGo (lcOne (FTab fb (j + 6)) [some (Rs R C), some (Fd pl ds), some (.int least), none, none, none] (.tup [.var 3, .var 4]) (.tup [3, 4, 5]) [3, 4, 5] [.cmp .ge (.var 4) (.var 2)]) ((visits R C pl ds).map Vi.t) s = .ok (breaksOf (visits R C pl ds) least) s := by
    rw [lcGo_map (g := fun v => if least ≤ v.pts then some (.tup [.int v.who, .int v.pts]) else none) fun v hv => ?_, filterMap_if]
    · rfl
    · rw [lcOne_t1 (ρ' := [some (Rs R C), some (Fd pl ds), some (.int least), some (.int v.who), some (.int v.pts), some (.int v.many)]) (x := .bl (decide (least ≤ v.pts))) (s1 := s) rfl (by simp only [ss_cons, ss_nil, s_setT', s_set', s_par', s_expr', s_ite', s_ret', s_retN', s_raise', e_var, e_non, e_bl, e_int, e_neg, e_str, e_bin, e_cmp, e_cmp2, e_and, e_or, e_not, e_ite, e_tup, e_lst, e_ix, e_isNon, e_notNon, e_call, e_blt, e_isi, e_rev, s_try', tryO_exc, tryO_nx, tryO_rt, tryO_ite, hs_nil, hs_cons, es_nil, es_cons, List.map_cons, List.map_nil, List.replicate, List.cons_append, List.nil_append, List.append_nil, List.getElem?_cons_zero, List.getElem?_cons_succ, lookV_some, ok_bind, ok_out, stuck_bind, stuck_out, onS_tup, onS_lst, onI_int, setAll, List.set_cons_zero, List.set_cons_succ, nxO_some, nx_then, rt_then, ite_then, exc_then, exc_bind, exc_out, finish_exc, deref_int, deref_bl, deref_str, deref_non, deref_tup, deref_lst, deref_scr, cmp_eq, cmp_ne, cmp_lt, cmp_le, cmp_gt, cmp_ge, Option.map_some, of_some', tru_bl, tru_int, tru_non, tru_tup0, tru_tup1, tru_lst0, tru_lst1, brB_t, brB_f, brB_d, brB_nd, finish_ite, finish_rt, finish_nx, ite_out, ite_bind, List.length_cons, List.length_nil, sz0, sz1, sz2, sz3, sz4, sz5, sz6, sz7, sz8, Nat.reduceAdd, Nat.reduceLeDiff, Nat.zero_le, Nat.zero_add, if_true, if_false, ↓reduceIte, ix_t0, ix_t1, ix_t2, ix_t3, ix_t4, ix_t5, ix_l0, ix_l1, leave_tup, leave_lst, leave_int, leave_bl, leave_str, leave_non, lo_int, lo_bl, lo_str, lo_non, lo_tup, lo_lst, loAll_nil, loAll_cons, loAll_ints, Bool.and_true, Bool.true_and, Bool.and_self, List.take_length, bin_add, bin_sub, int1_d, int1_bl, inn, ini, ins, int', inb, inl', Bool.not_true, Bool.not_false, decide_eq_true_eq, decide_true, decide_false, brB_b, slt_hi, slt_lo, slt_m1, sll_hi, sll_lo, mul_t0, mul_t1, Int.reduceLE, Int.reduceToNat, List.take_succ_cons, List.take_zero, List.drop_succ_cons, List.drop_zero, List.take_nil, List.drop_nil, Nat.reduceAdd, e_slHi, e_slLo, e_slLH, Int.reduceAdd, Int.add_zero, Int.mul_one, Int.mul_zero, Int.reduceNeg, List.getElem?_nil, Bool.false_eq_true, Int.reduceLT, Int.reduceEq, and_true, true_and, and_false, false_and, not_true_eq_false, not_false_eq_true, of_ite, map_ite])]
      simp only [ss_cons, ss_nil, s_setT', s_set', s_par', s_expr', s_ite', s_ret', s_retN', s_raise', e_var, e_non, e_bl, e_int, e_neg, e_str, e_bin, e_cmp, e_cmp2, e_and, e_or, e_not, e_ite, e_tup, e_lst, e_ix, e_isNon, e_notNon, e_call, e_blt, e_isi, e_rev, s_try', tryO_exc, tryO_nx, tryO_rt, tryO_ite, hs_nil, hs_cons, es_nil, es_cons, List.map_cons, List.map_nil, List.replicate, List.cons_append, List.nil_append, List.append_nil, List.getElem?_cons_zero, List.getElem?_cons_succ, lookV_some, ok_bind, ok_out, stuck_bind, stuck_out, onS_tup, onS_lst, onI_int, setAll, List.set_cons_zero, List.set_cons_succ, nxO_some, nx_then, rt_then, ite_then, exc_then, exc_bind, exc_out, finish_exc, deref_int, deref_bl, deref_str, deref_non, deref_tup, deref_lst, deref_scr, cmp_eq, cmp_ne, cmp_lt, cmp_le, cmp_gt, cmp_ge, Option.map_some, of_some', tru_bl, tru_int, tru_non, tru_tup0, tru_tup1, tru_lst0, tru_lst1, brB_t, brB_f, brB_d, brB_nd, finish_ite, finish_rt, finish_nx, ite_out, ite_bind, List.length_cons, List.length_nil, sz0, sz1, sz2, sz3, sz4, sz5, sz6, sz7, sz8, Nat.reduceAdd, Nat.reduceLeDiff, Nat.zero_le, Nat.zero_add, if_true, if_false, ↓reduceIte, ix_t0, ix_t1, ix_t2, ix_t3, ix_t4, ix_t5, ix_l0, ix_l1, leave_tup, leave_lst, leave_int, leave_bl, leave_str, leave_non, lo_int, lo_bl, lo_str, lo_non, lo_tup, lo_lst, loAll_nil, loAll_cons, loAll_ints, Bool.and_true, Bool.true_and, Bool.and_self, List.take_length, bin_add, bin_sub, int1_d, int1_bl, inn, ini, ins, int', inb, inl', Bool.not_true, Bool.not_false, decide_eq_true_eq, decide_true, decide_false, brB_b, slt_hi, slt_lo, slt_m1, sll_hi, sll_lo, mul_t0, mul_t1, Int.reduceLE, Int.reduceToNat, List.take_succ_cons, List.take_zero, List.drop_succ_cons, List.drop_zero, List.take_nil, List.drop_nil, Nat.reduceAdd, e_slHi, e_slLo, e_slLH, Int.reduceAdd, Int.add_zero, Int.mul_one, Int.mul_zero, Int.reduceNeg, List.getElem?_nil, Bool.false_eq_true, Int.reduceLT, Int.reduceEq, and_true, true_and, and_false, false_and, not_true_eq_false, not_false_eq_true, of_ite, map_ite, lcIf_d]
      split <;> rfl
  simp only [B_p_breaks, ss_cons, ss_nil, s_setT', s_set', s_par', s_expr', s_ite', s_ret', s_retN', s_raise', e_var, e_non, e_bl, e_int, e_neg, e_str, e_bin, e_cmp, e_cmp2, e_and, e_or, e_not, e_ite, e_tup, e_lst, e_ix, e_isNon, e_notNon, e_call, e_blt, e_isi, e_rev, s_try', tryO_exc, tryO_nx, tryO_rt, tryO_ite, hs_nil, hs_cons, es_nil, es_cons, List.map_cons, List.map_nil, List.replicate, List.cons_append, List.nil_append, List.append_nil, List.getElem?_cons_zero, List.getElem?_cons_succ, lookV_some, ok_bind, ok_out, stuck_bind, stuck_out, onS_tup, onS_lst, onI_int, setAll, List.set_cons_zero, List.set_cons_succ, nxO_some, nx_then, rt_then, ite_then, exc_then, exc_bind, exc_out, finish_exc, deref_int, deref_bl, deref_str, deref_non, deref_tup, deref_lst, deref_scr, cmp_eq, cmp_ne, cmp_lt, cmp_le, cmp_gt, cmp_ge, Option.map_some, of_some', tru_bl, tru_int, tru_non, tru_tup0, tru_tup1, tru_lst0, tru_lst1, brB_t, brB_f, brB_d, brB_nd, finish_ite, finish_rt, finish_nx, ite_out, ite_bind, List.length_cons, List.length_nil, sz0, sz1, sz2, sz3, sz4, sz5, sz6, sz7, sz8, Nat.reduceAdd, Nat.reduceLeDiff, Nat.zero_le, Nat.zero_add, if_true, if_false, ↓reduceIte, ix_t0, ix_t1, ix_t2, ix_t3, ix_t4, ix_t5, ix_l0, ix_l1, leave_tup, leave_lst, leave_int, leave_bl, leave_str, leave_non, lo_int, lo_bl, lo_str, lo_non, lo_tup, lo_lst, loAll_nil, loAll_cons, loAll_ints, Bool.and_true, Bool.true_and, Bool.and_self, List.take_length, bin_add, bin_sub, int1_d, int1_bl, inn, ini, ins, int', inb, inl', Bool.not_true, Bool.not_false, decide_eq_true_eq, decide_true, decide_false, brB_b, slt_hi, slt_lo, slt_m1, sll_hi, sll_lo, mul_t0, mul_t1, Int.reduceLE, Int.reduceToNat, List.take_succ_cons, List.take_zero, List.drop_succ_cons, List.drop_zero, List.take_nil, List.drop_nil, Nat.reduceAdd, e_slHi, e_slLo, e_slLH, Int.reduceAdd, Int.add_zero, Int.mul_one, Int.mul_zero, Int.reduceNeg, List.getElem?_nil, Bool.false_eq_true, Int.reduceLT, Int.reduceEq, and_true, true_and, and_false, false_and, not_true_eq_false, not_false_eq_true, of_ite, map_ite, e, e_lc, i_e, items_tup, hlc, List.length_map, if_pos (show (visits R C pl ds).length < lineM by unfold lineM; omega), tupleOf_lst, leave_ok br_lo]
def bestOf (rows : List Vi) (pl : Int) : Int := maxI 0 ((rows.filter fun v => decide (v.who = pl)).map Vi.pts)
theorem p_best_breaks {j : Nat} {R C pl : Int} {ds : List De} {m : MR} {s : Sta} (f : Frm R C pl ds m) (hz : ds.length ≤ 1000) : FTab fb (j + 7) 61 [Rs R C, Fd pl ds] s = .ok (.tup [.int (bestOf (visits R C pl ds) 0), .int (bestOf (visits R C pl ds) 1)]) s := by
  show FTab fb ((j + 6) + 1) 61 _ s = _
  rw [t_p_best_breaks rfl]
  have e := p_visits (j := j) (s := s) f hz
  have lz := visits_len (R := R) (C := C) (pl := pl) (ds := ds)
  generalize hrw : visits R C pl ds = rows at e lz
  have h1 : ∀ (who : Int) (x4 x5 x6 : Option Dt), evE (FTab fb (j + 6)) [some (Rs R C), some (Fd pl ds), some (.tup (rows.map Vi.t)), some (.int who), x4, x5, x6] (.blt .max1 [.bin .add (.lst [.int 0]) (.lc (.var 5) (.tup [4, 5, 6]) (.e (.var 2)) [4, 5, 6] [.cmp .eq (.var 4) (.var 3)])]) s = .ok (.int (bestOf rows who)) s := by
    intro who x4 x5 x6
    have hlc : lcGo (lcOne (FTab fb (j + 6)) [some (Rs R C), some (Fd pl ds), some (.tup (rows.map Vi.t)), some (.int who), x4, x5, x6] (.var 5) (.tup [4, 5, 6]) [4, 5, 6] [.cmp .eq (.var 4) (.var 3)]) (rows.map Vi.t) s = .ok (((rows.filter fun v => decide (v.who = who)).map Vi.pts).map .int) s := by
      rw [lcGo_map (g := fun v => if v.who = who then some (Dt.int v.pts) else none) fun v hv => ?_, filterMap_if, List.map_map]
      · rfl
      · rw [lcOne_t1 (ρ' := [some (Rs R C), some (Fd pl ds), some (.tup (rows.map Vi.t)), some (.int who), some (.int v.who), some (.int v.pts), some (.int v.many)]) (x := .bl (decide (v.who = who))) (s1 := s) rfl (by simp only [ss_cons, ss_nil, s_setT', s_set', s_par', s_expr', s_ite', s_ret', s_retN', s_raise', e_var, e_non, e_bl, e_int, e_neg, e_str, e_bin, e_cmp, e_cmp2, e_and, e_or, e_not, e_ite, e_tup, e_lst, e_ix, e_isNon, e_notNon, e_call, e_blt, e_isi, e_rev, s_try', tryO_exc, tryO_nx, tryO_rt, tryO_ite, hs_nil, hs_cons, es_nil, es_cons, List.map_cons, List.map_nil, List.replicate, List.cons_append, List.nil_append, List.append_nil, List.getElem?_cons_zero, List.getElem?_cons_succ, lookV_some, ok_bind, ok_out, stuck_bind, stuck_out, onS_tup, onS_lst, onI_int, setAll, List.set_cons_zero, List.set_cons_succ, nxO_some, nx_then, rt_then, ite_then, exc_then, exc_bind, exc_out, finish_exc, deref_int, deref_bl, deref_str, deref_non, deref_tup, deref_lst, deref_scr, cmp_eq, cmp_ne, cmp_lt, cmp_le, cmp_gt, cmp_ge, Option.map_some, of_some', tru_bl, tru_int, tru_non, tru_tup0, tru_tup1, tru_lst0, tru_lst1, brB_t, brB_f, brB_d, brB_nd, finish_ite, finish_rt, finish_nx, ite_out, ite_bind, List.length_cons, List.length_nil, sz0, sz1, sz2, sz3, sz4, sz5, sz6, sz7, sz8, Nat.reduceAdd, Nat.reduceLeDiff, Nat.zero_le, Nat.zero_add, if_true, if_false, ↓reduceIte, ix_t0, ix_t1, ix_t2, ix_t3, ix_t4, ix_t5, ix_l0, ix_l1, leave_tup, leave_lst, leave_int, leave_bl, leave_str, leave_non, lo_int, lo_bl, lo_str, lo_non, lo_tup, lo_lst, loAll_nil, loAll_cons, loAll_ints, Bool.and_true, Bool.true_and, Bool.and_self, List.take_length, bin_add, bin_sub, int1_d, int1_bl, inn, ini, ins, int', inb, inl', Bool.not_true, Bool.not_false, decide_eq_true_eq, decide_true, decide_false, brB_b, slt_hi, slt_lo, slt_m1, sll_hi, sll_lo, mul_t0, mul_t1, Int.reduceLE, Int.reduceToNat, List.take_succ_cons, List.take_zero, List.drop_succ_cons, List.drop_zero, List.take_nil, List.drop_nil, Nat.reduceAdd, e_slHi, e_slLo, e_slLH, Int.reduceAdd, Int.add_zero, Int.mul_one, Int.mul_zero, Int.reduceNeg, List.getElem?_nil, Bool.false_eq_true, Int.reduceLT, Int.reduceEq, and_true, true_and, and_false, false_and, not_true_eq_false, not_false_eq_true, of_ite, map_ite])]
        simp only [ss_cons, ss_nil, s_setT', s_set', s_par', s_expr', s_ite', s_ret', s_retN', s_raise', e_var, e_non, e_bl, e_int, e_neg, e_str, e_bin, e_cmp, e_cmp2, e_and, e_or, e_not, e_ite, e_tup, e_lst, e_ix, e_isNon, e_notNon, e_call, e_blt, e_isi, e_rev, s_try', tryO_exc, tryO_nx, tryO_rt, tryO_ite, hs_nil, hs_cons, es_nil, es_cons, List.map_cons, List.map_nil, List.replicate, List.cons_append, List.nil_append, List.append_nil, List.getElem?_cons_zero, List.getElem?_cons_succ, lookV_some, ok_bind, ok_out, stuck_bind, stuck_out, onS_tup, onS_lst, onI_int, setAll, List.set_cons_zero, List.set_cons_succ, nxO_some, nx_then, rt_then, ite_then, exc_then, exc_bind, exc_out, finish_exc, deref_int, deref_bl, deref_str, deref_non, deref_tup, deref_lst, deref_scr, cmp_eq, cmp_ne, cmp_lt, cmp_le, cmp_gt, cmp_ge, Option.map_some, of_some', tru_bl, tru_int, tru_non, tru_tup0, tru_tup1, tru_lst0, tru_lst1, brB_t, brB_f, brB_d, brB_nd, finish_ite, finish_rt, finish_nx, ite_out, ite_bind, List.length_cons, List.length_nil, sz0, sz1, sz2, sz3, sz4, sz5, sz6, sz7, sz8, Nat.reduceAdd, Nat.reduceLeDiff, Nat.zero_le, Nat.zero_add, if_true, if_false, ↓reduceIte, ix_t0, ix_t1, ix_t2, ix_t3, ix_t4, ix_t5, ix_l0, ix_l1, leave_tup, leave_lst, leave_int, leave_bl, leave_str, leave_non, lo_int, lo_bl, lo_str, lo_non, lo_tup, lo_lst, loAll_nil, loAll_cons, loAll_ints, Bool.and_true, Bool.true_and, Bool.and_self, List.take_length, bin_add, bin_sub, int1_d, int1_bl, inn, ini, ins, int', inb, inl', Bool.not_true, Bool.not_false, decide_eq_true_eq, decide_true, decide_false, brB_b, slt_hi, slt_lo, slt_m1, sll_hi, sll_lo, mul_t0, mul_t1, Int.reduceLE, Int.reduceToNat, List.take_succ_cons, List.take_zero, List.drop_succ_cons, List.drop_zero, List.take_nil, List.drop_nil, Nat.reduceAdd, e_slHi, e_slLo, e_slLH, Int.reduceAdd, Int.add_zero, Int.mul_one, Int.mul_zero, Int.reduceNeg, List.getElem?_nil, Bool.false_eq_true, Int.reduceLT, Int.reduceEq, and_true, true_and, and_false, false_and, not_true_eq_false, not_false_eq_true, of_ite, map_ite, lcIf_d]
        split <;> rfl
    have hm := max_ints (a := 0) (l := (rows.filter fun v => decide (v.who = who)).map Vi.pts)
    have ha := add_ll (xs := [Dt.int 0]) (ys := ((rows.filter fun v => decide (v.who = who)).map Vi.pts).map .int) (by simp only [List.length_map, List.length_cons, List.length_nil]; have := List.length_filter_le (fun v : Vi => decide (v.who = who)) rows; omega)
    simp only [List.map_cons, List.cons_append, List.nil_append] at hm ha
    simp only [ss_cons, ss_nil, s_setT', s_set', s_par', s_expr', s_ite', s_ret', s_retN', s_raise', e_var, e_non, e_bl, e_int, e_neg, e_str, e_bin, e_cmp, e_cmp2, e_and, e_or, e_not, e_ite, e_tup, e_lst, e_ix, e_isNon, e_notNon, e_call, e_blt, e_isi, e_rev, s_try', tryO_exc, tryO_nx, tryO_rt, tryO_ite, hs_nil, hs_cons, es_nil, es_cons, List.map_cons, List.map_nil, List.replicate, List.cons_append, List.nil_append, List.append_nil, List.getElem?_cons_zero, List.getElem?_cons_succ, lookV_some, ok_bind, ok_out, stuck_bind, stuck_out, onS_tup, onS_lst, onI_int, setAll, List.set_cons_zero, List.set_cons_succ, nxO_some, nx_then, rt_then, ite_then, exc_then, exc_bind, exc_out, finish_exc, deref_int, deref_bl, deref_str, deref_non, deref_tup, deref_lst, deref_scr, cmp_eq, cmp_ne, cmp_lt, cmp_le, cmp_gt, cmp_ge, Option.map_some, of_some', tru_bl, tru_int, tru_non, tru_tup0, tru_tup1, tru_lst0, tru_lst1, brB_t, brB_f, brB_d, brB_nd, finish_ite, finish_rt, finish_nx, ite_out, ite_bind, List.length_cons, List.length_nil, sz0, sz1, sz2, sz3, sz4, sz5, sz6, sz7, sz8, Nat.reduceAdd, Nat.reduceLeDiff, Nat.zero_le, Nat.zero_add, if_true, if_false, ↓reduceIte, ix_t0, ix_t1, ix_t2, ix_t3, ix_t4, ix_t5, ix_l0, ix_l1, leave_tup, leave_lst, leave_int, leave_bl, leave_str, leave_non, lo_int, lo_bl, lo_str, lo_non, lo_tup, lo_lst, loAll_nil, loAll_cons, loAll_ints, Bool.and_true, Bool.true_and, Bool.and_self, List.take_length, bin_add, bin_sub, int1_d, int1_bl, inn, ini, ins, int', inb, inl', Bool.not_true, Bool.not_false, decide_eq_true_eq, decide_true, decide_false, brB_b, slt_hi, slt_lo, slt_m1, sll_hi, sll_lo, mul_t0, mul_t1, Int.reduceLE, Int.reduceToNat, List.take_succ_cons, List.take_zero, List.drop_succ_cons, List.drop_zero, List.take_nil, List.drop_nil, Nat.reduceAdd, e_slHi, e_slLo, e_slLH, Int.reduceAdd, Int.add_zero, Int.mul_one, Int.mul_zero, Int.reduceNeg, List.getElem?_nil, Bool.false_eq_true, Int.reduceLT, Int.reduceEq, and_true, true_and, and_false, false_and, not_true_eq_false, not_false_eq_true, of_ite, map_ite, e_lc, i_e, items_tup, hlc, List.length_map, if_pos (show rows.length < lineM by unfold lineM; omega), ha, hm]
    rfl
  have hlc : lcGo (lcOne (FTab fb (j + 6)) [some (Rs R C), some (Fd pl ds), some (.tup (rows.map Vi.t)), none, none, none, none] (.blt .max1 [.bin .add (.lst [.int 0]) (.lc (.var 5) (.tup [4, 5, 6]) (.e (.var 2)) [4, 5, 6] [.cmp .eq (.var 4) (.var 3)])]) (.nm 3) [3] []) [.int 0, .int 1] s = .ok [.int (bestOf rows 0), .int (bestOf rows 1)] s := by
    have := lcGo_map (l := [(0 : Int), 1]) (f := Dt.int) (g := fun i => some (Dt.int (bestOf rows i))) (one := lcOne (FTab fb (j + 6)) [some (Rs R C), some (Fd pl ds), some (.tup (rows.map Vi.t)), none, none, none, none] (.blt .max1 [.bin .add (.lst [.int 0]) (.lc (.var 5) (.tup [4, 5, 6]) (.e (.var 2)) [4, 5, 6] [.cmp .eq (.var 4) (.var 3)])]) (.nm 3) [3] []) (s := s) fun x hx => by
      rw [lcOne_nil]
      simp only [wipeE, List.set_cons_succ, List.set_cons_zero, h1, ok_bind]
    exact this
  have l2 : (1 : Nat) + 1 < lineM := by decide
  simp only [B_p_best_breaks, ss_cons, ss_nil, s_setT', s_set', s_par', s_expr', s_ite', s_ret', s_retN', s_raise', e_var, e_non, e_bl, e_int, e_neg, e_str, e_bin, e_cmp, e_cmp2, e_and, e_or, e_not, e_ite, e_tup, e_lst, e_ix, e_isNon, e_notNon, e_call, e_blt, e_isi, e_rev, s_try', tryO_exc, tryO_nx, tryO_rt, tryO_ite, hs_nil, hs_cons, es_nil, es_cons, List.map_cons, List.map_nil, List.replicate, List.cons_append, List.nil_append, List.append_nil, List.getElem?_cons_zero, List.getElem?_cons_succ, lookV_some, ok_bind, ok_out, stuck_bind, stuck_out, onS_tup, onS_lst, onI_int, setAll, List.set_cons_zero, List.set_cons_succ, nxO_some, nx_then, rt_then, ite_then, exc_then, exc_bind, exc_out, finish_exc, deref_int, deref_bl, deref_str, deref_non, deref_tup, deref_lst, deref_scr, cmp_eq, cmp_ne, cmp_lt, cmp_le, cmp_gt, cmp_ge, Option.map_some, of_some', tru_bl, tru_int, tru_non, tru_tup0, tru_tup1, tru_lst0, tru_lst1, brB_t, brB_f, brB_d, brB_nd, finish_ite, finish_rt, finish_nx, ite_out, ite_bind, List.length_cons, List.length_nil, sz0, sz1, sz2, sz3, sz4, sz5, sz6, sz7, sz8, Nat.reduceAdd, Nat.reduceLeDiff, Nat.zero_le, Nat.zero_add, if_true, if_false, ↓reduceIte, ix_t0, ix_t1, ix_t2, ix_t3, ix_t4, ix_t5, ix_l0, ix_l1, leave_tup, leave_lst, leave_int, leave_bl, leave_str, leave_non, lo_int, lo_bl, lo_str, lo_non, lo_tup, lo_lst, loAll_nil, loAll_cons, loAll_ints, Bool.and_true, Bool.true_and, Bool.and_self, List.take_length, bin_add, bin_sub, int1_d, int1_bl, inn, ini, ins, int', inb, inl', Bool.not_true, Bool.not_false, decide_eq_true_eq, decide_true, decide_false, brB_b, slt_hi, slt_lo, slt_m1, sll_hi, sll_lo, mul_t0, mul_t1, Int.reduceLE, Int.reduceToNat, List.take_succ_cons, List.take_zero, List.drop_succ_cons, List.drop_zero, List.take_nil, List.drop_nil, Nat.reduceAdd, e_slHi, e_slLo, e_slLH, Int.reduceAdd, Int.add_zero, Int.mul_one, Int.mul_zero, Int.reduceNeg, List.getElem?_nil, Bool.false_eq_true, Int.reduceLT, Int.reduceEq, and_true, true_and, and_false, false_and, not_true_eq_false, not_false_eq_true, of_ite, map_ite, e, e_lc, i_e, items_tup, hlc, if_pos (show 2 < lineM by decide), tupleOf_lst]
end MP
namespace MP
open PySem
def top (i : Nat) : Stmt := PySem.Challenge.pw_baizehall_k10_whole_visits.main.body.getD i (.Pass ⟨0, 0, 0, 0⟩)
def FS : List (Str × Nat) := (("top_of", 0) : Str × Nat) :: (("is_there", 16) : Str × Nat) :: (("may_fall", 17) : Str × Nat) :: (("is_fair", 29) : Str × Nat) :: (("points_of", 30) : Str × Nat) :: (("foul_of", 31) : Str × Nat) :: (("first_place", 36) : Str × Nat) :: (("added", 38) : Str × Nat) :: (("struck", 39) : Str × Nat) :: (("behind", 40) : Str × Nat) :: (("visits", 59) : Str × Nat) :: (("breaks", 60) : Str × Nat) :: (("best_breaks", 61) : Str × Nat) :: (("_law_same", 6) : Str × Nat) :: (("_law_draw", 7) : Str × Nat) :: (("_law_pick", 8) : Str × Nat) :: (("_law_drawn_rules", 9) : Str × Nat) :: (("_law_can_fall", 18) : Str × Nat) :: (("_law_judged", 19) : Str × Nat) :: (("_law_is_here", 20) : Str × Nat) :: (("_law_moved", 21) : Str × Nat) :: (("_law_begin", 22) : Str × Nat) :: (("_law_drawn_stroke", 24) : Str × Nat) :: (("_law_drawn_deed", 25) : Str × Nat) :: (("_law_drawn_frame", 26) : Str × Nat) :: (("_law_own_visits", 62) : Str × Nat) :: (("law", 63) : Str × Nat) :: ("NotNow", 1005) :: []
theorem m_p_top_of : mSs ⟨["rules"], L2.defScope (top 1), FS⟩ B_p_top_of (L2.defBody (top 1)) = true := by decide +kernel
theorem sc_p_top_of : L2.FnScope ["rules"] ["rules"] (L2.defScope (top 1)) := ⟨rfl, rfl, rfl, by decide +kernel, rfl, by decide +kernel, by decide +kernel⟩
theorem m_p_is_there : mSs ⟨["rules", "place", "stroke", "up", "on", "reds", "low", "points", "free", "balls", "ball"], L2.defScope (top 6), FS⟩ B_p_is_there (L2.defBody (top 6)) = true := by decide +kernel
theorem sc_p_is_there : L2.FnScope ["rules", "place", "stroke", "up", "on", "reds", "low", "points", "free", "balls", "ball"] ["rules", "place", "stroke"] (L2.defScope (top 6)) := ⟨rfl, rfl, rfl, by decide +kernel, rfl, by decide +kernel, by decide +kernel⟩
theorem m_p_may_fall : mSs ⟨["place", "first", "up", "on", "reds", "low", "points", "free"], L2.defScope (top 7), FS⟩ B_p_may_fall (L2.defBody (top 7)) = true := by decide +kernel
theorem sc_p_may_fall : L2.FnScope ["place", "first", "up", "on", "reds", "low", "points", "free"] ["place", "first"] (L2.defScope (top 7)) := ⟨rfl, rfl, rfl, by decide +kernel, rfl, by decide +kernel, by decide +kernel⟩
theorem m_p_is_fair : mSs ⟨["place", "stroke", "balls", "ball"], L2.defScope (top 8), FS⟩ B_p_is_fair (L2.defBody (top 8)) = true := by decide +kernel
theorem sc_p_is_fair : L2.FnScope ["place", "stroke", "balls", "ball"] ["place", "stroke"] (L2.defScope (top 8)) := ⟨rfl, rfl, rfl, by decide +kernel, rfl, by decide +kernel, by decide +kernel⟩
theorem m_p_points_of : mSs ⟨["place", "stroke"], L2.defScope (top 9), FS⟩ B_p_points_of (L2.defBody (top 9)) = true := by decide +kernel
theorem sc_p_points_of : L2.FnScope ["place", "stroke"] ["place", "stroke"] (L2.defScope (top 9)) := ⟨rfl, rfl, rfl, by decide +kernel, rfl, by decide +kernel, by decide +kernel⟩
theorem m_p_foul_of : mSs ⟨["place", "stroke"], L2.defScope (top 10), FS⟩ B_p_foul_of (L2.defBody (top 10)) = true := by decide +kernel
theorem sc_p_foul_of : L2.FnScope ["place", "stroke"] ["place", "stroke"] (L2.defScope (top 10)) := ⟨rfl, rfl, rfl, by decide +kernel, rfl, by decide +kernel, by decide +kernel⟩
theorem m_p_first_place : mSs ⟨["rules", "player"], L2.defScope (top 12), FS⟩ B_p_first_place (L2.defBody (top 12)) = true := by decide +kernel
theorem sc_p_first_place : L2.FnScope ["rules", "player"] ["rules", "player"] (L2.defScope (top 12)) := ⟨rfl, rfl, rfl, by decide +kernel, rfl, by decide +kernel, by decide +kernel⟩
theorem m_p_added : mSs ⟨["points", "player", "more"], L2.defScope (top 13), FS⟩ B_p_added (L2.defBody (top 13)) = true := by decide +kernel
theorem sc_p_added : L2.FnScope ["points", "player", "more"] ["points", "player", "more"] (L2.defScope (top 13)) := ⟨rfl, rfl, rfl, by decide +kernel, rfl, by decide +kernel, by decide +kernel⟩
theorem m_p_struck : mSs ⟨["rules", "place", "stroke", "up", "on", "reds", "low", "points", "free", "top", "gain", "loss", "ends", "start"], L2.defScope (top 14), FS⟩ B_p_struck (L2.defBody (top 14)) = true := by decide +kernel
theorem sc_p_struck : L2.FnScope ["rules", "place", "stroke", "up", "on", "reds", "low", "points", "free", "top", "gain", "loss", "ends", "start"] ["rules", "place", "stroke"] (L2.defScope (top 14)) := ⟨rfl, rfl, rfl, by decide +kernel, rfl, by decide +kernel, by decide +kernel⟩
theorem m_p_behind : mSs ⟨["rules", "place", "deed", "up", "on", "reds", "low", "points", "free"], L2.defScope (top 15), FS⟩ B_p_behind (L2.defBody (top 15)) = true := by decide +kernel
theorem sc_p_behind : L2.FnScope ["rules", "place", "deed", "up", "on", "reds", "low", "points", "free"] ["rules", "place", "deed"] (L2.defScope (top 15)) := ⟨rfl, rfl, rfl, by decide +kernel, rfl, by decide +kernel, by decide +kernel⟩
theorem m_p_visits : mSs ⟨["rules", "frame", "found", "place", "is_fresh", "deed", "new", "gain", "player", "points", "many"], L2.defScope (top 17), FS⟩ B_p_visits (L2.defBody (top 17)) = true := by decide +kernel
theorem sc_p_visits : L2.FnScope ["rules", "frame", "found", "place", "is_fresh", "deed", "new", "gain", "player", "points", "many"] ["rules", "frame"] (L2.defScope (top 17)) := ⟨rfl, rfl, rfl, by decide +kernel, rfl, by decide +kernel, by decide +kernel⟩
theorem m_p_breaks : mSs ⟨["rules", "frame", "least", "player", "points", "many"], L2.defScope (top 18), FS⟩ B_p_breaks (L2.defBody (top 18)) = true := by decide +kernel
theorem sc_p_breaks : L2.FnScope ["rules", "frame", "least", "player", "points", "many"] ["rules", "frame", "least"] (L2.defScope (top 18)) := ⟨rfl, rfl, rfl, by decide +kernel, rfl, by decide +kernel, by decide +kernel⟩
theorem m_p_best_breaks : mSs ⟨["rules", "frame", "rows", "player", "who", "points", "many"], L2.defScope (top 19), FS⟩ B_p_best_breaks (L2.defBody (top 19)) = true := by decide +kernel
theorem sc_p_best_breaks : L2.FnScope ["rules", "frame", "rows", "player", "who", "points", "many"] ["rules", "frame"] (L2.defScope (top 19)) := ⟨rfl, rfl, rfl, by decide +kernel, rfl, by decide +kernel, by decide +kernel⟩
theorem m_law_same : mSs ⟨["_law_got", "_law_due", "_law_one", "_law_other"], L2.defScope (top 21), FS⟩ B_law_same (L2.defBody (top 21)) = true := by decide +kernel
theorem sc_law_same : L2.FnScope ["_law_got", "_law_due", "_law_one", "_law_other"] ["_law_got", "_law_due"] (L2.defScope (top 21)) := ⟨rfl, rfl, rfl, by decide +kernel, rfl, by decide +kernel, by decide +kernel⟩
theorem m_law_draw : mSs ⟨["_law_script", "_law_town", "_law_many", "_law_k", "_law_cell", "_law_number", "_law_more"], L2.defScope (top 22), FS⟩ B_law_draw (L2.defBody (top 22)) = true := by decide +kernel
theorem sc_law_draw : L2.FnScope ["_law_script", "_law_town", "_law_many", "_law_k", "_law_cell", "_law_number", "_law_more"] ["_law_script", "_law_town", "_law_many"] (L2.defScope (top 22)) := ⟨rfl, rfl, rfl, by decide +kernel, rfl, by decide +kernel, by decide +kernel⟩
theorem m_law_pick : mSs ⟨["_law_script", "_law_town", "_law_some"], L2.defScope (top 23), FS⟩ B_law_pick (L2.defBody (top 23)) = true := by decide +kernel
theorem sc_law_pick : L2.FnScope ["_law_script", "_law_town", "_law_some"] ["_law_script", "_law_town", "_law_some"] (L2.defScope (top 23)) := ⟨rfl, rfl, rfl, by decide +kernel, rfl, by decide +kernel, by decide +kernel⟩
theorem m_law_drawn_rules : mSs ⟨["_law_script", "_law_town"], L2.defScope (top 24), FS⟩ B_law_drawn_rules (L2.defBody (top 24)) = true := by decide +kernel
theorem sc_law_drawn_rules : L2.FnScope ["_law_script", "_law_town"] ["_law_script", "_law_town"] (L2.defScope (top 24)) := ⟨rfl, rfl, rfl, by decide +kernel, rfl, by decide +kernel, by decide +kernel⟩
theorem m_law_can_fall : mSs ⟨["_law_place", "_law_first", "_law_on", "_law_free"], L2.defScope (top 25), FS⟩ B_law_can_fall (L2.defBody (top 25)) = true := by decide +kernel
theorem sc_law_can_fall : L2.FnScope ["_law_place", "_law_first", "_law_on", "_law_free"] ["_law_place", "_law_first"] (L2.defScope (top 25)) := ⟨rfl, rfl, rfl, by decide +kernel, rfl, by decide +kernel, by decide +kernel⟩
theorem m_law_judged : mSs ⟨["_law_place", "_law_stroke", "_law_first", "_law_pots", "_law_off", "_law_balls", "_law_ball"], L2.defScope (top 26), FS⟩ B_law_judged (L2.defBody (top 26)) = true := by decide +kernel
theorem sc_law_judged : L2.FnScope ["_law_place", "_law_stroke", "_law_first", "_law_pots", "_law_off", "_law_balls", "_law_ball"] ["_law_place", "_law_stroke"] (L2.defScope (top 26)) := ⟨rfl, rfl, rfl, by decide +kernel, rfl, by decide +kernel, by decide +kernel⟩
theorem m_law_is_here : mSs ⟨["_law_place", "_law_stroke", "_law_reds", "_law_low", "_law_ball"], L2.defScope (top 27), FS⟩ B_law_is_here (L2.defBody (top 27)) = true := by decide +kernel
theorem sc_law_is_here : L2.FnScope ["_law_place", "_law_stroke", "_law_reds", "_law_low", "_law_ball"] ["_law_place", "_law_stroke"] (L2.defScope (top 27)) := ⟨rfl, rfl, rfl, by decide +kernel, rfl, by decide +kernel, by decide +kernel⟩
theorem m_law_moved : mSs ⟨["_law_rules", "_law_place", "_law_deed", "_law_up", "_law_on", "_law_reds", "_law_low", "_law_points", "_law_free", "_law_top", "_law_gain", "_law_loss", "_law_pair", "_law_left", "_law_then", "_law_other", "_law_level"], L2.defScope (top 28), FS⟩ B_law_moved (L2.defBody (top 28)) = true := by decide +kernel
theorem sc_law_moved : L2.FnScope ["_law_rules", "_law_place", "_law_deed", "_law_up", "_law_on", "_law_reds", "_law_low", "_law_points", "_law_free", "_law_top", "_law_gain", "_law_loss", "_law_pair", "_law_left", "_law_then", "_law_other", "_law_level"] ["_law_rules", "_law_place", "_law_deed"] (L2.defScope (top 28)) := ⟨rfl, rfl, rfl, by decide +kernel, rfl, by decide +kernel, by decide +kernel⟩
theorem m_law_begin : mSs ⟨["_law_rules", "_law_player"], L2.defScope (top 29), FS⟩ B_law_begin (L2.defBody (top 29)) = true := by decide +kernel
theorem sc_law_begin : L2.FnScope ["_law_rules", "_law_player"] ["_law_rules", "_law_player"] (L2.defScope (top 29)) := ⟨rfl, rfl, rfl, by decide +kernel, rfl, by decide +kernel, by decide +kernel⟩
theorem m_law_drawn_stroke : mSs ⟨["_law_script", "_law_town", "_law_rules", "_law_place", "_law_up", "_law_on", "_law_reds", "_law_low", "_law_points", "_law_free", "_law_colours", "_law_way", "_law_first", "_law_pots", "_law_some", "_law_ball"], L2.defScope (top 31), FS⟩ B_law_drawn_stroke (L2.defBody (top 31)) = true := by decide +kernel
theorem sc_law_drawn_stroke : L2.FnScope ["_law_script", "_law_town", "_law_rules", "_law_place", "_law_up", "_law_on", "_law_reds", "_law_low", "_law_points", "_law_free", "_law_colours", "_law_way", "_law_first", "_law_pots", "_law_some", "_law_ball"] ["_law_script", "_law_town", "_law_rules", "_law_place"] (L2.defScope (top 31)) := ⟨rfl, rfl, rfl, by decide +kernel, rfl, by decide +kernel, by decide +kernel⟩
theorem m_law_drawn_deed : mSs ⟨["_law_script", "_law_town", "_law_rules", "_law_place", "_law_way"], L2.defScope (top 32), FS⟩ B_law_drawn_deed (L2.defBody (top 32)) = true := by decide +kernel
theorem sc_law_drawn_deed : L2.FnScope ["_law_script", "_law_town", "_law_rules", "_law_place", "_law_way"] ["_law_script", "_law_town", "_law_rules", "_law_place"] (L2.defScope (top 32)) := ⟨rfl, rfl, rfl, by decide +kernel, rfl, by decide +kernel, by decide +kernel⟩
theorem m_law_drawn_frame : mSs ⟨["_law_script", "_law_town", "_law_rules", "_law_most", "_law_first", "_law_deeds", "_law_place", "_law_k", "_law_deed", "_law_found"], L2.defScope (top 33), FS⟩ B_law_drawn_frame (L2.defBody (top 33)) = true := by decide +kernel
theorem sc_law_drawn_frame : L2.FnScope ["_law_script", "_law_town", "_law_rules", "_law_most", "_law_first", "_law_deeds", "_law_place", "_law_k", "_law_deed", "_law_found"] ["_law_script", "_law_town", "_law_rules", "_law_most"] (L2.defScope (top 33)) := ⟨rfl, rfl, rfl, by decide +kernel, rfl, by decide +kernel, by decide +kernel⟩
theorem m_law_own_visits : mSs ⟨["_law_rules", "_law_frame", "_law_found", "_law_state", "_law_fresh", "_law_deed", "_law_place", "_law_gain", "_law_row"], L2.defScope (top 34), FS⟩ B_law_own_visits (L2.defBody (top 34)) = true := by decide +kernel
theorem sc_law_own_visits : L2.FnScope ["_law_rules", "_law_frame", "_law_found", "_law_state", "_law_fresh", "_law_deed", "_law_place", "_law_gain", "_law_row"] ["_law_rules", "_law_frame"] (L2.defScope (top 34)) := ⟨rfl, rfl, rfl, by decide +kernel, rfl, by decide +kernel, by decide +kernel⟩
theorem m_law_k10 : mSs ⟨["_law_script", "_law_town", "_law_k", "_law_rules", "_law_frame", "_law_due", "_law_least", "_law_best", "_law_player", "_law_points", "_law_many", "_law_some"], L2.defScope (top 35), FS⟩ B_law_k10 (L2.defBody (top 35)) = true := by decide +kernel
theorem sc_law_k10 : L2.FnScope ["_law_script", "_law_town", "_law_k", "_law_rules", "_law_frame", "_law_due", "_law_least", "_law_best", "_law_player", "_law_points", "_law_many", "_law_some"] ["_law_script"] (L2.defScope (top 35)) := ⟨rfl, rfl, rfl, by decide +kernel, rfl, by decide +kernel, by decide +kernel⟩
end MP
/-! k10: plain: visits, breaks, best breaks. -/
namespace MP
open PySem
theorem vadd_who {fd : List Vi} {fr : Bool} {up g : Int} (hu : up = 0 ∨ up = 1) (h : ∀ v ∈ fd, v.who = 0 ∨ v.who = 1) : ∀ v ∈ vadd fd fr up g, v.who = 0 ∨ v.who = 1 := by
  intro v hv
  unfold vadd at hv
  split at hv
  · rcases List.mem_append.mp hv with hv | hv
    · exact h v hv
    · rw [List.mem_singleton.mp hv]; exact hu
  · split at hv
    · rcases List.mem_append.mp hv with hv | hv
      · exact h v (List.dropLast_subset _ hv)
      · rw [List.mem_singleton.mp hv]; exact hu
    · exact h v hv
theorem vis_who {R C : Int} (hC : 1 ≤ C) : ∀ {ds : List De} {m : MR} {fd : List Vi} {fr : Bool}, m.good R C → (∀ v ∈ fd, v.who = 0 ∨ v.who = 1) → ∀ v ∈ vis C m fd fr ds, v.who = 0 ∨ v.who = 1
  | [], m, fd, fr, _, h => by rw [vis_nil]; exact h
  | d :: ds, .now, fd, fr, _, h => by simp only [vis]; exact h
  | d :: ds, .over _ _ _, fd, fr, _, h => by simp only [vis]; exact h
  | d :: ds, .go p a b, fd, fr, hg, h => by
    have hg' : Good R C p := hg
    have hgg : (moved C p d).good R C := by
      cases hq : moved C p d with
      | go q a' b' => exact moved_good hg' hC hq
      | _ => trivial
    by_cases hk : ∃ k, d = .stroke k
    · obtain ⟨k, rfl⟩ := hk
      simp only [vis]
      exact vis_who hC hgg (vadd_who hg'.up h)
    · have hd : ∀ k, d ≠ .stroke k := fun k z => hk ⟨k, z⟩
      rw [vis_other hd]
      exact vis_who hC hgg h
theorem visits_who {R C pl : Int} {ds : List De} {m : MR} (f : Frm R C pl ds m) : ∀ v ∈ visits R C pl ds, v.who = 0 ∨ v.who = 1 := vis_who (R := R) (m := .go (stt R pl) 0 0) f.C1 (stt_good f.hp f.R1 f.C1) fun _ h => nomatch h
theorem max2_ {a b : Int} : evBl .max2 [.int a, .int b] = some (.int (if b > a then b else a)) := rfl
theorem best_go {F : FT} {K : Nat} {o t x2 x3 x4 x5 x6 x11 : Option Dt} : ∀ (rows : List Vi) (b0 b1 : Int) (S : Sta) (x8 x9 x10 : Option Dt), (∀ v ∈ rows, v.who = 0 ∨ v.who = 1) → S[K]? = some (.lst [.int b0, .int b1]) →
    ∃ y8 y9 y10, forGo (forOne F (.tup [8, 9, 10]) B_law_k10_f2) (rows.map Vi.t) [o, t, x2, x3, x4, x5, x6, some (.ref K), x8, x9, x10, x11] S = .nx [o, t, x2, x3, x4, x5, x6, some (.ref K), y8, y9, y10, x11]
      (setCell S K [.int (maxI b0 ((rows.filter fun v => decide (v.who = 0)).map Vi.pts)), .int (maxI b1 ((rows.filter fun v => decide (v.who = 1)).map Vi.pts))])
  | [], b0, b1, S, x8, x9, x10, _, hS => ⟨_, _, _, by simp only [List.filter_nil, List.map_nil, maxI, set_same hS]; rfl⟩
  | v :: rows, b0, b1, S, x8, x9, x10, hw, hS => by
    rw [List.map_cons, forGo, forOne_t (ρ' := [o, t, x2, x3, x4, x5, x6, some (.ref K), some (.int v.who), some (.int v.pts), some (.int v.many), x11]) rfl]
    have ds' := deref_ref hS
    have ix0 : evIx (.lst [Dt.int b0, .int b1]) (.int 0) = some (.int b0) := ix_l0
    have ix1 : evIx (.lst [Dt.int b0, .int b1]) (.int 1) = some (.int b1) := ix_l1
    have rest := fun y z => best_go (F := F) (K := K) (o := o) (t := t) (x2 := x2) (x3 := x3) (x4 := x4) (x5 := x5) (x6 := x6) (x11 := x11) rows y z (setCell S K [.int y, .int z]) (some (.int v.who)) (some (.int v.pts)) (some (.int v.many)) (fun v hv => hw v (List.mem_cons_of_mem _ hv)) (set_get hS)
    rcases hw v List.mem_cons_self with h0 | h1
    · have si := fun (ρ : Env) => setIxO_mk (ρ := ρ) (n := 0) (i := 0) (d := .int (if v.pts > b0 then v.pts else b0)) hS rfl rfl
      simp only [List.set_cons_zero] at si
      have nh : ¬ v.who = 1 := by omega
      obtain ⟨y8, y9, y10, e⟩ := rest (if v.pts > b0 then v.pts else b0) b1
      rw [set_set] at e
      refine ⟨y8, y9, y10, ?_⟩
      rw [List.filter_cons, List.filter_cons, if_pos (by simp [h0]), if_neg (by simp [nh]), List.map_cons, maxI]
      rw [← e]
      simp only [B_law_k10_f2, ss_cons, ss_nil, s_setT', s_set', s_par', s_expr', s_ite', s_ret', s_retN', s_raise', e_var, e_non, e_bl, e_int, e_neg, e_str, e_bin, e_cmp, e_cmp2, e_and, e_or, e_not, e_ite, e_tup, e_lst, e_ix, e_isNon, e_notNon, e_call, e_blt, e_isi, e_rev, s_try', tryO_exc, tryO_nx, tryO_rt, tryO_ite, hs_nil, hs_cons, es_nil, es_cons, List.map_cons, List.map_nil, List.replicate, List.cons_append, List.nil_append, List.append_nil, List.getElem?_cons_zero, List.getElem?_cons_succ, lookV_some, ok_bind, ok_out, stuck_bind, stuck_out, onS_tup, onS_lst, onI_int, setAll, List.set_cons_zero, List.set_cons_succ, nxO_some, nx_then, rt_then, ite_then, exc_then, exc_bind, exc_out, finish_exc, deref_int, deref_bl, deref_str, deref_non, deref_tup, deref_lst, deref_scr, cmp_eq, cmp_ne, cmp_lt, cmp_le, cmp_gt, cmp_ge, Option.map_some, of_some', tru_bl, tru_int, tru_non, tru_tup0, tru_tup1, tru_lst0, tru_lst1, brB_t, brB_f, brB_d, brB_nd, finish_ite, finish_rt, finish_nx, ite_out, ite_bind, List.length_cons, List.length_nil, sz0, sz1, sz2, sz3, sz4, sz5, sz6, sz7, sz8, Nat.reduceAdd, Nat.reduceLeDiff, Nat.zero_le, Nat.zero_add, if_true, if_false, ↓reduceIte, ix_t0, ix_t1, ix_t2, ix_t3, ix_t4, ix_t5, ix_l0, ix_l1, leave_tup, leave_lst, leave_int, leave_bl, leave_str, leave_non, lo_int, lo_bl, lo_str, lo_non, lo_tup, lo_lst, loAll_nil, loAll_cons, loAll_ints, Bool.and_true, Bool.true_and, Bool.and_self, List.take_length, bin_add, bin_sub, int1_d, int1_bl, inn, ini, ins, int', inb, inl', Bool.not_true, Bool.not_false, decide_eq_true_eq, decide_true, decide_false, brB_b, slt_hi, slt_lo, slt_m1, sll_hi, sll_lo, mul_t0, mul_t1, Int.reduceLE, Int.reduceToNat, List.take_succ_cons, List.take_zero, List.drop_succ_cons, List.drop_zero, List.take_nil, List.drop_nil, Nat.reduceAdd, e_slHi, e_slLo, e_slLH, Int.reduceAdd, Int.add_zero, Int.mul_one, Int.mul_zero, Int.reduceNeg, List.getElem?_nil, Bool.false_eq_true, Int.reduceLT, Int.reduceEq, and_true, true_and, and_false, false_and, not_true_eq_false, not_false_eq_true, of_ite, map_ite, s_setIx', h0, ds', ix0, max2_, si]
    · have si := fun (ρ : Env) => setIxO_mk (ρ := ρ) (n := 1) (i := 1) (d := .int (if v.pts > b1 then v.pts else b1)) hS rfl rfl
      simp only [List.set_cons_zero, List.set_cons_succ] at si
      have nh : ¬ v.who = 0 := by omega
      obtain ⟨y8, y9, y10, e⟩ := rest b0 (if v.pts > b1 then v.pts else b1)
      rw [set_set] at e
      refine ⟨y8, y9, y10, ?_⟩
      rw [List.filter_cons, List.filter_cons, if_neg (by simp [nh]), if_pos (by simp [h1]), List.map_cons, maxI]
      rw [← e]
      simp only [B_law_k10_f2, ss_cons, ss_nil, s_setT', s_set', s_par', s_expr', s_ite', s_ret', s_retN', s_raise', e_var, e_non, e_bl, e_int, e_neg, e_str, e_bin, e_cmp, e_cmp2, e_and, e_or, e_not, e_ite, e_tup, e_lst, e_ix, e_isNon, e_notNon, e_call, e_blt, e_isi, e_rev, s_try', tryO_exc, tryO_nx, tryO_rt, tryO_ite, hs_nil, hs_cons, es_nil, es_cons, List.map_cons, List.map_nil, List.replicate, List.cons_append, List.nil_append, List.append_nil, List.getElem?_cons_zero, List.getElem?_cons_succ, lookV_some, ok_bind, ok_out, stuck_bind, stuck_out, onS_tup, onS_lst, onI_int, setAll, List.set_cons_zero, List.set_cons_succ, nxO_some, nx_then, rt_then, ite_then, exc_then, exc_bind, exc_out, finish_exc, deref_int, deref_bl, deref_str, deref_non, deref_tup, deref_lst, deref_scr, cmp_eq, cmp_ne, cmp_lt, cmp_le, cmp_gt, cmp_ge, Option.map_some, of_some', tru_bl, tru_int, tru_non, tru_tup0, tru_tup1, tru_lst0, tru_lst1, brB_t, brB_f, brB_d, brB_nd, finish_ite, finish_rt, finish_nx, ite_out, ite_bind, List.length_cons, List.length_nil, sz0, sz1, sz2, sz3, sz4, sz5, sz6, sz7, sz8, Nat.reduceAdd, Nat.reduceLeDiff, Nat.zero_le, Nat.zero_add, if_true, if_false, ↓reduceIte, ix_t0, ix_t1, ix_t2, ix_t3, ix_t4, ix_t5, ix_l0, ix_l1, leave_tup, leave_lst, leave_int, leave_bl, leave_str, leave_non, lo_int, lo_bl, lo_str, lo_non, lo_tup, lo_lst, loAll_nil, loAll_cons, loAll_ints, Bool.and_true, Bool.true_and, Bool.and_self, List.take_length, bin_add, bin_sub, int1_d, int1_bl, inn, ini, ins, int', inb, inl', Bool.not_true, Bool.not_false, decide_eq_true_eq, decide_true, decide_false, brB_b, slt_hi, slt_lo, slt_m1, sll_hi, sll_lo, mul_t0, mul_t1, Int.reduceLE, Int.reduceToNat, List.take_succ_cons, List.take_zero, List.drop_succ_cons, List.drop_zero, List.take_nil, List.drop_nil, Nat.reduceAdd, e_slHi, e_slLo, e_slLH, Int.reduceAdd, Int.add_zero, Int.mul_one, Int.mul_zero, Int.reduceNeg, List.getElem?_nil, Bool.false_eq_true, Int.reduceLT, Int.reduceEq, and_true, true_and, and_false, false_and, not_true_eq_false, not_false_eq_true, of_ite, map_ite, s_setIx', h1, ds', ix1, max2_, si]
theorem k10_breaks {R C pl least : Int} {ds : List De} {m : MR} (f : Frm R C pl ds m) (hz : ds.length ≤ 1000) {o t x2 x6 x7 x8 x9 x10 x11 : Option Dt} {s : Sta} :
    forOne (FTab fb 39) (.nm 6) B_law_k10_f1 (.int least) [o, t, x2, some (Rs R C), some (Fd pl ds), some (.tup ((visits R C pl ds).map Vi.t)), x6, x7, x8, x9, x10, x11] s =
      .nx [o, t, x2, some (Rs R C), some (Fd pl ds), some (.tup ((visits R C pl ds).map Vi.t)), some (.int least), x7, x8, x9, x10, some (.tup (breaksOf (visits R C pl ds) least))] s := by
  have e := p_breaks (j := 32) (s := s) (least := least) f hz
  have lz := visits_len (R := R) (C := C) (pl := pl) (ds := ds)
  have e2 := same_refl 2 (j := 36) (s := s) (br_sm (rows := visits R C pl ds) (least := least) (by omega))
  have hlc : lcGo (lcOne (FTab fb 39) [o, t, x2, some (Rs R C), some (Fd pl ds), some (.tup ((visits R C pl ds).map Vi.t)), some (.int least), x7, x8, x9, x10, x11] (.tup [.var 8, .var 9]) (.tup [8, 9, 10]) [8, 9, 10] [.cmp .ge (.var 9) (.var 6)]) ((visits R C pl ds).map Vi.t) s = .ok (breaksOf (visits R C pl ds) least) s := by
    rw [lcGo_map (g := fun v => if least ≤ v.pts then some (.tup [.int v.who, .int v.pts]) else none) fun v hv => ?_, filterMap_if]
    · rfl
    · rw [lcOne_t1 (ρ' := [o, t, x2, some (Rs R C), some (Fd pl ds), some (.tup ((visits R C pl ds).map Vi.t)), some (.int least), x7, some (.int v.who), some (.int v.pts), some (.int v.many), x11]) (x := .bl (decide (least ≤ v.pts))) (s1 := s) rfl (by simp only [ss_cons, ss_nil, s_setT', s_set', s_par', s_expr', s_ite', s_ret', s_retN', s_raise', e_var, e_non, e_bl, e_int, e_neg, e_str, e_bin, e_cmp, e_cmp2, e_and, e_or, e_not, e_ite, e_tup, e_lst, e_ix, e_isNon, e_notNon, e_call, e_blt, e_isi, e_rev, s_try', tryO_exc, tryO_nx, tryO_rt, tryO_ite, hs_nil, hs_cons, es_nil, es_cons, List.map_cons, List.map_nil, List.replicate, List.cons_append, List.nil_append, List.append_nil, List.getElem?_cons_zero, List.getElem?_cons_succ, lookV_some, ok_bind, ok_out, stuck_bind, stuck_out, onS_tup, onS_lst, onI_int, setAll, List.set_cons_zero, List.set_cons_succ, nxO_some, nx_then, rt_then, ite_then, exc_then, exc_bind, exc_out, finish_exc, deref_int, deref_bl, deref_str, deref_non, deref_tup, deref_lst, deref_scr, cmp_eq, cmp_ne, cmp_lt, cmp_le, cmp_gt, cmp_ge, Option.map_some, of_some', tru_bl, tru_int, tru_non, tru_tup0, tru_tup1, tru_lst0, tru_lst1, brB_t, brB_f, brB_d, brB_nd, finish_ite, finish_rt, finish_nx, ite_out, ite_bind, List.length_cons, List.length_nil, sz0, sz1, sz2, sz3, sz4, sz5, sz6, sz7, sz8, Nat.reduceAdd, Nat.reduceLeDiff, Nat.zero_le, Nat.zero_add, if_true, if_false, ↓reduceIte, ix_t0, ix_t1, ix_t2, ix_t3, ix_t4, ix_t5, ix_l0, ix_l1, leave_tup, leave_lst, leave_int, leave_bl, leave_str, leave_non, lo_int, lo_bl, lo_str, lo_non, lo_tup, lo_lst, loAll_nil, loAll_cons, loAll_ints, Bool.and_true, Bool.true_and, Bool.and_self, List.take_length, bin_add, bin_sub, int1_d, int1_bl, inn, ini, ins, int', inb, inl', Bool.not_true, Bool.not_false, decide_eq_true_eq, decide_true, decide_false, brB_b, slt_hi, slt_lo, slt_m1, sll_hi, sll_lo, mul_t0, mul_t1, Int.reduceLE, Int.reduceToNat, List.take_succ_cons, List.take_zero, List.drop_succ_cons, List.drop_zero, List.take_nil, List.drop_nil, Nat.reduceAdd, e_slHi, e_slLo, e_slLH, Int.reduceAdd, Int.add_zero, Int.mul_one, Int.mul_zero, Int.reduceNeg, List.getElem?_nil, Bool.false_eq_true, Int.reduceLT, Int.reduceEq, and_true, true_and, and_false, false_and, not_true_eq_false, not_false_eq_true, of_ite, map_ite])]
      simp only [ss_cons, ss_nil, s_setT', s_set', s_par', s_expr', s_ite', s_ret', s_retN', s_raise', e_var, e_non, e_bl, e_int, e_neg, e_str, e_bin, e_cmp, e_cmp2, e_and, e_or, e_not, e_ite, e_tup, e_lst, e_ix, e_isNon, e_notNon, e_call, e_blt, e_isi, e_rev, s_try', tryO_exc, tryO_nx, tryO_rt, tryO_ite, hs_nil, hs_cons, es_nil, es_cons, List.map_cons, List.map_nil, List.replicate, List.cons_append, List.nil_append, List.append_nil, List.getElem?_cons_zero, List.getElem?_cons_succ, lookV_some, ok_bind, ok_out, stuck_bind, stuck_out, onS_tup, onS_lst, onI_int, setAll, List.set_cons_zero, List.set_cons_succ, nxO_some, nx_then, rt_then, ite_then, exc_then, exc_bind, exc_out, finish_exc, deref_int, deref_bl, deref_str, deref_non, deref_tup, deref_lst, deref_scr, cmp_eq, cmp_ne, cmp_lt, cmp_le, cmp_gt, cmp_ge, Option.map_some, of_some', tru_bl, tru_int, tru_non, tru_tup0, tru_tup1, tru_lst0, tru_lst1, brB_t, brB_f, brB_d, brB_nd, finish_ite, finish_rt, finish_nx, ite_out, ite_bind, List.length_cons, List.length_nil, sz0, sz1, sz2, sz3, sz4, sz5, sz6, sz7, sz8, Nat.reduceAdd, Nat.reduceLeDiff, Nat.zero_le, Nat.zero_add, if_true, if_false, ↓reduceIte, ix_t0, ix_t1, ix_t2, ix_t3, ix_t4, ix_t5, ix_l0, ix_l1, leave_tup, leave_lst, leave_int, leave_bl, leave_str, leave_non, lo_int, lo_bl, lo_str, lo_non, lo_tup, lo_lst, loAll_nil, loAll_cons, loAll_ints, Bool.and_true, Bool.true_and, Bool.and_self, List.take_length, bin_add, bin_sub, int1_d, int1_bl, inn, ini, ins, int', inb, inl', Bool.not_true, Bool.not_false, decide_eq_true_eq, decide_true, decide_false, brB_b, slt_hi, slt_lo, slt_m1, sll_hi, sll_lo, mul_t0, mul_t1, Int.reduceLE, Int.reduceToNat, List.take_succ_cons, List.take_zero, List.drop_succ_cons, List.drop_zero, List.take_nil, List.drop_nil, Nat.reduceAdd, e_slHi, e_slLo, e_slLH, Int.reduceAdd, Int.add_zero, Int.mul_one, Int.mul_zero, Int.reduceNeg, List.getElem?_nil, Bool.false_eq_true, Int.reduceLT, Int.reduceEq, and_true, true_and, and_false, false_and, not_true_eq_false, not_false_eq_true, of_ite, map_ite, lcIf_d]
      split <;> rfl
  rw [forOne_nm]
  simp only [Nat.reduceAdd] at e e2
  simp only [B_law_k10_f1, ss_cons, ss_nil, s_setT', s_set', s_par', s_expr', s_ite', s_ret', s_retN', s_raise', e_var, e_non, e_bl, e_int, e_neg, e_str, e_bin, e_cmp, e_cmp2, e_and, e_or, e_not, e_ite, e_tup, e_lst, e_ix, e_isNon, e_notNon, e_call, e_blt, e_isi, e_rev, s_try', tryO_exc, tryO_nx, tryO_rt, tryO_ite, hs_nil, hs_cons, es_nil, es_cons, List.map_cons, List.map_nil, List.replicate, List.cons_append, List.nil_append, List.append_nil, List.getElem?_cons_zero, List.getElem?_cons_succ, lookV_some, ok_bind, ok_out, stuck_bind, stuck_out, onS_tup, onS_lst, onI_int, setAll, List.set_cons_zero, List.set_cons_succ, nxO_some, nx_then, rt_then, ite_then, exc_then, exc_bind, exc_out, finish_exc, deref_int, deref_bl, deref_str, deref_non, deref_tup, deref_lst, deref_scr, cmp_eq, cmp_ne, cmp_lt, cmp_le, cmp_gt, cmp_ge, Option.map_some, of_some', tru_bl, tru_int, tru_non, tru_tup0, tru_tup1, tru_lst0, tru_lst1, brB_t, brB_f, brB_d, brB_nd, finish_ite, finish_rt, finish_nx, ite_out, ite_bind, List.length_cons, List.length_nil, sz0, sz1, sz2, sz3, sz4, sz5, sz6, sz7, sz8, Nat.reduceAdd, Nat.reduceLeDiff, Nat.zero_le, Nat.zero_add, if_true, if_false, ↓reduceIte, ix_t0, ix_t1, ix_t2, ix_t3, ix_t4, ix_t5, ix_l0, ix_l1, leave_tup, leave_lst, leave_int, leave_bl, leave_str, leave_non, lo_int, lo_bl, lo_str, lo_non, lo_tup, lo_lst, loAll_nil, loAll_cons, loAll_ints, Bool.and_true, Bool.true_and, Bool.and_self, List.take_length, bin_add, bin_sub, int1_d, int1_bl, inn, ini, ins, int', inb, inl', Bool.not_true, Bool.not_false, decide_eq_true_eq, decide_true, decide_false, brB_b, slt_hi, slt_lo, slt_m1, sll_hi, sll_lo, mul_t0, mul_t1, Int.reduceLE, Int.reduceToNat, List.take_succ_cons, List.take_zero, List.drop_succ_cons, List.drop_zero, List.take_nil, List.drop_nil, Nat.reduceAdd, e_slHi, e_slLo, e_slLH, Int.reduceAdd, Int.add_zero, Int.mul_one, Int.mul_zero, Int.reduceNeg, List.getElem?_nil, Bool.false_eq_true, Int.reduceLT, Int.reduceEq, and_true, true_and, and_false, false_and, not_true_eq_false, not_false_eq_true, of_ite, map_ite, e_lc, i_e, items_tup, hlc, List.length_map, if_pos (show (visits R C pl ds).length < lineM by unfold lineM; omega), tupleOf_lst, e, e2]
theorem plain (ns : List Int) (h : ns.length ≤ 63) : ∃ s', runF (FTab fb 39) 12 1 B_law_k10 [.scr ns] [] = .ok (.bl true) s' := by
  rw [runF_eq (n := 12) (p := 1) (args := [Dt.scr ns]) (s := []) rfl]
  obtain ⟨ρ', s', e, hq⟩ := for_n (one := forOne (FTab fb 39) (.nm 2) B_law_k10_f3) isInt
    (fun n ρ s => (∃ x2 x3 x4 x5 x6 x7 x8 x9 x10 x11, ρ = [some (.scr ns), some (.ref 0), x2, x3, x4, x5, x6, x7, x8, x9, x10, x11]) ∧ Has 0 s (4100 * n)) (fun n d ρ s hd hP => by
      obtain ⟨⟨x2, x3, x4, x5, x6, x7, x8, x9, x10, x11, rfl⟩, hh⟩ := hP
      obtain ⟨R, C, s1, e1, R1, R6, C2, C6, w1⟩ := rules (j := 36) (ns := ns) (k := 0) (s := s) (hh.mono (by omega))
      have h1 : Has 0 s1 (4098 + 4100 * n) := w1.has (hh.mono (by omega))
      obtain ⟨most, s2, e2, m2, w2⟩ := pickI (j := 37) (ns := ns) (k := 0) (l := [3, 20, 60]) (s := s1) (by simp) (h1.mono (by omega))
      have h2 : Has 0 s2 (4097 + 4100 * n) := w2.has (h1.mono (by omega))
      have hm : 3 ≤ most ∧ most ≤ 60 := by simp at m2; omega
      obtain ⟨pl, ds, m, s3, e3, f, hz, w3⟩ := drawn_frm (j := 33) (ns := ns) (town := 0) (R := R) (C := C) (most := most) (s := s2) R1 (by omega) (by omega) (by omega) (by omega) (by omega) (h2.mono (by omega))
      have h3 : Has 0 s3 (1 + 4100 * n) := (w3.mono (show 1 + 65 * most.toNat ≤ 4096 by omega)).has (h2.mono (by omega))
      have hz' : ds.length ≤ 1000 := by omega
      have e4 := l_own_visits (j := 33) (s := s3) f hz'
      have e5 := p_visits (j := 33) (s := s3) f hz'
      have lz := visits_len (R := R) (C := C) (pl := pl) (ds := ds)
      have e6 := same_refl 2 (j := 36) (s := s3) (vi_sm (rows := visits R C pl ds) (by omega))
      obtain ⟨r, s4, e7, r0, r1, w4⟩ := draw (j := 38) (ns := ns) (k := 0) (m := 20) (s := s3) (by decide) (h3.mono (by omega))
      have h4 : Has 0 s4 (4100 * n) := w4.has h3
      -- the three leasts
      obtain ⟨ρ5, s5, e8, ⟨y6, y11, hρ5⟩, hs5⟩ := for_n (one := forOne (FTab fb 39) (.nm 6) B_law_k10_f1) isInt
        (fun _ ρ s => (∃ y6 y11, ρ = [some (.scr ns), some (.ref 0), some d, some (Rs R C), some (Fd pl ds), some (.tup ((visits R C pl ds).map Vi.t)), y6, x7, x8, x9, x10, y11]) ∧ s = s4) (fun _ d' ρ' s' hd' hP' => by
          obtain ⟨⟨y6, y11, rfl⟩, rfl⟩ := hP'
          obtain ⟨least, rfl⟩ := hd'
          exact ⟨_, _, k10_breaks f hz', ⟨_, _, rfl⟩, rfl⟩)
        [.int 0, .int 1, .int (1 + r)] [some (.scr ns), some (.ref 0), some d, some (Rs R C), some (Fd pl ds), some (.tup ((visits R C pl ds).map Vi.t)), x6, x7, x8, x9, x10, x11] s4 (by intro d hd; simp at hd; rcases hd with rfl | rfl | rfl <;> exact ⟨_, rfl⟩) ⟨⟨_, _, rfl⟩, rfl⟩
      subst hρ5 hs5
      have hS : (s5 ++ [Cell.lst [.int 0, .int 0]] : Sta)[s5.length]? = some (.lst [.int 0, .int 0]) := by simp
      obtain ⟨z8, z9, z10, e9⟩ := best_go (F := FTab fb 39) (K := s5.length) (o := some (.scr ns)) (t := some (.ref 0)) (x2 := some d) (x3 := some (Rs R C)) (x4 := some (Fd pl ds)) (x5 := some (.tup ((visits R C pl ds).map Vi.t))) (x6 := y6) (x11 := y11) (visits R C pl ds) 0 0 (s5 ++ [Cell.lst [.int 0, .int 0]]) x8 x9 x10 (visits_who f) hS
      have hS2 := set_get (es := [.int (maxI 0 (((visits R C pl ds).filter fun v => decide (v.who = 0)).map Vi.pts)), .int (maxI 0 (((visits R C pl ds).filter fun v => decide (v.who = 1)).map Vi.pts))]) hS
      have e10 := p_best_breaks (j := 32) (s := setCell (s5 ++ [Cell.lst [.int 0, .int 0]]) s5.length [.int (maxI 0 (((visits R C pl ds).filter fun v => decide (v.who = 0)).map Vi.pts)), .int (maxI 0 (((visits R C pl ds).filter fun v => decide (v.who = 1)).map Vi.pts))]) f hz'
      have e11 := same_refl 1 (j := 37) (d := .tup [.int (bestOf (visits R C pl ds) 0), .int (bestOf (visits R C pl ds) 1)]) (s := setCell (s5 ++ [Cell.lst [.int 0, .int 0]]) s5.length [.int (maxI 0 (((visits R C pl ds).filter fun v => decide (v.who = 0)).map Vi.pts)), .int (maxI 0 (((visits R C pl ds).filter fun v => decide (v.who = 1)).map Vi.pts))]) (by simp [Dt.sm, lineM])
      simp only [Nat.reduceAdd, List.map_cons, List.map_nil] at e1 e2 e3 e4 e5 e6 e7 e10 e11
      generalize hvs : visits R C pl ds = rows at *
      apply nx_intro
      · rw [forOne_nm]
        simp only [B_law_k10_f3, ss_cons, ss_nil, s_setT', s_set', s_par', s_expr', s_ite', s_ret', s_retN', s_raise', e_var, e_non, e_bl, e_int, e_neg, e_str, e_bin, e_cmp, e_cmp2, e_and, e_or, e_not, e_ite, e_tup, e_lst, e_ix, e_isNon, e_notNon, e_call, e_blt, e_isi, e_rev, s_try', tryO_exc, tryO_nx, tryO_rt, tryO_ite, hs_nil, hs_cons, es_nil, es_cons, List.map_cons, List.map_nil, List.replicate, List.cons_append, List.nil_append, List.append_nil, List.getElem?_cons_zero, List.getElem?_cons_succ, lookV_some, ok_bind, ok_out, stuck_bind, stuck_out, onS_tup, onS_lst, onI_int, setAll, List.set_cons_zero, List.set_cons_succ, nxO_some, nx_then, rt_then, ite_then, exc_then, exc_bind, exc_out, finish_exc, deref_int, deref_bl, deref_str, deref_non, deref_tup, deref_lst, deref_scr, cmp_eq, cmp_ne, cmp_lt, cmp_le, cmp_gt, cmp_ge, Option.map_some, of_some', tru_bl, tru_int, tru_non, tru_tup0, tru_tup1, tru_lst0, tru_lst1, brB_t, brB_f, brB_d, brB_nd, finish_ite, finish_rt, finish_nx, ite_out, ite_bind, List.length_cons, List.length_nil, sz0, sz1, sz2, sz3, sz4, sz5, sz6, sz7, sz8, Nat.reduceAdd, Nat.reduceLeDiff, Nat.zero_le, Nat.zero_add, if_true, if_false, ↓reduceIte, ix_t0, ix_t1, ix_t2, ix_t3, ix_t4, ix_t5, ix_l0, ix_l1, leave_tup, leave_lst, leave_int, leave_bl, leave_str, leave_non, lo_int, lo_bl, lo_str, lo_non, lo_tup, lo_lst, loAll_nil, loAll_cons, loAll_ints, Bool.and_true, Bool.true_and, Bool.and_self, List.take_length, bin_add, bin_sub, int1_d, int1_bl, inn, ini, ins, int', inb, inl', Bool.not_true, Bool.not_false, decide_eq_true_eq, decide_true, decide_false, brB_b, slt_hi, slt_lo, slt_m1, sll_hi, sll_lo, mul_t0, mul_t1, Int.reduceLE, Int.reduceToNat, List.take_succ_cons, List.take_zero, List.drop_succ_cons, List.drop_zero, List.take_nil, List.drop_nil, Nat.reduceAdd, e_slHi, e_slLo, e_slLH, Int.reduceAdd, Int.add_zero, Int.mul_one, Int.mul_zero, Int.reduceNeg, List.getElem?_nil, Bool.false_eq_true, Int.reduceLT, Int.reduceEq, and_true, true_and, and_false, false_and, not_true_eq_false, not_false_eq_true, of_ite, map_ite, e1, e2, e3, e4, e5, e6, e7, s_for', i_e, items_tup, e8, e_mlst, decide_eq_true sz2, e9, deref_ref hS2, tupleOf_lst, e10]
        simp only [bestOf] at e11
        simp only [bestOf, e11, ss_cons, ss_nil, s_setT', s_set', s_par', s_expr', s_ite', s_ret', s_retN', s_raise', e_var, e_non, e_bl, e_int, e_neg, e_str, e_bin, e_cmp, e_cmp2, e_and, e_or, e_not, e_ite, e_tup, e_lst, e_ix, e_isNon, e_notNon, e_call, e_blt, e_isi, e_rev, s_try', tryO_exc, tryO_nx, tryO_rt, tryO_ite, hs_nil, hs_cons, es_nil, es_cons, List.map_cons, List.map_nil, List.replicate, List.cons_append, List.nil_append, List.append_nil, List.getElem?_cons_zero, List.getElem?_cons_succ, lookV_some, ok_bind, ok_out, stuck_bind, stuck_out, onS_tup, onS_lst, onI_int, setAll, List.set_cons_zero, List.set_cons_succ, nxO_some, nx_then, rt_then, ite_then, exc_then, exc_bind, exc_out, finish_exc, deref_int, deref_bl, deref_str, deref_non, deref_tup, deref_lst, deref_scr, cmp_eq, cmp_ne, cmp_lt, cmp_le, cmp_gt, cmp_ge, Option.map_some, of_some', tru_bl, tru_int, tru_non, tru_tup0, tru_tup1, tru_lst0, tru_lst1, brB_t, brB_f, brB_d, brB_nd, finish_ite, finish_rt, finish_nx, ite_out, ite_bind, List.length_cons, List.length_nil, sz0, sz1, sz2, sz3, sz4, sz5, sz6, sz7, sz8, Nat.reduceAdd, Nat.reduceLeDiff, Nat.zero_le, Nat.zero_add, if_true, if_false, ↓reduceIte, ix_t0, ix_t1, ix_t2, ix_t3, ix_t4, ix_t5, ix_l0, ix_l1, leave_tup, leave_lst, leave_int, leave_bl, leave_str, leave_non, lo_int, lo_bl, lo_str, lo_non, lo_tup, lo_lst, loAll_nil, loAll_cons, loAll_ints, Bool.and_true, Bool.true_and, Bool.and_self, List.take_length, bin_add, bin_sub, int1_d, int1_bl, inn, ini, ins, int', inb, inl', Bool.not_true, Bool.not_false, decide_eq_true_eq, decide_true, decide_false, brB_b, slt_hi, slt_lo, slt_m1, sll_hi, sll_lo, mul_t0, mul_t1, Int.reduceLE, Int.reduceToNat, List.take_succ_cons, List.take_zero, List.drop_succ_cons, List.drop_zero, List.take_nil, List.drop_nil, Nat.reduceAdd, e_slHi, e_slLo, e_slLH, Int.reduceAdd, Int.add_zero, Int.mul_one, Int.mul_zero, Int.reduceNeg, List.getElem?_nil, Bool.false_eq_true, Int.reduceLT, Int.reduceEq, and_true, true_and, and_false, false_and, not_true_eq_false, not_false_eq_true, of_ite, map_ite]
        rfl
      · refine ⟨⟨_, _, _, _, _, _, _, _, _, _, rfl⟩, ?_⟩
        obtain ⟨row, a1, a2⟩ := h4
        have hlt := (List.getElem?_eq_some_iff.mp a1).1
        exact ⟨row, by rw [set_ne (by omega), List.getElem?_append_left hlt]; exact a1, a2⟩)
    (rngD 0 10) [some (.scr ns), some (.ref 0), none, none, none, none, none, none, none, none, none, none] [.lst []] rng_int
    ⟨⟨_, _, _, _, _, _, _, _, _, _, rfl⟩, [], rfl, by rw [len_rngD]; decide⟩
  refine ⟨s'.take 0, ?_⟩
  have r11 : List.replicate (12 - 1) (none : Option Dt) = [none, none, none, none, none, none, none, none, none, none, none] := rfl
  rw [r11]
  have r10 : okRng 0 10 = true := by decide
  simp only [B_law_k10, ss_cons, ss_nil, s_setT', s_set', s_par', s_expr', s_ite', s_ret', s_retN', s_raise', e_var, e_non, e_bl, e_int, e_neg, e_str, e_bin, e_cmp, e_cmp2, e_and, e_or, e_not, e_ite, e_tup, e_lst, e_ix, e_isNon, e_notNon, e_call, e_blt, e_isi, e_rev, s_try', tryO_exc, tryO_nx, tryO_rt, tryO_ite, hs_nil, hs_cons, es_nil, es_cons, List.map_cons, List.map_nil, List.replicate, List.cons_append, List.nil_append, List.append_nil, List.getElem?_cons_zero, List.getElem?_cons_succ, lookV_some, ok_bind, ok_out, stuck_bind, stuck_out, onS_tup, onS_lst, onI_int, setAll, List.set_cons_zero, List.set_cons_succ, nxO_some, nx_then, rt_then, ite_then, exc_then, exc_bind, exc_out, finish_exc, deref_int, deref_bl, deref_str, deref_non, deref_tup, deref_lst, deref_scr, cmp_eq, cmp_ne, cmp_lt, cmp_le, cmp_gt, cmp_ge, Option.map_some, of_some', tru_bl, tru_int, tru_non, tru_tup0, tru_tup1, tru_lst0, tru_lst1, brB_t, brB_f, brB_d, brB_nd, finish_ite, finish_rt, finish_nx, ite_out, ite_bind, List.length_cons, List.length_nil, sz0, sz1, sz2, sz3, sz4, sz5, sz6, sz7, sz8, Nat.reduceAdd, Nat.reduceLeDiff, Nat.zero_le, Nat.zero_add, if_true, if_false, ↓reduceIte, ix_t0, ix_t1, ix_t2, ix_t3, ix_t4, ix_t5, ix_l0, ix_l1, leave_tup, leave_lst, leave_int, leave_bl, leave_str, leave_non, lo_int, lo_bl, lo_str, lo_non, lo_tup, lo_lst, loAll_nil, loAll_cons, loAll_ints, Bool.and_true, Bool.true_and, Bool.and_self, List.take_length, bin_add, bin_sub, int1_d, int1_bl, inn, ini, ins, int', inb, inl', Bool.not_true, Bool.not_false, decide_eq_true_eq, decide_true, decide_false, brB_b, slt_hi, slt_lo, slt_m1, sll_hi, sll_lo, mul_t0, mul_t1, Int.reduceLE, Int.reduceToNat, List.take_succ_cons, List.take_zero, List.drop_succ_cons, List.drop_zero, List.take_nil, List.drop_nil, Nat.reduceAdd, e_slHi, e_slLo, e_slLH, Int.reduceAdd, Int.add_zero, Int.mul_one, Int.mul_zero, Int.reduceNeg, List.getElem?_nil, Bool.false_eq_true, Int.reduceLT, Int.reduceEq, and_true, true_and, and_false, false_and, not_true_eq_false, not_false_eq_true, of_ite, map_ite, e_mlst, s_for', i_rng1, if_pos r10, decide_eq_true sz0, e]
end MP
namespace MP
open PySem
theorem all_mk {w : World} {K : PySem.W.Frag} {h : Heap} {mg : Str → Option Value} {fa : Addr} (X : K.In h) (G : h.Ns mainGlobals mg) (hfa : mg "law" = some (.ref fa))
    {f0 f1 f2 f3 f4 f5 f6 f7 f8 f9 f10 f11 f12 f13 f14 f15 f16 f17 f18 f19 f20 f21 f22 f23 f24 f25 f26 : Addr} {od0 an0 od1 an1 od2 an2 od3 an3 od4 an4 od5 an5 od6 an6 od7 an7 od8 an8 od9 an9 od10 an10 od11 an11 od12 an12 od13 an13 od14 an14 od15 an15 od16 an16 od17 an17 od18 an18 od19 an19 od20 an20 od21 an21 od22 an22 od23 an23 od24 an24 od25 an25 od26 an26 : Option Addr} {sl0 sl1 sl2 sl3 sl4 sl5 sl6 sl7 sl8 sl9 sl10 sl11 sl12 sl13 sl14 sl15 sl16 sl17 sl18 sl19 sl20 sl21 sl22 sl23 sl24 sl25 sl26 : Array (Option Value)} {oc0 kV0 dc0 pm0 cd0 ct0 oc1 kV1 dc1 pm1 cd1 ct1 oc2 kV2 dc2 pm2 cd2 ct2 oc3 kV3 dc3 pm3 cd3 ct3 oc4 kV4 dc4 pm4 cd4 ct4 oc5 kV5 dc5 pm5 cd5 ct5 oc6 kV6 dc6 pm6 cd6 ct6 oc7 kV7 dc7 pm7 cd7 ct7 oc8 kV8 dc8 pm8 cd8 ct8 oc9 kV9 dc9 pm9 cd9 ct9 oc10 kV10 dc10 pm10 cd10 ct10 oc11 kV11 dc11 pm11 cd11 ct11 oc12 kV12 dc12 pm12 cd12 ct12 oc13 kV13 dc13 pm13 cd13 ct13 oc14 kV14 dc14 pm14 cd14 ct14 oc15 kV15 dc15 pm15 cd15 ct15 oc16 kV16 dc16 pm16 cd16 ct16 oc17 kV17 dc17 pm17 cd17 ct17 oc18 kV18 dc18 pm18 cd18 ct18 oc19 kV19 dc19 pm19 cd19 ct19 oc20 kV20 dc20 pm20 cd20 ct20 oc21 kV21 dc21 pm21 cd21 ct21 oc22 kV22 dc22 pm22 cd22 ct22 oc23 kV23 dc23 pm23 cd23 ct23 oc24 kV24 dc24 pm24 cd24 ct24 oc25 kV25 dc25 pm25 cd25 ct25 oc26 kV26 dc26 pm26 cd26 ct26 : Value}
    (a0 : PySem.W.nsIn K mainGlobals "top_of" = some (some (.ref f0))) (l0 : K.lookup f0 = some ⟨oc0, od0, .func (PySem.W.fnOf "top_of" "top_of" (L2.defArgs (top 1)) (L2.defBody (top 1)) (L2.defScope (top 1)) .none kV0 dc0 pm0 an0 cd0 ct0), sl0⟩) (c0 : PySem.W.codeIn K cd0 "top_of" = true) (k0 : PySem.W.keepIn K (.ref f0) = true)
    (a1 : PySem.W.nsIn K mainGlobals "is_there" = some (some (.ref f1))) (l1 : K.lookup f1 = some ⟨oc1, od1, .func (PySem.W.fnOf "is_there" "is_there" (L2.defArgs (top 6)) (L2.defBody (top 6)) (L2.defScope (top 6)) .none kV1 dc1 pm1 an1 cd1 ct1), sl1⟩) (c1 : PySem.W.codeIn K cd1 "is_there" = true) (k1 : PySem.W.keepIn K (.ref f1) = true)
    (a2 : PySem.W.nsIn K mainGlobals "may_fall" = some (some (.ref f2))) (l2 : K.lookup f2 = some ⟨oc2, od2, .func (PySem.W.fnOf "may_fall" "may_fall" (L2.defArgs (top 7)) (L2.defBody (top 7)) (L2.defScope (top 7)) .none kV2 dc2 pm2 an2 cd2 ct2), sl2⟩) (c2 : PySem.W.codeIn K cd2 "may_fall" = true) (k2 : PySem.W.keepIn K (.ref f2) = true)
    (a3 : PySem.W.nsIn K mainGlobals "is_fair" = some (some (.ref f3))) (l3 : K.lookup f3 = some ⟨oc3, od3, .func (PySem.W.fnOf "is_fair" "is_fair" (L2.defArgs (top 8)) (L2.defBody (top 8)) (L2.defScope (top 8)) .none kV3 dc3 pm3 an3 cd3 ct3), sl3⟩) (c3 : PySem.W.codeIn K cd3 "is_fair" = true) (k3 : PySem.W.keepIn K (.ref f3) = true)
    (a4 : PySem.W.nsIn K mainGlobals "points_of" = some (some (.ref f4))) (l4 : K.lookup f4 = some ⟨oc4, od4, .func (PySem.W.fnOf "points_of" "points_of" (L2.defArgs (top 9)) (L2.defBody (top 9)) (L2.defScope (top 9)) .none kV4 dc4 pm4 an4 cd4 ct4), sl4⟩) (c4 : PySem.W.codeIn K cd4 "points_of" = true) (k4 : PySem.W.keepIn K (.ref f4) = true)
    (a5 : PySem.W.nsIn K mainGlobals "foul_of" = some (some (.ref f5))) (l5 : K.lookup f5 = some ⟨oc5, od5, .func (PySem.W.fnOf "foul_of" "foul_of" (L2.defArgs (top 10)) (L2.defBody (top 10)) (L2.defScope (top 10)) .none kV5 dc5 pm5 an5 cd5 ct5), sl5⟩) (c5 : PySem.W.codeIn K cd5 "foul_of" = true) (k5 : PySem.W.keepIn K (.ref f5) = true)
    (a6 : PySem.W.nsIn K mainGlobals "first_place" = some (some (.ref f6))) (l6 : K.lookup f6 = some ⟨oc6, od6, .func (PySem.W.fnOf "first_place" "first_place" (L2.defArgs (top 12)) (L2.defBody (top 12)) (L2.defScope (top 12)) .none kV6 dc6 pm6 an6 cd6 ct6), sl6⟩) (c6 : PySem.W.codeIn K cd6 "first_place" = true) (k6 : PySem.W.keepIn K (.ref f6) = true)
    (a7 : PySem.W.nsIn K mainGlobals "added" = some (some (.ref f7))) (l7 : K.lookup f7 = some ⟨oc7, od7, .func (PySem.W.fnOf "added" "added" (L2.defArgs (top 13)) (L2.defBody (top 13)) (L2.defScope (top 13)) .none kV7 dc7 pm7 an7 cd7 ct7), sl7⟩) (c7 : PySem.W.codeIn K cd7 "added" = true) (k7 : PySem.W.keepIn K (.ref f7) = true)
    (a8 : PySem.W.nsIn K mainGlobals "struck" = some (some (.ref f8))) (l8 : K.lookup f8 = some ⟨oc8, od8, .func (PySem.W.fnOf "struck" "struck" (L2.defArgs (top 14)) (L2.defBody (top 14)) (L2.defScope (top 14)) .none kV8 dc8 pm8 an8 cd8 ct8), sl8⟩) (c8 : PySem.W.codeIn K cd8 "struck" = true) (k8 : PySem.W.keepIn K (.ref f8) = true)
    (a9 : PySem.W.nsIn K mainGlobals "behind" = some (some (.ref f9))) (l9 : K.lookup f9 = some ⟨oc9, od9, .func (PySem.W.fnOf "behind" "behind" (L2.defArgs (top 15)) (L2.defBody (top 15)) (L2.defScope (top 15)) .none kV9 dc9 pm9 an9 cd9 ct9), sl9⟩) (c9 : PySem.W.codeIn K cd9 "behind" = true) (k9 : PySem.W.keepIn K (.ref f9) = true)
    (a10 : PySem.W.nsIn K mainGlobals "visits" = some (some (.ref f10))) (l10 : K.lookup f10 = some ⟨oc10, od10, .func (PySem.W.fnOf "visits" "visits" (L2.defArgs (top 17)) (L2.defBody (top 17)) (L2.defScope (top 17)) .none kV10 dc10 pm10 an10 cd10 ct10), sl10⟩) (c10 : PySem.W.codeIn K cd10 "visits" = true) (k10 : PySem.W.keepIn K (.ref f10) = true)
    (a11 : PySem.W.nsIn K mainGlobals "breaks" = some (some (.ref f11))) (l11 : K.lookup f11 = some ⟨oc11, od11, .func (PySem.W.fnOf "breaks" "breaks" (L2.defArgs (top 18)) (L2.defBody (top 18)) (L2.defScope (top 18)) .none kV11 dc11 pm11 an11 cd11 ct11), sl11⟩) (c11 : PySem.W.codeIn K cd11 "breaks" = true) (k11 : PySem.W.keepIn K (.ref f11) = true)
    (a12 : PySem.W.nsIn K mainGlobals "best_breaks" = some (some (.ref f12))) (l12 : K.lookup f12 = some ⟨oc12, od12, .func (PySem.W.fnOf "best_breaks" "best_breaks" (L2.defArgs (top 19)) (L2.defBody (top 19)) (L2.defScope (top 19)) .none kV12 dc12 pm12 an12 cd12 ct12), sl12⟩) (c12 : PySem.W.codeIn K cd12 "best_breaks" = true) (k12 : PySem.W.keepIn K (.ref f12) = true)
    (a13 : PySem.W.nsIn K mainGlobals "_law_same" = some (some (.ref f13))) (l13 : K.lookup f13 = some ⟨oc13, od13, .func (PySem.W.fnOf "_law_same" "_law_same" (L2.defArgs (top 21)) (L2.defBody (top 21)) (L2.defScope (top 21)) .none kV13 dc13 pm13 an13 cd13 ct13), sl13⟩) (c13 : PySem.W.codeIn K cd13 "_law_same" = true) (k13 : PySem.W.keepIn K (.ref f13) = true)
    (a14 : PySem.W.nsIn K mainGlobals "_law_draw" = some (some (.ref f14))) (l14 : K.lookup f14 = some ⟨oc14, od14, .func (PySem.W.fnOf "_law_draw" "_law_draw" (L2.defArgs (top 22)) (L2.defBody (top 22)) (L2.defScope (top 22)) .none kV14 dc14 pm14 an14 cd14 ct14), sl14⟩) (c14 : PySem.W.codeIn K cd14 "_law_draw" = true) (k14 : PySem.W.keepIn K (.ref f14) = true)
    (a15 : PySem.W.nsIn K mainGlobals "_law_pick" = some (some (.ref f15))) (l15 : K.lookup f15 = some ⟨oc15, od15, .func (PySem.W.fnOf "_law_pick" "_law_pick" (L2.defArgs (top 23)) (L2.defBody (top 23)) (L2.defScope (top 23)) .none kV15 dc15 pm15 an15 cd15 ct15), sl15⟩) (c15 : PySem.W.codeIn K cd15 "_law_pick" = true) (k15 : PySem.W.keepIn K (.ref f15) = true)
    (a16 : PySem.W.nsIn K mainGlobals "_law_drawn_rules" = some (some (.ref f16))) (l16 : K.lookup f16 = some ⟨oc16, od16, .func (PySem.W.fnOf "_law_drawn_rules" "_law_drawn_rules" (L2.defArgs (top 24)) (L2.defBody (top 24)) (L2.defScope (top 24)) .none kV16 dc16 pm16 an16 cd16 ct16), sl16⟩) (c16 : PySem.W.codeIn K cd16 "_law_drawn_rules" = true) (k16 : PySem.W.keepIn K (.ref f16) = true)
    (a17 : PySem.W.nsIn K mainGlobals "_law_can_fall" = some (some (.ref f17))) (l17 : K.lookup f17 = some ⟨oc17, od17, .func (PySem.W.fnOf "_law_can_fall" "_law_can_fall" (L2.defArgs (top 25)) (L2.defBody (top 25)) (L2.defScope (top 25)) .none kV17 dc17 pm17 an17 cd17 ct17), sl17⟩) (c17 : PySem.W.codeIn K cd17 "_law_can_fall" = true) (k17 : PySem.W.keepIn K (.ref f17) = true)
    (a18 : PySem.W.nsIn K mainGlobals "_law_judged" = some (some (.ref f18))) (l18 : K.lookup f18 = some ⟨oc18, od18, .func (PySem.W.fnOf "_law_judged" "_law_judged" (L2.defArgs (top 26)) (L2.defBody (top 26)) (L2.defScope (top 26)) .none kV18 dc18 pm18 an18 cd18 ct18), sl18⟩) (c18 : PySem.W.codeIn K cd18 "_law_judged" = true) (k18 : PySem.W.keepIn K (.ref f18) = true)
    (a19 : PySem.W.nsIn K mainGlobals "_law_is_here" = some (some (.ref f19))) (l19 : K.lookup f19 = some ⟨oc19, od19, .func (PySem.W.fnOf "_law_is_here" "_law_is_here" (L2.defArgs (top 27)) (L2.defBody (top 27)) (L2.defScope (top 27)) .none kV19 dc19 pm19 an19 cd19 ct19), sl19⟩) (c19 : PySem.W.codeIn K cd19 "_law_is_here" = true) (k19 : PySem.W.keepIn K (.ref f19) = true)
    (a20 : PySem.W.nsIn K mainGlobals "_law_moved" = some (some (.ref f20))) (l20 : K.lookup f20 = some ⟨oc20, od20, .func (PySem.W.fnOf "_law_moved" "_law_moved" (L2.defArgs (top 28)) (L2.defBody (top 28)) (L2.defScope (top 28)) .none kV20 dc20 pm20 an20 cd20 ct20), sl20⟩) (c20 : PySem.W.codeIn K cd20 "_law_moved" = true) (k20 : PySem.W.keepIn K (.ref f20) = true)
    (a21 : PySem.W.nsIn K mainGlobals "_law_begin" = some (some (.ref f21))) (l21 : K.lookup f21 = some ⟨oc21, od21, .func (PySem.W.fnOf "_law_begin" "_law_begin" (L2.defArgs (top 29)) (L2.defBody (top 29)) (L2.defScope (top 29)) .none kV21 dc21 pm21 an21 cd21 ct21), sl21⟩) (c21 : PySem.W.codeIn K cd21 "_law_begin" = true) (k21 : PySem.W.keepIn K (.ref f21) = true)
    (a22 : PySem.W.nsIn K mainGlobals "_law_drawn_stroke" = some (some (.ref f22))) (l22 : K.lookup f22 = some ⟨oc22, od22, .func (PySem.W.fnOf "_law_drawn_stroke" "_law_drawn_stroke" (L2.defArgs (top 31)) (L2.defBody (top 31)) (L2.defScope (top 31)) .none kV22 dc22 pm22 an22 cd22 ct22), sl22⟩) (c22 : PySem.W.codeIn K cd22 "_law_drawn_stroke" = true) (k22 : PySem.W.keepIn K (.ref f22) = true)
    (a23 : PySem.W.nsIn K mainGlobals "_law_drawn_deed" = some (some (.ref f23))) (l23 : K.lookup f23 = some ⟨oc23, od23, .func (PySem.W.fnOf "_law_drawn_deed" "_law_drawn_deed" (L2.defArgs (top 32)) (L2.defBody (top 32)) (L2.defScope (top 32)) .none kV23 dc23 pm23 an23 cd23 ct23), sl23⟩) (c23 : PySem.W.codeIn K cd23 "_law_drawn_deed" = true) (k23 : PySem.W.keepIn K (.ref f23) = true)
    (a24 : PySem.W.nsIn K mainGlobals "_law_drawn_frame" = some (some (.ref f24))) (l24 : K.lookup f24 = some ⟨oc24, od24, .func (PySem.W.fnOf "_law_drawn_frame" "_law_drawn_frame" (L2.defArgs (top 33)) (L2.defBody (top 33)) (L2.defScope (top 33)) .none kV24 dc24 pm24 an24 cd24 ct24), sl24⟩) (c24 : PySem.W.codeIn K cd24 "_law_drawn_frame" = true) (k24 : PySem.W.keepIn K (.ref f24) = true)
    (a25 : PySem.W.nsIn K mainGlobals "_law_own_visits" = some (some (.ref f25))) (l25 : K.lookup f25 = some ⟨oc25, od25, .func (PySem.W.fnOf "_law_own_visits" "_law_own_visits" (L2.defArgs (top 34)) (L2.defBody (top 34)) (L2.defScope (top 34)) .none kV25 dc25 pm25 an25 cd25 ct25), sl25⟩) (c25 : PySem.W.codeIn K cd25 "_law_own_visits" = true) (k25 : PySem.W.keepIn K (.ref f25) = true)
    (a26 : PySem.W.nsIn K mainGlobals "law" = some (some (.ref f26))) (l26 : K.lookup f26 = some ⟨oc26, od26, .func (PySem.W.fnOf "law" "law" (L2.defArgs (top 35)) (L2.defBody (top 35)) (L2.defScope (top 35)) .none kV26 dc26 pm26 an26 cd26 ct26), sl26⟩) (c26 : PySem.W.codeIn K cd26 "law" = true) (k26 : PySem.W.keepIn K (.ref f26) = true)
    (z0 : PySem.W.nsIn K mainGlobals "len" = some none)
    (z1 : PySem.W.nsIn K mainGlobals "tuple" = some none)
    (z2 : PySem.W.nsIn K mainGlobals "list" = some none)
    (z3 : PySem.W.nsIn K mainGlobals "sum" = some none)
    (z4 : PySem.W.nsIn K mainGlobals "max" = some none)
    (z5 : PySem.W.nsIn K mainGlobals "min" = some none)
    (z6 : PySem.W.nsIn K mainGlobals "int" = some none)
    (z7 : PySem.W.nsIn K mainGlobals "str" = some none)
    (z8 : PySem.W.nsIn K mainGlobals "all" = some none)
    (z9 : PySem.W.nsIn K mainGlobals "sorted" = some none)
    (z10 : PySem.W.nsIn K mainGlobals "isinstance" = some none)
    (z11 : PySem.W.nsIn K mainGlobals "bool" = some none)
    (z12 : PySem.W.nsIn K mainGlobals "range" = some none)
    (z13 : PySem.W.nsIn K mainGlobals "enumerate" = some none)
    (z14 : PySem.W.nsIn K mainGlobals "zip" = some none)
    (z15 : PySem.W.nsIn K mainGlobals "set" = some none)
    {C0 : Addr} (xa0 : PySem.W.nsIn K mainGlobals "NotNow" = some (some (.ref C0))) (xk0 : PySem.W.keepIn K (.ref C0) = true) (xq0 : PySem.W.excIn K C0 [.type "ValueError", .type "Exception", .type "BaseException", .type "object"] "ValueError.__new__" = true) (xs0 : PySem.W.subIn K (.ref C0) (.type "BaseException") = some true) (xt0 : PySem.W.typeIn K (.ref C0) = some (.type "type"))
    (xi0 : PySem.W.isClsIn K C0 = true)
    (xp0_0 : PySem.W.subIn K (.ref C0) (.ref C0) = some true)
    : ∃ fd : FuncData, (∀ (s : Shared) (u : Value), BindsTo s fd ⟨[u], []⟩ [("_law_script", u)]) ∧ ∀ base : Heap, K.In base → base.Ns mainGlobals mg → L2.FnOk PySem.Challenge.rw_baizehall_k10_whole_visits.prog w K mg base (L2.CX PySem.Challenge.rw_baizehall_k10_whole_visits.prog w) 40 fa fd ["_law_script"] (spLaw [5] (runF (FTab fb 39) 12 1 B_law_k10) K) := by
  have e := hfa.symm.trans (PySem.W.mg_of X G a26)
  cases e
  letI := globOf [5] K
  have F0 := L2.fun_mk (K := K) (st := top 1) l0 c0 k0
  have d0 : DefAt mg fb FS "top_of" 0 := ⟨_, _, _, _, _, _, F0, sc_p_top_of, rfl, m_p_top_of, PySem.W.mg_of X G a0, F0.binds (ps := ["rules"]) fun _ _ _ _ _ _ us hl => match us, hl with | [_], _ => rfl⟩
  have F1 := L2.fun_mk (K := K) (st := top 6) l1 c1 k1
  have d1 : DefAt mg fb FS "is_there" 16 := ⟨_, _, _, _, _, _, F1, sc_p_is_there, rfl, m_p_is_there, PySem.W.mg_of X G a1, F1.binds (ps := ["rules", "place", "stroke"]) fun _ _ _ _ _ _ us hl => match us, hl with | [_, _, _], _ => rfl⟩
  have F2 := L2.fun_mk (K := K) (st := top 7) l2 c2 k2
  have d2 : DefAt mg fb FS "may_fall" 17 := ⟨_, _, _, _, _, _, F2, sc_p_may_fall, rfl, m_p_may_fall, PySem.W.mg_of X G a2, F2.binds (ps := ["place", "first"]) fun _ _ _ _ _ _ us hl => match us, hl with | [_, _], _ => rfl⟩
  have F3 := L2.fun_mk (K := K) (st := top 8) l3 c3 k3
  have d3 : DefAt mg fb FS "is_fair" 29 := ⟨_, _, _, _, _, _, F3, sc_p_is_fair, rfl, m_p_is_fair, PySem.W.mg_of X G a3, F3.binds (ps := ["place", "stroke"]) fun _ _ _ _ _ _ us hl => match us, hl with | [_, _], _ => rfl⟩
  have F4 := L2.fun_mk (K := K) (st := top 9) l4 c4 k4
  have d4 : DefAt mg fb FS "points_of" 30 := ⟨_, _, _, _, _, _, F4, sc_p_points_of, rfl, m_p_points_of, PySem.W.mg_of X G a4, F4.binds (ps := ["place", "stroke"]) fun _ _ _ _ _ _ us hl => match us, hl with | [_, _], _ => rfl⟩
  have F5 := L2.fun_mk (K := K) (st := top 10) l5 c5 k5
  have d5 : DefAt mg fb FS "foul_of" 31 := ⟨_, _, _, _, _, _, F5, sc_p_foul_of, rfl, m_p_foul_of, PySem.W.mg_of X G a5, F5.binds (ps := ["place", "stroke"]) fun _ _ _ _ _ _ us hl => match us, hl with | [_, _], _ => rfl⟩
  have F6 := L2.fun_mk (K := K) (st := top 12) l6 c6 k6
  have d6 : DefAt mg fb FS "first_place" 36 := ⟨_, _, _, _, _, _, F6, sc_p_first_place, rfl, m_p_first_place, PySem.W.mg_of X G a6, F6.binds (ps := ["rules", "player"]) fun _ _ _ _ _ _ us hl => match us, hl with | [_, _], _ => rfl⟩
  have F7 := L2.fun_mk (K := K) (st := top 13) l7 c7 k7
  have d7 : DefAt mg fb FS "added" 38 := ⟨_, _, _, _, _, _, F7, sc_p_added, rfl, m_p_added, PySem.W.mg_of X G a7, F7.binds (ps := ["points", "player", "more"]) fun _ _ _ _ _ _ us hl => match us, hl with | [_, _, _], _ => rfl⟩
  have F8 := L2.fun_mk (K := K) (st := top 14) l8 c8 k8
  have d8 : DefAt mg fb FS "struck" 39 := ⟨_, _, _, _, _, _, F8, sc_p_struck, rfl, m_p_struck, PySem.W.mg_of X G a8, F8.binds (ps := ["rules", "place", "stroke"]) fun _ _ _ _ _ _ us hl => match us, hl with | [_, _, _], _ => rfl⟩
  have F9 := L2.fun_mk (K := K) (st := top 15) l9 c9 k9
  have d9 : DefAt mg fb FS "behind" 40 := ⟨_, _, _, _, _, _, F9, sc_p_behind, rfl, m_p_behind, PySem.W.mg_of X G a9, F9.binds (ps := ["rules", "place", "deed"]) fun _ _ _ _ _ _ us hl => match us, hl with | [_, _, _], _ => rfl⟩
  have F10 := L2.fun_mk (K := K) (st := top 17) l10 c10 k10
  have d10 : DefAt mg fb FS "visits" 59 := ⟨_, _, _, _, _, _, F10, sc_p_visits, rfl, m_p_visits, PySem.W.mg_of X G a10, F10.binds (ps := ["rules", "frame"]) fun _ _ _ _ _ _ us hl => match us, hl with | [_, _], _ => rfl⟩
  have F11 := L2.fun_mk (K := K) (st := top 18) l11 c11 k11
  have d11 : DefAt mg fb FS "breaks" 60 := ⟨_, _, _, _, _, _, F11, sc_p_breaks, rfl, m_p_breaks, PySem.W.mg_of X G a11, F11.binds (ps := ["rules", "frame", "least"]) fun _ _ _ _ _ _ us hl => match us, hl with | [_, _, _], _ => rfl⟩
  have F12 := L2.fun_mk (K := K) (st := top 19) l12 c12 k12
  have d12 : DefAt mg fb FS "best_breaks" 61 := ⟨_, _, _, _, _, _, F12, sc_p_best_breaks, rfl, m_p_best_breaks, PySem.W.mg_of X G a12, F12.binds (ps := ["rules", "frame"]) fun _ _ _ _ _ _ us hl => match us, hl with | [_, _], _ => rfl⟩
  have F13 := L2.fun_mk (K := K) (st := top 21) l13 c13 k13
  have d13 : DefAt mg fb FS "_law_same" 6 := ⟨_, _, _, _, _, _, F13, sc_law_same, rfl, m_law_same, PySem.W.mg_of X G a13, F13.binds (ps := ["_law_got", "_law_due"]) fun _ _ _ _ _ _ us hl => match us, hl with | [_, _], _ => rfl⟩
  have F14 := L2.fun_mk (K := K) (st := top 22) l14 c14 k14
  have d14 : DefAt mg fb FS "_law_draw" 7 := ⟨_, _, _, _, _, _, F14, sc_law_draw, rfl, m_law_draw, PySem.W.mg_of X G a14, F14.binds (ps := ["_law_script", "_law_town", "_law_many"]) fun _ _ _ _ _ _ us hl => match us, hl with | [_, _, _], _ => rfl⟩
  have F15 := L2.fun_mk (K := K) (st := top 23) l15 c15 k15
  have d15 : DefAt mg fb FS "_law_pick" 8 := ⟨_, _, _, _, _, _, F15, sc_law_pick, rfl, m_law_pick, PySem.W.mg_of X G a15, F15.binds (ps := ["_law_script", "_law_town", "_law_some"]) fun _ _ _ _ _ _ us hl => match us, hl with | [_, _, _], _ => rfl⟩
  have F16 := L2.fun_mk (K := K) (st := top 24) l16 c16 k16
  have d16 : DefAt mg fb FS "_law_drawn_rules" 9 := ⟨_, _, _, _, _, _, F16, sc_law_drawn_rules, rfl, m_law_drawn_rules, PySem.W.mg_of X G a16, F16.binds (ps := ["_law_script", "_law_town"]) fun _ _ _ _ _ _ us hl => match us, hl with | [_, _], _ => rfl⟩
  have F17 := L2.fun_mk (K := K) (st := top 25) l17 c17 k17
  have d17 : DefAt mg fb FS "_law_can_fall" 18 := ⟨_, _, _, _, _, _, F17, sc_law_can_fall, rfl, m_law_can_fall, PySem.W.mg_of X G a17, F17.binds (ps := ["_law_place", "_law_first"]) fun _ _ _ _ _ _ us hl => match us, hl with | [_, _], _ => rfl⟩
  have F18 := L2.fun_mk (K := K) (st := top 26) l18 c18 k18
  have d18 : DefAt mg fb FS "_law_judged" 19 := ⟨_, _, _, _, _, _, F18, sc_law_judged, rfl, m_law_judged, PySem.W.mg_of X G a18, F18.binds (ps := ["_law_place", "_law_stroke"]) fun _ _ _ _ _ _ us hl => match us, hl with | [_, _], _ => rfl⟩
  have F19 := L2.fun_mk (K := K) (st := top 27) l19 c19 k19
  have d19 : DefAt mg fb FS "_law_is_here" 20 := ⟨_, _, _, _, _, _, F19, sc_law_is_here, rfl, m_law_is_here, PySem.W.mg_of X G a19, F19.binds (ps := ["_law_place", "_law_stroke"]) fun _ _ _ _ _ _ us hl => match us, hl with | [_, _], _ => rfl⟩
  have F20 := L2.fun_mk (K := K) (st := top 28) l20 c20 k20
  have d20 : DefAt mg fb FS "_law_moved" 21 := ⟨_, _, _, _, _, _, F20, sc_law_moved, rfl, m_law_moved, PySem.W.mg_of X G a20, F20.binds (ps := ["_law_rules", "_law_place", "_law_deed"]) fun _ _ _ _ _ _ us hl => match us, hl with | [_, _, _], _ => rfl⟩
  have F21 := L2.fun_mk (K := K) (st := top 29) l21 c21 k21
  have d21 : DefAt mg fb FS "_law_begin" 22 := ⟨_, _, _, _, _, _, F21, sc_law_begin, rfl, m_law_begin, PySem.W.mg_of X G a21, F21.binds (ps := ["_law_rules", "_law_player"]) fun _ _ _ _ _ _ us hl => match us, hl with | [_, _], _ => rfl⟩
  have F22 := L2.fun_mk (K := K) (st := top 31) l22 c22 k22
  have d22 : DefAt mg fb FS "_law_drawn_stroke" 24 := ⟨_, _, _, _, _, _, F22, sc_law_drawn_stroke, rfl, m_law_drawn_stroke, PySem.W.mg_of X G a22, F22.binds (ps := ["_law_script", "_law_town", "_law_rules", "_law_place"]) fun _ _ _ _ _ _ us hl => match us, hl with | [_, _, _, _], _ => rfl⟩
  have F23 := L2.fun_mk (K := K) (st := top 32) l23 c23 k23
  have d23 : DefAt mg fb FS "_law_drawn_deed" 25 := ⟨_, _, _, _, _, _, F23, sc_law_drawn_deed, rfl, m_law_drawn_deed, PySem.W.mg_of X G a23, F23.binds (ps := ["_law_script", "_law_town", "_law_rules", "_law_place"]) fun _ _ _ _ _ _ us hl => match us, hl with | [_, _, _, _], _ => rfl⟩
  have F24 := L2.fun_mk (K := K) (st := top 33) l24 c24 k24
  have d24 : DefAt mg fb FS "_law_drawn_frame" 26 := ⟨_, _, _, _, _, _, F24, sc_law_drawn_frame, rfl, m_law_drawn_frame, PySem.W.mg_of X G a24, F24.binds (ps := ["_law_script", "_law_town", "_law_rules", "_law_most"]) fun _ _ _ _ _ _ us hl => match us, hl with | [_, _, _, _], _ => rfl⟩
  have F25 := L2.fun_mk (K := K) (st := top 34) l25 c25 k25
  have d25 : DefAt mg fb FS "_law_own_visits" 62 := ⟨_, _, _, _, _, _, F25, sc_law_own_visits, rfl, m_law_own_visits, PySem.W.mg_of X G a25, F25.binds (ps := ["_law_rules", "_law_frame"]) fun _ _ _ _ _ _ us hl => match us, hl with | [_, _], _ => rfl⟩
  have F26 := L2.fun_mk (K := K) (st := top 35) l26 c26 k26
  have d26 : DefAt mg fb FS "law" 63 := ⟨_, _, _, _, _, _, F26, sc_law_k10, rfl, m_law_k10, PySem.W.mg_of X G a26, F26.binds (ps := ["_law_script"]) fun _ _ _ _ _ _ us hl => match us, hl with | [_], _ => rfl⟩
  have y0 : (Glob.xc 5) = C0 := by show addrIn K "NotNow" = C0; unfold addrIn; rw [xa0]
  have e0 : ExcAt mg "NotNow" 5 := ⟨by rw [y0]; exact PySem.W.mg_of X G xa0, by rw [y0]; exact xk0, by rw [y0]; exact xq0, by rw [y0]; exact xs0, by rw [y0]; exact xt0, List.forall_mem_cons.mpr ⟨(by rw [y0]; exact exm_by xs0 xi0 xt0 xp0_0), fun _ h => absurd h List.not_mem_nil⟩, by show 5 ∈ [5]; decide, by decide⟩
  have hd : ∀ p ∈ FS, p.2 < 1000 → DefAt mg fb FS p.1 p.2 := List.forall_mem_cons.mpr ⟨fun _ => d0, List.forall_mem_cons.mpr ⟨fun _ => d1, List.forall_mem_cons.mpr ⟨fun _ => d2, List.forall_mem_cons.mpr ⟨fun _ => d3, List.forall_mem_cons.mpr ⟨fun _ => d4, List.forall_mem_cons.mpr ⟨fun _ => d5, List.forall_mem_cons.mpr ⟨fun _ => d6, List.forall_mem_cons.mpr ⟨fun _ => d7, List.forall_mem_cons.mpr ⟨fun _ => d8, List.forall_mem_cons.mpr ⟨fun _ => d9, List.forall_mem_cons.mpr ⟨fun _ => d10, List.forall_mem_cons.mpr ⟨fun _ => d11, List.forall_mem_cons.mpr ⟨fun _ => d12, List.forall_mem_cons.mpr ⟨fun _ => d13, List.forall_mem_cons.mpr ⟨fun _ => d14, List.forall_mem_cons.mpr ⟨fun _ => d15, List.forall_mem_cons.mpr ⟨fun _ => d16, List.forall_mem_cons.mpr ⟨fun _ => d17, List.forall_mem_cons.mpr ⟨fun _ => d18, List.forall_mem_cons.mpr ⟨fun _ => d19, List.forall_mem_cons.mpr ⟨fun _ => d20, List.forall_mem_cons.mpr ⟨fun _ => d21, List.forall_mem_cons.mpr ⟨fun _ => d22, List.forall_mem_cons.mpr ⟨fun _ => d23, List.forall_mem_cons.mpr ⟨fun _ => d24, List.forall_mem_cons.mpr ⟨fun _ => d25, List.forall_mem_cons.mpr ⟨fun _ => d26, List.forall_mem_cons.mpr ⟨fun h => absurd h (by decide), fun _ h => absurd h List.not_mem_nil⟩⟩⟩⟩⟩⟩⟩⟩⟩⟩⟩⟩⟩⟩⟩⟩⟩⟩⟩⟩⟩⟩⟩⟩⟩⟩⟩⟩
  have hx : ∀ p ∈ FS, 1000 ≤ p.2 → ExcAt mg p.1 (p.2 - 1000) := List.forall_mem_cons.mpr ⟨fun h => absurd h (by decide), List.forall_mem_cons.mpr ⟨fun h => absurd h (by decide), List.forall_mem_cons.mpr ⟨fun h => absurd h (by decide), List.forall_mem_cons.mpr ⟨fun h => absurd h (by decide), List.forall_mem_cons.mpr ⟨fun h => absurd h (by decide), List.forall_mem_cons.mpr ⟨fun h => absurd h (by decide), List.forall_mem_cons.mpr ⟨fun h => absurd h (by decide), List.forall_mem_cons.mpr ⟨fun h => absurd h (by decide), List.forall_mem_cons.mpr ⟨fun h => absurd h (by decide), List.forall_mem_cons.mpr ⟨fun h => absurd h (by decide), List.forall_mem_cons.mpr ⟨fun h => absurd h (by decide), List.forall_mem_cons.mpr ⟨fun h => absurd h (by decide), List.forall_mem_cons.mpr ⟨fun h => absurd h (by decide), List.forall_mem_cons.mpr ⟨fun h => absurd h (by decide), List.forall_mem_cons.mpr ⟨fun h => absurd h (by decide), List.forall_mem_cons.mpr ⟨fun h => absurd h (by decide), List.forall_mem_cons.mpr ⟨fun h => absurd h (by decide), List.forall_mem_cons.mpr ⟨fun h => absurd h (by decide), List.forall_mem_cons.mpr ⟨fun h => absurd h (by decide), List.forall_mem_cons.mpr ⟨fun h => absurd h (by decide), List.forall_mem_cons.mpr ⟨fun h => absurd h (by decide), List.forall_mem_cons.mpr ⟨fun h => absurd h (by decide), List.forall_mem_cons.mpr ⟨fun h => absurd h (by decide), List.forall_mem_cons.mpr ⟨fun h => absurd h (by decide), List.forall_mem_cons.mpr ⟨fun h => absurd h (by decide), List.forall_mem_cons.mpr ⟨fun h => absurd h (by decide), List.forall_mem_cons.mpr ⟨fun h => absurd h (by decide), List.forall_mem_cons.mpr ⟨fun _ => e0, fun _ h => absurd h List.not_mem_nil⟩⟩⟩⟩⟩⟩⟩⟩⟩⟩⟩⟩⟩⟩⟩⟩⟩⟩⟩⟩⟩⟩⟩⟩⟩⟩⟩⟩
  have hb : ∀ x ∈ bltNames, mg x = none := List.forall_mem_cons.mpr ⟨PySem.W.mg_none_of X G z0, List.forall_mem_cons.mpr ⟨PySem.W.mg_none_of X G z1, List.forall_mem_cons.mpr ⟨PySem.W.mg_none_of X G z2, List.forall_mem_cons.mpr ⟨PySem.W.mg_none_of X G z3, List.forall_mem_cons.mpr ⟨PySem.W.mg_none_of X G z4, List.forall_mem_cons.mpr ⟨PySem.W.mg_none_of X G z5, List.forall_mem_cons.mpr ⟨PySem.W.mg_none_of X G z6, List.forall_mem_cons.mpr ⟨PySem.W.mg_none_of X G z7, List.forall_mem_cons.mpr ⟨PySem.W.mg_none_of X G z8, List.forall_mem_cons.mpr ⟨PySem.W.mg_none_of X G z9, List.forall_mem_cons.mpr ⟨PySem.W.mg_none_of X G z10, List.forall_mem_cons.mpr ⟨PySem.W.mg_none_of X G z11, List.forall_mem_cons.mpr ⟨PySem.W.mg_none_of X G z12, List.forall_mem_cons.mpr ⟨PySem.W.mg_none_of X G z13, List.forall_mem_cons.mpr ⟨PySem.W.mg_none_of X G z14, List.forall_mem_cons.mpr ⟨PySem.W.mg_none_of X G z15, fun _ h => absurd h List.not_mem_nil⟩⟩⟩⟩⟩⟩⟩⟩⟩⟩⟩⟩⟩⟩⟩⟩
  exact ⟨_, fun s u => .of_eq rfl, fun base _ _ => fn_rule (Γ := ⟨_, L2.defScope (top 35), FS⟩) F26 sc_law_k10 rfl m_law_k10 (excs_of hx) (all_fns (defs_of hd) (excs_of hx) hb 39) hb⟩
end MP
open PySem PySem.W PyProof.Rows
set_option maxRecDepth 100000 in
set_option maxHeartbeats 0 in
theorem PySem.Challenge.cw_baizehall_k10_whole_visits_holds : PySem.Challenge.rw_baizehall_k10_whole_visits.Holds := by
  w_on; o_law; k_head; (case hw => w_witness2)
  k_fill
  refine MP.walk (hd := [5]) (l := PySem.Challenge.rw_baizehall_k10_whole_visits) rfl rfl (fun w h Y => PySem.W.kIn_of Y) MP.plain ?F
  case F =>
    intro w mg fa h KX G hmg
    refine' MP.all_mk KX G hmg ?a0 ?l0 ?c0 ?k0 ?a1 ?l1 ?c1 ?k1 ?a2 ?l2 ?c2 ?k2 ?a3 ?l3 ?c3 ?k3 ?a4 ?l4 ?c4 ?k4 ?a5 ?l5 ?c5 ?k5 ?a6 ?l6 ?c6 ?k6 ?a7 ?l7 ?c7 ?k7 ?a8 ?l8 ?c8 ?k8 ?a9 ?l9 ?c9 ?k9 ?a10 ?l10 ?c10 ?k10 ?a11 ?l11 ?c11 ?k11 ?a12 ?l12 ?c12 ?k12 ?a13 ?l13 ?c13 ?k13 ?a14 ?l14 ?c14 ?k14 ?a15 ?l15 ?c15 ?k15 ?a16 ?l16 ?c16 ?k16 ?a17 ?l17 ?c17 ?k17 ?a18 ?l18 ?c18 ?k18 ?a19 ?l19 ?c19 ?k19 ?a20 ?l20 ?c20 ?k20 ?a21 ?l21 ?c21 ?k21 ?a22 ?l22 ?c22 ?k22 ?a23 ?l23 ?c23 ?k23 ?a24 ?l24 ?c24 ?k24 ?a25 ?l25 ?c25 ?k25 ?a26 ?l26 ?c26 ?k26 ?z0 ?z1 ?z2 ?z3 ?z4 ?z5 ?z6 ?z7 ?z8 ?z9 ?z10 ?z11 ?z12 ?z13 ?z14 ?z15 ?xa0 ?xk0 ?xq0 ?xs0 ?xt0 ?xi0 ?xp0_0
    (case a0 => k_is); (case l0 => k_is); (case c0 => k_is); (case k0 => k_is)
    (case a1 => k_is); (case l1 => k_is); (case c1 => k_is); (case k1 => k_is)
    (case a2 => k_is); (case l2 => k_is); (case c2 => k_is); (case k2 => k_is)
    (case a3 => k_is); (case l3 => k_is); (case c3 => k_is); (case k3 => k_is)
    (case a4 => k_is); (case l4 => k_is); (case c4 => k_is); (case k4 => k_is)
    (case a5 => k_is); (case l5 => k_is); (case c5 => k_is); (case k5 => k_is)
    (case a6 => k_is); (case l6 => k_is); (case c6 => k_is); (case k6 => k_is)
    (case a7 => k_is); (case l7 => k_is); (case c7 => k_is); (case k7 => k_is)
    (case a8 => k_is); (case l8 => k_is); (case c8 => k_is); (case k8 => k_is)
    (case a9 => k_is); (case l9 => k_is); (case c9 => k_is); (case k9 => k_is)
    (case a10 => k_is); (case l10 => k_is); (case c10 => k_is); (case k10 => k_is)
    (case a11 => k_is); (case l11 => k_is); (case c11 => k_is); (case k11 => k_is)
    (case a12 => k_is); (case l12 => k_is); (case c12 => k_is); (case k12 => k_is)
    (case a13 => k_is); (case l13 => k_is); (case c13 => k_is); (case k13 => k_is)
    (case a14 => k_is); (case l14 => k_is); (case c14 => k_is); (case k14 => k_is)
    (case a15 => k_is); (case l15 => k_is); (case c15 => k_is); (case k15 => k_is)
    (case a16 => k_is); (case l16 => k_is); (case c16 => k_is); (case k16 => k_is)
    (case a17 => k_is); (case l17 => k_is); (case c17 => k_is); (case k17 => k_is)
    (case a18 => k_is); (case l18 => k_is); (case c18 => k_is); (case k18 => k_is)
    (case a19 => k_is); (case l19 => k_is); (case c19 => k_is); (case k19 => k_is)
    (case a20 => k_is); (case l20 => k_is); (case c20 => k_is); (case k20 => k_is)
    (case a21 => k_is); (case l21 => k_is); (case c21 => k_is); (case k21 => k_is)
    (case a22 => k_is); (case l22 => k_is); (case c22 => k_is); (case k22 => k_is)
    (case a23 => k_is); (case l23 => k_is); (case c23 => k_is); (case k23 => k_is)
    (case a24 => k_is); (case l24 => k_is); (case c24 => k_is); (case k24 => k_is)
    (case a25 => k_is); (case l25 => k_is); (case c25 => k_is); (case k25 => k_is)
    (case a26 => k_is); (case l26 => k_is); (case c26 => k_is); (case k26 => k_is)
    (case z0 => k_is); (case z1 => k_is); (case z2 => k_is); (case z3 => k_is)
    (case z4 => k_is); (case z5 => k_is); (case z6 => k_is); (case z7 => k_is)
    (case z8 => k_is); (case z9 => k_is); (case z10 => k_is); (case z11 => k_is)
    (case z12 => k_is); (case z13 => k_is); (case z14 => k_is); (case z15 => k_is)
    (case xa0 => k_is); (case xk0 => k_is); (case xq0 => k_exc); (case xs0 => k_is)
    (case xt0 => k_is); (case xi0 => k_is); (case xp0_0 => first | rfl | k_is)
