import PyProof.Rows.All
import Wide.All
import OpenK.AllK
import Wide.FinOn
import HandS.ForMost
import HandS.ForExc
import HandS.TryMany
import HandS.CallSlots
import HandS.Flow
import HandS.Conv
import HandS.IsInst
import HandS.Deep
import HandS.TupAny
import HandS.TupMul
import HandS.DictComp
import HandS.Style
import HandS.Zip
import HandS.TupLen
import HandS.EndBits
import KE.KExcSuper
import PySem.Str
import HandS.TupLe
import HandS.OwnEq
import KE.DataMinMax
import KE.KTupSum
import KE.SortData
import HandS.More
import PyProof.AutoSeq1
import HandS.SortKw
import HandS.CallRecv
import KE.GoesEnum
import KE.GoesMore
import HandS.Iter
import HandS.ExcField
import HandS.WordsExc
import HandS.ExcInit
import HandS.HeadHook2
import HandS.Head2
import PySem.Challenge.RW_sureticks_k10_whole_traces
set_option Elab.async false
section
/-! Mini: a small language over plain values, its evaluator. -/
namespace Mi
/-- values -/
inductive D where
  | non | bl (b : Bool) | int (i : Int) | str (s : List Nat)
  | tup (xs : List D) | lst (xs : List D)
  | ins (c : Nat) (ks : List Nat) (ds : List D)
  | ref (n : Nat)
  deriving Inhabited
mutual
def D.dec : (a b : D) → Decidable (a = b)
  | .non, .non => isTrue rfl
  | .bl a, .bl b => if h : a = b then isTrue (by rw [h]) else isFalse (fun e => h (by injection e))
  | .int a, .int b => if h : a = b then isTrue (by rw [h]) else isFalse (fun e => h (by injection e))
  | .str a, .str b => if h : a = b then isTrue (by rw [h]) else isFalse (fun e => h (by injection e))
  | .tup a, .tup b => match D.decs a b with
    | isTrue h => isTrue (by rw [h])
    | isFalse h => isFalse (fun e => h (by injection e))
  | .lst a, .lst b => match D.decs a b with
    | isTrue h => isTrue (by rw [h])
    | isFalse h => isFalse (fun e => h (by injection e))
  | .ins c k a, .ins d l b => if h1 : c = d then (if h2 : k = l then (match D.decs a b with
      | isTrue h => isTrue (by rw [h, h1, h2])
      | isFalse h => isFalse (fun e => h (by injection e))) else isFalse (fun e => h2 (by injection e))) else isFalse (fun e => h1 (by injection e))
  | .ref a, .ref b => if h : a = b then isTrue (by rw [h]) else isFalse (fun e => h (by injection e))
  | .non, .bl _ | .non, .int _ | .non, .str _ | .non, .tup _ | .non, .lst _ | .non, .ins _ _ _ | .non, .ref _ => isFalse (fun e => by cases e)
  | .bl _, .non | .bl _, .int _ | .bl _, .str _ | .bl _, .tup _ | .bl _, .lst _ | .bl _, .ins _ _ _ | .bl _, .ref _ => isFalse (fun e => by cases e)
  | .int _, .non | .int _, .bl _ | .int _, .str _ | .int _, .tup _ | .int _, .lst _ | .int _, .ins _ _ _ | .int _, .ref _ => isFalse (fun e => by cases e)
  | .str _, .non | .str _, .bl _ | .str _, .int _ | .str _, .tup _ | .str _, .lst _ | .str _, .ins _ _ _ | .str _, .ref _ => isFalse (fun e => by cases e)
  | .tup _, .non | .tup _, .bl _ | .tup _, .int _ | .tup _, .str _ | .tup _, .lst _ | .tup _, .ins _ _ _ | .tup _, .ref _ => isFalse (fun e => by cases e)
  | .lst _, .non | .lst _, .bl _ | .lst _, .int _ | .lst _, .str _ | .lst _, .tup _ | .lst _, .ins _ _ _ | .lst _, .ref _ => isFalse (fun e => by cases e)
  | .ins _ _ _, .non | .ins _ _ _, .bl _ | .ins _ _ _, .int _ | .ins _ _ _, .str _ | .ins _ _ _, .tup _ | .ins _ _ _, .lst _ | .ins _ _ _, .ref _ => isFalse (fun e => by cases e)
  | .ref _, .non | .ref _, .bl _ | .ref _, .int _ | .ref _, .str _ | .ref _, .tup _ | .ref _, .lst _ | .ref _, .ins _ _ _ => isFalse (fun e => by cases e)
def D.decs : (a b : List D) → Decidable (a = b)
  | [], [] => isTrue rfl
  | [], _ :: _ => isFalse (fun e => by cases e)
  | _ :: _, [] => isFalse (fun e => by cases e)
  | x :: xs, y :: ys => match D.dec x y with
    | isFalse h => isFalse (fun e => h (by injection e))
    | isTrue h => match D.decs xs ys with
      | isFalse h' => isFalse (fun e => h' (by injection e))
      | isTrue h' => isTrue (by rw [h, h'])
end
instance : DecidableEq D := D.dec
mutual
/-- Python's == of data -/
def D.eqv : D → D → Bool
  | .non, .non => true
  | .bl a, .bl b => a == b
  | .bl a, .int j => (if a then 1 else 0) == j
  | .int i, .bl b => i == (if b then 1 else 0)
  | .int i, .int j => i == j
  | .str x, .str y => x == y
  | .lst xs, .lst ys => D.eqvs xs ys
  | .tup xs, .tup ys => D.eqvs xs ys
  | .non, .bl _ | .non, .int _ | .non, .str _ | .non, .tup _ | .non, .lst _ | .non, .ins _ _ _ | .non, .ref _ => false
  | .bl _, .non | .bl _, .str _ | .bl _, .tup _ | .bl _, .lst _ | .bl _, .ins _ _ _ | .bl _, .ref _ => false
  | .int _, .non | .int _, .str _ | .int _, .tup _ | .int _, .lst _ | .int _, .ins _ _ _ | .int _, .ref _ => false
  | .str _, .non | .str _, .bl _ | .str _, .int _ | .str _, .tup _ | .str _, .lst _ | .str _, .ins _ _ _ | .str _, .ref _ => false
  | .tup _, .non | .tup _, .bl _ | .tup _, .int _ | .tup _, .str _ | .tup _, .lst _ | .tup _, .ins _ _ _ | .tup _, .ref _ => false
  | .lst _, .non | .lst _, .bl _ | .lst _, .int _ | .lst _, .str _ | .lst _, .tup _ | .lst _, .ins _ _ _ | .lst _, .ref _ => false
  | .ins _ _ _, _ => false
  | .ref _, _ => false
def D.eqvs : List D → List D → Bool
  | [], [] => true
  | x :: xs, y :: ys => D.eqv x y && D.eqvs xs ys
  | [], _ :: _ => false
  | _ :: _, [] => false
end
mutual
/-- no instance, no reference within -/
def D.data : D → Bool
  | .non | .bl _ | .int _ | .str _ => true
  | .tup xs => D.datas xs
  | .lst xs => D.datas xs
  | .ins _ _ _ => false
  | .ref _ => false
def D.datas : List D → Bool
  | [] => true
  | x :: xs => D.data x && D.datas xs
end
mutual
/-- how deep it is nested -/
def D.dep : D → Nat
  | .non | .bl _ | .int _ | .str _ | .ins _ _ _ | .ref _ => 0
  | .tup xs => D.deps xs + 1
  | .lst xs => D.deps xs + 1
def D.deps : List D → Nat
  | [] => 0
  | x :: xs => max (D.dep x) (D.deps xs)
end
mutual
/-- every reference within is below n -/
def D.bel (n : Nat) : D → Bool
  | .non | .bl _ | .int _ | .str _ => true
  | .tup xs => D.bels n xs
  | .lst xs => D.bels n xs
  | .ins _ _ ds => D.bels n ds
  | .ref m => decide (m < n)
def D.bels (n : Nat) : List D → Bool
  | [] => true
  | x :: xs => D.bel n x && D.bels n xs
end
def D.isT : D → Bool
  | .tup _ => true
  | _ => false
/-- objects of the store -/
inductive O where
  | lst (xs : List D)
  | dct (t : Bool) (lk : Bool) (kvs : List (D × D))
  | ins (c : Nat) (ks : List Nat) (ds : List D)
  | dead
  deriving Inhabited
def O.bel (n : Nat) : O → Bool
  | .lst xs => D.bels n xs
  | .dct _ _ kvs => D.bels n (kvs.map (·.1)) && D.bels n (kvs.map (·.2))
  | .ins _ _ ds => D.bels n ds
  | .dead => true
instance : DecidableEq O := fun a b => match a, b with
  | .lst x, .lst y => if h : x = y then isTrue (by rw [h]) else isFalse (fun e => h (by injection e))
  | .dct t l x, .dct t' l' y => if h : t = t' ∧ l = l' ∧ x = y then isTrue (by rw [h.1, h.2.1, h.2.2]) else isFalse (fun e => h (by injection e with a b c; exact ⟨a, b, c⟩))
  | .ins c k x, .ins c' k' y => if h : c = c' ∧ k = k' ∧ x = y then isTrue (by rw [h.1, h.2.1, h.2.2]) else isFalse (fun e => h (by injection e with a b c; exact ⟨a, b, c⟩))
  | .dead, .dead => isTrue rfl
  | .lst _, .dct _ _ _ | .lst _, .ins _ _ _ | .lst _, .dead => isFalse (fun e => by cases e)
  | .dct _ _ _, .lst _ | .dct _ _ _, .ins _ _ _ | .dct _ _ _, .dead => isFalse (fun e => by cases e)
  | .ins _ _ _, .lst _ | .ins _ _ _, .dct _ _ _ | .ins _ _ _, .dead => isFalse (fun e => by cases e)
  | .dead, .lst _ | .dead, .dct _ _ _ | .dead, .ins _ _ _ => isFalse (fun e => by cases e)
abbrev Sto := List O
abbrev Env := List (Option D)
inductive Res (α : Type) where
  | ok (a : α) (S : Sto)
  | exc (c : Nat) (v : D) (S : Sto)
  | stuck
def Res.bind {α β : Type} (r : Res α) (k : α → Sto → Res β) : Res β := match r with
  | .ok a S => k a S
  | .exc c v S => .exc c v S
  | .stuck => .stuck
/-- where no exception may leave -/
def Res.nox {α : Type} (r : Res α) : Res α := match r with
  | .exc _ _ _ => .stuck
  | r => r
/-- an option: none is stuck -/
def lift {α : Type} (o : Option α) (S : Sto) : Res α := match o with
  | some a => .ok a S
  | none => .stuck
/-! ## syntax -/
inductive BOp where | add | sub | mul | fdiv | mod | pow
  deriving DecidableEq
inductive COp where | eq | ne | lt | le | gt | ge | isin | notin | is | isnot
  deriving DecidableEq
/-- built-in functions -/
inductive Blt where | len | abs | int | str | list | tuple | dict | sum | min | max | all | any | sorted | min2 | max2 | maxd | listzip
  deriving DecidableEq
/-- methods of built-in types -/
inductive BM where | append | extend | pop | pop0 | index | insert | get
  deriving DecidableEq
inductive Ty where | int | bool | tuple | str | list | cls (c : Nat)
  deriving DecidableEq
mutual
inductive Tg where
  | var (i : Nat)
  | tup (ts : Tgs)
inductive Tgs where
  | nil
  | cons (t : Tg) (ts : Tgs)
end
mutual
inductive Ex where
  | var (i : Nat)
  | cst (d : D)
  | glob (g : Nat)
  | bin (o : BOp) (m : Bool) (a b : Ex)
  | neg (a : Ex)
  | cmp (o : COp) (a b : Ex)
  | chn (o o' : COp) (a b c : Ex)
  | andE (a b : Ex)
  | orE (a b : Ex)
  | notE (a : Ex)
  | ite (c a b : Ex)
  | tup (es : Exs)
  | lst (m : Bool) (es : Exs)
  | idx (a i : Ex)
  | sl (a : Ex) (lo hi : Ox)
  | rev (a : Ex)
  | att (a : Ex) (f : Nat)
  | call (f : Nat) (es : Exs)
  | callk (f : Nat) (es : Exs) (n : Nat) (perm : List Nat)
  | meth (a : Ex) (m : Nat) (es : Exs)
  | new (c : Nat) (fz : Bool) (es : Exs)
  | blt (b : Blt) (m : Bool) (es : Exs)
  | isi (a : Ex) (t : Ty)
  | bm (m : BM) (a : Ex) (es : Exs)
  | comp (m : Bool) (e : Ex) (t : Tg) (it : It) (cs : Exs)
  | comp2 (m : Bool) (e : Ex) (t : Tg) (it : It) (cs : Exs) (t2 : Tg) (it2 : It) (cs2 : Exs)
  | dcomp (k : Bool) (a b : Ex) (t : Tg) (it : It) (cs : Exs)
  | dct (k : Bool) (ks vs : Exs)
  | frz (a : Ex)
/-- a slice's part, or none -/
inductive Ox where
  | nul
  | one (e : Ex)
inductive Exs where
  | nil
  | cons (e : Ex) (es : Exs)
inductive It where
  | seq (a : Ex)
  | rng1 (a : Ex)
  | rng2 (a b : Ex)
  | rng3 (a b : Ex) (c : Int)
  | zip (a b : Ex)
  | enum (a : Ex)
  | dic (a : Ex)
  | comb (a b : Ex)
end
/-- an except clause: the class, whether a word stands ahead, the word, the field's name -/
structure Hd where
  cls : Nat
  word : Option (List Nat)
  fld : Nat
mutual
inductive St where
  | ex (e : Ex)
  | set (i : Nat) (e : Ex)
  | sett (t : Tg) (e : Ex)
  | par (is : List Nat) (es : Exs)
  | satt (a : Ex) (f : Nat) (e : Ex)
  | satt2 (a : Ex) (f : Nat) (b : Ex) (g : Nat) (e : Ex)
  | sidx (a i e : Ex)
  | sidx2 (a i b j e : Ex)
  | aug (i : Nat) (o : BOp) (e : Ex)
  | augi (a i : Ex) (o : BOp) (e : Ex)
  | cond (c : Ex) (a b : Sts)
  | whil (c : Ex) (b : Sts)
  | fo (t : Tg) (it : It) (b : Sts)
  | ret (e : Ex)
  | retn
  | rais (c : Nat) (e : Ex)
  | tri (b : Sts) (hs : List Hd)
  | pas
inductive Sts where
  | nil
  | cons (s : St) (ss : Sts)
end
structure FnI where
  np : Nat
  nn : Nat
  body : Sts
structure ClI where
  init : Option Nat := none
  eq : Option Nat := none
  meths : List (Nat × Nat) := []
  flds : List Nat := []
  exf : Option Nat := none
/-- a program: its defs, its classes, the classes above a class of error (itself among them), the module's constants -/
structure Pg where
  fns : Nat → Option FnI
  cls : Nat → Option ClI
  sub : Nat → List Nat
  glob : Nat → Option D
/-! ## what the primitives do -/
def LINE : Nat := 16777216
def seqOf (S : Sto) : D → Option (List D)
  | .tup xs => some xs
  | .lst xs => some xs
  | .ref n => match S[n]? with
    | some (.lst xs) => some xs
    | _ => none
  | _ => none
def truth (S : Sto) : D → Option Bool
  | .non => some false
  | .bl b => some b
  | .int i => some (i != 0)
  | .str s => if s.length ≤ LINE then some (!s.isEmpty) else none
  | .tup xs => some (!xs.isEmpty)
  | .lst xs => some (!xs.isEmpty)
  | .ref n => match S[n]? with
    | some (.lst xs) => some (!xs.isEmpty)
    | some (.dct false false kvs) => some (!kvs.isEmpty)
    | _ => none
  | .ins _ _ _ => none
/-- a list is laid: in the store (m), or for good -/
def newL (m : Bool) (xs : List D) (S : Sto) : Res D :=
  if xs.length ≤ LINE then (if m then .ok (.ref S.length) (S ++ [.lst xs]) else .ok (.lst xs) S) else .stuck
def newT (xs : List D) (S : Sto) : Res D := if xs.length ≤ LINE then .ok (.tup xs) S else .stuck
def ixN (n : Nat) (i : Int) : Option Nat := if 0 ≤ i then (if i < n then some i.toNat else none) else if -(n : Int) ≤ i then some (i + n).toNat else none
def atI {α : Type} (xs : List α) (i : Int) : Option α := (ixN xs.length i).bind fun j => xs[j]?
def sIx (n d : Nat) : Option Int → Nat
  | none => d
  | some i => if i < 0 then (max (i + n) 0).toNat else (min i n).toNat
def cut {α : Type} (xs : List α) (lo hi : Option Int) : List α := (xs.drop (sIx xs.length 0 lo)).take (sIx xs.length xs.length hi - sIx xs.length 0 lo)
def DEEP : Nat := 100
/-- == of data -/
def eqD (a b : D) : Option Bool := if a.data && b.data && decide (min a.dep b.dep ≤ DEEP) then some (D.eqv a b) else none
def intsOf : List D → Option (List Int)
  | [] => some []
  | .int i :: r => (intsOf r).map (i :: ·)
  | _ :: _ => none
mutual
/-- < of ints and tuples, item by item -/
def D.ltv : D → D → Bool
  | .int i, .int j => decide (i < j)
  | .tup xs, .tup ys => D.ltvs xs ys
  | _, _ => false
def D.ltvs : List D → List D → Bool
  | [], [] => false
  | [], _ :: _ => true
  | _ :: _, [] => false
  | x :: xs, y :: ys => if D.eqv x y then D.ltvs xs ys else D.ltv x y
end
mutual
/-- two that can be told apart by < -/
def D.cok : D → D → Bool
  | .int _, .int _ => true
  | .tup xs, .tup ys => D.coks xs ys
  | _, _ => false
def D.coks : List D → List D → Bool
  | x :: xs, y :: ys => x.data && y.data && D.cok x y && D.coks xs ys
  | [], _ => true
  | _ :: _, [] => true
end
/-- < of two ints, of two tuples -/
def ltD (a b : D) : Option Bool := if D.cok a b && decide (a.dep ≤ DEEP) then some (D.ltv a b) else none
/-- in a list, a tuple of data -/
def inD (d : D) (xs : List D) : Option Bool := if d.data && D.datas xs && decide (d.dep ≤ DEEP) then some (xs.any fun z => D.eqv z d) else none
def keyOk (t : Bool) : D → Bool
  | .int _ => !t
  | .str _ => !t
  | .tup xs => t && xs.all fun d => match d with
    | .int _ => true
    | .str _ => true
    | _ => false
  | _ => false
def dval (kvs : List (D × D)) (k : D) : Option D := (kvs.find? fun p => decide (p.1 = k)).map (·.2)
def dput (kvs : List (D × D)) (k v : D) : List (D × D) := if (dval kvs k).isSome then kvs.map fun p => if p.1 = k then (p.1, v) else p else kvs ++ [(k, v)]
def dctOf (S : Sto) : D → Option (Bool × List (D × D))
  | .ref n => match S[n]? with
    | some (.dct t _ kvs) => some (t, kvs)
    | _ => none
  | _ => none
def isOf : D → Ty → Option Bool
  | .bl _, .int => some true
  | .bl _, .bool => some true
  | .int _, .int => some true
  | .str _, .str => some true
  | .tup _, .tuple => some true
  | .lst _, .list => some true
  | .ins c _ _, .cls d => some (decide (c = d))
  | .ref _, _ => none
  | _, _ => some false
def binD (o : BOp) (m : Bool) (S : Sto) (a b : D) : Res D :=
  match o, a, b with
  | .add, .int i, .int j => .ok (.int (i + j)) S
  | .sub, .int i, .int j => .ok (.int (i - j)) S
  | .mul, .int i, .int j => if (-(2 ^ 64) < i ∧ i < 2 ^ 64) ∨ (-(2 ^ 64) < j ∧ j < 2 ^ 64) then .ok (.int (i * j)) S else .stuck
  | .fdiv, .int i, .int j => if 0 < j ∧ j < 1073741824 then .ok (.int (i / j)) S else .stuck
  | .mod, .int i, .int j => if 0 < j then .ok (.int (i % j)) S else .stuck
  | .pow, .int i, .int j => if 0 ≤ j ∧ j ≤ 1000000 ∧ i.natAbs < 2 ^ 64 then .ok (.int (i ^ j.toNat)) S else .stuck
  | .add, .str x, .str y => if x.length + y.length ≤ LINE then .ok (.str (x ++ y)) S else .stuck
  | .add, .tup x, .tup y => if x.length + y.length ≤ LINE then .ok (.tup (x ++ y)) S else .stuck
  | .mul, .tup x, .int j => if x.length ≤ 1000 ∧ 0 ≤ j ∧ j ≤ 1000 then .ok (.tup (List.replicate j.toNat x).flatten) S else .stuck
  | .add, a, b => match a, b with
    | .tup _, _ => .stuck
    | _, .tup _ => .stuck
    | a, b => match seqOf S a, seqOf S b with
      | some x, some y => if x.length + y.length ≤ LINE then newL m (x ++ y) S else .stuck
      | _, _ => .stuck
  | .mul, a, .int j => match a with
    | .tup _ => .stuck
    | a => match seqOf S a with
      | some x => if 0 ≤ j ∧ j < 2 ^ 40 ∧ x.length * j.toNat ≤ LINE then newL m (List.replicate j.toNat x).flatten S else .stuck
      | none => .stuck
  | _, _, _ => .stuck
def minI : Int → List Int → Int
  | a, [] => a
  | a, b :: r => minI (if b < a then b else a) r
def maxI : Int → List Int → Int
  | a, [] => a
  | a, b :: r => maxI (if a < b then b else a) r
def sortD (xs : List D) : List D := xs.mergeSort fun a b => !D.ltv b a
def minD : D → List D → D
  | a, [] => a
  | a, b :: r => minD (if D.ltv b a then b else a) r
def maxD : D → List D → D
  | a, [] => a
  | a, b :: r => maxD (if D.ltv a b then b else a) r
/-- any two can be told apart by <, none is deep -/
def cokAll (xs : List D) : Bool := D.datas xs && decide (D.deps xs ≤ DEEP) && xs.all fun a => xs.all fun b => D.cok a b
/-- tuples with an item, or none a tuple -/
def sortOk (xs : List D) : Bool := cokAll xs && ((xs.all fun d => match d with
  | .tup (_ :: _) => true
  | _ => false) || (xs.all fun d => match d with
  | .int _ => true
  | _ => false))
def boolsOf : List D → Option (List Bool)
  | [] => some []
  | .bl i :: r => (boolsOf r).map (i :: ·)
  | _ :: _ => none
def digits (i : Int) : List Nat := (toString i).toList.map Char.toNat
end Mi
end
section
/-! the evaluator -/
namespace Mi
def res (S : Sto) : D → D
  | .ref n => match S[n]? with
    | some (.lst xs) => .lst xs
    | _ => .ref n
  | d => d
def getI (S : Sto) (a i : D) : Res D := match a with
  | .ref n => match S[n]? with
    | some (.lst xs) => match i with
      | .int j => lift (atI xs j) S
      | _ => .stuck
    | some (.dct t _ kvs) => if keyOk t i then lift (dval kvs i) S else .stuck
    | _ => .stuck
  | .tup xs => match i with
    | .int j => lift (atI xs j) S
    | _ => .stuck
  | .lst xs => match i with
    | .int j => lift (atI xs j) S
    | _ => .stuck
  | _ => .stuck
def setI (S : Sto) (a i v : D) : Res Unit := match a with
  | .ref n => match S[n]? with
    | some (.lst xs) => match i with
      | .int j => match ixN xs.length j with
        | some k => .ok () (S.set n (.lst (xs.set k v)))
        | none => .stuck
      | _ => .stuck
    | some (.dct t false kvs) => if keyOk t i ∧ kvs.length < LINE then .ok () (S.set n (.dct t false (dput kvs i v))) else .stuck
    | _ => .stuck
  | _ => .stuck
def look (f : Nat) : List Nat → List D → Option D
  | k :: ks, d :: ds => if k = f then some d else look f ks ds
  | _, _ => none
def putA (f : Nat) (v : D) : List Nat → List D → List D
  | k :: ks, d :: ds => if k = f then v :: ds else d :: putA f v ks ds
  | _, _ => []
def getA (S : Sto) (a : D) (f : Nat) : Option D := match a with
  | .ins _ ks ds => look f ks ds
  | .ref n => match S[n]? with
    | some (.ins _ ks ds) => look f ks ds
    | _ => none
  | _ => none
def setA (P : Pg) (S : Sto) (a : D) (f : Nat) (v : D) : Res Unit := match a with
  | .ref n => match S[n]? with
    | some (.ins c ks ds) => match P.cls c with
      | some C => if ks.length < 900 ∧ f ∈ C.flds then (match look f ks ds with
        | some _ => .ok () (S.set n (.ins c ks (putA f v ks ds)))
        | none => .ok () (S.set n (.ins c (ks ++ [f]) (ds ++ [v])))) else .stuck
      | none => .stuck
    | _ => .stuck
  | _ => .stuck
def clsOf (S : Sto) : D → Option Nat
  | .ins c _ _ => some c
  | .ref n => match S[n]? with
    | some (.ins c _ _) => some c
    | _ => none
  | _ => none
/-- what is kept where a call ends: the store as it stood ahead of it, if nothing new is held -/
def keeps (n : Nat) : Sto → Sto → Bool
  | [], _ => true
  | _ :: _, [] => false
  | o :: r, o' :: r' => (decide (o' = o) || o'.bel n) && keeps n r r'
def trunc (S : Sto) (d : D) (S' : Sto) : Sto := if d.bel S.length && keeps S.length S S' then S'.take S.length else S'
inductive Out where
  | nx (e : Env)
  | rt (d : D)
mutual
def asT : Tg → D → Env → Option Env
  | .var i, d, e => if i < e.length then some (e.set i (some d)) else none
  | .tup ts, d, e => match d with
    | .tup xs => asTs ts xs e
    | _ => none
def asTs : Tgs → List D → Env → Option Env
  | .nil, [], e => some e
  | .cons t ts, x :: xs, e => (asT t x e).bind (asTs ts xs)
  | .nil, _ :: _, _ => none
  | .cons _ _, [], _ => none
end
mutual
def Tg.own : Tg → List Nat
  | .var i => [i]
  | .tup ts => Tgs.own ts
def Tgs.own : Tgs → List Nat
  | .nil => []
  | .cons t ts => Tg.own t ++ Tgs.own ts
end
def wipe (e : Env) : List Nat → Env
  | [] => e
  | v :: vs => (wipe e vs).set v none
def mapR (g : D → Sto → Res (Option D)) (ck : Sto → Bool) : List D → Sto → Res (List D)
  | [], S => .ok [] S
  | d :: r, S => (g d S).bind fun o S1 => if ck S1 then (mapR g ck r S1).bind fun ys S2 => .ok (match o with
    | some y => y :: ys
    | none => ys) S2 else .stuck
/-- two fors -/
def mapRR (g : D → Sto → Res (List D)) (ck : Sto → Bool) : List D → Sto → Res (List D)
  | [], S => .ok [] S
  | d :: r, S => (g d S).bind fun o S1 => if ck S1 then (mapRR g ck r S1).bind fun ys S2 => .ok (o ++ ys) S2 else .stuck
def mapK (g : D → Sto → Res (Option (D × D))) (ck : Sto → Bool) : List D → List (D × D) → Sto → Res (List (D × D))
  | [], acc, S => .ok acc S
  | d :: r, acc, S => (g d S).bind fun o S1 => if ck S1 then (match o with
    | some (k, v) => if acc.length < LINE then mapK g ck r (dput acc k v) S1 else .stuck
    | none => mapK g ck r acc S1) else .stuck
def forR (g : D → Env → Sto → Res Out) (ck : Sto → Bool) : List D → Env → Sto → Res Out
  | [], e, S => .ok (.nx e) S
  | d :: r, e, S => (g d e S).bind fun o S1 => match o with
    | .rt v => .ok (.rt v) S1
    | .nx e1 => if ck S1 then forR g ck r e1 S1 else .stuck
/-- one turn of a for -/
def foStep (t : Tg) (fb : Env → Sto → Res Out) (d : D) (e : Env) (S : Sto) : Res Out := match asT t d e with
  | none => .stuck
  | some e1 => fb e1 S
def whileR (c : Env → Sto → Res Bool) (b : Env → Sto → Res Out) : Nat → Env → Sto → Res Out
  | 0, _, _ => .stuck
  | n + 1, e, S => (c e S).bind fun t S1 => if t then ((b e S1).bind fun o S2 => match o with
    | .rt v => .ok (.rt v) S2
    | .nx e1 => whileR c b n e1 S2) else .ok (.nx e) S1
def TURNS : Nat := 2 ^ 40
def idxOf (d : D) : List D → Nat → Option Nat
  | [], _ => none
  | x :: r, n => if D.eqv x d then some n else idxOf d r (n + 1)
def zipD : List D → List D → List D
  | x :: xs, y :: ys => .tup [x, y] :: zipD xs ys
  | _, _ => []
def enumD : Nat → List D → List D
  | _, [] => []
  | n, x :: xs => .tup [.int n, x] :: enumD (n + 1) xs
def rangeD (lo : Int) (n : Nat) : List D := (List.range n).map fun (i : Nat) => .int (lo + i)
def rangeS (lo c : Int) (n : Nat) : List D := (List.range n).map fun (i : Nat) => .int (lo + i * c)
/-- how many turns range(a, b, c) has -/
def turnsOf (a b c : Int) : Nat := if 0 < c then ((b - a + c - 1) / c).toNat else ((a - b - c - 1) / (-c)).toNat
def combs : Nat → List D → List (List D)
  | 0, _ => [[]]
  | _ + 1, [] => []
  | n + 1, x :: xs => (combs n xs).map (x :: ·) ++ combs (n + 1) xs
def pick (xs : List D) : List Nat → Option (List D)
  | [] => some []
  | i :: r => match xs[i]?, pick xs r with
    | some d, some ds => some (d :: ds)
    | _, _ => none
def one (xs : List D) (f : D → Res D) : Res D := match xs with
  | [a] => f a
  | _ => .stuck
def two (xs : List D) (f : D → D → Res D) : Res D := match xs with
  | [a, b] => f a b
  | _ => .stuck
def lenD (S : Sto) (a : D) : Res D := match a with
  | .str s => if s.length ≤ LINE then .ok (.int s.length) S else .stuck
  | a => match dctOf S a with
    | some (_, kvs) => .ok (.int kvs.length) S
    | none => match seqOf S a with
      | some ys => .ok (.int ys.length) S
      | none => .stuck
def absD (S : Sto) (a : D) : Res D := match a with
  | .int i => .ok (.int (if i < 0 then -i else i)) S
  | _ => .stuck
def intD (S : Sto) (a : D) : Res D := match a with
  | .int i => .ok (.int i) S
  | .bl k => .ok (.int (if k then 1 else 0)) S
  | _ => .stuck
def strD (S : Sto) (a : D) : Res D := match a with
  | .int i => if i.natAbs.log2 < 1920 then .ok (.str (digits i)) S else .stuck
  | _ => .stuck
def listD (m : Bool) (S : Sto) (a : D) : Res D := match seqOf S a with
  | some ys => newL m ys S
  | none => .stuck
def tupleD (S : Sto) (a : D) : Res D := match seqOf S a with
  | some ys => .ok (.tup ys) S
  | none => .stuck
def dictD (S : Sto) (a : D) : Res D := match dctOf S a with
  | some (t, kvs) => .ok (.ref S.length) (S ++ [.dct t false kvs])
  | none => .stuck
def sumD (S : Sto) (a : D) : Res D := match (seqOf S a).bind intsOf with
  | some ns => .ok (.int ns.sum) S
  | none => .stuck
def minB (S : Sto) (a : D) : Res D := match seqOf S a with
  | some (x :: xs) => match intsOf (x :: xs) with
    | some (n :: ns) => .ok (.int (minI n ns)) S
    | _ => if cokAll (x :: xs) then .ok (minD x xs) S else .stuck
  | _ => .stuck
def maxB (S : Sto) (a : D) : Res D := match seqOf S a with
  | some (x :: xs) => match intsOf (x :: xs) with
    | some (n :: ns) => .ok (.int (maxI n ns)) S
    | _ => if cokAll (x :: xs) then .ok (maxD x xs) S else .stuck
  | _ => .stuck
def sortB (S : Sto) (a : D) : Res D := match seqOf S a with
  | some xs => if xs.length ≤ LINE ∧ sortOk xs then newL false (sortD xs) S else .stuck
  | none => .stuck
def maxdB (S : Sto) (a : D) : Res D := match (seqOf S a).bind intsOf with
  | some (n :: ns) => .ok (.int (maxI n ns)) S
  | some [] => .ok (.int 0) S
  | none => .stuck
def min2D (S : Sto) (a b : D) : Res D := match a, b with
  | .int a, .int b => .ok (.int (if b < a then b else a)) S
  | _, _ => .stuck
def max2D (S : Sto) (a b : D) : Res D := match a, b with
  | .int a, .int b => .ok (.int (if b > a then b else a)) S
  | _, _ => .stuck
/-- a list's items -/
def lsq (S : Sto) (a : D) : Option (List D) := match a with
  | .tup _ => none
  | a => seqOf S a
def allD (S : Sto) (a : D) : Res D := match (lsq S a).bind boolsOf with
  | some bs => .ok (.bl (bs.all id)) S
  | none => .stuck
def anyD (S : Sto) (a : D) : Res D := match (lsq S a).bind boolsOf with
  | some bs => .ok (.bl (bs.any id)) S
  | none => .stuck
def lzD (m : Bool) (S : Sto) (a b : D) : Res D := match seqOf S a, seqOf S b with
  | some xs, some ys => newL m (zipD xs ys) S
  | _, _ => .stuck
def bltD (b : Blt) (m : Bool) (S : Sto) (xs : List D) : Res D :=
  match b with
  | .len => one xs (lenD S)
  | .abs => one xs (absD S)
  | .int => one xs (intD S)
  | .str => one xs (strD S)
  | .list => one xs (listD m S)
  | .tuple => one xs (tupleD S)
  | .dict => one xs (dictD S)
  | .sum => one xs (sumD S)
  | .min => one xs (minB S)
  | .max => one xs (maxB S)
  | .sorted => one xs (sortB S)
  | .maxd => one xs (maxdB S)
  | .min2 => two xs (min2D S)
  | .max2 => two xs (max2D S)
  | .all => one xs (allD S)
  | .any => one xs (anyD S)
  | .listzip => two xs (lzD m S)
def lstOf (S : Sto) (a : D) : Option (Nat × List D) := match a with
  | .ref n => match S[n]? with
    | some (.lst ys) => some (n, ys)
    | _ => none
  | _ => none
def appD (S : Sto) (a x : D) : Res D := match lstOf S a with
  | some (n, ys) => if ys.length < LINE then .ok .non (S.set n (.lst (ys ++ [x]))) else .stuck
  | none => .stuck
def extD (S : Sto) (a x : D) : Res D := match lstOf S a, seqOf S x with
  | some (n, ys), some zs => if ys.length + zs.length ≤ LINE then .ok .non (S.set n (.lst (ys ++ zs))) else .stuck
  | _, _ => .stuck
def popD (S : Sto) (a : D) : Res D := match lstOf S a with
  | some (n, ys) => match ys.getLast? with
    | some y => .ok y (S.set n (.lst ys.dropLast))
    | none => .stuck
  | none => .stuck
def pop0D (S : Sto) (a x : D) : Res D := match lstOf S a with
  | some (n, y :: ys) => if x = .int 0 then .ok y (S.set n (.lst ys)) else .stuck
  | _ => .stuck
def insD (S : Sto) (a i x : D) : Res D := match lstOf S a, i with
  | some (n, ys), .int i => if 0 ≤ i ∧ i < 2 ^ 63 ∧ ys.length < LINE then .ok .non (S.set n (.lst (ys.take i.toNat ++ [x] ++ ys.drop i.toNat))) else .stuck
  | _, _ => .stuck
def idxD (S : Sto) (a x : D) : Res D := match lsq S a with
  | some ys => if x.data && D.datas ys && decide (x.dep ≤ 60) && decide (D.deps ys ≤ 60) then (match idxOf x ys 0 with
    | some j => .ok (.int j) S
    | none => .stuck) else .stuck
  | none => .stuck
def getD2 (S : Sto) (a k d : D) : Res D := match dctOf S a with
  | some (t, kvs) => if keyOk t k then .ok ((dval kvs k).getD d) S else .stuck
  | none => .stuck
def bmD (m : BM) (S : Sto) (a : D) (xs : List D) : Res D :=
  match m with
  | .append => one xs (appD S a)
  | .extend => one xs (fun b => match b with
    | .tup _ => .stuck
    | b => extD S a b)
  | .pop => match xs with
    | [] => popD S a
    | _ => .stuck
  | .pop0 => one xs (pop0D S a)
  | .insert => two xs (insD S a)
  | .index => one xs (idxD S a)
  | .get => two xs (getD2 S a)
/-- whether the receiver is of the method's type -/
def bmPre (m : BM) (S : Sto) (a : D) : Bool := match m with
  | .get => (dctOf S a).isSome
  | .index => (lsq S a).isSome
  | _ => (lstOf S a).isSome
def inM (S : Sto) (a b : D) : Option Bool := match dctOf S b with
  | some (t, kvs) => if keyOk t a then some (dval kvs a).isSome else none
  | none => (seqOf S b).bind fun xs => inD a xs
section
variable (P : Pg) (call : Nat → List D → Sto → Res D)
def bolR (r : Res D) : Res D := r.bind fun d S => match d with
  | .bl b => .ok (.bl b) S
  | _ => .stuck
def cmpD (o : COp) (S : Sto) (a b : D) : Res D :=
  match o with
  | .eq => match a, b with
    | .ins c _ _, .ins c' _ _ => if c = c' then (match (P.cls c).bind (·.eq) with
      | some f => bolR (call f [a, b] S)
      | none => .stuck) else .stuck
    | .ins c _ _, .tup _ => (match (P.cls c).bind (·.eq) with
      | some f => bolR (call f [a, b] S)
      | none => .stuck)
    | .ref n, .lst [] => match S[n]? with
      | some (.lst xs) => .ok (.bl xs.isEmpty) S
      | _ => .stuck
    | a, b => lift ((eqD (res S a) (res S b)).map .bl) S
  | .ne => lift ((eqD (res S a) (res S b)).map fun k => .bl (!k)) S
  | .lt => lift ((ltD a b).map .bl) S
  | .gt => match a, b with
    | .int i, .int j => .ok (.bl (decide (j < i))) S
    | _, _ => .stuck
  | .le => match a, b with
    | .int i, .int j => .ok (.bl (decide (i ≤ j))) S
    | _, _ => .stuck
  | .ge => lift ((ltD a b).map fun k => .bl (!k)) S
  | .isin => lift ((inM S a b).map .bl) S
  | .notin => lift ((inM S a b).map fun k => .bl (!k)) S
  | .is => match b with
    | .non => .ok (.bl (decide (a = .non))) S
    | .bl x => match a with
      | .bl y => .ok (.bl (decide (y = x))) S
      | _ => .stuck
    | _ => .stuck
  | .isnot => match b with
    | .non => .ok (.bl (!decide (a = .non))) S
    | .bl x => match a with
      | .bl y => .ok (.bl (!decide (y = x))) S
      | _ => .stuck
    | _ => .stuck
def newC (c : Nat) (fz : Bool) (args : List D) (S : Sto) : Res D :=
  match (P.cls c).bind (·.init) with
  | none => .stuck
  | some f => (call f (.ref S.length :: args) (S ++ [.ins c [] []])).bind fun r S2 => if r = .non then
    (if fz then (match S2[S.length]? with
      | some (.ins c' ks ds) => if c' = c then .ok (.ins c ks ds) (trunc S (.ins c ks ds) (S2.set S.length .dead)) else .stuck
      | _ => .stuck) else .ok (.ref S.length) S2) else .stuck
def cutD (S : Sto) (a : D) (lo hi : Option Int) : Res D := match a with
  | .str s => if s.length ≤ LINE then .ok (.str (cut s lo hi)) S else .stuck
  | .tup xs => .ok (.tup (cut xs lo hi)) S
  | .lst xs => .ok (.lst (cut xs lo hi)) S
  | .ref n => match S[n]? with
    | some (.lst xs) => .ok (.lst (cut xs lo hi)) S
    | _ => .stuck
  | _ => .stuck
def revD (S : Sto) (a : D) : Res D := match a with
  | .tup xs => .ok (.tup xs.reverse) S
  | a => match seqOf S a with
    | some xs => .ok (.lst xs.reverse) S
    | none => .stuck
def frzD (S : Sto) (a : D) : Res D := match a with
  | .ref n => match S[n]? with
    | some (.lst xs) => .ok (.lst xs) (S.set n .dead)
    | _ => .stuck
  | a => .ok a S
/-- whether what is walked stands still -/
def still (S0 : Sto) (a : D) (S : Sto) : Bool := match a with
  | .ref n => decide (S[n]? = S0[n]?)
  | _ => true
def truR (r : Res D) : Res Bool := r.bind fun d S => lift (truth S d) S
def lockD (b : Bool) (S : Sto) (n : Nat) : Sto := match S[n]? with
  | some (.dct t _ kvs) => S.set n (.dct t b kvs)
  | _ => S
/-- one turn of a comprehension -/
def lcStep (t : Tg) (own : List Nat) (e : Env) (fc : Env → Sto → Res Bool) (fx : Env → Sto → Res D) (d : D) (S : Sto) : Res (Option D) := match asT t d (wipe e own) with
  | none => .stuck
  | some e1 => (fc e1 S).bind fun k S' => if k then (fx e1 S').bind fun y S'' => .ok (some y) S'' else .ok none S'
/-- one turn of a dict comprehension -/
def dcStep (k : Bool) (t : Tg) (own : List Nat) (e : Env) (fc : Env → Sto → Res Bool) (fx fy : Env → Sto → Res D) (d : D) (S : Sto) : Res (Option (D × D)) := match asT t d (wipe e own) with
  | none => .stuck
  | some e1 => (fc e1 S).bind fun c S' => if c then (fx e1 S').bind fun x S2 => (fy e1 S2).bind fun y S3 => if keyOk k x then .ok (some (x, y)) S3 else .stuck else .ok none S'
def newD (k : Bool) (kvs : List (D × D)) (S : Sto) : Res D := .ok (.ref S.length) (S ++ [.dct k false kvs])
/-- what is walked: whether it stands still, its items, the dict that is locked meanwhile -/
structure Wk where
  ck : Sto → Bool
  xs : List D
  lk : Option Nat := none
/-- one turn of a comprehension of two fors -/
def lc2Step (t t2 : Tg) (e : Env) (fc : Env → Sto → Res Bool) (fw2 : Env → Sto → Res Wk) (fc2 : Env → Sto → Res Bool) (fx : Env → Sto → Res D) (d : D) (S : Sto) : Res (List D) := match asT t d (wipe e (t.own ++ t2.own)) with
  | none => .stuck
  | some e1 => (fc e1 S).bind fun k S' => if k then (fw2 e1 S').bind fun w2 S3 => if w2.lk.isSome then .stuck else mapR (lcStep t2 t2.own e1 fc2 fx) w2.ck w2.xs S3 else .ok [] S'
def lockO (b : Bool) (S : Sto) : Option Nat → Sto
  | none => S
  | some n => lockD b S n
/-- a dict that is walked: its keys; it is locked meanwhile -/
def dicW (x : D) (S : Sto) : Res Wk := match x with
  | .ref n => match S[n]? with
    | some (.dct t false kvs) => .ok ⟨fun S' => decide (S'[n]? = some (.dct t true kvs)), kvs.map (·.1), some n⟩ S
    | _ => .stuck
  | _ => .stuck
mutual
def ev : Ex → Env → Sto → Res D
  | .var i, e, S => match e[i]? with
    | some (some d) => .ok d S
    | _ => .stuck
  | .cst d, _, S => .ok d S
  | .glob g, _, S => lift (P.glob g) S
  | .bin o m a b, e, S => (ev a e S).bind fun x S1 => (ev b e S1).bind fun y S2 => binD o m S2 x y
  | .neg a, e, S => (ev a e S).bind fun x S1 => match x with
    | .int i => .ok (.int (-i)) S1
    | _ => .stuck
  | .cmp o a b, e, S => (ev a e S).bind fun x S1 => (ev b e S1).bind fun y S2 => cmpD P call o S2 x y
  | .chn o o' a b c, e, S => (ev a e S).bind fun x S1 => (ev b e S1).bind fun y S2 => (cmpD P call o S2 x y).bind fun k S3 => match k with
    | .bl true => (ev c e S3).bind fun z S4 => cmpD P call o' S4 y z
    | .bl false => .ok (.bl false) S3
    | _ => .stuck
  | .andE a b, e, S => (ev a e S).bind fun x S1 => match truth S1 x with
    | some true => ev b e S1
    | some false => .ok x S1
    | none => .stuck
  | .orE a b, e, S => (ev a e S).bind fun x S1 => match truth S1 x with
    | some false => ev b e S1
    | some true => .ok x S1
    | none => .stuck
  | .notE a, e, S => (truR (ev a e S)).bind fun k S1 => .ok (.bl (!k)) S1
  | .ite c a b, e, S => (truR (ev c e S)).bind fun k S1 => if k then ev a e S1 else ev b e S1
  | .tup es, e, S => (evs es e S).bind fun xs S1 => newT xs S1
  | .lst m es, e, S => (evs es e S).bind fun xs S1 => newL m xs S1
  | .idx a i, e, S => (ev a e S).bind fun x S1 => (ev i e S1).bind fun y S2 => getI S2 x y
  | .sl a lo hi, e, S => (ev a e S).bind fun x S1 => (evo lo e S1).bind fun l S2 => (evo hi e S2).bind fun h S3 => cutD S3 x l h
  | .rev a, e, S => (ev a e S).bind fun x S1 => revD S1 x
  | .att a f, e, S => (ev a e S).bind fun x S1 => lift (getA S1 x f) S1
  | .call f es, e, S => (evs es e S).bind fun xs S1 => call f xs S1
  | .callk f es n p, e, S => (evs es e S).bind fun xs S1 => match pick xs p with
    | some ys => if n ≤ xs.length then call f ys S1 else .stuck
    | none => .stuck
  | .meth a m es, e, S => (ev a e S).bind fun x S1 => match (clsOf S1 x).bind P.cls with
    | some C => match C.meths.lookup m with
      | some f => (evs es e S1).bind fun xs S2 => call f (x :: xs) S2
      | none => .stuck
    | none => .stuck
  | .new c fz es, e, S => (evs es e S).bind fun xs S1 => newC P call c fz xs S1
  | .blt b m es, e, S => (evs es e S).bind fun xs S1 => bltD b m S1 xs
  | .isi a t, e, S => (ev a e S).bind fun x S1 => lift ((isOf (res S1 x) t).map .bl) S1
  | .bm m a es, e, S => (ev a e S).bind fun x S1 => if bmPre m S1 x then (evs es e S1).bind fun xs S2 => bmD m S2 x xs else .stuck
  | .comp m x t it cs, e, S => (walk it e S).bind fun w S1 =>
    ((mapR (lcStep t t.own e (evc cs) (ev x)) w.ck w.xs (lockO true S1 w.lk)).nox).bind fun ys S2 => newL m ys (lockO false S2 w.lk)
  | .comp2 m x t it cs t2 it2 cs2, e, S => (walk it e S).bind fun w S1 =>
    ((mapRR (lc2Step t t2 e (evc cs) (walk it2) (evc cs2) (ev x)) w.ck w.xs (lockO true S1 w.lk)).nox).bind fun ys S2 => newL m ys (lockO false S2 w.lk)
  | .dcomp k a b t it cs, e, S => (walk it e S).bind fun w S1 =>
    ((mapK (dcStep k t t.own e (evc cs) (ev a) (ev b)) w.ck w.xs [] (lockO true S1 w.lk)).nox).bind fun kvs S2 => newD k kvs (lockO false S2 w.lk)
  | .dct k ks vs, e, S => match ks, vs with
    | .nil, .nil => newD k [] S
    | .cons a .nil, .cons b .nil => (ev a e S).bind fun x S1 => (ev b e S1).bind fun y S2 => if keyOk k x then .ok (.ref S2.length) (S2 ++ [.dct k false [(x, y)]]) else .stuck
    | _, _ => .stuck
  | .frz a, e, S => (ev a e S).bind fun x S1 => frzD S1 x
def evs : Exs → Env → Sto → Res (List D)
  | .nil, _, S => .ok [] S
  | .cons x xs, e, S => (ev x e S).bind fun d S1 => (evs xs e S1).bind fun ds S2 => .ok (d :: ds) S2
def evo : Ox → Env → Sto → Res (Option Int)
  | .nul, _, S => .ok none S
  | .one x, e, S => (ev x e S).bind fun d S1 => match d with
    | .int i => .ok (some i) S1
    | _ => .stuck
/-- a clause's tests: all hold -/
def evc : Exs → Env → Sto → Res Bool
  | .nil, _, S => .ok true S
  | .cons x .nil, e, S => truR (ev x e S)
  | .cons _ (.cons _ _), _, _ => .stuck
/-- what is walked: whether it stands still, its items -/
def walk : It → Env → Sto → Res Wk
  | .seq a, e, S => (ev a e S).bind fun x S1 => lift ((seqOf S1 x).map fun xs => ⟨still S1 x, xs, none⟩) S1
  | .rng1 a, e, S => (ev a e S).bind fun x S1 => match x with
    | .int j => if -(2 ^ 62) ≤ j ∧ j < 2 ^ 62 then .ok ⟨fun _ => true, rangeD 0 j.toNat, none⟩ S1 else .stuck
    | _ => .stuck
  | .rng2 a b, e, S => (ev a e S).bind fun x S1 => (ev b e S1).bind fun y S2 => match x, y with
    | .int i, .int j => if -(2 ^ 62) ≤ i ∧ i < 2 ^ 62 ∧ -(2 ^ 62) ≤ j ∧ j < 2 ^ 62 then .ok ⟨fun _ => true, rangeD i (j - i).toNat, none⟩ S2 else .stuck
    | _, _ => .stuck
  | .rng3 a b c, e, S => (ev a e S).bind fun x S1 => (ev b e S1).bind fun y S2 => match x, y with
    | .int i, .int j => if -(2 ^ 62) ≤ i ∧ i < 2 ^ 62 ∧ -(2 ^ 62) ≤ j ∧ j < 2 ^ 62 ∧ c ≠ 0 ∧ -1000 ≤ c ∧ c ≤ 1000 then .ok ⟨fun _ => true, rangeS i c (turnsOf i j c), none⟩ S2 else .stuck
    | _, _ => .stuck
  | .zip a b, e, S => (ev a e S).bind fun x S1 => (ev b e S1).bind fun y S2 => match seqOf S2 x, seqOf S2 y with
    | some xs, some ys => if x.isT = y.isT then .ok ⟨fun S => still S2 x S && still S2 y S, zipD xs ys, none⟩ S2 else .stuck
    | _, _ => .stuck
  | .enum a, e, S => (ev a e S).bind fun x S1 => lift ((seqOf S1 x).map fun xs => ⟨still S1 x, enumD 0 xs, none⟩) S1
  | .dic a, e, S => (ev a e S).bind fun x S1 => dicW x S1
  | .comb a b, e, S => (ev a e S).bind fun x S1 => (ev b e S1).bind fun y S2 => match x, y with
    | .tup xs, .int j => if 0 ≤ j then .ok ⟨fun _ => true, (combs j.toNat xs).map .tup, none⟩ S2 else .stuck
    | _, _ => .stuck
end
/-- which clause takes an error -/
def hdOf (c : Nat) : List Hd → Option Hd
  | [] => none
  | h :: r => if (P.sub c).contains h.cls then some h else hdOf c r
/-- try .. except -/
def triR (P : Pg) (hs : List Hd) (r : Res Out) : Res Out := match r with
  | .exc c v S1 => match hdOf P c hs with
    | some h => if (P.cls c).bind (·.exf) = some h.fld then (match h.word with
      | some w => .ok (.rt (.tup [.str w, v])) S1
      | none => .ok (.rt v) S1) else .stuck
    | none => .exc c v S1
  | r => r
/-- two items, then what is done with them -/
def set2R (d : D) (k : D → D → Res Out) : Res Out := match d with
  | .tup [u, v] => k u v
  | _ => .stuck
mutual
def ex1 : St → Env → Sto → Res Out
  | .ex x, e, S => (ev P call x e S).bind fun _ S1 => .ok (.nx e) S1
  | .set i x, e, S => (ev P call x e S).bind fun d S1 => if i < e.length then .ok (.nx (e.set i (some d))) S1 else .stuck
  | .sett t x, e, S => (ev P call x e S).bind fun d S1 => lift ((asT t d e).map .nx) S1
  | .par is xs, e, S => (evs P call xs e S).bind fun ds S1 => if ds.length = is.length ∧ is.all (· < e.length) then .ok (.nx ((is.zip ds).foldl (fun e p => e.set p.1 (some p.2)) e)) S1 else .stuck
  | .satt a f x, e, S => (ev P call x e S).bind fun d S1 => (ev P call a e S1).bind fun o S2 => (setA P S2 o f d).bind fun _ S3 => .ok (.nx e) S3
  | .satt2 a f b g x, e, S => (ev P call x e S).bind fun d S1 => match d with
    | .tup [u, v] => (ev P call a e S1).bind fun o S2 => (setA P S2 o f u).bind fun _ S3 => (ev P call b e S3).bind fun o' S4 => (setA P S4 o' g v).bind fun _ S5 => .ok (.nx e) S5
    | _ => .stuck
  | .sidx a i x, e, S => (ev P call x e S).bind fun d S1 => (ev P call a e S1).bind fun o S2 => (ev P call i e S2).bind fun j S3 => (setI S3 o j d).bind fun _ S4 => .ok (.nx e) S4
  | .sidx2 a i b j x, e, S => (ev P call x e S).bind fun d S1 => set2R d fun u v => (ev P call a e S1).bind fun o S2 => (ev P call i e S2).bind fun k S3 => (setI S3 o k u).bind fun _ S4 => (ev P call b e S4).bind fun o' S5 => (ev P call j e S5).bind fun l S6 => (setI S6 o' l v).bind fun _ S7 => .ok (.nx e) S7
  | .aug i o x, e, S => match e[i]? with
    | some (some u) => (ev P call x e S).bind fun d S1 => match u, d with
      | .int _, .int _ => (binD o false S1 u d).bind fun r S2 => .ok (.nx (e.set i (some r))) S2
      | _, _ => .stuck
    | _ => .stuck
  | .augi a i o x, e, S => (ev P call a e S).bind fun p S1 => (ev P call i e S1).bind fun j S2 => (getI S2 p j).bind fun u S3 => (ev P call x e S3).bind fun d S4 => match u, d with
    | .int _, .int _ => (binD o false S4 u d).bind fun r S5 => (setI S5 p j r).bind fun _ S6 => .ok (.nx e) S6
    | _, _ => .stuck
  | .cond c a b, e, S => (truR (ev P call c e S)).bind fun k S1 => if k then exs a e S1 else exs b e S1
  | .whil c b, e, S => whileR (fun e S => truR (ev P call c e S)) (exs b) TURNS e S
  | .fo t it b, e, S => (walk P call it e S).bind fun w S1 => if w.lk.isSome then .stuck else forR (foStep t (exs b)) w.ck w.xs e S1
  | .ret x, e, S => (ev P call x e S).bind fun d S1 => .ok (.rt d) S1
  | .retn, _, S => .ok (.rt .non) S
  | .rais c x, e, S => (ev P call x e S).bind fun d S1 => .exc c d S1
  | .tri b hs, e, S => triR P hs (exs b e S)
  | .pas, e, S => .ok (.nx e) S
def exs : Sts → Env → Sto → Res Out
  | .nil, e, S => .ok (.nx e) S
  | .cons s ss, e, S => (ex1 s e S).bind fun o S1 => match o with
    | .nx e1 => exs ss e1 S1
    | .rt d => .ok (.rt d) S1
end
def fin (S : Sto) : Res Out → Res D
  | .ok (.nx _) S' => .ok .non (trunc S .non S')
  | .ok (.rt d) S' => .ok d (trunc S d S')
  | .exc c v S' => .exc c v (trunc S v S')
  | .stuck => .stuck
end
/-- a def called, at most k calls deep -/
def callF (P : Pg) : Nat → Nat → List D → Sto → Res D
  | 0, _, _, _ => .stuck
  | k + 1, f, args, S => match P.fns f with
    | none => .stuck
    | some F => if args.length = F.np then fin S (exs P (callF P k) F.body (args.map some ++ List.replicate (F.nn - F.np) none) S) else .stuck
end Mi
end
section
set_option Elab.async false
set_option linter.all false
set_option maxRecDepth 100000
/-! The evaluator and the model: the ghost world, what stands for what. -/
namespace Mi
open PySem L2
/-- what is fixed through a law -/
structure Gd where
  prog : Program
  w : World
  K : PySem.W.Frag
  mg : Str → Option Value
  base : Heap
  cA : Nat → Addr
  nm : Nat → Str
  nn : Nat
  M : Pg
/-- the ghost world: what is laid for good, where the store's objects stand -/
structure Wd where
  F : Hp
  mu : List Addr
def sV (s : List Nat) : Str := ⟨s.toArray⟩
def sOk (s : List Nat) : Prop := ∀ c ∈ s, c < 1114112
/-- the class has these fields -/
def FldOk (G : Gd) (c : Nat) (ks : List Nat) : Prop := ∃ C, G.M.cls c = some C ∧ C.init.isSome = true ∧ ∀ k ∈ ks, k ∈ C.flds
mutual
def RepV (G : Gd) (W : Wd) : D → V → Prop
  | .non, v => v = .non
  | .bl b, v => v = .bl b
  | .int i, v => v = .int i
  | .str s, v => v = .str (sV s) ∧ sOk s
  | .tup ds, v => ∃ a vs, v = .ref a ∧ W.F a = some (.tup vs) ∧ RepVs G W ds vs
  | .lst ds, v => ∃ a vs, v = .ref a ∧ Rd W.F a (.lst vs) ∧ RepVs G W ds vs
  | .ins c ks ds, v => ∃ a dx vs, v = .ref a ∧ W.F a = some (.ins (G.cA c) dx ((ks.map G.nm).zip vs)) ∧ RepVs G W ds vs ∧ ks.length = ds.length ∧ FldOk G c ks
  | .ref n, v => ∃ a, v = .ref a ∧ W.mu[n]? = some a
def RepVs (G : Gd) (W : Wd) : List D → List V → Prop
  | [], vs => vs = []
  | d :: ds, vs => ∃ v r, vs = v :: r ∧ RepV G W d v ∧ RepVs G W ds r
end
/-- a key's value -/
def KeyR : D → Key → Prop
  | .int i, k => k = .inl i
  | .str s, k => k = .inr (sV s) ∧ sOk s
  | _, _ => False
def KeyRs : List D → List Key → Prop
  | [], ks => ks = []
  | d :: ds, ks => ∃ k r, ks = k :: r ∧ KeyR d k ∧ KeyRs ds r
/-- the pairs of a dict, for keys told by R -/
def RepKs {κ : Type} (G : Gd) (W : Wd) (R : D → κ → Prop) : List (D × D) → List (κ × V) → Prop
  | [], vs => vs = []
  | p :: ps, vs => ∃ k v r, vs = (k, v) :: r ∧ R p.1 k ∧ RepV G W p.2 v ∧ RepKs G W R ps r
def TupR (d : D) (ks : List Key) : Prop := ∃ ds, d = .tup ds ∧ KeyRs ds ks
/-- u at a, locked or not -/
def AtL (F H : Hp) (a : Addr) (lk : Bool) (u : HO) : Prop := if lk then ∃ od, F a = some (.frz od u) ∧ H a = some (.frz od u) else F a = none ∧ H a = some u
theorem AtL.rd {F H : Hp} {a : Addr} {lk : Bool} {u : HO} (h : AtL F H a lk u) : Rd H a u := by
  cases lk with
  | false => exact .inl h.2
  | true => obtain ⟨od, _, h⟩ := h; exact .inr ⟨od, h⟩
def RepO (G : Gd) (W : Wd) (H : Hp) (a : Addr) : O → Prop
  | .lst ds => W.F a = none ∧ ∃ vs, H a = some (.lst vs) ∧ RepVs G W ds vs
  | .dct false lk kvs => ∃ vs, AtL W.F H a lk (.dK vs) ∧ RepKs G W KeyR kvs vs
  | .dct true lk kvs => ∃ vs, AtL W.F H a lk (.dT vs) ∧ RepKs G W TupR kvs vs
  | .ins c ks ds => W.F a = none ∧ FldOk G c ks ∧ ∃ dx vs, H a = some (.ins (G.cA c) dx ((ks.map G.nm).zip vs)) ∧ RepVs G W ds vs ∧ ks.length = ds.length
  | .dead => ∃ u, H a = some u ∧ ∀ vs, u ≠ .tup vs
structure Sim (G : Gd) (W : Wd) (S : Sto) (H : Hp) : Prop where
  sub : ∀ a o, W.F a = some o → H a = some o
  len : W.mu.length = S.length
  nd : W.mu.Nodup
  inH : ∀ a ∈ W.mu, H a ≠ none
  obj : ∀ (n : Nat) (a : Addr) (o : O), W.mu[n]? = some a → S[n]? = some o → RepO G W H a o
/-- a step of the world -/
structure Stp (W : Wd) (H : Hp) (W' : Wd) (H' : Hp) : Prop where
  F : ∀ a o, W.F a = some o → W'.F a = some o
  mu : ∃ ext, W'.mu = W.mu ++ ext
  fr : ∀ a o, H a = some o → a ∉ W.mu → H' a = some o
  nw : ∀ a, a ∈ W'.mu → a ∉ W.mu → H a = none
  dm : ∀ a, H a ≠ none → H' a ≠ none
  nf : ∀ a, W'.F a ≠ none → W.F a ≠ none ∨ H a = none ∨ a ∈ W.mu ∨ ∃ vs, H a = some (.tup vs)
section
variable {G : Gd} {W W' W1 W2 : Wd} {S S' : Sto} {H H' H1 H2 : Hp}
theorem Stp.refl : Stp W H W H := ⟨fun _ _ h => h, ⟨[], (List.append_nil _).symm⟩, fun _ _ h _ => h, fun _ h n => absurd h n, fun _ h => h, fun _ h => .inl h⟩
theorem Stp.trans (a : Stp W H W1 H1) (b : Stp W1 H1 W2 H2) : Stp W H W2 H2 := by
  obtain ⟨e1, h1⟩ := a.mu
  obtain ⟨e2, h2⟩ := b.mu
  refine ⟨fun x o h => b.F x o (a.F x o h), ⟨e1 ++ e2, by rw [h2, h1, List.append_assoc]⟩, fun x o h n => ?_, fun x h n => ?_, fun x h => b.dm x (a.dm x h), fun x h => ?_⟩
  · refine b.fr x o (a.fr x o h n) fun z => ?_
    rw [a.nw x z n] at h; cases h
  · by_cases z : x ∈ W1.mu
    · exact a.nw x z n
    · have q := b.nw x h z
      cases r : H x with
      | none => rfl
      | some o => exact absurd q (a.dm x (by rw [r]; simp))
  · rcases b.nf x h with h | h | h | ⟨vs, h⟩
    · exact a.nf x h
    · refine .inr (.inl ?_)
      cases r : H x with
      | none => rfl
      | some o => exact absurd h (a.dm x (by rw [r]; simp))
    · by_cases z : x ∈ W.mu
      · exact .inr (.inr (.inl z))
      · exact .inr (.inl (a.nw x h z))
    · by_cases z : x ∈ W.mu
      · exact .inr (.inr (.inl z))
      · cases r : H x with
        | none => exact .inr (.inl rfl)
        | some o => rw [a.fr x o r z] at h; cases h; exact .inr (.inr (.inr ⟨vs, rfl⟩))
theorem Stp.get (a : Stp W H W' H') {n : Nat} {x : Addr} (h : W.mu[n]? = some x) : W'.mu[n]? = some x := by
  obtain ⟨e, q⟩ := a.mu
  rw [q, List.getElem?_append_left (List.getElem?_eq_some_iff.mp h).1]; exact h
theorem Rd.up (h : ∀ a o, W.F a = some o → H a = some o) {a : Addr} {u : HO} (r : Rd W.F a u) : Rd H a u := by
  rcases r with r | ⟨o, r⟩
  · exact .inl (h _ _ r)
  · exact .inr ⟨o, h _ _ r⟩
theorem sqt_up {K : PySem.W.Frag} (h : ∀ a o, W.F a = some o → H a = some o) {a : Addr} {xs : List V} (r : W.F a = some (.tup xs)) : SqT K H a xs := .inl (.inl (h _ _ r))
mutual
theorem RepV.stp (s : ∀ a o, W.F a = some o → W'.F a = some o) (m : ∀ (n : Nat) x, W.mu[n]? = some x → W'.mu[n]? = some x) : ∀ (d : D) (v : V), RepV G W d v → RepV G W' d v
  | .non, _, h => by simpa [RepV] using h
  | .bl _, _, h => by simpa [RepV] using h
  | .int _, _, h => by simpa [RepV] using h
  | .str _, _, h => by simpa [RepV] using h
  | .tup ds, v, h => by
    simp only [RepV] at h ⊢
    obtain ⟨a, vs, e, q, r⟩ := h
    exact ⟨a, vs, e, s _ _ q, RepVs.stp s m ds vs r⟩
  | .lst ds, v, h => by
    simp only [RepV] at h ⊢
    obtain ⟨a, vs, e, q, r⟩ := h
    exact ⟨a, vs, e, Rd.up (H := W'.F) s q, RepVs.stp s m ds vs r⟩
  | .ins c ks ds, v, h => by
    simp only [RepV] at h ⊢
    obtain ⟨a, dx, vs, e, q, r, l⟩ := h
    exact ⟨a, dx, vs, e, s _ _ q, RepVs.stp s m ds vs r, l⟩
  | .ref n, v, h => by
    simp only [RepV] at h ⊢
    obtain ⟨a, e, q⟩ := h
    exact ⟨a, e, m _ _ q⟩
theorem RepVs.stp (s : ∀ a o, W.F a = some o → W'.F a = some o) (m : ∀ (n : Nat) x, W.mu[n]? = some x → W'.mu[n]? = some x) : ∀ (ds : List D) (vs : List V), RepVs G W ds vs → RepVs G W' ds vs
  | [], vs, h => by simpa [RepVs] using h
  | d :: ds, vs, h => by
    simp only [RepVs] at h ⊢
    obtain ⟨v, r, e, q, t⟩ := h
    exact ⟨v, r, e, RepV.stp s m d v q, RepVs.stp s m ds r t⟩
end
theorem Stp.rep (a : Stp W H W' H') {d : D} {v : V} (r : RepV G W d v) : RepV G W' d v := r.stp a.F fun _ _ h => a.get h
theorem Stp.reps (a : Stp W H W' H') {d : List D} {v : List V} (r : RepVs G W d v) : RepVs G W' d v := r.stp a.F fun _ _ h => a.get h
theorem RepKs.stp {κ : Type} {R : D → κ → Prop} (s : ∀ a o, W.F a = some o → W'.F a = some o) (m : ∀ (n : Nat) x, W.mu[n]? = some x → W'.mu[n]? = some x) : ∀ (ds : List (D × D)) (vs : List (κ × V)), RepKs G W R ds vs → RepKs G W' R ds vs
  | [], vs, h => by simpa [RepKs] using h
  | d :: ds, vs, h => by
    simp only [RepKs] at h ⊢
    obtain ⟨k, v, r, e, q, u, t⟩ := h
    exact ⟨k, v, r, e, q, u.stp s m, RepKs.stp s m ds r t⟩
theorem RepVs.len : ∀ {ds : List D} {vs : List V}, RepVs G W ds vs → ds.length = vs.length
  | [], vs, h => by simp only [RepVs] at h; subst h; rfl
  | d :: ds, vs, h => by
    simp only [RepVs] at h
    obtain ⟨v, r, rfl, _, t⟩ := h
    simp [RepVs.len t]
theorem RepVs.get : ∀ {ds : List D} {vs : List V} {i : Nat} {d : D}, RepVs G W ds vs → ds[i]? = some d → ∃ v, vs[i]? = some v ∧ RepV G W d v
  | [], _, _, _, _, e => by simp at e
  | d :: ds, vs, 0, _, h, e => by
    simp only [RepVs] at h
    obtain ⟨v, r, rfl, q, t⟩ := h
    simp at e; subst e
    exact ⟨v, rfl, q⟩
  | d :: ds, vs, i + 1, _, h, e => by
    simp only [RepVs] at h
    obtain ⟨v, r, rfl, q, t⟩ := h
    obtain ⟨u, h1, h2⟩ := RepVs.get (i := i) t (by simpa using e)
    exact ⟨u, by simpa using h1, h2⟩
theorem RepVs.app : ∀ {ds es : List D} {vs us : List V}, RepVs G W ds vs → RepVs G W es us → RepVs G W (ds ++ es) (vs ++ us)
  | [], es, vs, us, h, k => by simp only [RepVs] at h; subst h; exact k
  | d :: ds, es, vs, us, h, k => by
    simp only [RepVs] at h
    obtain ⟨v, r, rfl, q, t⟩ := h
    simp only [List.cons_append, RepVs]
    exact ⟨v, _, rfl, q, RepVs.app t k⟩
theorem RepVs.take : ∀ {ds : List D} {vs : List V} (n : Nat), RepVs G W ds vs → RepVs G W (ds.take n) (vs.take n)
  | _, _, 0, _ => by simp [RepVs]
  | [], vs, n + 1, h => by simp only [RepVs] at h; subst h; simp [RepVs]
  | d :: ds, vs, n + 1, h => by
    simp only [RepVs] at h
    obtain ⟨v, r, rfl, q, t⟩ := h
    simp only [List.take_succ_cons, RepVs]
    exact ⟨v, _, rfl, q, RepVs.take n t⟩
theorem RepVs.drop : ∀ {ds : List D} {vs : List V} (n : Nat), RepVs G W ds vs → RepVs G W (ds.drop n) (vs.drop n)
  | _, _, 0, h => h
  | [], vs, n + 1, h => by simp only [RepVs] at h; subst h; simp [RepVs]
  | d :: ds, vs, n + 1, h => by
    simp only [RepVs] at h
    obtain ⟨v, r, rfl, q, t⟩ := h
    exact RepVs.drop n t
theorem RepVs.set {d : D} {v : V} (r : RepV G W d v) : ∀ {ds : List D} {vs : List V} (i : Nat), RepVs G W ds vs → RepVs G W (ds.set i d) (vs.set i v)
  | [], vs, i, h => by simp only [RepVs] at h; subst h; simp [RepVs]
  | x :: ds, vs, 0, h => by
    simp only [RepVs] at h
    obtain ⟨u, r', rfl, q, t⟩ := h
    simp only [List.set_cons_zero, RepVs]
    exact ⟨v, _, rfl, r, t⟩
  | x :: ds, vs, i + 1, h => by
    simp only [RepVs] at h
    obtain ⟨u, r', rfl, q, t⟩ := h
    simp only [List.set_cons_succ, RepVs]
    exact ⟨u, _, rfl, q, RepVs.set r i t⟩
theorem RepVs.one {d : D} {v : V} (r : RepV G W d v) : RepVs G W [d] [v] := by
  simp only [RepVs]; exact ⟨v, [], rfl, r, rfl⟩
theorem RepVs.cons {d : D} {v : V} {ds : List D} {vs : List V} (r : RepV G W d v) (t : RepVs G W ds vs) : RepVs G W (d :: ds) (v :: vs) := by
  simp only [RepVs]; exact ⟨v, vs, rfl, r, t⟩
theorem RepVs.nil : RepVs G W [] [] := by simp [RepVs]
theorem RepVs.rev {ds : List D} : ∀ {vs : List V}, RepVs G W ds vs → RepVs G W ds.reverse vs.reverse := by
  induction ds with
  | nil => intro vs h; simp only [RepVs] at h; subst h; simp [RepVs]
  | cons d ds ih =>
    intro vs h
    simp only [RepVs] at h
    obtain ⟨v, r, rfl, q, t⟩ := h
    simp only [List.reverse_cons]
    exact (ih t).app (.one q)
theorem RepVs.isEmpty {ds : List D} {vs : List V} (h : RepVs G W ds vs) : vs.isEmpty = ds.isEmpty := by
  cases ds with
  | nil => simp only [RepVs] at h; subst h; rfl
  | cons d ds => simp only [RepVs] at h; obtain ⟨v, r, rfl, _⟩ := h; rfl
theorem RepKs.len {κ : Type} {R : D → κ → Prop} : ∀ {ds : List (D × D)} {vs : List (κ × V)}, RepKs G W R ds vs → ds.length = vs.length
  | [], vs, h => by simp only [RepKs] at h; subst h; rfl
  | d :: ds, vs, h => by
    simp only [RepKs] at h
    obtain ⟨k, v, r, rfl, _, _, t⟩ := h
    simp [RepKs.len t]
/-! ### the store grows, is changed -/
theorem Sim.muH (s : Sim G W S H) {p : Addr} (hp : H p = none) : p ∉ W.mu := fun z => s.inH p z hp
theorem Sim.Fn (s : Sim G W S H) {p : Addr} (hp : H p = none) : W.F p = none := by
  cases e : W.F p with
  | none => rfl
  | some o => rw [s.sub _ _ e] at hp; cases hp
theorem RepO.keep {o : O} {a : Addr} (r : RepO G W H a o) (hF : ∀ a o, W.F a = some o → W'.F a = some o) (hm : ∀ (n : Nat) x, W.mu[n]? = some x → W'.mu[n]? = some x) (hn : W.F a = none → W'.F a = none) (hH : ∀ u, H a = some u → H' a = some u) : RepO G W' H' a o := by
  cases o with
  | lst ds =>
    obtain ⟨f, vs, e, q⟩ := r
    exact ⟨hn f, vs, hH _ e, q.stp hF hm⟩
  | dct t lk kvs =>
    have atl : ∀ u, AtL W.F H a lk u → AtL W'.F H' a lk u := fun u h => by
      cases lk with
      | false => exact ⟨hn h.1, hH _ h.2⟩
      | true => obtain ⟨od, h1, h2⟩ := h; exact ⟨od, hF _ _ h1, hH _ h2⟩
    cases t with
    | false => obtain ⟨vs, e, q⟩ := r; exact ⟨vs, atl _ e, q.stp hF hm⟩
    | true => obtain ⟨vs, e, q⟩ := r; exact ⟨vs, atl _ e, q.stp hF hm⟩
  | ins c ks ds =>
    obtain ⟨f, l, dx, vs, e, q, z⟩ := r
    exact ⟨hn f, l, dx, vs, hH _ e, q.stp hF hm, z⟩
  | dead => obtain ⟨u, h1, h2⟩ := r; exact ⟨u, hH _ h1, h2⟩
theorem RepO.nt {o : O} {a : Addr} (r : RepO G W H a o) : ∃ u, H a = some u ∧ ∀ vs, u ≠ .tup vs := by
  cases o with
  | lst ds => obtain ⟨f, vs, e, q⟩ := r; exact ⟨_, e, fun _ h => by cases h⟩
  | dct t lk kvs =>
    have atl : ∀ u, (∀ vs, u ≠ .tup vs) → AtL W.F H a lk u → ∃ u, H a = some u ∧ ∀ vs, u ≠ .tup vs := fun u hu h => by
      cases lk with
      | false => exact ⟨_, h.2, hu⟩
      | true => obtain ⟨od, h1, h2⟩ := h; exact ⟨_, h2, fun _ h => by cases h⟩
    cases t with
    | false => obtain ⟨vs, e, q⟩ := r; exact atl _ (fun _ h => by cases h) e
    | true => obtain ⟨vs, e, q⟩ := r; exact atl _ (fun _ h => by cases h) e
  | ins c ks ds => obtain ⟨f, l, dx, vs, e, q, z⟩ := r; exact ⟨_, e, fun _ h => by cases h⟩
  | dead => exact r
/-- something new is laid that the world does not know -/
theorem Sim.other (s : Sim G W S H) {p : Addr} {o : HO} (hp : H p = none) : Sim G W S (upd H p o) := by
  refine ⟨fun a u h => ?_, s.len, s.nd, fun a ha => ?_, fun n a u h1 h2 => (s.obj n a u h1 h2).keep (fun _ _ h => h) (fun _ _ h => h) (fun h => h) fun u hu => ?_⟩
  · rw [upd_ne (ne_of_none (s.sub _ _ h) hp)]; exact s.sub _ _ h
  · rw [upd_ne (fun z : a = p => s.muH hp (z ▸ ha))]; exact s.inH a ha
  · rw [upd_ne (ne_of_none hu hp)]; exact hu
theorem Stp.other {p : Addr} {o : HO} (hp : H p = none) : Stp W H W (upd H p o) := by
  refine ⟨fun _ _ h => h, ⟨[], (List.append_nil _).symm⟩, fun a u h _ => ?_, fun _ h n => absurd h n, fun a h => ?_, fun _ h => .inl h⟩
  · rw [upd_ne (ne_of_none h hp)]; exact h
  · by_cases z : a = p
    · subst z; rw [upd_same]; simp
    · rw [upd_ne z]; exact h
def Wd.lay (W : Wd) (p : Addr) (o : HO) : Wd := ⟨upd W.F p o, W.mu⟩
/-- laid for good -/
theorem Stp.lay (s : Sim G W S H) {p : Addr} {o : HO} (hp : H p = none) : Stp W H (W.lay p o) (upd H p o) := by
  have q := Stp.other (W := W) (o := o) hp
  refine ⟨fun a u h => ?_, q.mu, q.fr, q.nw, q.dm, fun a h => ?_⟩
  · show upd W.F p o a = some u
    rw [upd_ne (fun z => by subst z; rw [s.Fn hp] at h; cases h)]; exact h
  · by_cases z : a = p
    · rw [z]; exact .inr (.inl hp)
    · have h' : upd W.F p o a ≠ none := h
      rw [upd_ne z] at h'
      exact .inl h'
theorem Sim.lay (s : Sim G W S H) {p : Addr} {o : HO} (hp : H p = none) : Sim G (W.lay p o) S (upd H p o) := by
  have q := s.other (o := o) hp
  have F := (Stp.lay s (o := o) hp).F
  refine ⟨fun a u h => ?_, s.len, s.nd, q.inH, fun n a u h1 h2 => (q.obj n a u h1 h2).keep F (fun _ _ h => h) (fun h => ?_) (fun _ h => h)⟩
  · by_cases z : a = p
    · subst z
      have h' : upd W.F a o a = some u := h
      rw [upd_same] at h' ⊢; exact h'
    · have h' : upd W.F p o a = some u := h
      rw [upd_ne z] at h' ⊢; exact s.sub _ _ h'
  · show upd W.F p o a = none
    rw [upd_ne (fun z : a = p => s.muH hp (z ▸ List.mem_of_getElem? h1))]; exact h
def Wd.put (W : Wd) (p : Addr) : Wd := ⟨W.F, W.mu ++ [p]⟩
/-- laid into the store -/
theorem Stp.put (s : Sim G W S H) {p : Addr} {o : HO} (hp : H p = none) : Stp W H (W.put p) (upd H p o) := by
  have q := Stp.other (W := W) (o := o) hp
  refine ⟨q.F, ⟨[p], rfl⟩, q.fr, fun a h n => ?_, q.dm, fun _ h => .inl h⟩
  rcases List.mem_append.mp h with h | h
  · exact absurd h n
  · have e : a = p := by simpa using h
    rw [e]; exact hp
theorem Sim.put (s : Sim G W S H) {p : Addr} {o : HO} {x : O} (hp : H p = none) (r : RepO G (W.put p) (upd H p o) p x) : Sim G (W.put p) (S ++ [x]) (upd H p o) := by
  have q := s.other (o := o) hp
  have st := Stp.put s (o := o) hp
  have hm : ∀ (n : Nat) y, W.mu[n]? = some y → (W.put p).mu[n]? = some y := fun n y h => st.get h
  refine ⟨q.sub, by simp [Wd.put, s.len], ?_, fun a ha => ?_, fun n a u h1 h2 => ?_⟩
  · show (W.mu ++ [p]).Nodup
    rw [List.nodup_append]
    exact ⟨s.nd, by simp, fun a ha b hb => by have e : b = p := by simpa using hb
                                              subst e; exact fun z => s.muH hp (z ▸ ha)⟩
  · rcases List.mem_append.mp ha with h | h
    · exact q.inH a h
    · have e : a = p := by simpa using h
      rw [e, upd_same]; simp
  · have h1' : (W.mu ++ [p])[n]? = some a := h1
    by_cases hn : n < W.mu.length
    · rw [List.getElem?_append_left hn] at h1'
      rw [List.getElem?_append_left (by rw [← s.len]; exact hn)] at h2
      exact (q.obj n a u h1' h2).keep (fun _ _ h => h) hm (fun h => h) (fun _ h => h)
    · have hn' : W.mu.length ≤ n := Nat.le_of_not_lt hn
      rw [List.getElem?_append_right hn'] at h1'
      rw [List.getElem?_append_right (by rw [← s.len]; exact hn')] at h2
      have e0 : n - W.mu.length = 0 := by
        by_cases z : n - W.mu.length = 0
        · exact z
        · rw [List.getElem?_eq_none (by simp; omega)] at h1'; cases h1'
      rw [e0] at h1'
      rw [← s.len, e0] at h2
      simp at h1' h2
      subst h1' h2
      exact r
def O.free : O → Bool
  | .dead => false
  | .dct _ lk _ => !lk
  | _ => true
theorem RepO.Fn {o : O} {a : Addr} (r : RepO G W H a o) (h : o.free = true) : W.F a = none := by
  cases o with
  | lst ds => exact r.1
  | dct t lk kvs =>
    cases lk with
    | false =>
      cases t with
      | false => obtain ⟨vs, e, q⟩ := r; exact e.1
      | true => obtain ⟨vs, e, q⟩ := r; exact e.1
    | true => simp [O.free] at h
  | ins c ks ds => exact r.1
  | dead => simp [O.free] at h
/-- an object of the store is changed -/
theorem Sim.write (s : Sim G W S H) {n : Nat} {a : Addr} {o : HO} {x y : O} (ha : W.mu[n]? = some a) (hx : S[n]? = some x) (live : x.free = true) (r : RepO G W (upd H a o) a y) : Sim G W (S.set n y) (upd H a o) := by
  have hF : W.F a = none := (s.obj n a x ha hx).Fn live
  refine ⟨fun b u h => ?_, by simp [s.len], s.nd, fun b hb => ?_, fun m b u h1 h2 => ?_⟩
  · rw [upd_ne (fun z => by subst z; rw [hF] at h; cases h)]; exact s.sub _ _ h
  · by_cases z : b = a
    · subst z; rw [upd_same]; simp
    · rw [upd_ne z]; exact s.inH b hb
  · by_cases z : m = n
    · subst z
      rw [ha] at h1; cases h1
      rw [List.getElem?_set_self (List.getElem?_eq_some_iff.mp hx).1] at h2
      cases h2; exact r
    · rw [List.getElem?_set_ne (Ne.symm z)] at h2
      have nb : b ≠ a := fun e => z ((List.getElem?_inj (List.getElem?_eq_some_iff.mp h1).1 s.nd).mp (by rw [h1, ha, e]))
      exact (s.obj m b u h1 h2).keep (fun _ _ h => h) (fun _ _ h => h) (fun h => h) fun u hu => by rw [upd_ne nb]; exact hu
theorem Stp.write {n : Nat} {a : Addr} {o : HO} (ha : W.mu[n]? = some a) : Stp W H W (upd H a o) := by
  refine ⟨fun _ _ h => h, ⟨[], (List.append_nil _).symm⟩, fun b u h hn => ?_, fun _ h n => absurd h n, fun b h => ?_, fun _ h => .inl h⟩
  · rw [upd_ne (fun z : b = a => hn (z ▸ List.mem_of_getElem? ha))]; exact h
  · by_cases z : b = a
    · subst z; rw [upd_same]; simp
    · rw [upd_ne z]; exact h
/-- an object of the store is laid for good -/
theorem Sim.freeze (s : Sim G W S H) {n : Nat} {a : Addr} {o : HO} {x : O} (ha : W.mu[n]? = some a) (hx : S[n]? = some x) (hH : H a = some o) (hF : W.F a = none) (nt : ∀ vs, o ≠ .tup vs) : Sim G (W.lay a o) (S.set n .dead) H ∧ Stp W H (W.lay a o) H := by
  have F : ∀ b u, W.F b = some u → (W.lay a o).F b = some u := fun b u h => by
    show upd W.F a o b = some u
    rw [upd_ne (fun z => by subst z; rw [hF] at h; cases h)]; exact h
  refine ⟨⟨fun b u h => ?_, by simp [Wd.lay, s.len], s.nd, s.inH, fun m b u h1 h2 => ?_⟩, ⟨F, ⟨[], (List.append_nil _).symm⟩, fun _ _ h _ => h, fun _ h n => absurd h n, fun _ h => h, fun b h => by
    by_cases z : b = a
    · rw [z]; exact .inr (.inr (.inl (List.mem_of_getElem? ha)))
    · have h' : upd W.F a o b ≠ none := h
      rw [upd_ne z] at h'
      exact .inl h'⟩⟩
  · have h' : upd W.F a o b = some u := h
    by_cases z : b = a
    · subst z; rw [upd_same] at h'; cases h'; exact hH
    · rw [upd_ne z] at h'; exact s.sub _ _ h'
  · by_cases z : m = n
    · subst z
      rw [List.getElem?_set_self (List.getElem?_eq_some_iff.mp hx).1] at h2
      cases h2
      have e1 : W.mu[m]? = some b := h1
      rw [ha] at e1; cases e1
      exact ⟨o, hH, nt⟩
    · rw [List.getElem?_set_ne (Ne.symm z)] at h2
      have h1' : W.mu[m]? = some b := h1
      have nb : b ≠ a := fun e => z ((List.getElem?_inj (List.getElem?_eq_some_iff.mp h1').1 s.nd).mp (by rw [h1', ha, e]))
      refine (s.obj m b u h1' h2).keep F (fun _ _ h => h) (fun h => ?_) (fun _ h => h)
      show upd W.F a o b = none
      rw [upd_ne nb]; exact h
end
end Mi
end
section
set_option Elab.async false
set_option linter.all false
set_option maxRecDepth 100000
/-! what is wanted of a result; expressions by their readings -/
namespace Mi
open PySem L2
/-- what is wanted behind r: in every world that may come -/
def Post {α β : Type} (G : Gd) (W : Wd) (H : Hp) (Wx : WX) (R : Wd → α → β → Prop) (r : Res α) (Q : β → Hp → Prop) : Prop :=
  match r with
  | .ok d S' => ∀ W' H' v, Stp W H W' H' → Sim G W' S' H' → R W' d v → Q v H'
  | .exc c d S' => ∀ W' H' v f σ dd, Stp W H W' H' → Sim G W' S' H' → RepV G W' d v → (G.M.cls c).bind (·.exf) = some f → H' dd = some (.xd [(G.nm f, v)]) → Wx (.ref (G.cA c)) (some dd) σ H'
  | .stuck => False
structure Slots (G : Gd) (W : Wd) (e : Env) (σ : L2.St) : Prop where
  len : e.length = σ.length
  at_ : ∀ (i : Nat) d, e[i]? = some (some d) → ∃ v, σ[i]? = some (some v) ∧ RepV G W d v
/-- the reading of an expression that f evaluates -/
def rdE (G : Gd) (Wx : WX) (f : Env → Sto → Res D) : TE := fun σ H Q => ∃ W S e, Sim G W S H ∧ Slots G W e σ ∧ Post G W H Wx (fun W' d v => RepV G W' d v) (f e S) Q
def rdT (G : Gd) (Wx : WX) (f : Env → Sto → Res Bool) : TT := fun σ H Q => ∃ W S e, Sim G W S H ∧ Slots G W e σ ∧ Post G W H Wx (fun _ d v => v = d) (f e S) Q
def rdA (G : Gd) (Wx : WX) (f : Env → Sto → Res (List D)) : TA := fun σ H Q => ∃ W S e, Sim G W S H ∧ Slots G W e σ ∧ Post G W H Wx (fun W' d v => RepVs G W' d v) (f e S) Q
section
variable {G : Gd} {W W' W1 W2 : Wd} {S S' : Sto} {H H' H1 H2 : Hp} {Wx : WX} {α β γ δ : Type}
theorem Slots.stp {e : Env} {σ : L2.St} (s : Slots G W e σ) (t : Stp W H W' H') : Slots G W' e σ :=
  ⟨s.len, fun i d h => let ⟨v, a, b⟩ := s.at_ i d h; ⟨v, a, t.rep b⟩⟩
theorem Slots.set {e : Env} {σ : L2.St} {i : Nat} {d : D} {v : V} (s : Slots G W e σ) (r : RepV G W d v) : Slots G W (e.set i (some d)) (σ.set i (some v)) := by
  refine ⟨by simp [s.len], fun j x h => ?_⟩
  by_cases z : i = j
  · subst z
    by_cases hl : i < e.length
    · rw [List.getElem?_set_self hl] at h
      cases h
      exact ⟨v, by rw [List.getElem?_set_self (by rw [← s.len]; exact hl)], r⟩
    · rw [List.getElem?_eq_none (by simpa using hl)] at h; cases h
  · rw [List.getElem?_set_ne z] at h
    obtain ⟨u, a, b⟩ := s.at_ j x h
    exact ⟨u, by rw [List.getElem?_set_ne z]; exact a, b⟩
theorem Slots.clear {e : Env} {σ : L2.St} {i : Nat} (s : Slots G W e σ) : Slots G W (e.set i none) (σ.set i none) := by
  refine ⟨by simp [s.len], fun j x h => ?_⟩
  by_cases z : i = j
  · subst z
    by_cases hl : i < e.length
    · rw [List.getElem?_set_self hl] at h; cases h
    · rw [List.getElem?_eq_none (by simpa using hl)] at h; cases h
  · rw [List.getElem?_set_ne z] at h
    obtain ⟨u, a, b⟩ := s.at_ j x h
    exact ⟨u, by rw [List.getElem?_set_ne z]; exact a, b⟩
theorem Slots.wipe {e : Env} {σ : L2.St} (s : Slots G W e σ) : ∀ vs : List Nat, Slots G W (wipe e vs) (L2.wipe σ vs)
  | [] => s
  | v :: vs => (Slots.wipe s vs).clear
theorem Post.mono {R : Wd → α → β → Prop} {r : Res α} {Q Q' : β → Hp → Prop} (h : Post G W H Wx R r Q) (k : ∀ v H, Q v H → Q' v H) : Post G W H Wx R r Q' := by
  cases r with
  | ok d S' => exact fun W' H' v a b c => k _ _ (h W' H' v a b c)
  | exc c d S' => exact h
  | stuck => exact h
theorem Post.stp {R : Wd → α → β → Prop} {r : Res α} {Q : β → Hp → Prop} (h : Post G W H Wx R r Q) (s : Stp W H W1 H1) : Post G W1 H1 Wx R r Q := by
  cases r with
  | ok d S' => exact fun W' H' v a b c => h W' H' v (s.trans a) b c
  | exc c d S' => exact fun W' H' v f σ dd a b c => h W' H' v f σ dd (s.trans a) b c
  | stuck => exact h
/-- one after another -/
theorem Post.bind {R : Wd → α → β → Prop} {R' : Wd → γ → δ → Prop} {r : Res α} {k : α → Sto → Res γ} {Q : δ → Hp → Prop} (h : Post G W H Wx R' (r.bind k) Q) :
    Post G W H Wx R r (fun v H1 => ∃ W1 S1 d, Stp W H W1 H1 ∧ Sim G W1 S1 H1 ∧ R W1 d v ∧ r = .ok d S1 ∧ Post G W1 H1 Wx R' (k d S1) Q) := by
  cases r with
  | ok d S' => exact fun W' H' v a b c => ⟨W', S', d, a, b, c, rfl, Post.stp (r := k d S') h a⟩
  | exc c d S' => exact h
  | stuck => exact h
theorem Post.ok {R : Wd → α → β → Prop} {d : α} {Q : β → Hp → Prop} (h : Post G W H Wx R (.ok d S) Q) {v : β} (s : Sim G W S H) (r : R W d v) : Q v H := h W H v .refl s r
theorem Post.ok' {R : Wd → α → β → Prop} {d : α} {Q : β → Hp → Prop} (h : Post G W H Wx R (.ok d S) Q) {v : β} (t : Stp W H W' H') (s : Sim G W' S H') (r : R W' d v) : Q v H' := h W' H' v t s r
theorem Post.lift {R : Wd → α → β → Prop} {o : Option α} {Q : β → Hp → Prop} (h : Post G W H Wx R (lift o S) Q) : ∃ d, o = some d ∧ Post G W H Wx R (.ok d S) Q := by
  cases o with
  | none => exact False.elim h
  | some d => exact ⟨d, rfl, h⟩
end
section
variable {X : Cx} {e : PySem.Expr}
theorem _root_.L2.PE.imp {t t' : TE} (h : PE X e t) (k : ∀ σ H Q, t' σ H Q → t σ H Q) : PE X e t' := ⟨fun pins s σ H Q I q => h.run pins s σ H Q I (k σ H Q q)⟩
theorem _root_.L2.PT.imp {t t' : TT} (h : PT X e t) (k : ∀ σ H Q, t' σ H Q → t σ H Q) : PT X e t' := ⟨fun pins s σ H Q I q => h.run pins s σ H Q I (k σ H Q q)⟩
theorem _root_.L2.PW.imp {t t' : TT} (h : PW X e t) (k : ∀ σ H Q, t' σ H Q → t σ H Q) : PW X e t' := ⟨fun whole pins s σ H Q I q => h.run whole pins s σ H Q I (k σ H Q q)⟩
theorem _root_.L2.PA.imp {es : List PySem.Expr} {t t' : TA} (h : PA X es t) (k : ∀ σ H Q, t' σ H Q → t σ H Q) : PA X es t' := ⟨fun pos pins s σ H Q I q => h.run pos pins s σ H Q I (k σ H Q q)⟩
theorem _root_.L2.OpR.imp {f : Value → Value → Sem Value} {r r' : R2} (h : OpR X f r) (k : ∀ x y H Q, r' x y H Q → r x y H Q) : OpR X f r' :=
  fun pins s σ H x y v u Q I rx ry q => h pins s σ H x y v u Q I rx ry (k _ _ _ _ q)
end
/-- where an expression stands -/
structure CxOk (G : Gd) (k : Nat) (Wx : WX) (N : List Str) (sc : Scope) (X : Cx) : Prop where
  cP : X.prog = G.prog
  cw : X.w = G.w
  cK : X.K = G.K
  cmg : X.mg = G.mg
  cb : X.base = G.base
  cN : X.N = N
  cnd : N.Nodup
  csc : X.env.scope = sc
  calm : X.calm = true
  room : Room k X.A
  tk : Takes X Wx
/-- what is wanted of an operation on two values -/
def op2 (G : Gd) (Wx : WX) (p : D → D → Sto → Res D) : R2 := fun x y H Q => ∃ W S d1 d2, Sim G W S H ∧ RepV G W d1 x ∧ RepV G W d2 y ∧ Post G W H Wx (fun W' d v => RepV G W' d v) (p d1 d2 S) Q
def opn (G : Gd) (Wx : WX) (p : List D → Sto → Res D) : List V → Hp → VK → Prop := fun xs H Q => ∃ W S ds, Sim G W S H ∧ RepVs G W ds xs ∧ Post G W H Wx (fun W' d v => RepV G W' d v) (p ds S) Q
section
variable {G : Gd} {Wx : WX} {fa fb : Env → Sto → Res D} {p : D → D → Sto → Res D}
theorem rd_bin {σ : L2.St} {H : Hp} {Q : VK} (h : rdE G Wx (fun e S => (fa e S).bind fun x S1 => (fb e S1).bind fun y S2 => p x y S2) σ H Q) : tOp (op2 G Wx p) (rdE G Wx fa) (rdE G Wx fb) σ H Q := by
  obtain ⟨W, S, e, si, sl, po⟩ := h
  refine ⟨W, S, e, si, sl, (Post.bind (R := fun W' d v => RepV G W' d v) po).mono fun x H1 ⟨W1, S1, d1, t1, s1, r1, _, po1⟩ => ?_⟩
  refine ⟨W1, S1, e, s1, sl.stp t1, (Post.bind (R := fun W' d v => RepV G W' d v) po1).mono fun y H2 ⟨W2, S2, d2, t2, s2, r2, _, po2⟩ => ?_⟩
  exact ⟨W2, S2, d1, d2, s2, t2.rep r1, r2, po2⟩
theorem rd_args {f : Env → Sto → Res (List D)} {p : List D → Sto → Res D} {σ : L2.St} {H : Hp} {Q : VK} (h : rdE G Wx (fun e S => (f e S).bind fun x S1 => p x S1) σ H Q) :
    rdA G Wx f σ H (fun xs H1 => opn G Wx p xs H1 Q) := by
  obtain ⟨W, S, e, si, sl, po⟩ := h
  exact ⟨W, S, e, si, sl, (Post.bind (R := fun W' d v => RepVs G W' d v) po).mono fun x H1 ⟨W1, S1, d1, t1, s1, r1, _, po1⟩ => ⟨W1, S1, d1, s1, r1, po1⟩⟩
end
section
variable {G : Gd} {k : Nat} {Wx : WX} {N : List Str} {sc : Scope} {X : Cx}
/-- a name -/
theorem pe_vr (c : CxOk G k Wx N sc X) {i : Nat} {x : Str} {pos : Pos} (hN : N[i]? = some x) (hv : Vis sc x) (hd : (x == ("__debug__" : Str)) = false) (hcd : (x == ("__classdict__" : Str)) = false) :
    PE X (.Name x pos) (rdE G Wx fun e S => match e[i]? with
      | some (some d) => .ok d S
      | _ => .stuck) := by
  refine (pe_var (X := X) (i := i) (by rw [c.cN]; exact hN) (by rw [c.csc]; exact hv) hd hcd).imp fun σ H Q ⟨W, S, e, si, sl, po⟩ => ?_
  simp only at po
  cases z : e[i]? with
  | none => rw [z] at po; exact False.elim po
  | some o =>
    cases o with
    | none => rw [z] at po; exact False.elim po
    | some d =>
      rw [z] at po
      obtain ⟨v, h1, h2⟩ := sl.at_ i d z
      exact ⟨v, h1, Post.ok po si h2⟩
theorem pe_ct {v : V} {d : D} (h : PE X e (tC v)) (r : ∀ W, RepV G W d v) : PE X e (rdE G Wx fun _ S => .ok d S) :=
  h.imp fun _ _ _ ⟨_, _, _, si, _, po⟩ => Post.ok po si (r _)
/-! ### operators -/
theorem LINE_eq : LINE = sizeLine := sizeLine_eq.symm
/-- a tuple laid -/
theorem post_tup {W : Wd} {S : Sto} {H : Hp} {ds : List D} {vs : List V} {Q : VK} (si : Sim G W S H) (r : RepVs G W ds vs) (po : Post G W H Wx (fun W' d v => RepV G W' d v) (.ok (.tup ds) S) Q) : ∀ p, H p = none → Q (.ref p) (upd H p (.tup vs)) := fun p hp => by
  have st := Stp.lay si (o := .tup vs) hp
  refine po.ok' st (si.lay hp) ?_
  simp only [RepV]
  exact ⟨p, vs, rfl, by show upd W.F p _ p = _; rw [upd_same], st.reps r⟩
/-- a list laid -/
theorem post_lst {W : Wd} {S : Sto} {H : Hp} {m : Bool} {ds : List D} {vs : List V} {Q : VK} (si : Sim G W S H) (r : RepVs G W ds vs) (po : Post G W H Wx (fun W' d v => RepV G W' d v) (newL m ds S) Q) : vs.length ≤ sizeLine ∧ ∀ p, H p = none → Q (.ref p) (upd H p (.lst vs)) := by
  unfold newL at po
  by_cases hl : ds.length ≤ LINE
  · rw [if_pos hl] at po
    refine ⟨by rw [← r.len, ← LINE_eq]; exact hl, fun p hp => ?_⟩
    cases m with
    | true =>
      rw [if_pos rfl] at po
      have st := Stp.put si (o := .lst vs) hp
      refine po.ok' st (si.put hp ⟨si.Fn hp, vs, upd_same, st.reps r⟩) ?_
      simp only [RepV]
      exact ⟨p, rfl, by show (W.mu ++ [p])[S.length]? = _; rw [← si.len]; simp⟩
    | false =>
      rw [if_neg Bool.false_ne_true] at po
      have st := Stp.lay si (o := .lst vs) hp
      refine po.ok' st (si.lay hp) ?_
      simp only [RepV]
      exact ⟨p, vs, rfl, .inl (by show upd W.F p _ p = _; rw [upd_same]), st.reps r⟩
  · rw [if_neg hl] at po; exact False.elim po
/-- what a sequence stands for -/
theorem seq_of {W : Wd} {S : Sto} {H : Hp} {d : D} {v : V} {xs : List D} (si : Sim G W S H) (r : RepV G W d v) (h : seqOf S d = some xs) :
    ∃ a vs, v = .ref a ∧ (if (match d with | .tup _ => true | _ => false) then SqT G.K H a vs else Rd H a (.lst vs)) ∧ RepVs G W xs vs := by
  cases d with
  | tup ys =>
    simp only [seqOf, Option.some.injEq] at h; subst h
    simp only [RepV] at r
    obtain ⟨a, vs, e, q, t⟩ := r
    exact ⟨a, vs, e, sqt_up si.sub q, t⟩
  | lst ys =>
    simp only [seqOf, Option.some.injEq] at h; subst h
    simp only [RepV] at r
    obtain ⟨a, vs, e, q, t⟩ := r
    exact ⟨a, vs, e, Rd.up si.sub q, t⟩
  | ref n =>
    simp only [RepV] at r
    obtain ⟨a, e, q⟩ := r
    simp only [seqOf] at h
    split at h
    · rename_i ys hy
      cases h
      obtain ⟨f, vs, e', t⟩ := si.obj n a _ q hy
      exact ⟨a, vs, e, .inl e', t⟩
    · cases h
  | non => simp [seqOf] at h
  | bl _ => simp [seqOf] at h
  | int _ => simp [seqOf] at h
  | str _ => simp [seqOf] at h
  | ins _ _ _ => simp [seqOf] at h
theorem sV_len (s : List Nat) : (sV s).length = s.length := by simp [sV, Str.length]
theorem sV_app (s t : List Nat) : sV s ++ sV t = sV (s ++ t) := by
  show (⟨s.toArray ++ t.toArray⟩ : Str) = ⟨(s ++ t).toArray⟩
  simp
theorem seq_list {W : Wd} {S : Sto} {H : Hp} {d : D} {v : V} {xs : List D} (si : Sim G W S H) (r : RepV G W d v) (h : seqOf S d = some xs) (nt : ∀ ys, d ≠ .tup ys) : ∃ a vs, v = .ref a ∧ Rd H a (.lst vs) ∧ RepVs G W xs vs := by
  obtain ⟨a, vs, e, q, t⟩ := seq_of si r h
  refine ⟨a, vs, e, ?_, t⟩
  cases d with
  | tup ys => exact absurd rfl (nt ys)
  | _ => simpa using q
theorem seq_any {W : Wd} {S : Sto} {H : Hp} {d : D} {v : V} {xs : List D} (si : Sim G W S H) (r : RepV G W d v) (h : seqOf S d = some xs) : ∃ a vs, v = .ref a ∧ (SqL G.K H a vs ∨ SqT G.K H a vs) ∧ RepVs G W xs vs := by
  obtain ⟨a, vs, e, q, t⟩ := seq_of si r h
  refine ⟨a, vs, e, ?_, t⟩
  split at q
  · exact .inr q
  · exact .inl (.inl q)
theorem rep_flat {W : Wd} {ds : List D} {vs : List V} (r : RepVs G W ds vs) : ∀ n, RepVs G W (List.replicate n ds).flatten (List.replicate n vs).flatten
  | 0 => by simp [RepVs]
  | n + 1 => by
    simp only [List.replicate_succ, List.flatten_cons]
    exact r.app (rep_flat r n)
/-! list + list, list * int, of lists that are read -/
theorem lst_of {pins : List (Addr × Obj)} {σ : L2.St} {H : Hp} {s : Shared} {l : Addr} {xs : List V} (I : Inv X pins σ H s) (h : Rd H l (.lst xs)) :
    xs.length ≤ sizeLine ∧ ∃ (its : List Value) (n : Nat), Vals xs its ∧ xs.length = its.length ∧ s.heap.get? l = some { cls := .type "list", data := .seq its.toArray n } := by
  obtain ⟨z, its, n, r, e⟩ := h.ok I.hok
  exact ⟨z, its, n, r, r.length, e⟩
theorem op_catR : OpR X (binaryOp .Add) (fun x y H Q => ∃ l b xs zs, x = .ref l ∧ y = .ref b ∧ Rd H l (.lst xs) ∧ Rd H b (.lst zs) ∧ xs.length + zs.length ≤ sizeLine ∧ ∀ p, H p = none → Q (.ref p) (upd H p (.lst (xs ++ zs)))) := by
  intro pins s σ H x y v u Q I rx ry ⟨l, b, xs, zs, ex, ey, hl, hb, hz, q⟩
  subst ex ey
  cases rx
  cases ry
  obtain ⟨_, its, n, r, l1, e⟩ := lst_of I hl
  obtain ⟨_, its2, n2, r2, l2, e2⟩ := lst_of I hb
  refine PySem.P.add_list e e2 ?_ (by simp only [List.size_toArray]; omega)
  rw [show its.toArray ++ its2.toArray = (its ++ its2).toArray by simp]
  exact ⟨.ref _, _, I.lnew (t' := s.toks) (r.append r2) (by simp only [List.length_append]; omega), rfl, q _ I.fresh⟩
theorem op_repR : OpR X (binaryOp .Mult) (fun x y H Q => ∃ l j xs, x = .ref l ∧ y = .int j ∧ Rd H l (.lst xs) ∧ 0 ≤ j ∧ j < 2 ^ 40 ∧ xs.length * j.toNat ≤ sizeLine ∧ ∀ p, H p = none → Q (.ref p) (upd H p (.lst (List.replicate j.toNat xs).flatten))) := by
  intro pins s σ H x y v u Q I rx ry ⟨l, j, xs, ex, ey, hl, h1, h2, hz, q⟩
  subst ex ey
  cases rx
  obtain ⟨t, rfl⟩ := ry
  obtain ⟨_, its, n, r, l1, e⟩ := lst_of I hl
  have z1 : its.toArray.size * j.toNat ≤ sizeLine := by simp only [List.size_toArray]; rw [← l1]; exact hz
  have z2 : (sizeLine : Nat) ≤ (2 ^ 63 - 1) / 8 := by decide
  have a1 : ¬ its.toArray.size * j.toNat > (2 ^ 63 - 1) / 8 := Nat.not_lt.mpr (Nat.le_trans z1 z2)
  have a2 : ¬ (!Builtin.List.listFitsIndex j) = true := by
    rw [PySem.fitsIndex_both (by omega) (by omega)]; simp
  have a3 : ¬ Builtin.List.listTooLong (its.toArray.size * j.toNat) = true := by
    rw [notLongL z1]; simp
  have a4 : List.foldl (fun x1 x2 => x1 ++ x2) #[] (List.replicate (if its.toArray.isEmpty = true then 0 else j.toNat) its.toArray) = (List.replicate j.toNat its).flatten.toArray := by
    have g := fun m => foldl_rep its m []
    simp only [List.nil_append] at g
    refine (g _).trans ?_
    cases its with
    | nil => simp
    | cons a b => simp
  refine wpAny_binaryOp_repeat_ref (T := "list") (U := "int") (by decide) ⟨_, e, rfl⟩ (fun s' => typeIs_int s' j t) noFill_list_mul F.fills_int_mul F.slot_int_rmul repeat_list F.slot_int_index.lookup
    (call_meets F.slot_int_rmul (typeIs_int s j t) F.entry_int_rmul (F.args_int_rmul_2 _ _) (int___rmul___int_list j t l its.toArray n)
      ⟨e, rfl, ⟨_, e, rfl⟩, call_meets F.slot_list_mul ⟨_, e, rfl⟩ F.entry_list_mul (F.args_list_mul_2 _ _) (AutoListH.list___mul___list_int_3 l its.toArray n j t a2 a1 a3) ⟨e, ?_⟩⟩)
  rw [a4]
  exact ⟨.ref _, _, I.lnew (t' := s.toks) (r.rep j.toNat) (by rw [PyProof.Rows.lm_len_rep_flat, Nat.mul_comm]; exact hz), rfl, q _ I.fresh⟩
end
end Mi
end
section
set_option Elab.async false
set_option linter.all false
set_option maxRecDepth 100000
set_option maxHeartbeats 1000000
/-! operators -/
namespace Mi
open PySem L2 PyProof.Rows
def bopOf : BOp → Operator
  | .add => .Add | .sub => .Sub | .mul => .Mult | .fdiv => .FloorDiv | .mod => .Mod | .pow => .Pow
/-! ### a tuple times one, times nothing -/
theorem tup_mul_same (l : Addr) (items : Array Value) (n : Nat) (dd : Option Addr) (sl : Array (Option Value)) (x : Int) (u : Tok) (c0 : (decide (x < -(2 ^ 63)) || decide (x ≥ 2 ^ 63)) = false) (c1 : (items.isEmpty || x == 1) = true) :
    Meets (Builtin.«tuple.__mul__» ⟨[.ref l, .int x u], []⟩) (fun _ R s => s.heap.get? l = some { cls := .type "tuple", dict := dd, data := .seq items n, slots := sl } ∧ R (.ok (.ret (Value.ref l))) s) :=
  .of_wp fun prog w A R s h => by
    obtain ⟨hp, g, d, tk, os⟩ := s
    obtain ⟨hl, h⟩ := h
    have f1 := AutoSeq1.idx_int
    wp_walk using wpAny_loadPart' hl
    repeat (first
      | (refine wpAny_ite_false (decide_eq_false (by simpa using c0)) ?_; wp_walk using wpAny_loadPart' hl)
      | (refine wpAny_ite_true (decide_eq_true (by rw [c1])) ?_; wp_walk using wpAny_loadPart' hl))
    exact ⟨_, rfl, h⟩
theorem tup_mul_none (l : Addr) (items : Array Value) (n : Nat) (dd : Option Addr) (sl : Array (Option Value)) (x : Int) (u : Tok) (c0 : (decide (x < -(2 ^ 63)) || decide (x ≥ 2 ^ 63)) = false) (c1 : (items.isEmpty || x == 1) = false) (c2 : (decide (x ≤ 0) || items.isEmpty) = true) :
    Meets (Builtin.«tuple.__mul__» ⟨[.ref l, .int x u], []⟩) (fun _ R s => s.heap.get? l = some { cls := .type "tuple", dict := dd, data := .seq items n, slots := sl } ∧
      R (.ok (.ret (Value.ref s.heap.objs.size))) { s with heap := s.heap.push { cls := Value.type "tuple", data := Data.seq #[] }, toks := s.toks }) :=
  .of_wp fun prog w A R s h => by
    obtain ⟨hp, g, d, tk, os⟩ := s
    obtain ⟨hl, h⟩ := h
    have f1 := AutoSeq1.idx_int
    wp_walk using wpAny_loadPart' hl
    repeat (first
      | (refine wpAny_ite_false (decide_eq_false (by simpa using c0)) ?_; wp_walk using wpAny_loadPart' hl)
      | (refine wpAny_ite_false (decide_eq_false (by rw [c1]; simp)) ?_; wp_walk using wpAny_loadPart' hl)
      | (refine wpAny_ite_true (decide_eq_true (by rw [c2])) ?_; wp_walk using wpAny_loadPart' hl))
    exact ⟨_, rfl, h⟩
section
variable {G : Gd} {k : Nat} {Wx : WX} {N : List Str} {sc : Scope} {X : Cx}
theorem flat_len {α : Type} (xs : List α) (n : Nat) : (List.replicate n xs).flatten.length = n * xs.length := by
  induction n with
  | zero => simp
  | succ n ih => simp only [List.replicate_succ, List.flatten_cons, List.length_append, ih]; rw [Nat.succ_mul]; omega
theorem op_tupmul (c : CxOk G k Wx N sc X) : OpR X (binaryOp .Mult) (fun x y H Q => ∃ l j xs, x = .ref l ∧ y = .int j ∧ SqT G.K H l xs ∧ 0 ≤ j ∧ j ≤ 1000 ∧ xs.length ≤ 1000 ∧
    ((xs = [] ∨ j = 1) → Q (.ref l) H) ∧ (¬ (xs = [] ∨ j = 1) → ∀ p, H p = none → Q (.ref p) (upd H p (.tup (List.replicate j.toNat xs).flatten)))) := by
  intro pins s σ H x y v u Q I rx ry ⟨l, j, xs, ex, ey, hT, h1, h2, hz, q1, q2⟩
  subst ex ey
  rw [← c.cK] at hT
  by_cases h : xs ≠ [] ∧ 2 ≤ j
  · refine op_repT pins s σ H _ _ v u Q I rx ry ⟨l, j, xs, rfl, rfl, hT, h.1, h.2, h2, hz, q2 fun z => ?_⟩
    rcases z with z | z
    · exact h.1 z
    · omega
  · cases rx
    obtain ⟨t, rfl⟩ := ry
    obtain ⟨its, r, ⟨⟨cls, dd, data, sl⟩, ho, hc, n, hd⟩, hs⟩ := I.tuple hT
    simp only at hc hd
    subst hc hd
    have hl := r.length
    have c0 : (decide (j < -(2 ^ 63)) || decide (j ≥ 2 ^ 63)) = false := by
      rw [decide_eq_false (by omega), decide_eq_false (by omega)]; rfl
    have em : its.toArray.isEmpty = true ↔ xs = [] := by
      cases xs with
      | nil => simp at hl; simp [List.length_eq_zero_iff.mp hl.symm]
      | cons a b => cases its with
        | nil => simp at hl
        | cons a' b' => simp
    by_cases hh : xs = [] ∨ j = 1
    · have c1 : (its.toArray.isEmpty || j == 1) = true := by
        rcases hh with z | z
        · rw [em.mpr z]; rfl
        · rw [z]; simp
      refine wpAny_binaryOp_repeat_ref (T := "tuple") (U := "int") (by decide) ⟨_, ho, rfl⟩ (fun s' => typeIs_int s' j t) noFill_tuple_mul F.fills_int_mul F.slot_int_rmul repeat_tuple F.slot_int_index.lookup
        (call_meets F.slot_int_rmul (typeIs_int s j t) F.entry_int_rmul (F.args_int_rmul_2 _ _) (int_rmul_tuple j t l its.toArray n dd sl)
          ⟨ho, rfl, ⟨_, ho, rfl⟩, call_meets F.slot_tuple_mul ⟨_, ho, rfl⟩ F.entry_tuple_mul (F.args_tuple_mul_2 _ _) (tup_mul_same l its.toArray n dd sl j t c0 c1) ⟨ho, ?_⟩⟩)
      exact ⟨.ref l, H, I, rfl, q1 hh⟩
    · have hne : xs ≠ [] := fun z => hh (.inl z)
      have hj : j = 0 := by
        have : ¬ 2 ≤ j := fun z => h ⟨hne, z⟩
        have : j ≠ 1 := fun z => hh (.inr z)
        omega
      have c1 : (its.toArray.isEmpty || j == 1) = false := by
        rw [hj]
        cases e : its.toArray.isEmpty with
        | true => exact absurd (em.mp e) hne
        | false => rfl
      have c2 : (decide (j ≤ 0) || its.toArray.isEmpty) = true := by rw [hj]; rfl
      refine wpAny_binaryOp_repeat_ref (T := "tuple") (U := "int") (by decide) ⟨_, ho, rfl⟩ (fun s' => typeIs_int s' j t) noFill_tuple_mul F.fills_int_mul F.slot_int_rmul repeat_tuple F.slot_int_index.lookup
        (call_meets F.slot_int_rmul (typeIs_int s j t) F.entry_int_rmul (F.args_int_rmul_2 _ _) (int_rmul_tuple j t l its.toArray n dd sl)
          ⟨ho, rfl, ⟨_, ho, rfl⟩, call_meets F.slot_tuple_mul ⟨_, ho, rfl⟩ F.entry_tuple_mul (F.args_tuple_mul_2 _ _) (tup_mul_none l its.toArray n dd sl j t c0 c1 c2) ⟨ho, ?_⟩⟩)
      have qq := q2 hh s.heap.objs.size I.fresh
      rw [hj] at qq
      refine ⟨.ref s.heap.objs.size, _, I.laid (t' := s.toks) (o := .tup []) (fun b ob q => Heap.get?_push_of_some _ q) (Nat.le_refl _) ?_, rfl, qq⟩
      exact ⟨Nat.zero_le _, [], .nil, IsTup.new _ _⟩
theorem bop_ok (c : CxOk G k Wx N sc X) (o : BOp) (m : Bool) : OpR X (binaryOp (bopOf o)) (op2 G Wx fun a b S => binD o m S a b) := by
  intro pins s σ H x y v u Q I rx ry ⟨W, S, d1, d2, si, r1, r2, po⟩
  unfold binD at po
  dsimp only at po
  split at po
  · simp only [RepV] at r1 r2
    exact op_add pins s σ H _ _ v u Q I rx ry ⟨_, _, r1, r2, po.ok si (by simp [RepV])⟩
  · simp only [RepV] at r1 r2
    exact op_sub pins s σ H _ _ v u Q I rx ry ⟨_, _, r1, r2, po.ok si (by simp [RepV])⟩
  · simp only [RepV] at r1 r2
    split at po
    · rename_i hc
      exact op_mul pins s σ H _ _ v u Q I rx ry ⟨_, _, r1, r2, hc, po.ok si (by simp [RepV])⟩
    · exact False.elim po
  · simp only [RepV] at r1 r2
    split at po
    · rename_i hc
      exact op_fdiv pins s σ H _ _ v u Q I rx ry ⟨_, _, r1, r2, hc, po.ok si (by simp [RepV])⟩
    · exact False.elim po
  · simp only [RepV] at r1 r2
    split at po
    · rename_i hc
      exact op_mod pins s σ H _ _ v u Q I rx ry ⟨_, _, r1, r2, hc, po.ok si (by simp [RepV])⟩
    · exact False.elim po
  · simp only [RepV] at r1 r2
    split at po
    · rename_i hc
      exact op_pow pins s σ H _ _ v u Q I rx ry ⟨_, _, r1, r2, hc, po.ok si (by simp [RepV])⟩
    · exact False.elim po
  · simp only [RepV] at r1 r2
    split at po
    · rename_i hc
      refine op_add_str pins s σ H _ _ v u Q I rx ry ⟨_, _, r1.1, r2.1, by rw [sV_len, sV_len, ← LINE_eq]; exact hc, po.ok si ?_⟩
      simp only [RepV]
      exact ⟨congrArg V.str (sV_app _ _), fun z hz => (List.mem_append.mp hz).elim (r1.2 z) (r2.2 z)⟩
    · exact False.elim po
  · split at po
    · rename_i xs ys hc
      simp only [RepV] at r1 r2
      obtain ⟨a, vs, e1, q1, t1⟩ := r1
      obtain ⟨b, us, e2, q2, t2⟩ := r2
      have l1 := t1.len
      have l2 := t2.len
      refine op_catA pins s σ H _ _ v u Q I rx ry ⟨a, b, vs, us, e1, e2, by rw [c.cK]; exact sqt_up si.sub q1, by rw [c.cK]; exact sqt_up si.sub q2, by rw [← LINE_eq]; omega, fun z => ?_, fun _ z => ?_, fun _ _ => post_tup si (t1.app t2) po⟩
      · subst z
        have e : xs = [] := List.eq_nil_of_length_eq_zero l1
        subst e
        refine po.ok si ?_
        simp only [RepV, List.nil_append]
        exact ⟨b, us, rfl, q2, t2⟩
      · subst z
        have e : ys = [] := List.eq_nil_of_length_eq_zero l2
        subst e
        refine po.ok si ?_
        simp only [RepV, List.append_nil]
        exact ⟨a, vs, rfl, q1, t1⟩
    · exact False.elim po
  · split at po
    · rename_i xs j hc
      simp only [RepV] at r1 r2
      obtain ⟨a, vs, e1, q1, t1⟩ := r1
      have l1 := t1.len
      refine op_tupmul c pins s σ H _ _ v u Q I rx ry ⟨a, j, vs, e1, r2, sqt_up si.sub q1, hc.2.1, hc.2.2, by omega, fun z => ?_, fun _ => post_tup si (rep_flat t1 _) po⟩
      have e : (List.replicate j.toNat xs).flatten = xs := by
        rcases z with z | z
        · subst z
          have e : xs = [] := List.eq_nil_of_length_eq_zero l1
          subst e
          exact List.eq_nil_of_length_eq_zero (by rw [flat_len]; simp)
        · subst z; simp
      rw [e] at po
      refine po.ok si ?_
      simp only [RepV]
      exact ⟨a, vs, rfl, q1, t1⟩
    · exact False.elim po
  · split at po
    · exact False.elim po
    · exact False.elim po
    · rename_i n1 n2
      split at po
      · rename_i xs ys h1 h2
        split at po
        · rename_i hc
          obtain ⟨a, vs, e1, q1, t1⟩ := seq_list si r1 h1 (fun ys z => n1 ys z)
          obtain ⟨b, us, e2, q2, t2⟩ := seq_list si r2 h2 (fun ys z => n2 ys z)
          obtain ⟨hl, fin⟩ := post_lst si (t1.app t2) po
          have l1 := t1.len
          have l2 := t2.len
          exact op_catR pins s σ H _ _ v u Q I rx ry ⟨a, b, vs, us, e1, e2, q1, q2, by rw [← LINE_eq]; omega, fin⟩
        · exact False.elim po
      · exact False.elim po
  · split at po
    · exact False.elim po
    · rename_i n1
      split at po
      · rename_i xs h1
        split at po
        · rename_i j _ hc
          obtain ⟨a, vs, e1, q1, t1⟩ := seq_list si r1 h1 (fun ys z => n1 ys z)
          obtain ⟨hl, fin⟩ := post_lst si (rep_flat t1 _) po
          have l1 := t1.len
          simp only [RepV] at r2
          exact op_repR pins s σ H _ _ v u Q I rx ry ⟨a, _, vs, e1, r2, q1, hc.1, hc.2.1, by rw [← LINE_eq, ← l1]; exact hc.2.2, fin⟩
        · exact False.elim po
      · exact False.elim po
  · exact False.elim po
end
end Mi
end
section
set_option Elab.async false
set_option linter.all false
set_option maxRecDepth 100000
set_option maxHeartbeats 1000000
/-! comparisons of data -/
namespace Mi
open PySem L2 PyProof.Rows
mutual
def D.py : D → PyData
  | .non => .none | .bl b => .bool b | .int i => .int i | .str s => .str (sV s)
  | .tup xs => .tuple (D.pys xs) | .lst xs => .list (D.pys xs)
  | .ins _ _ _ => .none | .ref _ => .none
def D.pys : List D → List PyData
  | [] => []
  | x :: xs => D.py x :: D.pys xs
end
theorem pys_map : ∀ xs, D.pys xs = xs.map D.py
  | [] => rfl
  | x :: xs => by simp only [D.pys, pys_map xs, List.map_cons]
mutual
theorem py_depth : ∀ d : D, d.data = true → d.py.depth = d.dep
  | .non, _ => by simp only [D.py, PyData.depth, D.dep]
  | .bl _, _ => by simp only [D.py, PyData.depth, D.dep]
  | .int _, _ => by simp only [D.py, PyData.depth, D.dep]
  | .str _, _ => by simp only [D.py, PyData.depth, D.dep]
  | .tup xs, h => by
    simp only [D.data] at h
    simp only [D.py, PyData.depth, D.dep, pys_depth xs h]
  | .lst xs, h => by
    simp only [D.data] at h
    simp only [D.py, PyData.depth, D.dep, pys_depth xs h]
  | .ins _ _ _, h => by simp [D.data] at h
  | .ref _, h => by simp [D.data] at h
theorem pys_depth : ∀ xs : List D, D.datas xs = true → PyData.depthAll (D.pys xs) = D.deps xs
  | [], _ => by simp only [D.pys, PyData.depthAll, D.deps]
  | x :: xs, h => by
    simp only [D.datas, Bool.and_eq_true] at h
    simp only [D.pys, PyData.depthAll, D.deps, py_depth x h.1, pys_depth xs h.2]
end
theorem sV_inj {s t : List Nat} : sV s = sV t ↔ s = t := by
  constructor
  · intro h
    have : s.toArray = t.toArray := by injection h
    simpa using congrArg Array.toList this
  · intro h; rw [h]
theorem sV_beq (s t : List Nat) : (sV s == sV t) = (s == t) := by
  rw [Bool.eq_iff_iff]
  simp [sV_inj]
mutual
theorem py_eqv : ∀ a b : D, a.data = true → b.data = true → PyData.eqv a.py b.py = D.eqv a b
  | .non, b, _, h => by cases b <;> simp_all [D.py, PyData.eqv, D.eqv, D.data]
  | .bl _, b, _, h => by cases b <;> simp_all [D.py, PyData.eqv, D.eqv, D.data]
  | .int _, b, _, h => by cases b <;> simp_all [D.py, PyData.eqv, D.eqv, D.data]
  | .str s, b, _, h => by cases b <;> simp_all [D.py, PyData.eqv, D.eqv, D.data, sV_beq]
  | .tup xs, b, k, h => by
    cases b with
    | tup ys =>
      simp only [D.data] at k h
      simp only [D.py, PyData.eqv, D.eqv]
      exact pys_eqv xs ys k h
    | _ => simp_all [D.py, PyData.eqv, D.eqv, D.data]
  | .lst xs, b, k, h => by
    cases b with
    | lst ys =>
      simp only [D.data] at k h
      simp only [D.py, PyData.eqv, D.eqv]
      exact pys_eqv xs ys k h
    | _ => simp_all [D.py, PyData.eqv, D.eqv, D.data]
  | .ins _ _ _, _, k, _ => by simp [D.data] at k
  | .ref _, _, k, _ => by simp [D.data] at k
theorem pys_eqv : ∀ xs ys : List D, D.datas xs = true → D.datas ys = true → PyData.eqvAll (D.pys xs) (D.pys ys) = D.eqvs xs ys
  | [], [], _, _ => by simp only [D.pys, PyData.eqvAll, D.eqvs]
  | [], _ :: _, _, _ => by simp only [D.pys, PyData.eqvAll, D.eqvs]
  | _ :: _, [], _, _ => by simp only [D.pys, PyData.eqvAll, D.eqvs]
  | x :: xs, y :: ys, k, h => by
    simp only [D.datas, Bool.and_eq_true] at k h
    simp only [D.pys, PyData.eqvAll, D.eqvs, py_eqv x y k.1 h.1, pys_eqv xs ys k.2 h.2]
end
section
variable {G : Gd} {W : Wd} {H : Hp}
mutual
theorem rep_dp (sub : ∀ a o, W.F a = some o → H a = some o) : ∀ (d : D) (v : V), d.data = true → RepV G W d v → Dp G.K H v d.py ∧ d.py.canLay0 = true
  | .non, v, _, r => by simp only [RepV] at r; subst r; exact ⟨.non, by simp [D.py, PyData.canLay0]⟩
  | .bl _, v, _, r => by simp only [RepV] at r; subst r; exact ⟨.bl _, by simp [D.py, PyData.canLay0]⟩
  | .int _, v, _, r => by simp only [RepV] at r; subst r; exact ⟨.int _, by simp [D.py, PyData.canLay0]⟩
  | .str s, v, _, r => by
    simp only [RepV] at r
    obtain ⟨r, ok⟩ := r
    subst r
    refine ⟨.str _, ?_⟩
    simp only [D.py, PyData.canLay0, PyData.strOk, sV]
    simpa [sOk] using ok
  | .tup xs, v, h, r => by
    simp only [RepV] at r
    obtain ⟨a, vs, rfl, q, t⟩ := r
    simp only [D.data] at h
    obtain ⟨p1, p2⟩ := reps_dp sub xs vs h t
    exact ⟨by simp only [D.py]; exact .tup (sqt_up sub q) p1, by simp only [D.py, PyData.canLay0]; exact p2⟩
  | .lst xs, v, h, r => by
    simp only [RepV] at r
    obtain ⟨a, vs, rfl, q, t⟩ := r
    simp only [D.data] at h
    obtain ⟨p1, p2⟩ := reps_dp sub xs vs h t
    exact ⟨by simp only [D.py]; exact .lst (.inl (Rd.up sub q)) p1, by simp only [D.py, PyData.canLay0]; exact p2⟩
  | .ins _ _ _, _, h, _ => by simp [D.data] at h
  | .ref _, _, h, _ => by simp [D.data] at h
theorem reps_dp (sub : ∀ a o, W.F a = some o → H a = some o) : ∀ (ds : List D) (vs : List V), D.datas ds = true → RepVs G W ds vs → DpAll G.K H vs (D.pys ds) ∧ PyData.canLayAll0 (D.pys ds) = true
  | [], vs, _, r => by simp only [RepVs] at r; subst r; exact ⟨.nil, by simp [D.pys, PyData.canLayAll0]⟩
  | d :: ds, vs, h, r => by
    simp only [RepVs] at r
    obtain ⟨v, t, rfl, r1, r2⟩ := r
    simp only [D.datas, Bool.and_eq_true] at h
    obtain ⟨p1, p2⟩ := rep_dp sub d v h.1 r1
    obtain ⟨p3, p4⟩ := reps_dp sub ds t h.2 r2
    exact ⟨.cons p1 p3, by simp only [D.pys, PyData.canLayAll0, p2, p4]; rfl⟩
end
/-- what a list in the store holds -/
theorem res_dp {S : Sto} {d : D} {v : V} (si : Sim G W S H) (r : RepV G W d v) (h : (res S d).data = true) : Dp G.K H v (res S d).py ∧ (res S d).py.canLay0 = true := by
  cases d with
  | ref n =>
    simp only [res] at h ⊢
    split at h
    · rename_i xs hx
      simp only [RepV] at r
      obtain ⟨a, rfl, q⟩ := r
      obtain ⟨f, vs, e, t⟩ := si.obj n a _ q hx
      simp only [D.data] at h
      obtain ⟨p1, p2⟩ := reps_dp si.sub xs vs h t
      exact ⟨by simp only [D.py]; exact .lst (.inl (.inl e)) p1, by simp only [D.py, PyData.canLay0]; exact p2⟩
    · simp [D.data] at h
  | _ => exact rep_dp si.sub _ _ h r
end
section
variable {G : Gd} {k : Nat} {Wx : WX} {N : List Str} {sc : Scope} {X : Cx}
theorem CxOk.units (c : CxOk G k Wx N sc X) : X.A.units + 200 < cLine := by have := c.room.un; omega
theorem CxOk.hu (c : CxOk G k Wx N sc X) : X.A.units + 1 < cLine := by have := c.units; omega
theorem eqD_some {a b : D} {r : Bool} (h : eqD a b = some r) : a.data = true ∧ b.data = true ∧ min a.dep b.dep ≤ 100 ∧ r = D.eqv a b := by
  unfold eqD DEEP at h
  split at h
  · rename_i z
    simp only [Bool.and_eq_true, decide_eq_true_eq] at z
    cases h
    exact ⟨z.1.1, z.1.2, z.2, rfl⟩
  · cases h
theorem op_eqM (c : CxOk G k Wx N sc X) : OpR X (compareOp .Eq) (op2 G Wx fun a b S => lift ((eqD (res S a) (res S b)).map .bl) S) := by
  intro pins s σ H x y v u Q I rx ry ⟨W, S, d1, d2, si, r1, r2, po⟩
  obtain ⟨z, hz, po⟩ := Post.lift po
  obtain ⟨r, hr, e⟩ := Option.map_eq_some_iff.mp hz
  subst e
  obtain ⟨h1, h2, h3, rfl⟩ := eqD_some hr
  obtain ⟨p1, p2⟩ := res_dp si r1 h1
  obtain ⟨p3, p4⟩ := res_dp si r2 h2
  rw [← c.cK] at p1 p3
  obtain ⟨as, q1⟩ := Dp.reads I _ x v p1 rx
  obtain ⟨bs, q2⟩ := Dp.reads I _ y u p3 ry
  have := c.units
  refine SeqAt.compareEq_reads q1 q2 p2 p4 (by rw [py_depth _ h1, py_depth _ h2]; omega) ?_
  rw [py_eqv _ _ h1 h2]
  exact ⟨.bl _, H, I, rfl, po.ok si (by simp [RepV])⟩
theorem op_neM (c : CxOk G k Wx N sc X) : OpR X (compareOp .NotEq) (op2 G Wx fun a b S => lift ((eqD (res S a) (res S b)).map fun k => .bl (!k)) S) := by
  intro pins s σ H x y v u Q I rx ry ⟨W, S, d1, d2, si, r1, r2, po⟩
  obtain ⟨z, hz, po⟩ := Post.lift po
  obtain ⟨r, hr, e⟩ := Option.map_eq_some_iff.mp hz
  subst e
  obtain ⟨h1, h2, h3, rfl⟩ := eqD_some hr
  obtain ⟨p1, p2⟩ := res_dp si r1 h1
  obtain ⟨p3, p4⟩ := res_dp si r2 h2
  rw [← c.cK] at p1 p3
  obtain ⟨as, q1⟩ := Dp.reads I _ x v p1 rx
  obtain ⟨bs, q2⟩ := Dp.reads I _ y u p3 ry
  have := c.units
  refine SeqAt.compareNe_reads q1 q2 p2 p4 (by rw [py_depth _ h1, py_depth _ h2]; omega) ?_
  rw [py_eqv _ _ h1 h2]
  exact ⟨.bl _, H, I, rfl, po.ok si (by simp [RepV])⟩
/-! ### order -/
theorem in1_units (A : Around) : A.in1.units = A.units + 1 := rfl
theorem eqAt_rep {pins : List (Addr × Obj)} {σ : L2.St} {s : Shared} {W : Wd} {H : Hp} {A : Around} {a b : D} {va vb : V} {ua ub : Value} (cK : X.K = G.K) (I : L2.Inv X pins σ H s) (sub : ∀ a o, W.F a = some o → H a = some o) (ha : a.data = true) (hb : b.data = true) (ra : RepV G W a va) (rb : RepV G W b vb)
    (qa : RelV va ua) (qb : RelV vb ub) (hu : A.units + a.dep < cLine) : SeqAt.EqAt A s ua ub (D.eqv a b) := by
  obtain ⟨p1, p2⟩ := rep_dp sub _ _ ha ra
  obtain ⟨p3, p4⟩ := rep_dp sub _ _ hb rb
  rw [← cK] at p1 p3
  obtain ⟨as, q1⟩ := Dp.reads I _ _ _ p1 qa
  obtain ⟨bs, q2⟩ := Dp.reads I _ _ _ p3 qb
  rw [← py_eqv _ _ ha hb]
  exact SeqAt.eqAt_reads _ _ A s _ _ as bs q1 q2 p2 p4 (by rw [py_depth _ ha, py_depth _ hb]; omega)
def getD' (xs : List D) (j : Nat) : D := xs.getD j .non
theorem ltvs_lex : ∀ (xs ys : List D) (n m i : Nat) (e r : Nat → Bool), n + ys.length = m + xs.length → (∀ j, j < min xs.length ys.length → e (i + j) = D.eqv (getD' xs j) (getD' ys j)) → (∀ j, j < min xs.length ys.length → r (i + j) = D.ltv (getD' xs j) (getD' ys j)) →
    D.ltvs xs ys = Ob.lexAt e r (decide (n < m)) i (min xs.length ys.length)
  | [], [], n, m, i, e, r, h, _, _ => by
    simp only [D.ltvs, List.length_nil, Nat.min_self, Ob.lexAt]
    exact (decide_eq_false (by simp at h; omega)).symm
  | [], y :: ys, n, m, i, e, r, h, _, _ => by
    simp only [D.ltvs, List.length_nil, Nat.zero_min, Ob.lexAt]
    exact (decide_eq_true (by simp at h; omega)).symm
  | x :: xs, [], n, m, i, e, r, h, _, _ => by
    simp only [D.ltvs, List.length_nil, Nat.min_zero, Ob.lexAt]
    exact (decide_eq_false (by simp at h; omega)).symm
  | x :: xs, y :: ys, n, m, i, e, r, h, he, hr => by
    have e0 := he 0 (by simp)
    have r0 := hr 0 (by simp)
    simp only [Nat.add_zero, getD', List.getD_cons_zero] at e0 r0
    rw [show min (x :: xs).length (y :: ys).length = min xs.length ys.length + 1 by simp only [List.length_cons]; omega, Ob.lexAt_succ, e0, r0]
    simp only [D.ltvs]
    by_cases q : D.eqv x y = true
    · rw [if_pos q, if_pos q]
      refine ltvs_lex xs ys n m (i + 1) e r (by simp only [List.length_cons] at h; omega) (fun j hj => ?_) (fun j hj => ?_)
      · have := he (j + 1) (by simp only [List.length_cons]; omega)
        rw [show i + 1 + j = i + (j + 1) by omega, this]; simp [getD']
      · have := hr (j + 1) (by simp only [List.length_cons]; omega)
        rw [show i + 1 + j = i + (j + 1) by omega, this]; simp [getD']
    · rw [if_neg q, if_neg q]
theorem ltvs_lexG : ∀ (xs ys : List D) (n m i : Nat) (e r : Nat → Bool), n + ys.length = m + xs.length → (∀ j, j < min xs.length ys.length → e (i + j) = D.eqv (getD' xs j) (getD' ys j)) → (∀ j, j < min xs.length ys.length → r (i + j) = !D.ltv (getD' xs j) (getD' ys j)) →
    (!D.ltvs xs ys) = Ob.lexAt e r (decide (n ≥ m)) i (min xs.length ys.length)
  | [], [], n, m, i, e, r, h, _, _ => by
    simp only [D.ltvs, List.length_nil, Nat.min_self, Ob.lexAt]
    exact (decide_eq_true (by simp at h; omega)).symm
  | [], y :: ys, n, m, i, e, r, h, _, _ => by
    simp only [D.ltvs, List.length_nil, Nat.zero_min, Ob.lexAt]
    exact (decide_eq_false (by simp at h; omega)).symm
  | x :: xs, [], n, m, i, e, r, h, _, _ => by
    simp only [D.ltvs, List.length_nil, Nat.min_zero, Ob.lexAt]
    exact (decide_eq_true (by simp at h; omega)).symm
  | x :: xs, y :: ys, n, m, i, e, r, h, he, hr => by
    have e0 := he 0 (by simp)
    have r0 := hr 0 (by simp)
    simp only [Nat.add_zero, getD', List.getD_cons_zero] at e0 r0
    rw [show min (x :: xs).length (y :: ys).length = min xs.length ys.length + 1 by simp only [List.length_cons]; omega, Ob.lexAt_succ, e0, r0]
    simp only [D.ltvs]
    by_cases q : D.eqv x y = true
    · rw [if_pos q, if_pos q]
      refine ltvs_lexG xs ys n m (i + 1) e r (by simp only [List.length_cons] at h; omega) (fun j hj => ?_) (fun j hj => ?_)
      · have := he (j + 1) (by simp only [List.length_cons]; omega)
        rw [show i + 1 + j = i + (j + 1) by omega, this]; simp [getD']
      · have := hr (j + 1) (by simp only [List.length_cons]; omega)
        rw [show i + 1 + j = i + (j + 1) by omega, this]; simp [getD']
    · rw [if_neg q, if_neg q]
theorem coks_get : ∀ {xs ys : List D}, D.coks xs ys = true → ∀ j, j < min xs.length ys.length → (getD' xs j).data = true ∧ (getD' ys j).data = true ∧ D.cok (getD' xs j) (getD' ys j) = true
  | [], _, _, j, h => by simp at h
  | _ :: _, [], _, j, h => by simp at h
  | x :: xs, y :: ys, k, j, h => by
    simp only [D.coks, Bool.and_eq_true] at k
    cases j with
    | zero => simpa [getD'] using ⟨k.1.1.1, k.1.1.2, k.1.2⟩
    | succ j =>
      have := coks_get k.2 j (by simp only [List.length_cons] at h; omega)
      simpa [getD'] using this
theorem dep_get : ∀ {xs : List D} (j : Nat), (getD' xs j).dep ≤ D.deps xs
  | [], j => by simp [getD', D.dep]
  | x :: xs, 0 => by simp only [getD', List.getD_cons_zero, D.deps]; omega
  | x :: xs, j + 1 => by
    have := dep_get (xs := xs) j
    simp only [getD', List.getD_cons_succ, D.deps] at this ⊢
    omega
theorem reps_at {W : Wd} {ds : List D} {vs : List V} {us : List Value} (r : RepVs G W ds vs) (q : Vals vs us) {j : Nat} (h : j < us.length) : ∃ v, RepV G W (getD' ds j) v ∧ RelV v us[j] := by
  have l1 := r.len
  have l2 := q.length
  have hj : j < ds.length := by omega
  obtain ⟨v, h1, h2⟩ := r.get (i := j) (d := ds[j]) (by simp [hj])
  obtain ⟨u, h3, h4⟩ := q.get h1
  have e : us[j] = u := by
    rw [List.getElem?_eq_getElem h] at h3; exact Option.some.inj h3
  exact ⟨v, by simp [getD', hj]; exact h2, by rw [e]; exact h4⟩
theorem rc_ord {pins : List (Addr × Obj)} {σ : L2.St} {s : Shared} {W : Wd} {H : Hp} (cK : X.K = G.K) (I : L2.Inv X pins σ H s) (sub : ∀ a o, W.F a = some o → H a = some o) : ∀ (n : Nat) (a b : D) (A : Around) (va vb : V) (ua ub : Value), a.dep ≤ n → D.cok a b = true → RepV G W a va → RepV G W b vb → RelV va ua → RelV vb ub → A.units + a.dep + 2 < cLine →
    Ob.RcOp .Lt A s ua ub (D.ltv a b) ∧ Ob.RcOp .GtE A s ua ub (!D.ltv a b) := by
  intro n
  induction n with
  | zero =>
    intro a b A va vb ua ub hn h ra rb qa qb hu
    cases a with
    | int i =>
      cases b with
      | int j =>
        simp only [RepV] at ra rb
        subst ra rb
        obtain ⟨t, rfl⟩ := qa
        obtain ⟨t', rfl⟩ := qb
        simp only [D.ltv]
        refine ⟨Ob.RcOp.lt_int i j t t', ?_⟩
        have z := Ob.RcOp.ge_int (A := A) (s := s) i j t t'
        rw [show (!decide (i < j)) = decide (j ≤ i) by by_cases q : i < j <;> simp [q] <;> omega]; exact z
      | _ => simp [D.cok] at h
    | tup xs => simp [D.dep] at hn
    | _ => cases b <;> simp [D.cok] at h
  | succ n ih =>
    intro a b A va vb ua ub hn h ra rb qa qb hu
    cases a with
    | int i =>
      cases b with
      | int j =>
        simp only [RepV] at ra rb
        subst ra rb
        obtain ⟨t, rfl⟩ := qa
        obtain ⟨t', rfl⟩ := qb
        simp only [D.ltv]
        refine ⟨Ob.RcOp.lt_int i j t t', ?_⟩
        have z := Ob.RcOp.ge_int (A := A) (s := s) i j t t'
        rw [show (!decide (i < j)) = decide (j ≤ i) by by_cases q : i < j <;> simp [q] <;> omega]; exact z
      | _ => simp [D.cok] at h
    | tup xs =>
      cases b with
      | tup ys =>
        simp only [D.cok] at h
        simp only [RepV] at ra rb
        obtain ⟨a1, vs1, rfl, q1, t1⟩ := ra
        obtain ⟨a2, vs2, rfl, q2, t2⟩ := rb
        cases qa
        cases qb
        have hd : D.deps xs + 1 ≤ n + 1 := by simpa only [D.dep] using hn
        have hu' : A.units + D.deps xs + 3 < cLine := by simp only [D.dep] at hu; omega
        obtain ⟨its1, w1, p1, _⟩ := I.tuple (a := a1) (by rw [cK]; exact sqt_up sub q1)
        obtain ⟨its2, w2, p2, _⟩ := I.tuple (a := a2) (by rw [cK]; exact sqt_up sub q2)
        have l1 : its1.toArray.size = xs.length := by rw [List.size_toArray, ← w1.length, ← t1.len]
        have l2 : its2.toArray.size = ys.length := by rw [List.size_toArray, ← w2.length, ← t2.len]
        have he : ∀ j (h1 : j < its1.toArray.size) (h2 : j < its2.toArray.size), SeqAt.EqAt A.in1 s its1.toArray[j] its2.toArray[j] (D.eqv (getD' xs j) (getD' ys j)) := fun j h1 h2 => by
          obtain ⟨v1, e1, e2⟩ := reps_at t1 w1 (j := j) (by simpa using h1)
          obtain ⟨v2, e3, e4⟩ := reps_at t2 w2 (j := j) (by simpa using h2)
          obtain ⟨c1, c2, c3⟩ := coks_get h j (by omega)
          have := dep_get (xs := xs) j
          exact eqAt_rep cK I sub c1 c2 e1 e3 (by simpa using e2) (by simpa using e4) (by rw [in1_units]; omega)
        have hr : ∀ j (h1 : j < its1.toArray.size) (h2 : j < its2.toArray.size), Ob.RcOp .Lt A.in1 s its1.toArray[j] its2.toArray[j] (D.ltv (getD' xs j) (getD' ys j)) ∧ Ob.RcOp .GtE A.in1 s its1.toArray[j] its2.toArray[j] (!D.ltv (getD' xs j) (getD' ys j)) := fun j h1 h2 => by
          obtain ⟨v1, e1, e2⟩ := reps_at t1 w1 (j := j) (by simpa using h1)
          obtain ⟨v2, e3, e4⟩ := reps_at t2 w2 (j := j) (by simpa using h2)
          obtain ⟨c1, c2, c3⟩ := coks_get h j (by omega)
          have := dep_get (xs := xs) j
          exact ih _ _ A.in1 v1 v2 _ _ (by omega) c3 e1 e3 (by simpa using e2) (by simpa using e4) (by rw [in1_units]; omega)
        have Z1 := Ob.RcOp.tuples_lt (A := A) (s := s) (e := fun j => D.eqv (getD' xs j) (getD' ys j)) (r := fun j => D.ltv (getD' xs j) (getD' ys j)) p1 p2 (by omega) he (fun j h1 h2 _ => (hr j h1 h2).1)
        have Z2 := Ob.RcOp.tuples_ge (A := A) (s := s) (e := fun j => D.eqv (getD' xs j) (getD' ys j)) (r := fun j => !D.ltv (getD' xs j) (getD' ys j)) p1 p2 (by omega) he (fun j h1 h2 _ => (hr j h1 h2).2)
        rw [l1, l2] at Z1 Z2
        simp only [D.ltv]
        rw [ltvs_lexG xs ys xs.length ys.length 0 (fun j => D.eqv (getD' xs j) (getD' ys j)) (fun j => !D.ltv (getD' xs j) (getD' ys j)) (by omega) (fun j _ => by simp) (fun j _ => by simp)]
        refine ⟨?_, Z2⟩
        rw [ltvs_lex xs ys xs.length ys.length 0 (fun j => D.eqv (getD' xs j) (getD' ys j)) (fun j => D.ltv (getD' xs j) (getD' ys j)) (by omega) (fun j _ => by simp) (fun j _ => by simp)]
        exact Z1
      | _ => simp [D.cok] at h
    | _ => cases b <;> simp [D.cok] at h
theorem ltD_some {a b : D} {r : Bool} (h : ltD a b = some r) : D.cok a b = true ∧ a.dep ≤ 100 ∧ r = D.ltv a b := by
  unfold ltD DEEP at h
  split at h
  · rename_i z
    simp only [Bool.and_eq_true, decide_eq_true_eq] at z
    cases h
    exact ⟨z.1, z.2, rfl⟩
  · cases h
theorem op_ltM (c : CxOk G k Wx N sc X) : OpR X (compareOp .Lt) (op2 G Wx fun a b S => lift ((ltD a b).map .bl) S) := by
  intro pins s σ H x y v u Q I rx ry ⟨W, S, d1, d2, si, r1, r2, po⟩
  obtain ⟨z, hz, po⟩ := Post.lift po
  obtain ⟨r, hr, e⟩ := Option.map_eq_some_iff.mp hz
  subst e
  obtain ⟨h1, h2, rfl⟩ := ltD_some hr
  have := c.units
  exact (rc_ord c.cK I si.sub _ d1 d2 X.A x y v u (Nat.le_refl _) h1 r1 r2 rx ry (by omega)).1 X.prog X.w X.xe (EP X pins σ Q) ⟨.bl _, H, I, rfl, po.ok si (by simp [RepV])⟩
theorem op_geM (c : CxOk G k Wx N sc X) : OpR X (compareOp .GtE) (op2 G Wx fun a b S => lift ((ltD a b).map fun k => .bl (!k)) S) := by
  intro pins s σ H x y v u Q I rx ry ⟨W, S, d1, d2, si, r1, r2, po⟩
  obtain ⟨z, hz, po⟩ := Post.lift po
  obtain ⟨r, hr, e⟩ := Option.map_eq_some_iff.mp hz
  subst e
  obtain ⟨h1, h2, rfl⟩ := ltD_some hr
  have := c.units
  exact (rc_ord c.cK I si.sub _ d1 d2 X.A x y v u (Nat.le_refl _) h1 r1 r2 rx ry (by omega)).2 X.prog X.w X.xe (EP X pins σ Q) ⟨.bl _, H, I, rfl, po.ok si (by simp [RepV])⟩
end
end Mi
end
section
set_option Elab.async false
set_option linter.all false
set_option maxRecDepth 100000
set_option maxHeartbeats 1000000
/-! in, is; dicts; items, slices, attributes -/
namespace Mi
open PySem L2 PyProof.Rows
section
variable {G : Gd} {k : Nat} {Wx : WX} {N : List Str} {sc : Scope} {X : Cx} {W : Wd} {S : Sto} {H : Hp}
/-! ### keys -/
theorem key_of_rep {d : D} {v : V} (h : keyOk false d = true) (r : RepV G W d v) : ∃ q, v = kV q ∧ KeyR d q := by
  cases d with
  | int i => simp only [RepV] at r; exact ⟨.inl i, r, rfl⟩
  | str s => simp only [RepV] at r; exact ⟨.inr (sV s), r.1, rfl, r.2⟩
  | _ => simp [keyOk] at h
theorem keys_of_rep : ∀ {ds : List D} {vs : List V}, (ds.all fun d => match d with
    | .int _ => true
    | .str _ => true
    | _ => false) = true → RepVs G W ds vs → ∃ ks : List Key, vs = ks.map kV ∧ KeyRs ds ks
  | [], vs, _, r => by simp only [RepVs] at r; exact ⟨[], r, rfl⟩
  | d :: ds, vs, h, r => by
    simp only [RepVs] at r
    obtain ⟨v, t, rfl, r1, r2⟩ := r
    simp only [List.all_cons, Bool.and_eq_true] at h
    obtain ⟨ks, e, kr⟩ := keys_of_rep h.2 r2
    obtain ⟨q, e1, kr1⟩ := key_of_rep (G := G) (W := W) (d := d) (by cases d <;> simp_all [keyOk]) r1
    exact ⟨q :: ks, by rw [e1, e]; rfl, q, ks, rfl, kr1, kr⟩
theorem tup_of_rep {d : D} {v : V} (h : keyOk true d = true) (r : RepV G W d v) : ∃ a ks, v = .ref a ∧ W.F a = some (.tup (ks.map kV)) ∧ TupR d ks := by
  cases d with
  | tup xs =>
    simp only [RepV] at r
    obtain ⟨a, vs, rfl, q, t⟩ := r
    simp only [keyOk, Bool.true_and] at h
    obtain ⟨ks, e, kr⟩ := keys_of_rep h t
    exact ⟨a, ks, rfl, by rw [← e]; exact q, xs, rfl, kr⟩
  | _ => simp [keyOk] at h
theorem KeyR.inj {d d' : D} {q q' : Key} (a : KeyR d q) (b : KeyR d' q') : d = d' ↔ q = q' := by
  cases d with
  | int i => cases d' with
    | int j => simp only [KeyR] at a b; subst a b; simp
    | str t => simp only [KeyR] at a b; obtain ⟨b, _⟩ := b; subst a b; simp
    | _ => exact False.elim b
  | str t => cases d' with
    | int j => simp only [KeyR] at a b; obtain ⟨a, _⟩ := a; subst a b; simp
    | str u => simp only [KeyR] at a b; obtain ⟨a, _⟩ := a; obtain ⟨b, _⟩ := b; subst a b; simp [sV_inj]
    | _ => exact False.elim b
  | _ => exact False.elim a
theorem KeyRs.inj : ∀ {ds ds' : List D} {q q' : List Key}, KeyRs ds q → KeyRs ds' q' → (ds = ds' ↔ q = q')
  | [], [], q, q', a, b => by simp only [KeyRs] at a b; simp [a, b]
  | [], _ :: _, q, q', a, b => by
    simp only [KeyRs] at a b
    obtain ⟨x, r, rfl, _⟩ := b
    simp [a]
  | _ :: _, [], q, q', a, b => by
    simp only [KeyRs] at a b
    obtain ⟨x, r, rfl, _⟩ := a
    simp [b]
  | d :: ds, d' :: ds', q, q', a, b => by
    simp only [KeyRs] at a b
    obtain ⟨x, r, rfl, a1, a2⟩ := a
    obtain ⟨x', r', rfl, b1, b2⟩ := b
    have := KeyR.inj a1 b1
    have := KeyRs.inj a2 b2
    simp_all
theorem TupR.inj {d d' : D} {q q' : List Key} (a : TupR d q) (b : TupR d' q') : d = d' ↔ q = q' := by
  obtain ⟨x, rfl, a⟩ := a
  obtain ⟨y, rfl, b⟩ := b
  rw [← KeyRs.inj a b]
  simp
theorem dval_rel {κ : Type} [DecidableEq κ] {R : D → κ → Prop} (inj : ∀ {d d' q q'}, R d q → R d' q' → (d = d' ↔ q = q')) {d : D} {q : κ} (rq : R d q) : ∀ {kvs : List (D × D)} {vs : List (κ × V)}, RepKs G W R kvs vs →
    (match dval kvs d with
      | some x => ∃ v, valV vs q = some v ∧ RepV G W x v
      | none => valV vs q = none)
  | [], vs, r => by simp only [RepKs] at r; subst r; simp [dval, valV]
  | p :: ps, vs, r => by
    simp only [RepKs] at r
    obtain ⟨q', v, t, rfl, r1, r2, r3⟩ := r
    have ih := dval_rel inj rq r3
    by_cases e : p.1 = d
    · have e' : q' = q := (inj r1 rq).mp e
      have h1 : dval (p :: ps) d = some p.2 := by simp [dval, e]
      rw [h1]
      exact ⟨v, valV_pos (p := (q', v)) e', r2⟩
    · have e' : ¬ q' = q := fun z => e ((inj r1 rq).mpr z)
      have h1 : dval (p :: ps) d = dval ps d := by simp [dval, e]
      rw [h1, valV_neg (p := (q', v)) e']
      exact ih
theorem repl_rel {κ : Type} [DecidableEq κ] {R : D → κ → Prop} (inj : ∀ {d d' q q'}, R d q → R d' q' → (d = d' ↔ q = q')) {d y : D} {q : κ} {u : V} (rq : R d q) (ry : RepV G W y u) : ∀ {kvs : List (D × D)} {vs : List (κ × V)}, RepKs G W R kvs vs →
    RepKs G W R (kvs.map fun p => if p.1 = d then (p.1, y) else p) (vs.map fun kv => if kv.1 = q then (kv.1, u) else kv)
  | [], vs, r => by simp only [RepKs] at r; subst r; simp [RepKs]
  | p :: ps, vs, r => by
    simp only [RepKs] at r
    obtain ⟨q', v, t, rfl, r1, r2, r3⟩ := r
    have ih := repl_rel inj rq ry r3
    simp only [List.map_cons, RepKs]
    by_cases e : p.1 = d
    · have e' : q' = q := (inj r1 rq).mp e
      rw [if_pos e, if_pos e']
      exact ⟨q', u, _, rfl, r1, ry, ih⟩
    · have e' : ¬ q' = q := fun z => e ((inj r1 rq).mpr z)
      rw [if_neg e, if_neg e']
      exact ⟨q', v, _, rfl, r1, r2, ih⟩
theorem app_rel {κ : Type} {R : D → κ → Prop} {d y : D} {q : κ} {u : V} (rq : R d q) (ry : RepV G W y u) : ∀ {kvs : List (D × D)} {vs : List (κ × V)}, RepKs G W R kvs vs → RepKs G W R (kvs ++ [(d, y)]) (vs ++ [(q, u)])
  | [], vs, r => by simp only [RepKs] at r; subst r; simp only [List.nil_append, RepKs]; exact ⟨q, u, [], rfl, rq, ry, rfl⟩
  | p :: ps, vs, r => by
    simp only [RepKs] at r
    obtain ⟨q', v, t, rfl, r1, r2, r3⟩ := r
    simp only [List.cons_append, RepKs]
    exact ⟨q', v, _, rfl, r1, r2, app_rel rq ry r3⟩
theorem dput_rel {κ : Type} [DecidableEq κ] {R : D → κ → Prop} (inj : ∀ {d d' q q'}, R d q → R d' q' → (d = d' ↔ q = q')) {d y : D} {q : κ} {u : V} (rq : R d q) (ry : RepV G W y u) {kvs : List (D × D)} {vs : List (κ × V)} (r : RepKs G W R kvs vs) : RepKs G W R (dput kvs d y) (putK vs q u) := by
  have h := dval_rel inj rq r
  unfold dput
  cases e : dval kvs d with
  | none =>
    rw [e] at h
    rw [if_neg (by simp), putK_new _ h]
    exact app_rel rq ry r
  | some x =>
    rw [e] at h
    obtain ⟨v, h1, h2⟩ := h
    rw [if_pos (by simp)]
    unfold putK
    rw [if_pos (by rw [valV_any, h1]; rfl)]
    exact repl_rel inj rq ry r
/-- what is read off a dict -/
theorem dict_get {t : Bool} {kvs : List (D × D)} {d i : D} {v iv : V} (si : Sim G W S H) (hd : dctOf S d = some (t, kvs)) (r : RepV G W d v) (ki : keyOk t i = true) (ri : RepV G W i iv) :
    ∃ a o, v = .ref a ∧ DGet H a iv o ∧ (match dval kvs i with
      | some x => ∃ u, o = some u ∧ RepV G W x u
      | none => o = none) := by
  cases d with
  | ref n =>
    simp only [dctOf] at hd
    split at hd
    · rename_i t' lk kvs' hx
      cases hd
      simp only [RepV] at r
      obtain ⟨a, rfl, q⟩ := r
      have ro := si.obj n a _ q hx
      cases t with
      | false =>
        obtain ⟨vs, h1, h2⟩ := ro
        obtain ⟨q', e, kr⟩ := key_of_rep ki ri
        have := dval_rel (fun a b => KeyR.inj a b) kr h2
        refine ⟨a, valV vs q', rfl, .inl ⟨vs, q', h1.rd, e, rfl⟩, ?_⟩
        cases e : dval kvs i with
        | none => rw [e] at this; exact this
        | some x => rw [e] at this; exact this
      | true =>
        obtain ⟨vs, h1, h2⟩ := ro
        obtain ⟨b, ks, e, hF, kr⟩ := tup_of_rep ki ri
        have := dval_rel (fun a b => TupR.inj a b) kr h2
        refine ⟨a, valV vs ks, rfl, .inr ⟨vs, ks, b, h1.rd, e, si.sub _ _ hF, rfl⟩, ?_⟩
        cases e : dval kvs i with
        | none => rw [e] at this; exact this
        | some x => rw [e] at this; exact this
    · cases hd
  | _ => simp [dctOf] at hd
end
end Mi
end
section
set_option Elab.async false
set_option linter.all false
set_option maxRecDepth 100000
set_option maxHeartbeats 1000000
/-! comparisons -/
namespace Mi
open PySem L2 PyProof.Rows
def copOf : COp → CmpOp
  | .eq => .Eq | .ne => .NotEq | .lt => .Lt | .le => .LtE | .gt => .Gt | .ge => .GtE | .isin => .In | .notin => .NotIn | .is => .Is | .isnot => .IsNot
theorem any_py : ∀ (xs : List D) (d : D), D.datas xs = true → d.data = true → ((D.pys xs).any fun y => PyData.eqv y d.py) = xs.any fun z => D.eqv z d
  | [], d, _, _ => rfl
  | x :: xs, d, h, k => by
    simp only [D.datas, Bool.and_eq_true] at h
    simp only [D.pys, List.any_cons, any_py xs d h.2 k, py_eqv x d h.1 k]
theorem inD_some {d : D} {xs : List D} {r : Bool} (h : inD d xs = some r) : d.data = true ∧ D.datas xs = true ∧ d.dep ≤ 100 ∧ r = xs.any fun z => D.eqv z d := by
  unfold inD at h
  split at h
  · rename_i q
    simp only [Bool.and_eq_true, decide_eq_true_eq] at q
    cases h
    exact ⟨q.1.1, q.1.2, q.2, rfl⟩
  · cases h
section
variable {G : Gd} {k : Nat} {Wx : WX} {N : List Str} {sc : Scope} {X : Cx} {W : Wd} {S : Sto} {H : Hp}
theorem seq_dp {d : D} {v : V} {xs : List D} (si : Sim G W S H) (r : RepV G W d v) (h : seqOf S d = some xs) (hd : D.datas xs = true) :
    (Dp G.K H v (.tuple (D.pys xs)) ∨ Dp G.K H v (.list (D.pys xs))) ∧ PyData.canLayAll0 (D.pys xs) = true := by
  cases d with
  | tup ys =>
    simp only [seqOf, Option.some.injEq] at h; subst h
    obtain ⟨p1, p2⟩ := rep_dp si.sub (.tup ys) v (by simpa [D.data] using hd) r
    simp only [D.py, PyData.canLay0] at p1 p2
    exact ⟨.inl p1, p2⟩
  | lst ys =>
    simp only [seqOf, Option.some.injEq] at h; subst h
    obtain ⟨p1, p2⟩ := rep_dp si.sub (.lst ys) v (by simpa [D.data] using hd) r
    simp only [D.py, PyData.canLay0] at p1 p2
    exact ⟨.inr p1, p2⟩
  | ref n =>
    have e : res S (.ref n) = .lst xs := by
      simp only [seqOf] at h
      simp only [res]
      split at h
      · rename_i ys hy; cases h; first | rw [hy] | rfl
      · cases h
    obtain ⟨p1, p2⟩ := res_dp si r (by rw [e]; simpa [D.data] using hd)
    rw [e] at p1 p2
    simp only [D.py, PyData.canLay0] at p1 p2
    exact ⟨.inr p1, p2⟩
  | non => simp [seqOf] at h
  | bl _ => simp [seqOf] at h
  | int _ => simp [seqOf] at h
  | str _ => simp [seqOf] at h
  | ins _ _ _ => simp [seqOf] at h
theorem in_road (c : CxOk G k Wx N sc X) {pins : List (Addr × Obj)} {σ : L2.St} {s : Shared} {a b : D} {x y : V} {v u : Value} {r : Bool} {Q : Value → Shared → Prop} (I : L2.Inv X pins σ H s) (rx : RelV x v) (ry : RelV y u) (si : Sim G W S H) (ra : RepV G W a x) (rb : RepV G W b y) (h : inM S a b = some r)
    : (Q (.bool r) s → (∀ s', L2.Inv X pins σ H s' → Q (.bool r) s') → wpAny (model X.prog X.w) X.A (compareOp .In v u) Q X.xe s) ∧ (Q (.bool (!r)) s → (∀ s', L2.Inv X pins σ H s' → Q (.bool (!r)) s') → wpAny (model X.prog X.w) X.A (compareOp .NotIn v u) Q X.xe s) := by
  unfold inM at h
  split at h
  · rename_i t kvs hd
    split at h
    · rename_i ko
      obtain ⟨p, o, rfl, g, ho⟩ := dict_get si hd rb ko ra
      have er : r = o.isSome := by
        cases h
        split at ho
        · rename_i z hz; obtain ⟨u', e, _⟩ := ho; rw [hz, e]; rfl
        · rename_i hz; rw [hz, ho]; rfl
      cases ry
      subst er
      exact ⟨fun _ q => d_in c.hu I g rx q, fun _ q => d_notIn c.hu I g rx q⟩
    · cases h
  · cases hs : seqOf S b with
    | none => rw [hs] at h; simp at h
    | some xs =>
      rw [hs] at h
      obtain ⟨h1, h2, h3, h4⟩ := inD_some (by simpa using h)
      obtain ⟨p1, p2⟩ := rep_dp si.sub a x h1 ra
      obtain ⟨q1, q2⟩ := seq_dp si rb hs h2
      rw [← c.cK] at p1 q1
      obtain ⟨as, r1⟩ := Dp.reads I _ x v p1 rx
      have hroom : X.A.units + 1 + min (PyData.depthAll (D.pys xs)) a.py.depth < cLine := by
        rw [py_depth a h1]
        have := c.units
        omega
      rw [h4, ← any_py xs a h2 h1]
      rcases q1 with q1 | q1
      · obtain ⟨bs, r2⟩ := Dp.reads I _ y u q1 ry
        exact ⟨fun q _ => SeqAt.in_tuple_reads r2 r1 q2 p2 hroom q, fun q _ => SeqAt.notIn_tuple_reads r2 r1 q2 p2 hroom q⟩
      · obtain ⟨bs, r2⟩ := Dp.reads I _ y u q1 ry
        exact ⟨fun q _ => SeqAt.in_list_reads r2 r1 q2 p2 hroom q, fun q _ => SeqAt.notIn_list_reads r2 r1 q2 p2 hroom q⟩
theorem op_inM (c : CxOk G k Wx N sc X) : OpR X (compareOp .In) (op2 G Wx fun a b S => lift ((inM S a b).map .bl) S) := by
  intro pins s σ H x y v u Q I rx ry ⟨W, S, d1, d2, si, r1, r2, po⟩
  obtain ⟨d, e, po⟩ := po.lift
  cases h : inM S d1 d2 with
  | none => rw [h] at e; cases e
  | some r =>
    rw [h] at e; cases e
    have q := po.ok si (v := .bl r) (by simp [RepV])
    exact (in_road c I rx ry si r1 r2 h).1 ⟨.bl r, H, I, rfl, q⟩ fun s' I' => ⟨.bl r, H, I', rfl, q⟩
theorem op_notInM (c : CxOk G k Wx N sc X) : OpR X (compareOp .NotIn) (op2 G Wx fun a b S => lift ((inM S a b).map fun k => .bl (!k)) S) := by
  intro pins s σ H x y v u Q I rx ry ⟨W, S, d1, d2, si, r1, r2, po⟩
  obtain ⟨d, e, po⟩ := po.lift
  cases h : inM S d1 d2 with
  | none => rw [h] at e; cases e
  | some r =>
    rw [h] at e; cases e
    have q := po.ok si (v := .bl (!r)) (by simp [RepV])
    exact (in_road c I rx ry si r1 r2 h).2 ⟨.bl (!r), H, I, rfl, q⟩ fun s' I' => ⟨.bl (!r), H, I', rfl, q⟩
theorem rep_non {d : D} {v : V} (r : RepV G W d v) : (v = .non) ↔ d = .non := by
  cases d <;> simp only [RepV] at r
  · simp [r]
  · simp [r]
  · simp [r]
  · simp [r.1]
  · obtain ⟨a, vs, rfl, _⟩ := r; simp
  · obtain ⟨a, vs, rfl, _⟩ := r; simp
  · obtain ⟨a, dx, vs, rfl, _⟩ := r; simp
  · obtain ⟨a, rfl, _⟩ := r; simp
/-- what == of two instances asks: the class's own -/
def EqOk (G : Gd) (Wx : WX) (X : Cx) (call : Nat → List D → Sto → Res D) : Prop :=
  ∀ (C f : Nat) (d : D) (ks : List Nat) (ds : List D), (G.M.cls C).bind (·.eq) = some f → ((∃ ks' ds', d = .ins C ks' ds') ∨ ∃ xs, d = .tup xs) →
    OpR X (compareOp .Eq) fun x y H Q => ∃ W S, Sim G W S H ∧ RepV G W (.ins C ks ds) x ∧ RepV G W d y ∧ Post G W H Wx (fun W' d v => RepV G W' d v) (bolR (call f [.ins C ks ds, d] S)) Q
/-- a list in the store against [] -/
theorem op_eqNil (c : CxOk G k Wx N sc X) {pins : List (Addr × Obj)} {σ : L2.St} {s : Shared} {H : Hp} {W : Wd} {S : Sto} {x y : V} {v u : Value} {Q : VK} {n : Nat} {xs : List D} (I : L2.Inv X pins σ H s) (rx : RelV x v) (ry : RelV y u) (si : Sim G W S H) (r1 : RepV G W (.ref n) x) (r2 : RepV G W (.lst []) y) (hx : S[n]? = some (.lst xs))
    (po : Post G W H Wx (fun W' d v => RepV G W' d v) (.ok (.bl xs.isEmpty) S) Q) : PySem.wpAny (model X.prog X.w) X.A (compareOp .Eq v u) (EP X pins σ Q) X.xe s := by
  simp only [RepV] at r1 r2
  obtain ⟨a, rfl, q⟩ := r1
  obtain ⟨b, vs, rfl, q2, t2⟩ := r2
  simp only [RepVs] at t2
  subst t2
  obtain ⟨f, ws, e, t⟩ := si.obj n a _ q hx
  obtain ⟨its, rv, hl, _⟩ := I.list (.inl (.inl e))
  obtain ⟨its2, rv2, hl2, _⟩ := I.list (.inl (Rd.up si.sub q2))
  cases rx
  cases ry
  have l1 := RepVs.len t
  have l2 := Vals.length rv
  have l3 := Vals.length rv2
  simp only [List.length_nil] at l3
  have hu : X.A.units < cLine := by have := c.units; omega
  have fin : EP X pins σ Q (.bool xs.isEmpty) s := ⟨.bl _, H, I, rfl, po.ok si (by simp [RepV])⟩
  have key : SeqAt.RcAt X.A s (.ref a) (.ref b) xs.isEmpty := by
    cases xs with
    | nil =>
      simp only [List.length_nil] at l1
      have e1 : its = [] := List.eq_nil_of_length_eq_zero (by omega)
      have e2 : its2 = [] := List.eq_nil_of_length_eq_zero (by omega)
      subst e1 e2
      exact SeqAt.RcAt.lists (e := fun _ => true) hl.isList hl2.isList rfl hu fun j h _ => absurd h (by simp)
    | cons d r =>
      simp only [List.length_cons] at l1
      exact SeqAt.RcAt.lists_lengths hl.isList hl2.isList (by simp; omega) hu
  exact key X.prog X.w _ _ fin
theorem cmp_ok (c : CxOk G k Wx N sc X) {call : Nat → List D → Sto → Res D} (he : EqOk G Wx X call) (o : COp) : OpR X (compareOp (copOf o)) (op2 G Wx fun a b S => cmpD G.M call o S a b) := by
  intro pins s σ H x y v u Q I rx ry ⟨W, S, d1, d2, si, r1, r2, po⟩
  unfold cmpD at po
  dsimp only at po
  cases o <;> dsimp only at po <;> dsimp only [copOf]
  · split at po
    · rename_i C ks ds C' ks' ds'
      split at po
      · rename_i e
        subst e
        split at po
        · rename_i f hf
          exact he C f _ ks ds hf (.inl ⟨ks', ds', rfl⟩) pins s σ H x y v u Q I rx ry ⟨W, S, si, r1, r2, po⟩
        · exact False.elim po
      · exact False.elim po
    · rename_i C ks ds ys
      split at po
      · rename_i f hf
        exact he C f _ ks ds hf (.inr ⟨ys, rfl⟩) pins s σ H x y v u Q I rx ry ⟨W, S, si, r1, r2, po⟩
      · exact False.elim po
    · split at po
      · rename_i hx
        exact op_eqNil c I rx ry si r1 r2 hx po
      · exact False.elim po
    · exact op_eqM c pins s σ H x y v u Q I rx ry ⟨W, S, d1, d2, si, r1, r2, po⟩
  · exact op_neM c pins s σ H x y v u Q I rx ry ⟨W, S, d1, d2, si, r1, r2, po⟩
  · exact op_ltM c pins s σ H x y v u Q I rx ry ⟨W, S, d1, d2, si, r1, r2, po⟩
  · split at po
    · simp only [RepV] at r1 r2
      exact op_le pins s σ H _ _ v u Q I rx ry ⟨_, _, r1, r2, po.ok si (by simp [RepV])⟩
    · exact False.elim po
  · split at po
    · simp only [RepV] at r1 r2
      exact op_gt pins s σ H _ _ v u Q I rx ry ⟨_, _, r1, r2, po.ok si (by simp [RepV])⟩
    · exact False.elim po
  · exact op_geM c pins s σ H x y v u Q I rx ry ⟨W, S, d1, d2, si, r1, r2, po⟩
  · exact op_inM c pins s σ H x y v u Q I rx ry ⟨W, S, d1, d2, si, r1, r2, po⟩
  · exact op_notInM c pins s σ H x y v u Q I rx ry ⟨W, S, d1, d2, si, r1, r2, po⟩
  · split at po
    · simp only [RepV] at r2
      refine op_isN pins s σ H x y v u Q I rx ry ⟨r2, ?_⟩
      refine po.ok si ?_
      simp only [RepV]
      rw [decide_eq_decide.mpr (rep_non r1)]
    · split at po
      · rename_i b a
        simp only [RepV] at r1 r2
        exact op_isBl pins s σ H x y v u Q I rx ry ⟨_, _, r1, r2, po.ok si (by simp [RepV])⟩
      · exact False.elim po
    · exact False.elim po
  · split at po
    · simp only [RepV] at r2
      refine op_notN pins s σ H x y v u Q I rx ry ⟨r2, ?_⟩
      refine po.ok si ?_
      simp only [RepV]
      rw [decide_eq_decide.mpr (rep_non r1)]
    · split at po
      · rename_i b a
        simp only [RepV] at r1 r2
        exact op_notBl pins s σ H x y v u Q I rx ry ⟨_, _, r1, r2, po.ok si (by simp [RepV])⟩
      · exact False.elim po
    · exact False.elim po
theorem bolR_bl {r : Res D} {d : D} {S : Sto} (h : bolR r = .ok d S) : ∃ b, d = .bl b := by
  cases r with
  | ok x S1 => cases x with
    | bl b => cases h; exact ⟨b, rfl⟩
    | _ => cases h
  | exc _ _ _ => cases h
  | stuck => cases h
theorem lift_bl {o : Option D} {d : D} {S S' : Sto} (h : lift o S = .ok d S') (k : ∀ x, o = some x → ∃ b, x = .bl b) : ∃ b, d = .bl b := by
  cases o with
  | none => cases h
  | some x => cases h; exact k _ rfl
/-- a comparison gives a bool -/
theorem cmpD_bl {P : Pg} {call : Nat → List D → Sto → Res D} {o : COp} {S S' : Sto} {a b d : D} (h : cmpD P call o S a b = .ok d S') : ∃ b, d = .bl b := by
  have mp : ∀ {α : Type} {o : Option α} {f : α → D} {x : D}, (∀ y, ∃ b, f y = .bl b) → o.map f = some x → ∃ b, x = .bl b := fun hf e => by
    obtain ⟨y, _, rfl⟩ := Option.map_eq_some_iff.mp e
    exact hf y
  unfold cmpD at h
  cases o <;> dsimp only at h
  · split at h
    · split at h
      · split at h
        · exact bolR_bl h
        · cases h
      · cases h
    · split at h
      · exact bolR_bl h
      · cases h
    · split at h
      · cases h; exact ⟨_, rfl⟩
      · cases h
    · exact lift_bl h fun x => mp fun y => ⟨_, rfl⟩
  · exact lift_bl h fun x => mp fun y => ⟨_, rfl⟩
  · exact lift_bl h fun x => mp fun y => ⟨_, rfl⟩
  · split at h
    · cases h; exact ⟨_, rfl⟩
    · cases h
  · split at h
    · cases h; exact ⟨_, rfl⟩
    · cases h
  · exact lift_bl h fun x => mp fun y => ⟨_, rfl⟩
  · exact lift_bl h fun x => mp fun y => ⟨_, rfl⟩
  · exact lift_bl h fun x => mp fun y => ⟨_, rfl⟩
  · split at h
    · cases h; exact ⟨_, rfl⟩
    · split at h
      · cases h; exact ⟨_, rfl⟩
      · cases h
    · cases h
  · split at h
    · cases h; exact ⟨_, rfl⟩
    · split at h
      · cases h; exact ⟨_, rfl⟩
      · cases h
    · cases h
end
end Mi
end
section
set_option Elab.async false
set_option linter.all false
set_option maxRecDepth 100000
set_option maxHeartbeats 1000000
/-! items, slices, truth, attributes -/
namespace Mi
open PySem L2 PyProof.Rows
theorem atI_eq {α : Type} (xs : List α) (i : Int) : Mi.atI xs i = L2.atI xs i := by
  unfold Mi.atI L2.atI
  show (Mi.ixN xs.length i).bind _ = _
  rw [show Mi.ixN xs.length i = L2.ixN xs.length i from rfl]
section
variable {G : Gd} {k : Nat} {Wx : WX} {N : List Str} {sc : Scope} {X : Cx} {W : Wd} {S : Sto} {H : Hp}
theorem atI_rel {ds : List D} {vs : List V} {i : Int} {d : D} (r : RepVs G W ds vs) (h : Mi.atI ds i = some d) : ∃ v, L2.atI vs i = some v ∧ RepV G W d v := by
  unfold Mi.atI at h
  cases e : Mi.ixN ds.length i with
  | none => rw [e] at h; simp at h
  | some j =>
    rw [e] at h
    obtain ⟨v, h1, h2⟩ := r.get (show ds[j]? = some d from h)
    refine ⟨v, ?_, h2⟩
    rw [← atI_eq]
    unfold Mi.atI
    rw [← r.len, e]
    exact h1
/-- an item is read -/
theorem getI_run (c : CxOk G k Wx N sc X) {pins : List (Addr × Obj)} {σ : L2.St} {s : Shared} {d1 d2 : D} {x y : V} {v u : Value} {Q : VK} (I : L2.Inv X pins σ H s) (rx : RelV x v) (ry : RelV y u) (si : Sim G W S H) (r1 : RepV G W d1 x) (r2 : RepV G W d2 y)
    (po : Post G W H Wx (fun W' d v => RepV G W' d v) (getI S d1 d2) Q) :
    ∃ T id, typeLookup (.type T) "__getitem__" = pure (some (.builtin id)) ∧ s.TypeIs v T ∧ wpAny (model X.prog X.w) X.A (getItem v u) (EP X pins σ Q) X.xe s := by
  have hn := line63
  have lst : ∀ (p : Addr) (vs : List V) (ds : List D) (i : Int), x = .ref p → y = .int i → Rd H p (.lst vs) → RepVs G W ds vs → Post G W H Wx (fun W' d v => RepV G W' d v) (lift (Mi.atI ds i) S) Q → ∃ T id, typeLookup (.type T) "__getitem__" = pure (some (.builtin id)) ∧ s.TypeIs v T ∧ wpAny (model X.prog X.w) X.A (getItem v u) (EP X pins σ Q) X.xe s := by
    clear po
    intro p vs ds i ex ey h t po
    subst ex ey
    cases rx
    obtain ⟨tk, rfl⟩ := ry
    obtain ⟨d, e, po⟩ := po.lift
    obtain ⟨z, he, rz⟩ := atI_rel t e
    obtain ⟨its, r, pl, hz⟩ := I.list (.inl h)
    obtain ⟨j, h1, h2, h3, h4, h5⟩ := atI_get he
    obtain ⟨w, ew, rw'⟩ := r.get h2
    have hl := r.length
    have fin : EP X pins σ Q w s := ⟨z, H, I, rw', po.ok si rz⟩
    refine ⟨"list", _, PySem.slot_list_getitem.lookup, pl.isList.typeIs, ?_⟩
    by_cases h0 : 0 ≤ i
    · have hj : i.toNat = j := by
        rw [seqIndex_of h0 h5] at h1
        exact Option.some.inj h1
      exact wpAny_getItem_list pl.isList h0 (by omega) (by rw [hj]; simpa using ew) fin
    · have hj : (i + (its.toArray.size : Int)).toNat = j := by
        rw [seqIndex_neg (by omega) h4] at h1
        rw [List.size_toArray, ← hl]
        exact Option.some.inj h1
      exact wpAny_getItem_list_neg pl.isList (by omega) (by rw [List.size_toArray] <;> omega) (by omega) (by rw [hj]; simpa using ew) fin
  unfold getI at po
  split at po
  · rename_i n
    split at po
    · rename_i ds hx
      split at po
      · rename_i j
        simp only [RepV] at r1
        obtain ⟨a, rfl, q⟩ := r1
        obtain ⟨f, vs, e, t⟩ := si.obj n a _ q hx
        simp only [RepV] at r2
        exact lst a vs ds j rfl r2 (.inl e) t po
      · exact False.elim po
    · rename_i t lk kvs hx
      split at po
      · rename_i ko
        obtain ⟨d, e, po⟩ := po.lift
        obtain ⟨p, o, rfl, g, ho⟩ := dict_get (t := t) (kvs := kvs) si (by simp only [dctOf, hx]) r1 ko r2
        rw [e] at ho
        obtain ⟨z, rfl, rz⟩ := ho
        cases rx
        exact ⟨"dict", _, F.slot_dict_getitem.lookup, dict_typeIs I g, d_getItem c.hu I g ry fun w' s' I' rw' => ⟨z, H, I', rw', po.ok si rz⟩⟩
      · exact False.elim po
    · exact False.elim po
  · rename_i ds
    split at po
    · rename_i i
      simp only [RepV] at r1 r2
      obtain ⟨p, vs, rfl, hF, t⟩ := r1
      subst r2
      cases rx
      obtain ⟨tk, rfl⟩ := ry
      obtain ⟨d, e, po⟩ := po.lift
      obtain ⟨z, he, rz⟩ := atI_rel t e
      obtain ⟨its, r, pl, hz⟩ := I.tuple (sqt_up si.sub hF)
      obtain ⟨j, h1, h2, h3, h4, h5⟩ := atI_get he
      obtain ⟨w, ew, rw'⟩ := r.get h2
      have hl := r.length
      refine ⟨"tuple", _, PyProof.Rows.slot_tuple_getitem.lookup, pl.typeIs, ?_⟩
      exact getItem_tuple (j := j) pl (by omega) (by omega) (by rw [List.size_toArray, ← hl]; exact h1) (by simpa using ew) ⟨z, H, I, rw', po.ok si rz⟩
    · exact False.elim po
  · rename_i ds
    split at po
    · rename_i i
      have r1' := r1
      simp only [RepV] at r1'
      obtain ⟨p, vs, e, hF, t⟩ := r1'
      simp only [RepV] at r2
      exact lst p vs ds i e r2 (Rd.up si.sub hF) t po
    · exact False.elim po
  · exact False.elim po
theorem ix_ok (c : CxOk G k Wx N sc X) : IxR X (op2 G Wx fun a b S => getI S a b) := by
  intro value slice pins s σ H x y v u Q I rx ry ⟨W, S, d1, d2, si, r1, r2, po⟩ hs
  obtain ⟨T, id, h1, h2, h3⟩ := getI_run c I rx ry si r1 r2 po
  exact tail_any h2 h1 h3 hs
theorem get_ok (c : CxOk G k Wx N sc X) : PGet X (op2 G Wx fun a b S => getI S a b) := by
  intro pins s σ H x y v u Q I rx ry ⟨W, S, d1, d2, si, r1, r2, po⟩
  obtain ⟨T, id, h1, h2, h3⟩ := getI_run c I rx ry si r1 r2 po
  exact h3
/-- an item is written -/
theorem set_ok (c : CxOk G k Wx N sc X) : PSet X fun o i v H Q => ∃ W S d1 d2 d3, Sim G W S H ∧ RepV G W d1 o ∧ RepV G W d2 i ∧ RepV G W d3 v ∧ Post G W H Wx (fun _ (_ : Unit) (_ : Unit) => True) (setI S d1 d2 d3) (fun _ => Q) := by
  intro pins s σ H o i v ov iv u Q I ro ri rv ⟨W, S, d1, d2, d3, si, r1, r2, r3, po⟩
  unfold setI at po
  split at po
  · rename_i n
    split at po
    · rename_i ds hx
      split at po
      · rename_i j
        split at po
        · rename_i m hm
          have r1' := r1
          simp only [RepV] at r1' r2
          obtain ⟨a, rfl, q⟩ := r1'
          obtain ⟨f, vs, e, t⟩ := si.obj n a _ q hx
          subst r2
          refine set_list pins s σ H _ _ v ov iv u Q I ro ri rv ⟨a, vs, j, m, rfl, rfl, e, by rw [← t.len]; exact hm, ?_⟩
          exact po.ok' (v := ()) (Stp.write q) (si.write q hx rfl ⟨f, _, upd_same, t.set r3 m⟩) trivial
        · exact False.elim po
      · exact False.elim po
    · rename_i t kvs hx
      split at po
      · rename_i ko
        simp only [RepV] at r1
        obtain ⟨a, rfl, q⟩ := r1
        cases ro
        have ro := si.obj n a _ q hx
        cases t with
        | false =>
          obtain ⟨vs, ⟨f, e⟩, t⟩ := ro
          obtain ⟨q', rfl, kr⟩ := key_of_rep ko.1 r2
          refine d_setItem c.hu I (.inl ⟨vs, q', e, rfl, by rw [← t.len, ← LINE_eq]; exact ko.2, rfl⟩) ri rv fun s' I' => ⟨_, I', ?_⟩
          exact po.ok' (v := ()) (Stp.write q) (si.write q hx rfl ⟨_, ⟨f, upd_same⟩, dput_rel (fun a b => KeyR.inj a b) kr r3 t⟩) trivial
        | true =>
          obtain ⟨vs, ⟨f, e⟩, t⟩ := ro
          obtain ⟨b, ks, rfl, hF, kr⟩ := tup_of_rep ko.1 r2
          refine d_setItem c.hu I (.inr ⟨vs, ks, b, e, rfl, si.sub _ _ hF, by rw [← t.len, ← LINE_eq]; exact ko.2, rfl⟩) ri rv fun s' I' => ⟨_, I', ?_⟩
          exact po.ok' (v := ()) (Stp.write q) (si.write q hx rfl ⟨_, ⟨f, upd_same⟩, dput_rel (fun a b => TupR.inj a b) kr r3 t⟩) trivial
      · exact False.elim po
    · exact False.elim po
  · exact False.elim po
/-! ### slices -/
theorem sIx_eq (n d : Nat) (o : Option Int) : HT.sIx n d o = Mi.sIx n d o := by
  cases o with
  | none => rfl
  | some i => simp only [HT.sIx, Mi.sIx]; split <;> omega
theorem cut_rel {ds : List D} {vs : List V} (r : RepVs G W ds vs) (lo hi : Option Int) : RepVs G W (cut ds lo hi) (cutV vs lo hi) := by
  have e := sIx_eq
  unfold cut cutV
  rw [e, e, ← r.len]
  exact (r.drop _).take _
theorem sl_ok (c : CxOk G k Wx N sc X) : SlR X fun x lo hi H Q => ∃ W S d, Sim G W S H ∧ RepV G W d x ∧ Post G W H Wx (fun W' d v => RepV G W' d v) (cutD S d lo hi) Q := by
  intro pins s σ H x v vl vu lo hi sl Q I rx hs pl pu ⟨W, S, d, si, r, po⟩
  have e := sIx_eq
  have lst : ∀ (p : Addr) (vs : List V) (ds : List D), x = .ref p → Rd H p (.lst vs) → RepVs G W ds vs → Post G W H Wx (fun W' d v => RepV G W' d v) (.ok (.lst (cut ds lo hi)) S) Q → rSlL X.K x lo hi H Q := by
    intro p vs ds ex h t po
    refine ⟨p, vs, ex, .inl h, fun b hb => ?_⟩
    have st := Stp.lay si (o := .lst (cutV vs lo hi)) hb
    refine po.ok' st (si.lay hb) ?_
    simp only [RepV]
    exact ⟨b, _, rfl, .inl (by show upd W.F b _ b = _; rw [upd_same]), st.reps (cut_rel t lo hi)⟩
  unfold cutD at po
  split at po
  · split at po
    · rename_i z hz
      simp only [RepV] at r
      refine sl_str pins s σ H x v vl vu lo hi sl Q I rx hs pl pu ⟨_, r.1, by rw [sV_len, ← LINE_eq]; exact hz, po.ok si ?_⟩
      simp only [RepV]
      refine ⟨?_, fun c hc => r.2 c ?_⟩
      · unfold cutS cut
        rw [e, e, sV_len]
        simp [sV]
      · unfold cut at hc
        exact List.mem_of_mem_drop (List.mem_of_mem_take hc)
    · exact False.elim po
  · rename_i ds
    have r' := r
    simp only [RepV] at r'
    obtain ⟨p, vs, ex, hF, t⟩ := r'
    refine sl_tupA pins s σ H x v vl vu lo hi sl Q I rx hs pl pu ⟨p, vs, ex, by rw [c.cK]; exact sqt_up si.sub hF, fun h => ?_, fun _ => post_tup si (cut_rel t lo hi) po⟩
    rw [e, e] at h
    have : cut ds lo hi = ds := by
      unfold cut
      rw [t.len, h.1, h.2, ← t.len]
      simp
    rw [this] at po
    rw [← ex]
    exact po.ok si r
  · rename_i ds
    simp only [RepV] at r
    obtain ⟨p, vs, ex, hF, t⟩ := r
    exact sl_list pins s σ H x v vl vu lo hi sl Q I rx hs pl pu (lst p vs ds ex (Rd.up si.sub hF) t po)
  · rename_i n
    split at po
    · rename_i ds hx
      simp only [RepV] at r
      obtain ⟨a, ex, q⟩ := r
      obtain ⟨f, vs, e', t⟩ := si.obj n a _ q hx
      exact sl_list pins s σ H x v vl vu lo hi sl Q I rx hs pl pu (lst a vs ds ex (.inl e') t po)
    · exact False.elim po
  · exact False.elim po
/-! ### truth -/
theorem tru_rel {d : D} {v : V} {b : Bool} (si : Sim G W S H) (r : RepV G W d v) (h : truth S d = some b) : TruV G.K v H b := by
  unfold truth at h
  cases d with
  | non => simp only [RepV] at r; subst r; cases h; rfl
  | bl a => simp only [RepV] at r; subst r; cases h; rfl
  | int i => simp only [RepV] at r; subst r; cases h; rfl
  | str z =>
    simp only [RepV] at r
    obtain ⟨rfl, _⟩ := r
    dsimp only at h
    split at h
    · rename_i hz
      cases h
      refine ⟨by rw [sV_len, ← LINE_eq]; exact hz, ?_⟩
      rw [sV_len]
      cases z with
      | nil => rfl
      | cons a b => simp; omega
    · cases h
  | tup xs =>
    simp only [RepV] at r
    obtain ⟨a, vs, rfl, q, t⟩ := r
    cases h
    exact .inr (.inl ⟨vs, sqt_up si.sub q, by rw [t.isEmpty]⟩)
  | lst xs =>
    simp only [RepV] at r
    obtain ⟨a, vs, rfl, q, t⟩ := r
    cases h
    exact .inl ⟨vs, .inl (Rd.up si.sub q), by rw [t.isEmpty]⟩
  | ref n =>
    simp only [RepV] at r
    obtain ⟨a, rfl, q⟩ := r
    dsimp only at h
    split at h
    · rename_i xs hx
      cases h
      obtain ⟨f, vs, e, t⟩ := si.obj n a _ q hx
      exact .inl ⟨vs, .inl (.inl e), by rw [t.isEmpty]⟩
    · rename_i kvs hx
      cases h
      obtain ⟨vs, e, t⟩ := si.obj n a _ q hx
      refine .inr (.inr ⟨vs, e.2, ?_⟩)
      have := t.len
      cases kvs <;> cases vs <;> simp_all
    · cases h
  | ins _ _ _ => cases h
theorem rd_tru {f : Env → Sto → Res D} {σ : L2.St} {H : Hp} {Q : Bool → Hp → Prop} (cK : X.K = G.K) (h : rdT G Wx (fun e S => truR (f e S)) σ H Q) : rdE G Wx f σ H (fun x H' => ∃ k, TruV X.K x H' k ∧ Q k H') := by
  obtain ⟨W, S, e, si, sl, po⟩ := h
  refine ⟨W, S, e, si, sl, (Post.bind (R := fun W' d v => RepV G W' d v) po).mono fun x H1 ⟨W1, S1, d1, t1, s1, r1, _, po1⟩ => ?_⟩
  obtain ⟨b, e, po1⟩ := po1.lift
  exact ⟨b, by rw [cK]; exact tru_rel s1 r1 e, po1.ok s1 rfl⟩
end
end Mi
end
section
set_option Elab.async false
set_option linter.all false
set_option maxRecDepth 100000
set_option maxHeartbeats 1000000
/-! attributes, isinstance, reversed -/
namespace Mi
open PySem L2 PyProof.Rows
def tyNm : Ty → String
  | .int => "int" | .bool => "bool" | .tuple => "tuple" | .str => "str" | .list => "list" | .cls _ => "object"
def tyVal (G : Gd) : Ty → Value
  | .cls e => .ref (G.cA e)
  | T => .type (tyNm T)
/-- what of the program's frozen part is wanted -/
structure KOk (G : Gd) : Prop where
  cls : ∀ c C, G.M.cls c = some C → C.init.isSome = true → Cls G.K (G.cA c) ∧ PySem.W.findIn G.K (.ref (G.cA c)) "__class__" = some (some (.builtin "object.__class__")) ∧ PySem.W.mroIn G.K (G.cA c) (.type "object") = some true
  gs : PySem.W.specialIn G.K (.builtin "object.__class__") "__get__" = some (some (.builtin "getset_descriptor.__get__")) ∧ PySem.W.takesIn G.K (.builtin "object.__class__") = some true
  na : ∀ c C, G.M.cls c = some C → C.init.isSome = true → ∀ f ∈ C.flds, NoAttr G.K (G.cA c) (G.nm f) ∧ f < G.nn
  inj : ∀ i j, i < G.nn → j < G.nn → G.nm i = G.nm j → i = j
  kc : ∀ c C c' C', G.M.cls c = some C → C.init.isSome = true → G.M.cls c' = some C' → C'.init.isSome = true → PySem.W.kitOne G.K (.ref (G.cA c)) (.ref (G.cA c')) = some (decide (c = c'))
  kt : ∀ c C, G.M.cls c = some C → C.init.isSome = true → ∀ T : Ty, (∀ d, T ≠ .cls d) → PySem.W.kitOne G.K (.ref (G.cA c)) (.type (tyNm T)) = some false
  kr : ∀ c C, G.M.cls c = some C → C.init.isSome = true → ∀ T ∈ ["NoneType", "bool", "int", "str", "tuple", "list"], PySem.W.kitOne G.K (.type T) (.ref (G.cA c)) = some false
section
variable {G : Gd} {k : Nat} {Wx : WX} {N : List Str} {sc : Scope} {X : Cx} {W : Wd} {S : Sto} {H : Hp}
theorem FldOk.lt (ko : KOk G) {c : Nat} {ks : List Nat} (h : FldOk G c ks) : ∀ k ∈ ks, k < G.nn := by
  obtain ⟨C, h1, h2, h3⟩ := h
  exact fun k hk => (ko.na c C h1 h2 k (h3 k hk)).2
theorem look_rel (ko : KOk G) {f : Nat} (hf : f < G.nn) : ∀ {ks : List Nat} {ds : List D} {vs : List V} {d : D}, (∀ k ∈ ks, k < G.nn) → ks.length = ds.length → RepVs G W ds vs → look f ks ds = some d → ∃ v, ((ks.map G.nm).zip vs).lookup (G.nm f) = some v ∧ RepV G W d v
  | [], _, _, _, _, _, _, h => by simp [look] at h
  | _ :: _, [], _, _, _, l, _, _ => by simp at l
  | q :: ks, x :: ds, vs, d, hk, l, r, h => by
    simp only [RepVs] at r
    obtain ⟨v, t, rfl, r1, r2⟩ := r
    simp only [look] at h
    simp only [List.map_cons, List.zip_cons_cons, List.lookup_cons]
    split at h
    · rename_i e
      cases h
      subst e
      refine ⟨v, ?_, r1⟩
      simp
    · rename_i e
      have : (G.nm f == G.nm q) = false := beq_eq_false_iff_ne.mpr fun z => e (ko.inj f q hf (hk q (by simp)) z).symm
      rw [this]
      exact look_rel ko hf (fun k hk' => hk k (by simp [hk'])) (by simpa using l) r2 h
theorem putA_rel (ko : KOk G) {f : Nat} (hf : f < G.nn) {y : D} {u : V} (ry : RepV G W y u) : ∀ {ks : List Nat} {ds : List D} {vs : List V} {d : D}, (∀ k ∈ ks, k < G.nn) → ks.length = ds.length → RepVs G W ds vs → look f ks ds = some d →
    ∃ us, putF (G.nm f) u ((ks.map G.nm).zip vs) = (ks.map G.nm).zip us ∧ RepVs G W (putA f y ks ds) us ∧ ks.length = (putA f y ks ds).length
  | [], _, _, _, _, _, _, h => by simp [look] at h
  | _ :: _, [], _, _, _, l, _, _ => by simp at l
  | q :: ks, x :: ds, vs, d, hk, l, r, h => by
    simp only [RepVs] at r
    obtain ⟨v, t, rfl, r1, r2⟩ := r
    simp only [look] at h
    simp only [List.map_cons, List.zip_cons_cons, putF, putA]
    by_cases e : q = f
    · subst e
      rw [if_pos rfl, if_pos rfl]
      exact ⟨u :: t, rfl, r2.cons ry, by simpa using l⟩
    · rw [if_neg e] at h
      rw [if_neg (fun z => e (ko.inj q f (hk q (by simp)) hf z)), if_neg e]
      obtain ⟨us, e1, e2, e3⟩ := putA_rel ko hf ry (fun k hk' => hk k (by simp [hk'])) (by simpa using l) r2 h
      exact ⟨v :: us, by rw [e1]; rfl, e2.cons r1, by simpa using e3⟩
theorem putN_rel (ko : KOk G) {f : Nat} (hf : f < G.nn) {y : D} {u : V} (ry : RepV G W y u) : ∀ {ks : List Nat} {ds : List D} {vs : List V}, (∀ k ∈ ks, k < G.nn) → ks.length = ds.length → RepVs G W ds vs → look f ks ds = none →
    ∃ us, putF (G.nm f) u ((ks.map G.nm).zip vs) = ((ks ++ [f]).map G.nm).zip us ∧ RepVs G W (ds ++ [y]) us
  | [], [], vs, _, _, r, h => by
    simp only [RepVs] at r; subst r
    exact ⟨[u], rfl, RepVs.one ry⟩
  | [], _ :: _, _, _, l, _, _ => by simp at l
  | _ :: _, [], _, _, l, _, _ => by simp at l
  | q :: ks, x :: ds, vs, hk, l, r, h => by
    simp only [RepVs] at r
    obtain ⟨v, t, rfl, r1, r2⟩ := r
    simp only [look] at h
    split at h
    · cases h
    · rename_i e
      simp only [List.map_cons, List.zip_cons_cons, putF, List.cons_append]
      rw [if_neg (fun z => e (ko.inj q f (hk q (by simp)) hf z))]
      obtain ⟨us, e1, e2⟩ := putN_rel ko hf ry (fun k hk' => hk k (by simp [hk'])) (by simpa using l) r2 h
      exact ⟨v :: us, by rw [e1]; rfl, e2.cons r1⟩
theorem look_mem {f : Nat} : ∀ {ks : List Nat} {ds : List D} {d : D}, look f ks ds = some d → f ∈ ks
  | [], _, _, h => by simp [look] at h
  | _ :: _, [], _, h => by simp [look] at h
  | q :: ks, x :: ds, d, h => by
    simp only [look] at h
    split at h
    · rename_i e; simp [e]
    · simp [look_mem h]
/-- an instance that is seen -/
theorem ins_of {d : D} {v : V} {f : Nat} {z : D} (ko : KOk G) (si : Sim G W S H) (r : RepV G W d v) (h : getA S d f = some z) :
    ∃ a C dx fs u, v = .ref a ∧ H a = some (.ins C dx fs) ∧ Cls G.K C ∧ NoAttr G.K C (G.nm f) ∧ fs.lookup (G.nm f) = some u ∧ RepV G W z u := by
  have main : ∀ (a dx : Addr) (c : Nat) (ks : List Nat) (ds : List D) (vs : List V), H a = some (.ins (G.cA c) dx ((ks.map G.nm).zip vs)) → RepVs G W ds vs → ks.length = ds.length → FldOk G c ks → look f ks ds = some z →
      ∃ C dx fs u, H a = some (.ins C dx fs) ∧ Cls G.K C ∧ NoAttr G.K C (G.nm f) ∧ fs.lookup (G.nm f) = some u ∧ RepV G W z u := by
    intro a dx c ks ds vs e t l fo h
    have lt := fo.lt ko
    obtain ⟨C, h1, h2, h3⟩ := fo
    have hm := look_mem h
    obtain ⟨u, e1, e2⟩ := look_rel ko (lt f hm) lt l t h
    exact ⟨_, dx, _, u, e, (ko.cls c C h1 h2).1, (ko.na c C h1 h2 f (h3 f hm)).1, e1, e2⟩
  unfold getA at h
  split at h
  · simp only [RepV] at r
    obtain ⟨a, dx, vs, rfl, q, t, l, fo⟩ := r
    obtain ⟨C, dx, fs, u, m⟩ := main a dx _ _ _ vs (si.sub _ _ q) t l fo h
    exact ⟨a, C, dx, fs, u, rfl, m⟩
  · rename_i n
    split at h
    · rename_i hx
      simp only [RepV] at r
      obtain ⟨a, rfl, q⟩ := r
      obtain ⟨_, fo, dx, vs, e, t, l⟩ := si.obj n a _ q hx
      obtain ⟨C, dx, fs, u, m⟩ := main a dx _ _ _ vs e t l fo h
      exact ⟨a, C, dx, fs, u, rfl, m⟩
    · cases h
  · cases h
theorem att_rd (c : CxOk G k Wx N sc X) (ko : KOk G) {fa : Env → Sto → Res D} {f : Nat} {σ : L2.St} {H : Hp} {Q : VK} (h : rdE G Wx (fun e S => (fa e S).bind fun x S1 => lift (getA S1 x f) S1) σ H Q) : tFld X.K (rdE G Wx fa) (G.nm f) σ H Q := by
  obtain ⟨W, S, e, si, sl, po⟩ := h
  refine ⟨W, S, e, si, sl, (Post.bind (R := fun W' d v => RepV G W' d v) po).mono fun x H1 ⟨W1, S1, d1, t1, s1, r1, _, po1⟩ => ?_⟩
  obtain ⟨d, e, po1⟩ := po1.lift
  obtain ⟨a, C, dx, fs, u, h1, h2, h3, h4, h5, h6⟩ := ins_of ko s1 r1 e
  exact ⟨a, C, dx, fs, u, h1, h2, by rw [c.cK]; exact h3, by rw [c.cK]; exact h4, h5, po1.ok s1 h6⟩
/-- an attribute is written -/
theorem setA_run (ko : KOk G) {d y : D} {v u : V} {f : Nat} {Q : Hp → Prop} (si : Sim G W S H) (r : RepV G W d v) (ry : RepV G W y u) (po : Post G W H Wx (fun _ (_ : Unit) (_ : Unit) => True) (setA G.M S d f y) (fun _ => Q)) :
    ∃ a C dx fs, v = .ref a ∧ H a = some (.ins C dx fs) ∧ Cls G.K C ∧ NoAttr G.K C (G.nm f) ∧ fs.length < 1000 ∧ Q (upd H a (.ins C dx (putF (G.nm f) u fs))) := by
  unfold setA at po
  split at po
  · rename_i n
    split at po
    · rename_i c ks ds hx
      split at po
      · rename_i C hC
        split at po
        · rename_i hc
          simp only [RepV] at r
          obtain ⟨a, rfl, q⟩ := r
          obtain ⟨hF, fo, dx, vs, e, t, l⟩ := si.obj n a _ q hx
          have lt := fo.lt ko
          obtain ⟨C', h1, h2, h3⟩ := fo
          rw [hC] at h1; cases h1
          have lf := (ko.na c C hC h2 f hc.2)
          refine ⟨a, _, dx, _, rfl, e, (ko.cls c C hC h2).1, lf.1, ?_, ?_⟩
          · have := hc.1
            simp only [List.length_zip, List.length_map]
            omega
          · split at po
            · rename_i z hz
              obtain ⟨us, e1, e2, e3⟩ := putA_rel ko lf.2 ry lt l t hz
              rw [e1]
              refine po.ok' (v := ()) (Stp.write q) (si.write q hx rfl ⟨hF, ⟨C, hC, h2, h3⟩, dx, us, upd_same, e2, e3⟩) trivial
            · rename_i hz
              obtain ⟨us, e1, e2⟩ := putN_rel ko lf.2 ry lt l t hz
              rw [e1]
              refine po.ok' (v := ()) (Stp.write q) (si.write q hx rfl ⟨hF, ⟨C, hC, h2, fun k hk => ?_⟩, dx, us, upd_same, e2, by simp [l]⟩) trivial
              rcases List.mem_append.mp hk with hk | hk
              · exact h3 k hk
              · have : k = f := by simpa using hk
                subst this; exact hc.2
        · exact False.elim po
      · exact False.elim po
    · exact False.elim po
  · exact False.elim po
/-! ### isinstance -/
theorem ty_of (ko : KOk G) (c : CxOk G k Wx N sc X) {d : D} {v : V} (si : Sim G W S H) (r : RepV G W d v) {T : Ty} {b : Bool} (h : isOf (res S d) T = some b) (hT : ∀ e, T = .cls e → ∃ C, G.M.cls e = some C ∧ C.init.isSome = true) :
    ∃ t, TyX X.K H v t ∧ PySem.W.kitOne X.K t (tyVal G T) = some b := by
  have lst : ∀ a vs, v = .ref a → Rd H a (.lst vs) → TyX X.K H v (.type "list") := fun a vs e h => by
    subst e
    rcases h with h | ⟨o, h⟩
    · exact .base (.lst h)
    · exact .base (.frz h)
  have own : ∀ (ty : String) (e : Nat), ty ∈ ["NoneType", "bool", "int", "str", "tuple", "list"] → (∃ C, G.M.cls e = some C ∧ C.init.isSome = true) → PySem.W.kitOne X.K (.type ty) (.ref (G.cA e)) = some false := fun ty e hm ⟨C, h1, h2⟩ => by
    rw [c.cK]; exact ko.kr e C h1 h2 ty hm
  have fin : ∀ ty : String, ty ∈ ["NoneType", "bool", "int", "str", "tuple", "list"] → TyX X.K H v (.type ty) → (∀ e, T = .cls e → b = false) → ((∀ e, T ≠ .cls e) → kitB ty (tyNm T) = some b) → ∃ t, TyX X.K H v t ∧ PySem.W.kitOne X.K t (tyVal G T) = some b := fun ty hm h1 h2 h3 => by
    refine ⟨_, h1, ?_⟩
    cases T with
    | cls e => rw [h2 e rfl]; exact own ty e hm (hT e rfl)
    | _ => exact kit_ty (h3 (by simp))
  cases d with
  | non =>
    simp only [RepV] at r; subst r
    refine fin "NoneType" (by simp) (.base .non) (fun e z => by subst z; simpa [res, isOf] using h.symm) fun z => ?_
    cases T with
    | cls e => exact absurd rfl (z e)
    | _ => simp only [res, isOf, Option.some.injEq] at h; subst h; decide +kernel
  | bl x =>
    simp only [RepV] at r; subst r
    refine fin "bool" (by simp) (.base (.bl _)) (fun e z => by subst z; simpa [res, isOf] using h.symm) fun z => ?_
    cases T with
    | cls e => exact absurd rfl (z e)
    | _ => simp only [res, isOf, Option.some.injEq] at h; subst h; decide +kernel
  | int x =>
    simp only [RepV] at r; subst r
    refine fin "int" (by simp) (.base (.int _)) (fun e z => by subst z; simpa [res, isOf] using h.symm) fun z => ?_
    cases T with
    | cls e => exact absurd rfl (z e)
    | _ => simp only [res, isOf, Option.some.injEq] at h; subst h; decide +kernel
  | str x =>
    simp only [RepV] at r; obtain ⟨r, _⟩ := r; subst r
    refine fin "str" (by simp) (.base (.str _)) (fun e z => by subst z; simpa [res, isOf] using h.symm) fun z => ?_
    cases T with
    | cls e => exact absurd rfl (z e)
    | _ => simp only [res, isOf, Option.some.injEq] at h; subst h; decide +kernel
  | tup xs =>
    simp only [RepV] at r; obtain ⟨a, vs, rfl, q, t⟩ := r
    refine fin "tuple" (by simp) (.base (.tup (si.sub _ _ q))) (fun e z => by subst z; simpa [res, isOf] using h.symm) fun z => ?_
    cases T with
    | cls e => exact absurd rfl (z e)
    | _ => simp only [res, isOf, Option.some.injEq] at h; subst h; decide +kernel
  | lst xs =>
    simp only [RepV] at r; obtain ⟨a, vs, e, q, t⟩ := r
    refine fin "list" (by simp) (lst a vs e (Rd.up si.sub q)) (fun e z => by subst z; simpa [res, isOf] using h.symm) fun z => ?_
    cases T with
    | cls e => exact absurd rfl (z e)
    | _ => simp only [res, isOf, Option.some.injEq] at h; subst h; decide +kernel
  | ref n =>
    simp only [res] at h
    split at h
    · rename_i ys hx
      simp only [RepV] at r
      obtain ⟨a, e, q⟩ := r
      obtain ⟨f, vs, e', t⟩ := si.obj n a _ q hx
      refine fin "list" (by simp) (lst a vs e (.inl e')) (fun e z => by subst z; simpa [res, isOf] using h.symm) fun z => ?_
      cases T with
      | cls e => exact absurd rfl (z e)
      | _ => simp only [res, isOf, Option.some.injEq] at h; subst h; decide +kernel
    · cases T <;> simp [isOf] at h
  | ins e ks ds =>
    simp only [RepV] at r
    obtain ⟨a, dx, vs, rfl, q, t, l, C, h1, h2, h3⟩ := r
    obtain ⟨k1, k2, k3⟩ := ko.cls e C h1 h2
    refine ⟨.ref (G.cA e), .base (.ins (si.sub _ _ q) (by rw [c.cK]; exact k1) (by rw [c.cK]; exact k2) (by rw [c.cK]; exact ko.gs.1) (by rw [c.cK]; exact ko.gs.2) (by rw [c.cK]; exact k3)), ?_⟩
    rw [c.cK]
    cases T with
    | cls e' =>
      obtain ⟨C', g1, g2⟩ := hT e' rfl
      simp only [res, isOf, Option.some.injEq] at h; subst h
      exact ko.kc e C e' C' h1 h2 g1 g2
    | _ => simp only [res, isOf, Option.some.injEq] at h; subst h; exact ko.kt e C h1 h2 _ (by simp)
/-! ### reversed -/
end
end Mi
end
section
set_option Elab.async false
set_option linter.all false
set_option maxRecDepth 100000
set_option maxHeartbeats 1000000
/-! built-in functions -/
namespace Mi
open PySem L2 PyProof.Rows
section
variable {G : Gd} {k : Nat} {Wx : WX} {N : List Str} {sc : Scope} {X : Cx} {W : Wd} {S : Sto} {H : Hp}
theorem reps_ints : ∀ {ds : List D} {ns : List Int} {vs : List V}, intsOf ds = some ns → RepVs G W ds vs → vs = ns.map V.int
  | [], ns, vs, h, r => by simp only [intsOf] at h; cases h; simp only [RepVs] at r; exact r
  | d :: ds, ns, vs, h, r => by
    simp only [RepVs] at r
    obtain ⟨v, t, rfl, r1, r2⟩ := r
    cases d with
    | int i =>
      simp only [intsOf] at h
      cases e : intsOf ds with
      | none => rw [e] at h; cases h
      | some ms =>
        rw [e] at h; cases h
        simp only [RepV] at r1
        rw [reps_ints e r2, r1]; rfl
    | _ => simp [intsOf] at h
theorem reps_bools : ∀ {ds : List D} {ns : List Bool} {vs : List V}, boolsOf ds = some ns → RepVs G W ds vs → vs = ns.map V.bl
  | [], ns, vs, h, r => by simp only [boolsOf] at h; cases h; simp only [RepVs] at r; exact r
  | d :: ds, ns, vs, h, r => by
    simp only [RepVs] at r
    obtain ⟨v, t, rfl, r1, r2⟩ := r
    cases d with
    | bl i =>
      simp only [boolsOf] at h
      cases e : boolsOf ds with
      | none => rw [e] at h; cases h
      | some ms =>
        rw [e] at h; cases h
        simp only [RepV] at r1
        rw [reps_bools e r2, r1]; rfl
    | _ => simp [boolsOf] at h
theorem ints_reads {h : Heap} : ∀ {us : List Value} {ns : List Int}, IntsAre us ns → ReadsAll h us (ns.map .int) []
  | _, _, .nil => .nil
  | _, _, .cons n t r => .cons (as := []) (bs := []) (.int n t) (ints_reads r)
theorem alike_ints' (ns : List Int) : PySem.W.AlikeAll (ns.map PyData.int) := by
  constructor
  · intro x hx y hy
    obtain ⟨a, _, rfl⟩ := List.mem_map.mp hx
    obtain ⟨b, _, rfl⟩ := List.mem_map.mp hy
    simp [PySem.W.alike]
  · intro x hx
    obtain ⟨a, _, rfl⟩ := List.mem_map.mp hx
    simp
theorem minI_fold : ∀ (ns : List Int) (a : Int), minI a ns = ns.foldl min a
  | [], _ => rfl
  | b :: ns, a => by
    simp only [minI, List.foldl_cons]
    rw [minI_fold]
    congr 1
    split <;> omega
theorem maxI_fold : ∀ (ns : List Int) (a : Int), maxI a ns = ns.foldl max a
  | [], _ => rfl
  | b :: ns, a => by
    simp only [maxI, List.foldl_cons]
    rw [maxI_fold]
    congr 1
    split <;> omega
/-- what is read off a sequence of ints -/
theorem seq_ints (c : CxOk G k Wx N sc X) {pins : List (Addr × Obj)} {σ : L2.St} {s : Shared} {d : D} {v : V} {u : Value} {ds : List D} {ns : List Int} (I : L2.Inv X pins σ H s) (rv : RelV v u) (si : Sim G W S H) (r : RepV G W d v) (h : seqOf S d = some ds) (hi : intsOf ds = some ns) :
    ∃ (a : Addr) (us : List Value), u = .ref a ∧ IntsAre us ns ∧ (s.heap.IsList a us.toArray ∨ s.heap.IsTuple a us.toArray) := by
  obtain ⟨a, vs, rfl, q, t⟩ := seq_any si r h
  cases rv
  have e := reps_ints hi t
  subst e
  rw [← c.cK] at q
  rcases q with q | q
  · obtain ⟨its, rv, hl, _⟩ := I.list q
    exact ⟨a, its, rfl, rv.ints, .inl hl.isList⟩
  · obtain ⟨its, rv, hl, _⟩ := I.tuple q
    exact ⟨a, its, rfl, rv.ints, .inr hl⟩
theorem sum_rawT {prog : Program} {w : World} {A : Around} {E : Value → Shared → Prop} {s : Shared} {l : Addr} {its : List Value} {ns : List Int} {Q : Value → Shared → Prop} (hh : A.handled = none) (hl : s.heap.IsTuple l its.toArray) (hi : IntsAre its ns)
    (h : ∀ h' tk t', (∀ b o, s.heap.get? b = some o → h'.get? b = some o) → Q (.int ns.sum t') { s with heap := h', toks := tk }) : wpAny (model prog w) A (call (.builtin "sum") [.ref l]) Q E s := by
  obtain ⟨xs, e⟩ := hi.allInts.items
  have hn : numsOf (intItems xs).toList = ns := by rw [← e]; exact hi.numsOf
  rw [nums_intItems] at hn
  rw [e] at hl
  refine PySem.W.ktm_sumG hh hl fun h' tk t' hk => ?_
  have := h h' tk t' hk
  rw [preSum_eq, List.take_of_length_le (by simp), hn]; exact this
theorem opn1 {d : D} {xs : List V} (r : RepVs G W [d] xs) : ∃ v, xs = [v] ∧ RepV G W d v := by
  simp only [RepVs] at r
  obtain ⟨v, t, rfl, r1, rfl⟩ := r
  exact ⟨v, rfl, r1⟩
theorem opn2 {d e : D} {xs : List V} (r : RepVs G W [d, e] xs) : ∃ v u, xs = [v, u] ∧ RepV G W d v ∧ RepV G W e u := by
  simp only [RepVs] at r
  obtain ⟨v, t, rfl, r1, u, t', rfl, r2, rfl⟩ := r
  exact ⟨v, u, rfl, r1, r2⟩
/-- what is read off a sequence of data -/
theorem seq_data (c : CxOk G k Wx N sc X) {pins : List (Addr × Obj)} {σ : L2.St} {s : Shared} {d : D} {v : V} {u : Value} {ds : List D} (I : L2.Inv X pins σ H s) (rv : RelV v u) (si : Sim G W S H) (r : RepV G W d v) (h : seqOf S d = some ds) (hd : D.datas ds = true) :
    ∃ (a : Addr) (vs : List V) (us : List Value) (as : List Addr), u = .ref a ∧ RepVs G W ds vs ∧ Vals vs us ∧ ReadsAll s.heap us (D.pys ds) as ∧ (s.heap.IsList a us.toArray ∨ s.heap.IsTuple a us.toArray) := by
  obtain ⟨a, vs, rfl, q, t⟩ := seq_any si r h
  cases rv
  rw [← c.cK] at q
  obtain ⟨p1, _⟩ := reps_dp si.sub ds vs hd t
  rw [← c.cK] at p1
  rcases q with q | q
  · obtain ⟨its, rv, hl, _⟩ := I.list q
    obtain ⟨as, ra⟩ := Dp.readsAll I _ _ its p1 rv
    exact ⟨a, vs, its, as, rfl, t, rv, ra, .inl hl.isList⟩
  · obtain ⟨its, rv, hl, _⟩ := I.tuple q
    obtain ⟨as, ra⟩ := Dp.readsAll I _ _ its p1 rv
    exact ⟨a, vs, its, as, rfl, t, rv, ra, .inr hl⟩
end
end Mi
end
section
set_option Elab.async false
set_option linter.all false
set_option maxRecDepth 100000
set_option maxHeartbeats 1000000
/-! order of data -/
namespace Mi
open PySem L2 PyProof.Rows
mutual
theorem cok_alike : ∀ a b : D, D.cok a b = true → PySem.W.alike a.py b.py = true
  | .int _, b, h => by cases b <;> simp_all [D.cok, D.py, PySem.W.alike]
  | .tup xs, b, h => by
    cases b with
    | tup ys => simp only [D.cok] at h; simp only [D.py, PySem.W.alike]; exact coks_alike xs ys h
    | _ => simp [D.cok] at h
  | .non, _, h => by simp [D.cok] at h
  | .bl _, _, h => by simp [D.cok] at h
  | .str _, _, h => by simp [D.cok] at h
  | .lst _, _, h => by simp [D.cok] at h
  | .ins _ _ _, _, h => by simp [D.cok] at h
  | .ref _, _, h => by simp [D.cok] at h
theorem coks_alike : ∀ xs ys : List D, D.coks xs ys = true → PySem.W.alikeAll (D.pys xs) (D.pys ys) = true
  | [], _, _ => by simp [D.pys, PySem.W.alikeAll]
  | _ :: _, [], _ => by simp [D.pys, PySem.W.alikeAll]
  | x :: xs, y :: ys, h => by
    simp only [D.coks, Bool.and_eq_true] at h
    simp only [D.pys, PySem.W.alikeAll, cok_alike x y h.1.2, coks_alike xs ys h.2]
    rfl
end
mutual
theorem lt_ltv : ∀ a b : D, D.cok a b = true → PySem.W.dataLt a.py b.py = D.ltv a b
  | .int _, b, h => by
    cases b with
    | int j => simp only [D.py, D.ltv, PySem.W.dataLt_int]
    | _ => simp [D.cok] at h
  | .tup xs, b, h => by
    cases b with
    | tup ys => simp only [D.cok] at h; simp only [D.py, PySem.W.dataLt_tuple, D.ltv]; exact lts_ltvs xs ys h
    | _ => simp [D.cok] at h
  | .non, _, h => by simp [D.cok] at h
  | .bl _, _, h => by simp [D.cok] at h
  | .str _, _, h => by simp [D.cok] at h
  | .lst _, _, h => by simp [D.cok] at h
  | .ins _ _ _, _, h => by simp [D.cok] at h
  | .ref _, _, h => by simp [D.cok] at h
theorem lts_ltvs : ∀ xs ys : List D, D.coks xs ys = true → PyProof.Rows.lexLt itemOrd (PySem.W.keyToksAll (D.pys xs)) (PySem.W.keyToksAll (D.pys ys)) = D.ltvs xs ys
  | [], [], _ => by simp only [D.pys, D.ltvs]; exact lex_irrefl _
  | [], y :: ys, _ => by
    simp only [D.pys, D.ltvs]
    rw [PySem.W.toks_all_cons]
    simp [PySem.W.keyToksAll]
    rfl
  | x :: xs, [], _ => by
    simp only [D.pys, D.ltvs]
    rw [PySem.W.toks_all_cons]
    simp [PySem.W.keyToksAll]
    rfl
  | x :: xs, y :: ys, h => by
    simp only [D.coks, Bool.and_eq_true] at h
    simp only [D.pys, D.ltvs]
    rw [PySem.W.dataLt_cons (cok_alike x y h.1.2), py_eqv x y h.1.1.1 h.1.1.2, lt_ltv x y h.1.2, lts_ltvs xs ys h.2]
end
theorem datas_mem {xs : List D} (h : D.datas xs = true) : ∀ x ∈ xs, x.data = true := by
  induction xs with
  | nil => intro x hx; cases hx
  | cons a r ih =>
    simp only [D.datas, Bool.and_eq_true] at h
    intro x hx
    rcases List.mem_cons.mp hx with rfl | hx
    · exact h.1
    · exact ih h.2 x hx
theorem cokAll_iff {xs : List D} (h : cokAll xs = true) : D.datas xs = true ∧ D.deps xs ≤ 100 ∧ ∀ a ∈ xs, ∀ b ∈ xs, D.cok a b = true := by
  unfold cokAll at h
  simp only [Bool.and_eq_true, decide_eq_true_eq, List.all_eq_true] at h
  exact ⟨h.1.1, h.1.2, h.2⟩
theorem cokAll_alike {xs : List D} (h : cokAll xs = true) : PySem.W.AlikeAll (D.pys xs) := by
  obtain ⟨_, _, h⟩ := cokAll_iff h
  constructor
  · intro x hx y hy
    rw [pys_map] at hx hy
    obtain ⟨a, ha, rfl⟩ := List.mem_map.mp hx
    obtain ⟨b, hb, rfl⟩ := List.mem_map.mp hy
    exact cok_alike a b (h a ha b hb)
  · intro x hx
    rw [pys_map] at hx
    obtain ⟨a, ha, rfl⟩ := List.mem_map.mp hx
    have := h a ha a ha
    cases a <;> simp_all [D.cok, D.py]
theorem minD_py : ∀ (xs : List D) (x : D), (∀ a ∈ x :: xs, ∀ b ∈ x :: xs, D.cok a b = true) → PySem.W.minD x.py (D.pys xs) = (minD x xs).py ∧ minD x xs ∈ x :: xs
  | [], x, _ => ⟨rfl, by simp [minD]⟩
  | y :: ys, x, h => by
    have e := lt_ltv y x (h y (by simp) x (by simp))
    have hx : PySem.W.minD x.py (D.pys (y :: ys)) = PySem.W.minD (if PySem.W.dataLt y.py x.py then y.py else x.py) (D.pys ys) := rfl
    rw [hx, e]
    simp only [minD]
    have sy : ∀ a ∈ y :: ys, a ∈ x :: y :: ys := fun a ha => List.mem_cons_of_mem _ ha
    have sx : ∀ a ∈ x :: ys, a ∈ x :: y :: ys := fun a ha => by
      rcases List.mem_cons.mp ha with rfl | ha
      · exact List.mem_cons_self
      · exact List.mem_cons_of_mem _ (List.mem_cons_of_mem _ ha)
    by_cases c : D.ltv y x = true
    · rw [if_pos c, if_pos c]
      obtain ⟨p, q⟩ := minD_py ys y fun a ha b hb => h a (sy a ha) b (sy b hb)
      exact ⟨p, sy _ q⟩
    · rw [if_neg c, if_neg c]
      obtain ⟨p, q⟩ := minD_py ys x fun a ha b hb => h a (sx a ha) b (sx b hb)
      exact ⟨p, sx _ q⟩
theorem maxD_py : ∀ (xs : List D) (x : D), (∀ a ∈ x :: xs, ∀ b ∈ x :: xs, D.cok a b = true) → PySem.W.maxD x.py (D.pys xs) = (maxD x xs).py ∧ maxD x xs ∈ x :: xs
  | [], x, _ => ⟨rfl, by simp [maxD]⟩
  | y :: ys, x, h => by
    have e := lt_ltv x y (h x (by simp) y (by simp))
    have hx : PySem.W.maxD x.py (D.pys (y :: ys)) = PySem.W.maxD (if PySem.W.dataLt x.py y.py then y.py else x.py) (D.pys ys) := rfl
    rw [hx, e]
    simp only [maxD]
    have sy : ∀ a ∈ y :: ys, a ∈ x :: y :: ys := fun a ha => List.mem_cons_of_mem _ ha
    have sx : ∀ a ∈ x :: ys, a ∈ x :: y :: ys := fun a ha => by
      rcases List.mem_cons.mp ha with rfl | ha
      · exact List.mem_cons_self
      · exact List.mem_cons_of_mem _ (List.mem_cons_of_mem _ ha)
    by_cases c : D.ltv x y = true
    · rw [if_pos c, if_pos c]
      obtain ⟨p, q⟩ := maxD_py ys y fun a ha b hb => h a (sy a ha) b (sy b hb)
      exact ⟨p, sy _ q⟩
    · rw [if_neg c, if_neg c]
      obtain ⟨p, q⟩ := maxD_py ys x fun a ha b hb => h a (sx a ha) b (sx b hb)
      exact ⟨p, sx _ q⟩
mutual
theorem py_inj : ∀ a b : D, a.data = true → b.data = true → a.py = b.py → a = b
  | .non, b, _, h, e => by cases b <;> simp_all [D.py, D.data]
  | .bl _, b, _, h, e => by cases b <;> simp_all [D.py, D.data]
  | .int _, b, _, h, e => by cases b <;> simp_all [D.py, D.data]
  | .str _, b, _, h, e => by
    cases b <;> simp only [D.py, D.data, PyData.str.injEq, reduceCtorEq] at e h ⊢
    rw [sV_inj.mp e]
  | .tup xs, b, k, h, e => by
    cases b with
    | tup ys =>
      simp only [D.data] at k h
      simp only [D.py, PyData.tuple.injEq] at e
      rw [pys_inj xs ys k h e]
    | _ => simp_all [D.py, D.data]
  | .lst xs, b, k, h, e => by
    cases b with
    | lst ys =>
      simp only [D.data] at k h
      simp only [D.py, PyData.list.injEq] at e
      rw [pys_inj xs ys k h e]
    | _ => simp_all [D.py, D.data]
  | .ins _ _ _, _, h, _, _ => by simp [D.data] at h
  | .ref _, _, h, _, _ => by simp [D.data] at h
theorem pys_inj : ∀ a b : List D, D.datas a = true → D.datas b = true → D.pys a = D.pys b → a = b
  | [], [], _, _, _ => rfl
  | [], _ :: _, _, _, e => by simp [D.pys] at e
  | _ :: _, [], _, _, e => by simp [D.pys] at e
  | x :: xs, y :: ys, h, k, e => by
    simp only [D.datas, Bool.and_eq_true] at h k
    simp only [D.pys, List.cons.injEq] at e
    rw [py_inj x y h.1 k.1 e.1, pys_inj xs ys h.2 k.2 e.2]
end
end Mi
end
section
set_option Elab.async false
set_option linter.all false
set_option maxRecDepth 100000
set_option maxHeartbeats 1000000
/-! built-in functions: the calls -/
namespace Mi
open PySem L2 PyProof.Rows
theorem val_eqI {u : Value} {m : Int} {h : Heap} {bs : List Addr} (r : Reads h u (.int m) bs) : ∃ t, u = .int m t := by
  cases r; exact ⟨_, rfl⟩
theorem canLay_mem : ∀ {ds : List D} {m : D}, PyData.canLayAll0 (D.pys ds) = true → m ∈ ds → m.py.canLay0 = true
  | d :: ds, m, h, hm => by
    simp only [D.pys, PyData.canLayAll0, Bool.and_eq_true] at h
    rcases List.mem_cons.mp hm with rfl | hm
    · exact h.1
    · exact canLay_mem h.2 hm
section
variable {G : Gd} {k : Nat} {Wx : WX} {N : List Str} {sc : Scope} {X : Cx}
theorem mm_pick {W : Wd} {h h' : Heap} {ds : List D} {vs : List V} {us : List Value} {as bs : List Addr} {m : D} {i : Nat} {v : Value} (hd : D.datas ds = true) (r : RepVs G W ds vs) (rv : Vals vs us) (ra : ReadsAll h us (D.pys ds) as) (kp : ∀ b o, h.get? b = some o → h'.get? b = some o) (cl : PyData.canLayAll0 (D.pys ds) = true)
    (hm : m ∈ ds) (hv : us[i]? = some v) (rm : Reads h' v m.py bs) : ∃ x, RepV G W m x ∧ RelV x v := by
  have ra' : ReadsAll h' us (D.pys ds) as := ReadsAll.keeps kp ra
  have e := SeqAt.readsAll_map _ _ _ cl ra'
  have hi : (us.map (SeqAt.readOf h'))[i]? = some (SeqAt.readOf h' v) := by rw [List.getElem?_map, hv]; rfl
  rw [e, pys_map, List.getElem?_map] at hi
  obtain ⟨d, h1, h2⟩ := Option.map_eq_some_iff.mp hi
  have e2 := SeqAt.readOf_eq (canLay_mem cl hm) rm
  rw [e2] at h2
  have ed : d = m := py_inj d m (datas_mem hd d (List.mem_of_getElem? h1)) (datas_mem hd m hm) h2
  subst ed
  obtain ⟨x, g1, g2⟩ := r.get h1
  obtain ⟨u, g3, g4⟩ := rv.get g1
  rw [hv] at g3; cases g3
  exact ⟨x, g2, g4⟩
/-- a call of one argument -/
theorem one_ok {f : Value} {g : Sto → D → Res D} (h : ∀ (pins : List (Addr × Obj)) (s : Shared) (σ : L2.St) (H : Hp) (x : V) (u : Value) (Q : VK) (W : Wd) (S : Sto) (d : D), L2.Inv X pins σ H s → RelV x u → Sim G W S H → RepV G W d x → Post G W H Wx (fun W' d v => RepV G W' d v) (g S d) Q →
    wpAny (model X.prog X.w) X.A (call f [u]) (EP X pins σ Q) X.xe s) : CallR X f (opn G Wx fun xs S => one xs (g S)) := by
  intro pins s σ H xs us Q I rv ⟨W, S, ds, si, r, po⟩
  match ds, r, po with
  | [], r, po => exact False.elim po
  | [d], r, po =>
    simp only [RepVs] at r
    obtain ⟨v, t, rfl, r1, rfl⟩ := r
    obtain ⟨u, rfl, ru⟩ := vals1 rv
    exact h pins s σ H v u Q W S d I ru si r1 po
  | _ :: _ :: _, r, po => exact False.elim po
theorem two_ok {f : Value} {g : Sto → D → D → Res D} (h : ∀ (pins : List (Addr × Obj)) (s : Shared) (σ : L2.St) (H : Hp) (x y : V) (u w : Value) (Q : VK) (W : Wd) (S : Sto) (d e : D), L2.Inv X pins σ H s → RelV x u → RelV y w → Sim G W S H → RepV G W d x → RepV G W e y → Post G W H Wx (fun W' d v => RepV G W' d v) (g S d e) Q →
    wpAny (model X.prog X.w) X.A (call f [u, w]) (EP X pins σ Q) X.xe s) : CallR X f (opn G Wx fun xs S => two xs (g S)) := by
  intro pins s σ H xs us Q I rv ⟨W, S, ds, si, r, po⟩
  match ds, r, po with
  | [], r, po => exact False.elim po
  | [_], r, po => exact False.elim po
  | [d, e], r, po =>
    simp only [RepVs] at r
    obtain ⟨v, t, rfl, r1, y, t', rfl, r2, rfl⟩ := r
    obtain ⟨u, w, rfl, ru, rw'⟩ := vals2 rv
    exact h pins s σ H v y u w Q W S d e I ru rw' si r1 r2 po
  | _ :: _ :: _ :: _, r, po => exact False.elim po
theorem dct_of {W : Wd} {S : Sto} {H : Hp} {d : D} {v : V} {t : Bool} {kvs : List (D × D)} (si : Sim G W S H) (r : RepV G W d v) (h : dctOf S d = some (t, kvs)) : ∃ a, v = .ref a ∧
    (match t with
      | false => ∃ vs, Rd H a (.dK vs) ∧ RepKs G W KeyR kvs vs
      | true => ∃ vs, Rd H a (.dT vs) ∧ RepKs G W TupR kvs vs) := by
  cases d with
  | ref n =>
    simp only [dctOf] at h
    split at h
    · rename_i t' lk kvs' hx
      cases h
      simp only [RepV] at r
      obtain ⟨a, rfl, q⟩ := r
      have ro := si.obj n a _ q hx
      refine ⟨a, rfl, ?_⟩
      cases t with
      | false => obtain ⟨vs, h1, h2⟩ := ro; exact ⟨vs, h1.rd, h2⟩
      | true => obtain ⟨vs, h1, h2⟩ := ro; exact ⟨vs, h1.rd, h2⟩
    · cases h
  | _ => simp [dctOf] at h
theorem blt_len (c : CxOk G k Wx N sc X) : CallR X (.builtin "len") (opn G Wx fun xs S => one xs (lenD S)) := by
  refine one_ok fun pins s σ H x u Q W S d I rx si r po => ?_
  unfold lenD at po
  split at po
  · rename_i z
    split at po
    · rename_i hz
      simp only [RepV] at r
      obtain ⟨rfl, _⟩ := r
      refine call_len pins s σ H _ _ Q I (.cons rx .nil) ⟨_, z.length, rfl, ⟨by rw [sV_len, ← LINE_eq]; exact hz, (sV_len z).symm⟩, po.ok si (by simp [RepV])⟩
    · exact False.elim po
  · split at po
    · rename_i t kvs hd
      obtain ⟨a, rfl, h⟩ := dct_of si r hd
      cases rx
      cases t with
      | false =>
        obtain ⟨vs, h1, h2⟩ := h
        refine d_len I h1 fun t s' I' => ?_
        rw [← h2.len]
        exact ⟨.int kvs.length, H, I', ⟨_, rfl⟩, po.ok si (by simp [RepV])⟩
      | true =>
        obtain ⟨vs, h1, h2⟩ := h
        obtain ⟨z, hd', ys, rel, dd⟩ := dt_rd I.hok h1
        have hl : vs.length = ys.length := Paired.length rel
        refine call_len_dictH hd' dd (by rw [← hl]; rw [sizeLine_eq] at z; omega) ?_
        rw [← hl, ← h2.len]
        exact ⟨.int kvs.length, H, I.tok _, ⟨_, rfl⟩, po.ok si (by simp [RepV])⟩
    · split at po
      · rename_i ys hs
        obtain ⟨a, vs, rfl, q, t⟩ := seq_any si r hs
        rw [← c.cK] at q
        refine call_len pins s σ H _ _ Q I (.cons rx .nil) ⟨_, vs.length, rfl, ?_, ?_⟩
        · rcases q with q | q
          · exact .inl ⟨vs, q, rfl⟩
          · exact .inr ⟨vs, q, rfl⟩
        · rw [← t.len]; exact po.ok si (by simp [RepV])
      · exact False.elim po
theorem blt_abs : CallR X (.builtin "abs") (opn G Wx fun xs S => one xs (absD S)) := by
  refine one_ok fun pins s σ H x u Q W S d I rx si r po => ?_
  unfold absD at po
  split at po
  · simp only [RepV] at r
    subst r
    exact call_abs pins s σ H _ _ Q I (.cons rx .nil) ⟨_, rfl, po.ok si (by simp [RepV])⟩
  · exact False.elim po
theorem blt_int : CallR X (.type "int") (opn G Wx fun xs S => one xs (intD S)) := by
  refine one_ok fun pins s σ H x u Q W S d I rx si r po => ?_
  unfold intD at po
  split at po
  · simp only [RepV] at r
    subst r
    exact call_int1 pins s σ H _ _ Q I (.cons rx .nil) (.inl ⟨_, rfl, po.ok si (by simp [RepV])⟩)
  · simp only [RepV] at r
    subst r
    exact call_int1 pins s σ H _ _ Q I (.cons rx .nil) (.inr ⟨_, rfl, po.ok si (by simp [RepV])⟩)
  · exact False.elim po
theorem sV_digits (i : Int) : (toString i : Str) = sV (digits i) ∧ sOk (digits i) := by
  constructor
  · show Str.ofString (toString i) = _
    rw [Str.ofString_eq_toList]
    rfl
  · intro c hc
    unfold digits at hc
    obtain ⟨x, _, rfl⟩ := List.mem_map.mp hc
    have := x.valid
    unfold Nat.isValidChar at this
    show x.val.toNat < 1114112
    rcases this with h | h
    · omega
    · omega
theorem blt_str : CallR X (.type "str") (opn G Wx fun xs S => one xs (strD S)) := by
  refine one_ok fun pins s σ H x u Q W S d I rx si r po => ?_
  unfold strD at po
  split at po
  · simp only [RepV] at r
    subst r
    split at po
    · rename_i i hz
      exact call_str_int pins s σ H _ _ Q I (.cons rx .nil) ⟨_, rfl, hz, po.ok si (by simp only [RepV]; exact ⟨congrArg V.str (sV_digits i).1, (sV_digits i).2⟩)⟩
    · exact False.elim po
  · exact False.elim po
theorem blt_list (c : CxOk G k Wx N sc X) (m : Bool) : CallR X (.type "list") (opn G Wx fun xs S => one xs (listD m S)) := by
  refine one_ok fun pins s σ H x u Q W S d I rx si r po => ?_
  unfold listD at po
  split at po
  · rename_i ys hs
    obtain ⟨a, vs, rfl, q, t⟩ := seq_any si r hs
    rw [← c.cK] at q
    exact call_list_of pins s σ H _ _ Q I (.cons rx .nil) ⟨a, vs, rfl, q, (post_lst si t po).2⟩
  · exact False.elim po
theorem blt_tuple (c : CxOk G k Wx N sc X) : CallR X (.type "tuple") (opn G Wx fun xs S => one xs (tupleD S)) := by
  refine one_ok fun pins s σ H x u Q W S d I rx si r po => ?_
  unfold tupleD at po
  split at po
  · rename_i ys hs
    cases d with
    | tup zs =>
      simp only [seqOf, Option.some.injEq] at hs; subst hs
      have r' := r
      simp only [RepV] at r'
      obtain ⟨a, vs, rfl, q, t⟩ := r'
      exact call_tuple_of pins s σ H _ _ Q I (.cons rx .nil) ⟨a, vs, rfl, .inr ⟨by rw [c.cK]; exact sqt_up si.sub q, po.ok si r⟩⟩
    | _ =>
      obtain ⟨a, vs, rfl, q, t⟩ := seq_list si r hs (by simp)
      exact call_tuple_of pins s σ H _ _ Q I (.cons rx .nil) ⟨a, vs, rfl, .inl ⟨.inl q, post_tup si t po⟩⟩
  · exact False.elim po
theorem blt_sum (c : CxOk G k Wx N sc X) : CallR X (.builtin "sum") (opn G Wx fun xs S => one xs (sumD S)) := by
  refine one_ok fun pins s σ H x u Q W S d I rx si r po => ?_
  unfold sumD at po
  split at po
  · rename_i ns hs
    obtain ⟨ds, h1, h2⟩ := Option.bind_eq_some_iff.mp hs
    obtain ⟨a, us, rfl, hi, hl⟩ := seq_ints c I rx si r h1 h2
    rcases hl with hl | hl
    · exact sum_raw (I.ok.hd c.calm) hl hi fun h' tk t' hk => ⟨.int _, H, I.kept hk, ⟨_, rfl⟩, po.ok si (by simp [RepV])⟩
    · exact sum_rawT (I.ok.hd c.calm) hl hi fun h' tk t' hk => ⟨.int _, H, I.kept hk, ⟨_, rfl⟩, po.ok si (by simp [RepV])⟩
  · exact False.elim po
theorem ints_min (c : CxOk G k Wx N sc X) {pins : List (Addr × Obj)} {σ : L2.St} {s : Shared} {H : Hp} {a : Addr} {us : List Value} {n : Int} {ns : List Int} {Q : VK} {dv : Value} (I : L2.Inv X pins σ H s) (hi : IntsAre us (n :: ns)) (hl : s.heap.IsList a us.toArray ∨ s.heap.IsTuple a us.toArray) :
    (Q (.int (minI n ns)) H → wpAny (model X.prog X.w) X.A (call (.builtin "min") [.ref a]) (EP X pins σ Q) X.xe s) ∧ (Q (.int (maxI n ns)) H → wpAny (model X.prog X.w) X.A (call (.builtin "max") [.ref a]) (EP X pins σ Q) X.xe s) ∧
    (Q (.int (maxI n ns)) H → wpAny (model X.prog X.w) X.A (call (.builtin "max") [.ref a] [(Str.ofString "default", dv)]) (EP X pins σ Q) X.xe s) := by
  have ra := ints_reads (h := s.heap) hi
  have hu : X.A.units + 1 + PyData.depthAll (PyData.int n :: ns.map .int) < cLine := by
    have := PySem.W.depth_ints (n :: ns)
    have e : (PyData.int n :: ns.map PyData.int) = (n :: ns).map .int := rfl
    rw [e, this]
    have := c.units
    omega
  have al := alike_ints' (n :: ns)
  refine ⟨fun q => ?_, fun q => ?_, fun q => ?_⟩
  · have fin : ∀ (i : Nat) (v : Value) (h' : Heap) (tk : Nat) (bs : List Addr), us.toArray[i]? = some v → Reads h' v (PySem.W.minD (.int n) (ns.map .int)) bs → (∀ b o, s.heap.get? b = some o → h'.get? b = some o) → EP X pins σ Q v { s with heap := h', toks := tk } := by
      intro i v h' tk bs _ rv hk
      rw [PySem.W.minD_ints, ← minI_fold] at rv
      obtain ⟨t, rfl⟩ := val_eqI rv
      exact ⟨.int _, H, I.kept hk, ⟨_, rfl⟩, q⟩
    rcases hl with hl | hl
    · exact PySem.W.min_list_data (I.ok.hd c.calm) hl ra al hu fin
    · exact PySem.W.min_tuple_data (I.ok.hd c.calm) hl ra al hu fin
  · have fin : ∀ (i : Nat) (v : Value) (h' : Heap) (tk : Nat) (bs : List Addr), us.toArray[i]? = some v → Reads h' v (PySem.W.maxD (.int n) (ns.map .int)) bs → (∀ b o, s.heap.get? b = some o → h'.get? b = some o) → EP X pins σ Q v { s with heap := h', toks := tk } := by
      intro i v h' tk bs _ rv hk
      rw [PySem.W.maxD_ints, ← maxI_fold] at rv
      obtain ⟨t, rfl⟩ := val_eqI rv
      exact ⟨.int _, H, I.kept hk, ⟨_, rfl⟩, q⟩
    rcases hl with hl | hl
    · exact PySem.W.max_list_data (I.ok.hd c.calm) hl ra al hu fin
    · exact PySem.W.max_tuple_data (I.ok.hd c.calm) hl ra al hu fin
  · have fin : ∀ (y : PyData) (ys : List PyData) (i : Nat) (v : Value) (h' : Heap) (tk : Nat) (bs : List Addr), (n :: ns).map PyData.int = y :: ys → us.toArray[i]? = some v → Reads h' v (PySem.W.maxD y ys) bs → (∀ b o, s.heap.get? b = some o → h'.get? b = some o) → EP X pins σ Q v { s with heap := h', toks := tk } := by
      intro y ys i v h' tk bs e _ rv hk
      simp only [List.map_cons, List.cons.injEq] at e
      obtain ⟨rfl, rfl⟩ := e
      rw [PySem.W.maxD_ints, ← maxI_fold] at rv
      obtain ⟨t, rfl⟩ := val_eqI rv
      exact ⟨.int _, H, I.kept hk, ⟨_, rfl⟩, q⟩
    rcases hl with hl | hl
    · exact PySem.W.max_list_default (I.ok.hd c.calm) hl ra al hu (by simp) fin
    · exact PySem.W.max_tuple_default (I.ok.hd c.calm) hl ra al hu (by simp) fin
theorem blt_min (c : CxOk G k Wx N sc X) : CallR X (.builtin "min") (opn G Wx fun xs S => one xs (minB S)) := by
  refine one_ok fun pins s σ H x u Q W S d I rx si r po => ?_
  unfold minB at po
  split at po
  · rename_i y ys hs
    split at po
    · rename_i n ns hi
      obtain ⟨a, us, rfl, hi, hl⟩ := seq_ints c I rx si r hs hi
      exact (ints_min (dv := .none) c I hi hl).1 (po.ok si (by simp [RepV]))
    · split at po
      · rename_i hc
        obtain ⟨h1, h2, h3⟩ := cokAll_iff hc
        obtain ⟨a, vs, us, as, rfl, r', rv, ra, hl⟩ := seq_data c I rx si r hs h1
        have cl := (reps_dp si.sub _ vs h1 r').2
        have hu : X.A.units + 1 + PyData.depthAll (D.pys (y :: ys)) < cLine := by
          rw [pys_depth _ h1]
          have := c.units
          omega
        obtain ⟨e1, e2⟩ := minD_py ys y h3
        have fin : ∀ (i : Nat) (v : Value) (h' : Heap) (tk : Nat) (bs : List Addr), us.toArray[i]? = some v → Reads h' v (PySem.W.minD y.py (D.pys ys)) bs → (∀ b o, s.heap.get? b = some o → h'.get? b = some o) → EP X pins σ Q v { s with heap := h', toks := tk } := by
          intro i v h' tk bs hv rm hk
          rw [e1] at rm
          obtain ⟨x, g1, g2⟩ := mm_pick h1 r' rv ra hk cl e2 (by simpa using hv) rm
          exact ⟨x, H, I.kept hk, g2, po.ok si g1⟩
        rcases hl with hl | hl
        · exact PySem.W.min_list_data (I.ok.hd c.calm) hl (by simpa only [D.pys] using ra) (by simpa only [D.pys] using cokAll_alike hc) (by simpa only [D.pys] using hu) fin
        · exact PySem.W.min_tuple_data (I.ok.hd c.calm) hl (by simpa only [D.pys] using ra) (by simpa only [D.pys] using cokAll_alike hc) (by simpa only [D.pys] using hu) fin
      · exact False.elim po
  · exact False.elim po
theorem blt_max (c : CxOk G k Wx N sc X) : CallR X (.builtin "max") (opn G Wx fun xs S => one xs (maxB S)) := by
  refine one_ok fun pins s σ H x u Q W S d I rx si r po => ?_
  unfold maxB at po
  split at po
  · rename_i y ys hs
    split at po
    · rename_i n ns hi
      obtain ⟨a, us, rfl, hi, hl⟩ := seq_ints c I rx si r hs hi
      exact (ints_min (dv := .none) c I hi hl).2.1 (po.ok si (by simp [RepV]))
    · split at po
      · rename_i hc
        obtain ⟨h1, h2, h3⟩ := cokAll_iff hc
        obtain ⟨a, vs, us, as, rfl, r', rv, ra, hl⟩ := seq_data c I rx si r hs h1
        have cl := (reps_dp si.sub _ vs h1 r').2
        have hu : X.A.units + 1 + PyData.depthAll (D.pys (y :: ys)) < cLine := by
          rw [pys_depth _ h1]
          have := c.units
          omega
        obtain ⟨e1, e2⟩ := maxD_py ys y h3
        have fin : ∀ (i : Nat) (v : Value) (h' : Heap) (tk : Nat) (bs : List Addr), us.toArray[i]? = some v → Reads h' v (PySem.W.maxD y.py (D.pys ys)) bs → (∀ b o, s.heap.get? b = some o → h'.get? b = some o) → EP X pins σ Q v { s with heap := h', toks := tk } := by
          intro i v h' tk bs hv rm hk
          rw [e1] at rm
          obtain ⟨x, g1, g2⟩ := mm_pick h1 r' rv ra hk cl e2 (by simpa using hv) rm
          exact ⟨x, H, I.kept hk, g2, po.ok si g1⟩
        rcases hl with hl | hl
        · exact PySem.W.max_list_data (I.ok.hd c.calm) hl (by simpa only [D.pys] using ra) (by simpa only [D.pys] using cokAll_alike hc) (by simpa only [D.pys] using hu) fin
        · exact PySem.W.max_tuple_data (I.ok.hd c.calm) hl (by simpa only [D.pys] using ra) (by simpa only [D.pys] using cokAll_alike hc) (by simpa only [D.pys] using hu) fin
      · exact False.elim po
  · exact False.elim po
theorem blt_min2 (c : CxOk G k Wx N sc X) : CallR X (.builtin "min") (opn G Wx fun xs S => two xs (min2D S)) := by
  refine two_ok fun pins s σ H x y u w Q W S d e I rx ry si r1 r2 po => ?_
  unfold min2D at po
  split at po
  · simp only [RepV] at r1 r2
    subst r1 r2
    exact call_min2 c.calm pins s σ H _ _ Q I (.cons rx (.cons ry .nil)) ⟨_, _, rfl, po.ok si (by simp [RepV])⟩
  · exact False.elim po
theorem blt_max2 (c : CxOk G k Wx N sc X) : CallR X (.builtin "max") (opn G Wx fun xs S => two xs (max2D S)) := by
  refine two_ok fun pins s σ H x y u w Q W S d e I rx ry si r1 r2 po => ?_
  unfold max2D at po
  split at po
  · simp only [RepV] at r1 r2
    subst r1 r2
    exact call_max2 c.calm pins s σ H _ _ Q I (.cons rx (.cons ry .nil)) ⟨_, _, rfl, po.ok si (by simp [RepV])⟩
  · exact False.elim po
theorem blt_all (c : CxOk G k Wx N sc X) : CallR X (.builtin "all") (opn G Wx fun xs S => one xs (allD S)) := by
  refine one_ok fun pins s σ H x u Q W S d I rx si r po => ?_
  unfold allD at po
  split at po
  · rename_i bs hs
    obtain ⟨ds, h1, h2⟩ := Option.bind_eq_some_iff.mp hs
    cases d with
    | tup zs => simp [lsq] at h1
    | _ =>
      obtain ⟨a, vs, rfl, q, t⟩ := seq_list si r (by simpa only [lsq] using h1) (by simp)
      have e := reps_bools h2 t
      subst e
      exact cr_all c.calm pins s σ H _ _ Q I (.cons rx .nil) ⟨a, bs, rfl, .inl q, po.ok si (by simp [RepV])⟩
  · exact False.elim po
theorem blt_any (c : CxOk G k Wx N sc X) : CallR X (.builtin "any") (opn G Wx fun xs S => one xs (anyD S)) := by
  refine one_ok fun pins s σ H x u Q W S d I rx si r po => ?_
  unfold anyD at po
  split at po
  · rename_i bs hs
    obtain ⟨ds, h1, h2⟩ := Option.bind_eq_some_iff.mp hs
    cases d with
    | tup zs => simp [lsq] at h1
    | _ =>
      obtain ⟨a, vs, rfl, q, t⟩ := seq_list si r (by simpa only [lsq] using h1) (by simp)
      have e := reps_bools h2 t
      subst e
      exact cr_any c.calm pins s σ H _ _ Q I (.cons rx .nil) ⟨a, bs, rfl, .inl q, po.ok si (by simp [RepV])⟩
  · exact False.elim po
theorem blt_maxd (c : CxOk G k Wx N sc X) {pins : List (Addr × Obj)} {s : Shared} {σ : L2.St} {H : Hp} {x : V} {u : Value} {t : Tok} {Q : VK} {W : Wd} {S : Sto} {d : D} (I : L2.Inv X pins σ H s) (rx : RelV x u) (si : Sim G W S H) (r : RepV G W d x) (po : Post G W H Wx (fun W' d v => RepV G W' d v) (maxdB S d) Q) :
    wpAny (model X.prog X.w) X.A (call (.builtin "max") [u] [(Str.ofString "default", .int 0 t)]) (EP X pins σ Q) X.xe s := by
  unfold maxdB at po
  split at po
  · rename_i n ns hs
    obtain ⟨ds, h1, h2⟩ := Option.bind_eq_some_iff.mp hs
    obtain ⟨a, us, rfl, hi, hl⟩ := seq_ints c I rx si r h1 h2
    exact (ints_min c I hi hl).2.2 (po.ok si (by simp [RepV]))
  · rename_i hs
    obtain ⟨ds, h1, h2⟩ := Option.bind_eq_some_iff.mp hs
    obtain ⟨a, us, rfl, hi, hl⟩ := seq_ints c I rx si r h1 h2
    have ra := ints_reads (h := s.heap) hi
    have hu : X.A.units + 1 + PyData.depthAll ([] : List PyData) < cLine := by
      have := c.units
      simp only [PyData.depthAll]
      omega
    have q := po.ok si (v := .int 0) (by simp [RepV])
    rcases hl with hl | hl
    · exact PySem.W.max_list_default (I.ok.hd c.calm) hl ra (alike_ints' []) hu (fun _ h' tk hk => ⟨.int 0, H, I.kept hk, ⟨_, rfl⟩, q⟩) (by simp)
    · exact PySem.W.max_tuple_default (I.ok.hd c.calm) hl ra (alike_ints' []) hu (fun _ h' tk hk => ⟨.int 0, H, I.kept hk, ⟨_, rfl⟩, q⟩) (by simp)
  · exact False.elim po
end
end Mi
end
section
set_option Elab.async false
set_option linter.all false
set_option maxRecDepth 100000
set_option maxHeartbeats 1000000
/-! sorted, dict(d); methods -/
namespace Mi
open PySem L2 PyProof.Rows
section
variable {prog : Program} {w : World} {A : Around} {E : Value → Shared → Prop} {s : Shared}
theorem collect_tuple {l : Addr} {vs : List Value} {Q : List Value → Shared → Prop} (hl : s.heap.IsTuple l vs.toArray)
    (h : Q vs { s with heap := (s.heap.push (seqObj "list" #[] 0)).update s.heap.objs.size (Obj.mapSeq (· ++ vs.toArray)) }) (hsz : vs.length ≤ sizeLine) :
    wpAny (model prog w) A (collect (.ref l)) Q E s := by
  obtain ⟨o, ho, hc, n, hd⟩ := id hl
  unfold collect
  refine wpAny_bind (wpAny_runValue (codeAny_builtin entry_proto_collect' ?_))
  show wpAny _ _ (do again (.builtin "list.__iadd__" ⟨[← newList [], .ref l], []⟩)) _ _ s
  refine wpAny_bind (wpAny_newList (wpAny_pure ⟨Code.quiet_builtin _ (by decide +kernel), codeAny_builtin entry_list_iadd' ?_⟩))
  show wpAny _ _ (Builtin.List.listExtendWith (.ref s.heap.objs.size) (.ref l) (.ref s.heap.objs.size)) _ _ { s with heap := s.heap.push (seqObj "list" #[] 0) }
  unfold Builtin.List.listExtendWith
  have ho' : (s.heap.push (seqObj "list" #[] 0)).get? l = some o := Heap.get?_push_of_some _ ho
  refine wpAny_bind (wpAny_typeOf (T := "tuple") ⟨o, ho', hc⟩ ?_)
  have ht : (Value.type "tuple" == Value.type "tuple") = true := by rfl
  rw [if_pos (by rw [ht]; simp)]
  refine wpAny_bind (listItems_at ho' hd ?_)
  refine wpAny_bind (listItems_at (xs := #[]) (n := 0) (Heap.get?_push_size _ rfl) rfl ?_)
  rw [if_neg (by simp)]
  refine wpAny_bind (listUpdate_at (xs := #[]) (n := 0) (Heap.get?_push_size _ rfl) rfl ?_ (Nat.zero_le _) (by show (#[] ++ vs.toArray).size ≤ sizeLine + 1; simp only [Array.size_append, List.size_toArray, List.length_nil]; omega))
  refine wpAny_pure ?_
  show wpAny (model prog w) A (do
      let o ← load s.heap.objs.size
      match o.data with
      | .seq xs _ => pure xs.toList
      | _ => unsupported "internal:collect") Q E { s with heap := (s.heap.push (seqObj "list" #[] 0)).update s.heap.objs.size (Obj.mapSeq (· ++ vs.toArray)) }
  refine wpAny_bind (wpAny_load (get?_update_seq (Heap.get?_push_size _ rfl) _) ?_)
  show wpAny _ _ (pure ((#[] : Array Value) ++ vs.toArray).toList) Q E _
  rw [show ((#[] : Array Value) ++ vs.toArray).toList = vs by simp]
  exact wpAny_pure h
open PySem.W PySem.Calls in
theorem sorted_of_tuple {l : Addr} {vs : List Value} {kw : List (Str × Value)} {Q : Value → Shared → Prop} (hl : s.heap.IsTuple l vs.toArray) (hL : vs.length ≤ sizeLine) (ha1 : argsOk "sorted" ⟨[.ref l], kw⟩) (ha2 : ∀ x, argsOk "list.sort" ⟨[.ref x], kw⟩)
    (body : ∀ E' : Value → Shared → Prop, wpAny (model prog w) A.in1.in1 (Builtin.«list.sort» ⟨[.ref (s.heap.objs.size + 1)], kw⟩) (fun f s' => f = .done (.ret .none) ∧ Q (.ref (s.heap.objs.size + 1)) s') E' { s with heap := copyHeap s.heap vs }) :
    wpAny (model prog w) A (call (.builtin "sorted") [.ref l] kw) Q E s := by
  refine call_function_entry_kw kind_sorted plain_sorted entry_sorted ha1 ?_
  unfold Builtin.«sorted»
  refine wpAny_bind (m := checkCount "sorted" 1 1 _) (wpAny_pure ?_)
  refine wpAny_bind (collect_tuple hl ?_ hL)
  refine wpAny_bind (wpAny_newList ?_ hL)
  have hsz : ((s.heap.push (seqObj "list" #[] 0)).update s.heap.objs.size (Obj.mapSeq (· ++ vs.toArray))).objs.size = s.heap.objs.size + 1 := by
    rw [Heap.size_update, size_push']
  show wpAny _ _ _ _ _ { s with heap := copyHeap s.heap vs }
  rw [hsz]
  refine wpAny_bind (wpAny_holding (wpAny_call_entry_kw slot_list_sort ⟨_, copyHeap_at s.heap vs, rfl⟩ entry_list_sort ?body (ha2 _)))
  case body =>
    show wpAny (model prog w) A.in1.in1 (Builtin.«list.sort» ⟨[.ref (s.heap.objs.size + 1)], kw⟩) _ _ _
    refine wpAny_mono (body _) (fun f s' hf => ?_) fun _ _ e => e
    obtain ⟨rfl, hq⟩ := hf
    exact ⟨_, rfl, wpAny_pure ⟨_, rfl, hq⟩⟩
open PySem.W PySem.Calls in
theorem sorted_dataT {β : Type} {vs : List Value} {bs : List β} {enc : β → PyData} {R : Value → β → Prop} {l : Addr} {Q : Value → Shared → Prop} (hl : s.heap.IsTuple l vs.toArray) (e : EachIs R vs bs) (er : EachIs (fun v b => ∃ as, Reads s.heap v (enc b) as) vs bs) (hal : AllAlike (bs.map enc)) (hk : Sortable (bs.map enc)) (hL : bs.length ≤ sizeLine)
    (hu : ∀ b, b ∈ bs → A.units + 2 + (enc b).depth < cLine) (h : ∀ out, out.length = bs.length → EachIs R out (bs.mergeSort (dataLe false enc)) → Q (.ref (s.heap.objs.size + 1)) { s with heap := sortedAll s.heap vs (List.toArray out) }) :
    wpAny (model prog w) A (call (.builtin "sorted") [.ref l]) Q E s := by
  have er' : EachIs (fun v b => ∃ as, Reads (sortingHeap (copyHeap s.heap vs) (s.heap.objs.size + 1) vs) v (enc b) as) vs bs := er.mono fun _ _ ⟨as, r⟩ => ⟨as, PyProof.Rows.Reads.keeps (fun _ _ => sorting_copy_old) r⟩
  have hL' : vs.length ≤ sizeLine := by rw [e.length]; exact hL
  have S : SortsAt prog w A.in1.in1 { s with heap := sortingHeap (copyHeap s.heap vs) (s.heap.objs.size + 1) vs } (dataKind (sortingHeap (copyHeap s.heap vs) (s.heap.objs.size + 1) vs) (bs.map enc)) vs :=
    SortsAt.data (s := { s with heap := sortingHeap (copyHeap s.heap vs) (s.heap.objs.size + 1) vs }) (each_map (R := fun v d => ∃ as, Reads (sortingHeap (copyHeap s.heap vs) (s.heap.objs.size + 1) vs) v d as) enc er') hal hk (bound_map hu)
  exact sorted_of_tuple hl hL' (args_sorted1 _) (fun _ => args_list_sort _) fun _ => list_sort_vals (s := { s with heap := copyHeap s.heap vs }) (copyHeap_at s.heap vs) S hL' ⟨rfl, h _ (by rw [sortVals_length false rfl]; exact e.length) (sortVals_data false e er' hal)⟩
end
section
variable {G : Gd} {k : Nat} {Wx : WX} {N : List Str} {sc : Scope} {X : Cx}
theorem sort_each {W : Wd} : ∀ {zs : List (D × V)} {out : List Value}, (∀ z ∈ zs, RepV G W z.1 z.2) → PySem.W.EachIs (fun u (z : D × V) => RelV z.2 u) out zs → RepVs G W (zs.map (·.1)) (zs.map (·.2)) ∧ Vals (zs.map (·.2)) out
  | _, _, _, .nil => ⟨by simp [RepVs], .nil⟩
  | z :: zs, _, h, .cons r t => by
    obtain ⟨a, b⟩ := sort_each (fun z hz => h z (by simp [hz])) t
    exact ⟨a.cons (h z (by simp)), .cons r b⟩
theorem zip_each {W : Wd} {h : Heap} : ∀ {ds : List D} {vs : List V} {us : List Value} {as : List Addr}, RepVs G W ds vs → Vals vs us → ReadsAll h us (D.pys ds) as → PySem.W.EachIs (fun u (z : D × V) => RelV z.2 u) us (ds.zip vs) ∧ PySem.W.EachIs (fun u (z : D × V) => ∃ as, Reads h u z.1.py as) us (ds.zip vs) ∧ (∀ z ∈ ds.zip vs, RepV G W z.1 z.2)
  | [], vs, us, as, r, rv, ra => by
    simp only [RepVs] at r; subst r
    cases rv
    exact ⟨.nil, .nil, by simp⟩
  | d :: ds, vs, us, as, r, rv, ra => by
    simp only [RepVs] at r
    obtain ⟨v, t, rfl, r1, r2⟩ := r
    cases rv with
    | cons q1 q2 =>
      simp only [D.pys] at ra
      cases ra with
      | cons a1 a2 =>
        obtain ⟨x, y, z⟩ := zip_each r2 q2 a2
        exact ⟨.cons q1 x, .cons ⟨_, a1⟩ y, fun w hw => by
          rcases List.mem_cons.mp hw with rfl | hw
          · exact r1
          · exact z w hw⟩
theorem zip_fst {α β : Type} : ∀ {xs : List α} {ys : List β}, xs.length = ys.length → (xs.zip ys).map (·.1) = xs
  | [], [], _ => rfl
  | x :: xs, y :: ys, h => by simp only [List.zip_cons_cons, List.map_cons, zip_fst (show xs.length = ys.length by simpa using h)]
  | [], _ :: _, h => by simp at h
  | _ :: _, [], h => by simp at h
theorem zip_mem {α β : Type} {xs : List α} {ys : List β} {z : α × β} (h : z ∈ xs.zip ys) : z.1 ∈ xs := (List.of_mem_zip h).1
theorem dep_mem : ∀ {ds : List D} {d : D}, d ∈ ds → d.dep ≤ D.deps ds
  | x :: xs, d, h => by
    simp only [D.deps]
    rcases List.mem_cons.mp h with rfl | h
    · omega
    · have := dep_mem h; omega
theorem blt_sorted (c : CxOk G k Wx N sc X) : CallR X (.builtin "sorted") (opn G Wx fun xs S => one xs (sortB S)) := by
  refine one_ok fun pins s σ H x u Q W S d I rx si r po => ?_
  unfold sortB at po
  split at po
  · rename_i ds hs
    split at po
    · rename_i hc
      obtain ⟨hz, hc⟩ := hc
      unfold sortOk at hc
      simp only [Bool.and_eq_true, Bool.or_eq_true, List.all_eq_true] at hc
      obtain ⟨hc, hk⟩ := hc
      obtain ⟨h1, h2, h3⟩ := cokAll_iff hc
      obtain ⟨a, vs, us, as, rfl, r', rv, ra, hl⟩ := seq_data c I rx si r hs h1
      obtain ⟨e1, e2, e3⟩ := zip_each r' rv ra
      have hen : (ds.zip vs).map (fun z : D × V => z.1.py) = D.pys ds := by
        rw [pys_map, ← zip_fst r'.len, List.map_map, zip_fst r'.len]; rfl
      have ln : (ds.zip vs).length = ds.length := by rw [List.length_zip, ← r'.len]; simp
      have hal : PySem.W.AllAlike ((ds.zip vs).map fun z => z.1.py) := by
        rw [hen]
        exact fun x hx y hy => (cokAll_alike hc).1 x hx y hy
      have hso : PySem.W.Sortable ((ds.zip vs).map fun z => z.1.py) := by
        rw [hen, pys_map]
        rcases hk with hk | hk
        · refine .inl fun x hx => ?_
          obtain ⟨d, hd, rfl⟩ := List.mem_map.mp hx
          have := hk d hd
          split at this
          · simp [D.py, D.pys]
          · cases this
        · refine .inr fun x hx => ?_
          obtain ⟨d, hd, rfl⟩ := List.mem_map.mp hx
          have := hk d hd
          split at this
          · simp [D.py]
          · cases this
      have hum : ∀ b, b ∈ ds.zip vs → X.A.units + 2 + b.1.py.depth < cLine := fun b hb => by
        rw [py_depth _ (datas_mem h1 _ (zip_mem hb))]
        have := dep_mem (zip_mem hb)
        have := c.units
        omega
      have fin : ∀ out : List Value, PySem.W.EachIs (fun u (z : D × V) => RelV z.2 u) out ((ds.zip vs).mergeSort (PySem.W.dataLe false fun z => z.1.py)) → ∃ vs', RepVs G W (sortD ds) vs' ∧ Vals vs' out := by
        intro out ho
        have hp := List.mergeSort_perm (ds.zip vs) (PySem.W.dataLe false fun z => z.1.py)
        obtain ⟨g1, g2⟩ := sort_each (W := W) (fun z hz => e3 z (hp.mem_iff.mp hz)) ho
        have e : ((ds.zip vs).mergeSort (PySem.W.dataLe false fun z => z.1.py)).map (·.1) = sortD ds := by
          unfold sortD
          rw [List.map_mergeSort (r := PySem.W.dataLe false fun z => z.1.py) (s := fun a b => !D.ltv b a) (f := fun z : D × V => z.1) (l := ds.zip vs), zip_fst r'.len]
          intro a ha b hb
          rw [PySem.W.dataLe_eq]
          simp only [cond]
          rw [lt_ltv _ _ (h3 _ (zip_mem hb) _ (zip_mem ha))]
        exact ⟨_, by rw [← e]; exact g1, g2⟩
      have last : ∀ out : List Value, out.length = (ds.zip vs).length → PySem.W.EachIs (fun u (z : D × V) => RelV z.2 u) out ((ds.zip vs).mergeSort (PySem.W.dataLe false fun z => z.1.py)) →
          EP X pins σ Q (.ref (s.heap.objs.size + 1)) { s with heap := sortedAll s.heap us (List.toArray out) } := by
        intro out hlen ho
        obtain ⟨vs', g1, g2⟩ := fin out ho
        obtain ⟨q1, q2⟩ := post_lst si g1 po
        obtain ⟨ep, he'⟩ := PyProof.Rows.sortedAll_at s.heap us out.toArray
        exact ⟨.ref _, upd H (s.heap.objs.size + 1) (.lst vs'), I.laid (t' := s.toks) (fun _ _ => PyProof.Rows.sortedAll_old) (Nat.le_succ _) ⟨q1, out, ep, g2, he'⟩, rfl, q2 _ (I.hok.fresh (Nat.le_succ _))⟩
      rcases hl with hl | hl
      · exact PySem.W.sorted_data hl e1 e2 hal hso (by rw [ln, ← LINE_eq]; exact hz) hum last
      · exact sorted_dataT hl e1 e2 hal hso (by rw [ln, ← LINE_eq]; exact hz) hum last
    · exact False.elim po
  · exact False.elim po
end
end Mi
end
section
set_option Elab.async false
set_option linter.all false
set_option maxRecDepth 100000
set_option maxHeartbeats 1000000
/-! methods of lists, of dicts -/
namespace Mi
open PySem L2 PyProof.Rows
/-- a type as the attribute's rule wants it -/
def TyG (X : Cx) (T : String) (x : V) (H : Hp) : Prop := ∀ pins s σ u, L2.Inv X pins σ H s → RelV x u → s.TypeIs u T ∧ ∀ a, u = .ref a → ∃ ob, s.heap.get? a = some ob ∧ ob.dict = none
/-- a method of a built-in type, the type told by the receiver -/
def tBMG (X : Cx) (name : Str) (r : V → List V → Hp → VK → Prop) (to : TE) (t : TA) : TE := fun σ H Q => to σ H fun x H1 => ∃ T id, PlainAttrs T ∧ Slot T name id ∧ typeOf (.builtin id) = pure (.type "method_descriptor") ∧ MtR X id r ∧ TyG X T x H1 ∧ t σ H1 fun xs H2 => r x xs H2 Q
section
variable {X : Cx} {o e : PySem.Expr} {es : List PySem.Expr} {to : TE} {t : TA} {name : Str} {apos cpos : Pos} {r : V → List V → Hp → VK → Prop}
theorem pe_bmG0 (ho : PE X o to)
    (hbase : attributeBase o name X.env (eval o X.env) = eval o X.env) (hline : (apos.endLine == cpos.line) = true) : PE X (.Call (.Attribute o name apos) [] [] cpos) (tBMG X name r to tNil) := by
  refine ⟨fun pins s σ H Q I h => ?_⟩
  refine wpAny_Call_method0_late hbase hline (thn (ho.run pins s σ H _ I h) fun v s1 ⟨x, H1, I1, r1, T, id, pa, slot, hty, hm, ty, q1⟩ => ?_)
  obtain ⟨h1, h2⟩ := ty _ _ _ _ I1 r1
  exact ⟨T, id, pa, slot, hty, h1, h2, Calls.callWith_builtin rfl (PySem.evalArgs_none (hm pins s1 σ H1 x [] v [] Q I1 r1 .nil q1))⟩
theorem pe_bmG (ho : PE X o to) (ha : PA X (e :: es) t)
    (hbase : attributeBase o name X.env (eval o X.env) = eval o X.env)
    (hfew : ((backTo cpos (starEach (e :: es) X.env)).all (fun x => !x.1) && (backToKw cpos (keywordEach [] X.env)).all (fun x => x.1.isSome)
      && decide ((e :: es).length + ([] : List Keyword).length + (if ([] : List Keyword).isEmpty then 0 else 1) < 30)) = true)
    (hline : (apos.endLine == cpos.line) = true) (hs : starEach (e :: es) X.env = (false, eval e X.env) :: starEach es X.env) (hplain : (backTo cpos (starEach es X.env)).any (·.1) = false) :
    PE X (.Call (.Attribute o name apos) (e :: es) [] cpos) (tBMG X name r to t) := by
  refine ⟨fun pins s σ H Q I h => ?_⟩
  refine wpAny_Call_method_late hbase hfew hline rfl (thn (ho.run pins s σ H _ I h) fun v s1 ⟨x, H1, I1, r1, T, id, pa, slot, hty, hm, ty, q1⟩ => ?_)
  obtain ⟨h1, h2⟩ := ty _ _ _ _ I1 r1
  refine ⟨T, id, pa, slot, hty, h1, h2, ?_⟩
  have hA := ha.run cpos pins s1 σ H1 _ I1 q1
  rw [hs] at hA ⊢
  refine Calls.callWith_builtin (by show (false || (backTo cpos (starEach es X.env)).any (·.1)) = false; rw [hplain] <;> rfl) (Calls.evalArgs_plain ?_)
  exact thn hA fun us s2 ⟨vs, H2, I2, r2, q2⟩ => hm pins s2 σ H2 x vs v us Q I2 r1 r2 q2
theorem tyG_list {a : Addr} {H : Hp} {xs : List V} (h : SqL X.K H a xs) : TyG X "list" (.ref a) H := fun pins s σ u I r => tyV_is I r (.inl ⟨rfl, xs, h⟩)
theorem tyG_dict {a : Addr} {H : Hp} (h : IsD H a) : TyG X "dict" (.ref a) H := fun pins s σ u I r => by
  cases r
  obtain ⟨h1, h2, _⟩ := isD_at I h
  exact ⟨h1, h2⟩
end
/-- what a method is called -/
def bmN : BM → Str
  | .append => "append" | .extend => "extend" | .pop => "pop" | .pop0 => "pop" | .index => "index" | .insert => "insert" | .get => "get"
section
variable {G : Gd} {k : Nat} {Wx : WX} {N : List Str} {sc : Scope} {X : Cx}
/-- the receiver d1 and the arguments ds, all as they stand -/
def opm (G : Gd) (Wx : WX) (p : D → List D → Sto → Res D) : V → List V → Hp → VK → Prop := fun x xs H Q => ∃ W S d ds, Sim G W S H ∧ RepV G W d x ∧ RepVs G W ds xs ∧ Post G W H Wx (fun W' d v => RepV G W' d v) (p d ds S) Q
theorem lst_at {W : Wd} {S : Sto} {H : Hp} {d : D} {v : V} {n : Nat} {ys : List D} (si : Sim G W S H) (r : RepV G W d v) (h : lstOf S d = some (n, ys)) : ∃ a vs, d = .ref n ∧ v = .ref a ∧ W.mu[n]? = some a ∧ S[n]? = some (.lst ys) ∧ W.F a = none ∧ H a = some (.lst vs) ∧ RepVs G W ys vs := by
  cases d with
  | ref m =>
    simp only [lstOf] at h
    split at h
    · rename_i zs hx
      cases h
      simp only [RepV] at r
      obtain ⟨a, rfl, q⟩ := r
      obtain ⟨f, vs, e, t⟩ := si.obj n a _ q hx
      exact ⟨a, vs, rfl, rfl, q, hx, f, e, t⟩
    · cases h
  | _ => simp [lstOf] at h
theorem post_write {W : Wd} {S : Sto} {H : Hp} {a : Addr} {n : Nat} {ys zs : List D} {us : List V} {d : D} {v : V} {Q : VK} (si : Sim G W S H) (h1 : W.mu[n]? = some a) (h2 : S[n]? = some (.lst ys)) (hF : W.F a = none) (t : RepVs G W zs us) (rv : RepV G W d v)
    (po : Post G W H Wx (fun W' d v => RepV G W' d v) (.ok d (S.set n (.lst zs))) Q) : Q v (upd H a (.lst us)) :=
  po.ok' (Stp.write h1) (si.write h1 h2 rfl ⟨hF, us, upd_same, t⟩) rv
theorem mt_extR : MtM X "list.extend" (fun x vs H Q => ∃ l b xs zs, x = .ref l ∧ vs = [.ref b] ∧ H l = some (.lst xs) ∧ Rd H b (.lst zs) ∧ xs.length + zs.length ≤ sizeLine ∧ Q .non (upd H l (.lst (xs ++ zs)))) := by
  intro pins s σ H x vs v us Q I rx rv h
  obtain ⟨l, b, xs, zs, rfl, rfl, hH, hB, hz, q⟩ := h
  cases rx
  obtain ⟨u, rfl, ru⟩ := rv.one
  cases ru
  obtain ⟨z, its, n, r, hl, e⟩ := I.lstM hH
  obtain ⟨z2, its2, n2, r2, hl2, e2⟩ := lst_of I hB
  have hsz : its.toArray.size + its2.toArray.size ≤ sizeLine := by rw [List.size_toArray, List.size_toArray]; omega
  have hlong : ¬ (!its.toArray.isEmpty && Builtin.List.listTooLong (its.toArray.size + its2.toArray.size)) = true := by
    rw [notLongL hsz, Bool.and_false]
    exact Bool.false_ne_true
  refine call_meets F.slot_list_extend ⟨_, e, rfl⟩ F.entry_list_extend (F.args_list_extend_2 _ _)
    (AutoSeq1.list_extend_list_list_0 l its.toArray n b its2.toArray n2 hlong (by rw [List.size_toArray]; omega) (by omega)) ⟨e, e2, ?_⟩
  refine ⟨.non, _, I.lset (its' := its ++ its2) hH e (by simp) (r.append r2) ?_, rfl, q⟩
  rw [List.length_append]
  omega
theorem post_one {W : Wd} {H : Hp} {ds : List D} {xs : List V} {f : D → Res D} {Q : VK} (r : RepVs G W ds xs) (po : Post G W H Wx (fun W' d v => RepV G W' d v) (one ds f) Q) : ∃ d v, ds = [d] ∧ xs = [v] ∧ RepV G W d v ∧ Post G W H Wx (fun W' d v => RepV G W' d v) (f d) Q := by
  match ds, r, po with
  | [], _, po => exact False.elim po
  | [y], r2, po =>
    obtain ⟨u, rfl, ru⟩ := opn1 r2
    exact ⟨y, u, rfl, rfl, ru, po⟩
  | _ :: _ :: _, _, po => exact False.elim po
theorem post_two {W : Wd} {H : Hp} {ds : List D} {xs : List V} {f : D → D → Res D} {Q : VK} (r : RepVs G W ds xs) (po : Post G W H Wx (fun W' d v => RepV G W' d v) (two ds f) Q) : ∃ d e v u, ds = [d, e] ∧ xs = [v, u] ∧ RepV G W d v ∧ RepV G W e u ∧ Post G W H Wx (fun W' d v => RepV G W' d v) (f d e) Q := by
  match ds, r, po with
  | [], _, po => exact False.elim po
  | [_], _, po => exact False.elim po
  | [y, z], r2, po =>
    obtain ⟨w, u, rfl, rw', ru⟩ := opn2 r2
    exact ⟨y, z, w, u, rfl, rfl, rw', ru, po⟩
  | _ :: _ :: _ :: _, _, po => exact False.elim po
theorem bm_append : MtR X "list.append" (opm G Wx fun a xs S => one xs (appD S a)) := by
  intro pins s σ H x xs v us Q I rx rs ⟨W, S, d, ds, si, r1, r2, po⟩
  obtain ⟨y, u, rfl, rfl, ru, pp⟩ := post_one r2 po
  clear po
  have po := pp
  clear pp
  unfold appD at po
  split at po
  · rename_i n ys hl
    obtain ⟨a, vs, rfl, rfl, h1, h2, h3, h4, h5⟩ := lst_at si r1 hl
    split at po
    · rename_i hz
      exact mt_append pins s σ H _ _ v us Q I rx rs ⟨a, vs, u, rfl, rfl, h4, by rw [← h5.len, ← LINE_eq]; exact hz, post_write si h1 h2 h3 (h5.app (.one ru)) (by simp [RepV]) po⟩
    · exact False.elim po
  · exact False.elim po
theorem bm_extend : MtR X "list.extend" (opm G Wx fun a xs S => one xs (fun b => match b with
    | .tup _ => .stuck
    | b => extD S a b)) := by
  intro pins s σ H x xs v us Q I rx rs ⟨W, S, d, ds, si, r1, r2, po⟩
  obtain ⟨y, u, rfl, rfl, ru, pp⟩ := post_one r2 po
  clear po
  have po := pp
  clear pp
  have nt : ∀ ts, y ≠ .tup ts := fun ts e => by subst e; exact False.elim po
  replace po : Post G W H Wx (fun W' d v => RepV G W' d v) (extD S d y) Q := by
    cases y with
    | tup ts => exact absurd rfl (nt ts)
    | _ => exact po
  unfold extD at po
  split at po
  · rename_i n ys zs hl hs
    obtain ⟨a, vs, rfl, rfl, h1, h2, h3, h4, h5⟩ := lst_at si r1 hl
    obtain ⟨b, ws, rfl, hb, t⟩ := seq_list si ru hs nt
    split at po
    · rename_i hz
      exact mt_extR pins s σ H _ _ v us Q I rx rs ⟨a, b, vs, ws, rfl, rfl, h4, hb, by rw [← h5.len, ← t.len, ← LINE_eq]; exact hz, post_write si h1 h2 h3 (h5.app t) (by simp [RepV]) po⟩
    · exact False.elim po
  · exact False.elim po
theorem RepVs.dropLast {W : Wd} {ds : List D} {vs : List V} (r : RepVs G W ds vs) : RepVs G W ds.dropLast vs.dropLast := by
  rw [List.dropLast_eq_take, List.dropLast_eq_take, ← r.len]
  exact r.take _
theorem bm_pop : MtR X "list.pop" (opm G Wx fun a xs S => match xs with
    | [] => popD S a
    | _ => .stuck) := by
  intro pins s σ H x xs v us Q I rx rs ⟨W, S, d, ds, si, r1, r2, po⟩
  obtain rfl : ds = [] := by
    cases ds with
    | nil => rfl
    | cons _ _ => exact False.elim po
  replace po : Post G W H Wx (fun W' d v => RepV G W' d v) (popD S d) Q := po
  simp only [RepVs] at r2; subst r2
  unfold popD at po
  split at po
  · rename_i n ys hl
    obtain ⟨a, vs, rfl, rfl, h1, h2, h3, h4, h5⟩ := lst_at si r1 hl
    split at po
    · rename_i y hy
      rw [List.getLast?_eq_getElem?] at hy
      obtain ⟨w, g1, g2⟩ := h5.get hy
      rw [h5.len] at g1
      exact mt_pop pins s σ H _ _ v us Q I rx rs ⟨a, vs, w, rfl, rfl, h4, g1, post_write si h1 h2 h3 h5.dropLast g2 po⟩
    · exact False.elim po
  · exact False.elim po
theorem bm_pop0 : MtR X "list.pop" (opm G Wx fun a xs S => one xs (pop0D S a)) := by
  intro pins s σ H x xs v us Q I rx rs ⟨W, S, d, ds, si, r1, r2, po⟩
  obtain ⟨y, u, rfl, rfl, ru, pp⟩ := post_one r2 po
  clear po
  have po := pp
  clear pp
  unfold pop0D at po
  split at po
  · rename_i n z zs hl
    split at po
    · rename_i hy
      subst hy
      obtain ⟨a, vs, rfl, rfl, h1, h2, h3, h4, h5⟩ := lst_at si r1 hl
      simp only [RepVs] at h5
      obtain ⟨w, t, rfl, g1, g2⟩ := h5
      simp only [RepV] at ru
      subst ru
      exact mt_popAt pins s σ H _ _ v us Q I rx rs ⟨a, w :: t, 0, 0, w, rfl, rfl, h4, by decide, by decide, by simp [seqIndex?], rfl, post_write si h1 h2 h3 g2 g1 po⟩
    · exact False.elim po
  · exact False.elim po
theorem bm_insert : MtR X "list.insert" (opm G Wx fun a xs S => two xs (insD S a)) := by
  intro pins s σ H x xs v us Q I rx rs ⟨W, S, d, ds, si, r1, r2, po⟩
  obtain ⟨i, y, w, u, rfl, rfl, rw', ru, pp⟩ := post_two r2 po
  clear po
  have po := pp
  clear pp
  unfold insD at po
  split at po
  · rename_i n ys j hl
    obtain ⟨a, vs, rfl, rfl, h1, h2, h3, h4, h5⟩ := lst_at si r1 hl
    split at po
    · rename_i hc
      simp only [RepV] at rw'
      subst rw'
      exact mt_insert pins s σ H _ _ v us Q I rx rs ⟨a, vs, j, u, rfl, rfl, h4, by rw [← h5.len, ← LINE_eq]; exact hc.2.2, hc.1, hc.2.1, post_write si h1 h2 h3 (((h5.take _).app (.one ru)).app (h5.drop _)) (by simp [RepV]) po⟩
    · exact False.elim po
  · exact False.elim po
theorem bm_get (c : CxOk G k Wx N sc X) : MtR X "dict.get" (opm G Wx fun a xs S => two xs (getD2 S a)) := by
  intro pins s σ H x xs v us Q I rx rs ⟨W, S, d, ds, si, r1, r2, po⟩
  obtain ⟨i, y, w, u, rfl, rfl, rw', ru, pp⟩ := post_two r2 po
  clear po
  have po := pp
  clear pp
  unfold getD2 at po
  split at po
  · rename_i t kvs hd
    split at po
    · rename_i ko
      obtain ⟨p, o, rfl, g, ho⟩ := dict_get si hd r1 ko rw'
      cases rx
      obtain ⟨u1, u2, rfl, q1, q2⟩ := vals2 rs
      refine d_get2 c.hu I g q1 q2 fun w' s' I' rw' => ?_
      cases e : dval kvs i with
      | none =>
        rw [e] at ho po
        rw [ho] at rw'
        exact ⟨u, H, I', rw', po.ok si ru⟩
      | some z =>
        rw [e] at ho po
        obtain ⟨z', rfl, rz⟩ := ho
        exact ⟨z', H, I', rw', po.ok si rz⟩
    · exact False.elim po
  · exact False.elim po
end
end Mi
end
section
set_option Elab.async false
set_option linter.all false
set_option maxRecDepth 100000
set_option maxHeartbeats 1000000
/-! comprehensions, loops -/
namespace Mi
open PySem L2 PyProof.Rows
structure WExt (W W' : Wd) : Prop where
  F : ∀ a o, W.F a = some o → W'.F a = some o
  mu : ∀ (n : Nat) x, W.mu[n]? = some x → W'.mu[n]? = some x
theorem Stp.ext {W W' : Wd} {H H' : Hp} (s : Stp W H W' H') : WExt W W' := ⟨s.F, fun _ _ h => s.get h⟩
theorem WExt.trans {W W' W2 : Wd} (a : WExt W W') (b : WExt W' W2) : WExt W W2 := ⟨fun x o h => b.F x o (a.F x o h), fun n x h => b.mu n x (a.mu n x h)⟩
theorem WExt.refl {W : Wd} : WExt W W := ⟨fun _ _ h => h, fun _ _ h => h⟩
/-- an iterator yields these items -/
structure WkOk (G : Gd) (W : Wd) (w : Wk) (J : L2.It) : Prop where
  go : ∀ W' S' H', WExt W W' → Sim G W' S' H' → w.ck S' = true → ∀ (i : Nat) d, w.xs[i]? = some d → J.go i H' ∧ ∀ x H'', J.yld i H' x H'' → ∃ W'', Stp W' H' W'' H'' ∧ Sim G W'' S' H'' ∧ RepV G W'' d x
  stop : ∀ W' S' H', WExt W W' → Sim G W' S' H' → w.ck S' = true → ∀ i : Nat, w.xs.length ≤ i → J.stop i H'
def rdI (G : Gd) (Wx : WX) (f : Env → Sto → Res Wk) : TI := fun σ H R => ∃ W S e, Sim G W S H ∧ Slots G W e σ ∧ Post G W H Wx (fun W' w J => WkOk G W' w J) (f e S) R
/-- a target takes a value -/
def rdG (G : Gd) (t : Tg) : TG := fun v σ H Q => ∃ W S e d e', Sim G W S H ∧ Slots G W e σ ∧ RepV G W d v ∧ asT t d e = some e' ∧ ∀ σ', Slots G W e' σ' → (∀ vs : List Nat, (∀ i ∈ t.own, i ∈ vs) → L2.wipe σ' vs = L2.wipe σ vs) → Q σ' H
def W0 : WX := fun _ _ _ _ => False
section
variable {G : Gd} {W W' : Wd} {S : Sto} {H : Hp} {Wx : WX}
/-- an object that is there comes into the store -/
theorem Sim.adopt (s : Sim G W S H) {p : Addr} {x : O} (hm : p ∉ W.mu) (hp : H p ≠ none) (r : RepO G (W.put p) H p x) : Sim G (W.put p) (S ++ [x]) H := by
  have hmu : ∀ (n : Nat) y, W.mu[n]? = some y → (W.put p).mu[n]? = some y := fun n y h => by
    show (W.mu ++ [p])[n]? = some y
    rw [List.getElem?_append_left (List.getElem?_eq_some_iff.mp h).1]; exact h
  refine ⟨s.sub, by simp [Wd.put, s.len], ?_, fun a ha => ?_, fun n a u h1 h2 => ?_⟩
  · show (W.mu ++ [p]).Nodup
    rw [List.nodup_append]
    exact ⟨s.nd, by simp, fun a ha b hb => by have e : b = p := by simpa using hb
                                              subst e; exact fun z => hm (z ▸ ha)⟩
  · rcases List.mem_append.mp ha with h | h
    · exact s.inH a h
    · have e : a = p := by simpa using h
      rw [e]; exact hp
  · have h1' : (W.mu ++ [p])[n]? = some a := h1
    by_cases hn : n < W.mu.length
    · rw [List.getElem?_append_left hn] at h1'
      rw [List.getElem?_append_left (by rw [← s.len]; exact hn)] at h2
      exact (s.obj n a u h1' h2).keep (fun _ _ h => h) hmu (fun h => h) (fun _ h => h)
    · have hn' : W.mu.length ≤ n := Nat.le_of_not_lt hn
      rw [List.getElem?_append_right hn'] at h1'
      rw [List.getElem?_append_right (by rw [← s.len]; exact hn')] at h2
      have e0 : n - W.mu.length = 0 := by
        by_cases z : n - W.mu.length = 0
        · exact z
        · rw [List.getElem?_eq_none (by simp; omega)] at h1'; cases h1'
      rw [e0] at h1'
      rw [← s.len, e0] at h2
      simp at h1' h2
      subst h1' h2
      exact r
/-- an object that is there is frozen -/
theorem Sim.adoptF (s : Sim G W S H) {p : Addr} {o : HO} (hm : p ∉ W.mu) (hF : W.F p = none) (hp : H p = some o) : Sim G (W.lay p o) S H := by
  have F : ∀ a u, W.F a = some u → (W.lay p o).F a = some u := fun a u h => by
    show upd W.F p o a = some u
    rw [upd_ne (fun z => by subst z; rw [hF] at h; cases h)]; exact h
  refine ⟨fun a u h => ?_, s.len, s.nd, s.inH, fun n a u h1 h2 => (s.obj n a u h1 h2).keep F (fun _ _ h => h) (fun h => ?_) (fun _ h => h)⟩
  · have h' : upd W.F p o a = some u := h
    by_cases z : a = p
    · subst z; rw [upd_same] at h'; cases h'; exact hp
    · rw [upd_ne z] at h'; exact s.sub _ _ h'
  · show upd W.F p o a = none
    rw [upd_ne (fun z : a = p => hm (z ▸ List.mem_of_getElem? h1))]; exact h
/-- the list that a comprehension has filled -/
theorem post_list {H1 H' : Hp} {W1 : Wd} {p : Addr} {m : Bool} {ds : List D} {vs : List V} {Q : VK} (hD : H1 p = none) (st : Stp W1 H1 W' H') (hW1 : p ∉ W1.mu) (si : Sim G W' S H') (hm : p ∉ W'.mu) (hF : W'.F p = none) (hH : H' p = some (.lst vs)) (r : RepVs G W' ds vs)
    (po : Post G W1 H1 Wx (fun W' d v => RepV G W' d v) (newL m ds S) Q) : Q (.ref p) H' := by
  have fr := st.fr
  have nw := st.nw
  have dm := st.dm
  have nf := st.nf
  unfold newL at po
  split at po
  · cases m with
    | true =>
      rw [if_pos rfl] at po
      obtain ⟨ext, e⟩ := st.mu
      have mm : ∀ (n : Nat) y, W'.mu[n]? = some y → (W'.put p).mu[n]? = some y := fun n y h => by
        show (W'.mu ++ [p])[n]? = some y
        rw [List.getElem?_append_left (List.getElem?_eq_some_iff.mp h).1]; exact h
      refine po (W'.put p) H' (.ref p) ⟨st.F, ⟨ext ++ [p], ?_⟩, fr, fun a h hn => ?_, dm, nf⟩ (si.adopt hm (by rw [hH]; simp) ⟨hF, vs, hH, RepVs.stp (W := W') (W' := W'.put p) (fun _ _ h => h) mm _ _ r⟩) ?_
      · show W'.mu ++ [p] = _
        rw [e, List.append_assoc]
      · rcases List.mem_append.mp h with h | h
        · exact nw a h hn
        · have e : a = p := by simpa using h
          rw [e]; exact hD
      · simp only [RepV]
        exact ⟨p, rfl, by show (W'.mu ++ [p])[S.length]? = _; rw [← si.len]; simp⟩
    | false =>
      rw [if_neg Bool.false_ne_true] at po
      have F : ∀ a u, W'.F a = some u → (W'.lay p (.lst vs)).F a = some u := fun a u h => by
        show upd W'.F p _ a = some u
        rw [upd_ne (fun z => by subst z; rw [hF] at h; cases h)]; exact h
      refine po (W'.lay p (.lst vs)) H' (.ref p) ⟨fun a o h => F a o (st.F a o h), st.mu, fr, nw, dm, fun a h => by
        by_cases z : a = p
        · rw [z]; exact .inr (.inl hD)
        · have h' : upd W'.F p (.lst vs) a ≠ none := h
          rw [upd_ne z] at h'
          exact nf a h'⟩ (si.adoptF hm hF hH) ?_
      simp only [RepV]
      exact ⟨p, vs, rfl, .inl (by show upd W'.F p _ p = _; rw [upd_same]), r.stp F fun _ _ h => h⟩
  · exact False.elim po
/-- the object at p, known to nobody, is written -/
theorem Sim.poke (s : Sim G W S H) {p : Addr} {o : HO} (hm : p ∉ W.mu) (hF : W.F p = none) (hp : H p ≠ none) : Sim G W S (upd H p o) := by
  refine ⟨fun a u h => ?_, s.len, s.nd, fun a ha => ?_, fun n a u h1 h2 => ?_⟩
  · rw [upd_ne (fun z => by subst z; rw [hF] at h; cases h)]; exact s.sub _ _ h
  · rw [upd_ne (fun z : a = p => hm (z ▸ ha))]; exact s.inH a ha
  · refine (s.obj n a u h1 h2).keep (fun _ _ h => h) (fun _ _ h => h) (fun h => h) fun u hu => ?_
    rw [upd_ne (fun z : a = p => hm (z ▸ List.mem_of_getElem? h1))]; exact hu
theorem Stp.poke {p : Addr} {o : HO} {H1 : Hp} {W1 : Wd} (s : Stp W1 H1 W H) (h1 : H1 p = none) : Stp W1 H1 W (upd H p o) := by
  refine ⟨s.F, s.mu, fun a u h n => ?_, s.nw, fun a h => ?_, s.nf⟩
  · rw [upd_ne (ne_of_none h h1)]; exact s.fr a u h n
  · rw [upd_ne (fun z => by rw [z] at h; exact h h1)]; exact s.dm a h
theorem set_set_none (σ : L2.St) (i : Nat) : ∀ vs : List Nat, i ∈ vs → (L2.wipe σ vs).set i none = L2.wipe σ vs
  | [], h => by cases h
  | v :: vs, h => by
    simp only [L2.wipe]
    by_cases e : v = i
    · subst e; simp
    · rw [List.set_comm _ _ e, set_set_none σ i vs (by
        rcases List.mem_cons.mp h with z | z
        · exact absurd z.symm e
        · exact z)]
theorem wipe_sub (σ : L2.St) (vs : List Nat) : ∀ us : List Nat, (∀ i ∈ us, i ∈ vs) → L2.wipe (L2.wipe σ vs) us = L2.wipe σ vs
  | [], _ => rfl
  | u :: us, h => by
    simp only [L2.wipe]
    rw [wipe_sub σ vs us fun i hi => h i (by simp [hi]), set_set_none σ u vs (h u (by simp))]
theorem wipe_wipe (σ : L2.St) (vs : List Nat) : L2.wipe (L2.wipe σ vs) vs = L2.wipe σ vs := wipe_sub σ vs vs fun _ h => h
/-- [x for t in it if c] -/
theorem lc_rd {t : Tg} {m : Bool} {fw : Env → Sto → Res Wk} {fc : Env → Sto → Res Bool} {fx : Env → Sto → Res D} {vs : List Nat} {σ : L2.St} {H : Hp} {Q : VK} (hvs : vs = t.own) (hck : ∀ e S w S1, fw e S = .ok w S1 → w.ck S1 = true ∧ w.lk = none)
    (h : rdE G Wx (fun e S => (fw e S).bind fun w S1 => ((mapR (lcStep t t.own e fc fx) w.ck w.xs (lockO true S1 w.lk)).nox).bind fun ys S2 => newL m ys (lockO false S2 w.lk)) σ H Q) :
    tLc (rdI G Wx fw) (rdG G t) (rdT G W0 fc) (rdE G W0 fx) vs σ H Q := by
  subst hvs
  obtain ⟨W, S, e, si, sl, po⟩ := h
  refine ⟨W, S, e, si, sl, (Post.bind (R := fun W' w J => WkOk G W' w J) po).mono fun J H1 ⟨W1, S1, w, t1, s1, wk, ew, po1⟩ => ?_⟩
  obtain ⟨ck1, lk⟩ := hck _ _ _ _ ew
  rw [lk] at po1
  have sl1 := sl.stp t1
  intro p hp
  have run0 : ∃ ys S2, mapR (lcStep t t.own e fc fx) w.ck w.xs S1 = .ok ys S2 ∧ Post G W1 H1 Wx (fun W' d v => RepV G W' d v) (newL m ys S2) Q := by
    have po1 : Post G W1 H1 Wx (fun W' d v => RepV G W' d v) (((mapR (lcStep t t.own e fc fx) w.ck w.xs S1).nox).bind fun ys S2 => newL m ys S2) Q := po1
    cases hr : mapR (lcStep t t.own e fc fx) w.ck w.xs S1 with
    | ok ys S2 => rw [hr] at po1; exact ⟨ys, S2, rfl, po1⟩
    | exc _ _ _ => rw [hr] at po1; exact False.elim po1
    | stuck => rw [hr] at po1; exact False.elim po1
  have nmu : p ∉ W1.mu := s1.muH hp
  refine ⟨fun i n H' => n = w.xs.length - i ∧ i ≤ w.xs.length ∧ ∃ W' S' dacc acc, Stp W1 H1 W' H' ∧ Sim G W' S' H' ∧ p ∉ W'.mu ∧ W'.F p = none ∧ H' p = some (.lst acc) ∧ RepVs G W' dacc acc ∧ w.ck S' = true ∧
    ∃ ys S2, mapR (lcStep t t.own e fc fx) w.ck (w.xs.drop i) S' = .ok ys S2 ∧ Post G W1 H1 Wx (fun W' d v => RepV G W' d v) (newL m (dacc ++ ys) S2) Q, ?_, ?_⟩
  · obtain ⟨ys, S2, r, q⟩ := run0
    exact ⟨w.xs.length, by simp, Nat.zero_le _, W1, S1, [], [], .other hp, s1.other hp, nmu, s1.Fn hp, upd_same, RepVs.nil, ck1, ys, S2, by simpa using r, by simpa using q⟩
  · rintro i n H' ⟨rfl, hi, W', S', dacc, acc, st, si', hm, hF, hH, ra, ck', ys, S2, run, pf⟩
    have ex : WExt W1 W' := st.ext
    by_cases hlt : i < w.xs.length
    · refine .inr ?_
      have hd : w.xs[i]? = some w.xs[i] := List.getElem?_eq_getElem hlt
      obtain ⟨g1, g2⟩ := wk.go W' S' H' ex si' ck' i _ hd
      rw [List.drop_eq_getElem_cons hlt] at run
      simp only [mapR] at run
      cases hg : lcStep t t.own e fc fx w.xs[i] S' with
      | stuck => rw [hg] at run; cases run
      | exc _ _ _ => rw [hg] at run; cases run
      | ok o S3 =>
        rw [hg] at run
        simp only [Res.bind] at run
        by_cases hc3 : w.ck S3 = true
        · rw [if_pos hc3] at run
          cases hr : mapR (lcStep t t.own e fc fx) w.ck (w.xs.drop (i + 1)) S3 with
          | stuck => rw [hr] at run; cases run
          | exc _ _ _ => rw [hr] at run; cases run
          | ok zs S4 =>
            rw [hr] at run
            simp only [Res.ok.injEq] at run
            obtain ⟨rfl, rfl⟩ := run
            let Nx : Hp → Prop := fun H' => ∃ W' S' dacc acc, Stp W1 H1 W' H' ∧ Sim G W' S' H' ∧ p ∉ W'.mu ∧ W'.F p = none ∧ H' p = some (.lst acc) ∧ RepVs G W' dacc acc ∧ w.ck S' = true ∧
              ∃ ys S2, mapR (lcStep t t.own e fc fx) w.ck (w.xs.drop (i + 1)) S' = .ok ys S2 ∧ Post G W1 H1 Wx (fun W' d v => RepV G W' d v) (newL m (dacc ++ ys) S2) Q
            refine ⟨g1, Nx, fun H' z => ⟨w.xs.length - (i + 1), by omega, rfl, hlt, z⟩, fun x H'' y => ?_⟩
            obtain ⟨W2, st2, si2, rx⟩ := g2 x H'' y
            unfold lcStep at hg
            cases ht : asT t w.xs[i] (wipe e t.own) with
            | none => rw [ht] at hg; cases hg
            | some e1 =>
              rw [ht] at hg
              dsimp only at hg
              have st3 := st.trans st2
              refine ⟨W2, S', wipe e t.own, _, e1, si2, (sl1.stp st3).wipe t.own, rx, ht, fun σ' sl' hw => ?_⟩
              have keep : ∀ {Wa Wb : Wd} {Ha Hb : Hp}, Stp Wa Ha Wb Hb → p ∉ Wa.mu → Wa.F p = none → Ha p = some (.lst acc) → p ∉ Wb.mu ∧ Wb.F p = none ∧ Hb p = some (.lst acc) := fun {Wa Wb Ha Hb} s3 ha hf hin => by
                refine ⟨fun z => ?_, ?_, s3.fr p _ hin ha⟩
                · have := s3.nw p z ha
                  rw [hin] at this; cases this
                · cases r : Wb.F p with
                  | none => rfl
                  | some o =>
                    rcases s3.nf p (by rw [r]; simp) with q | q | q | ⟨_, q⟩
                    · exact absurd hf q
                    · rw [hin] at q; cases q
                    · exact absurd q ha
                    · rw [hin] at q; cases q
              obtain ⟨k1, k2, k3⟩ := keep st2 hm hF hH
              refine ⟨by rw [hw _ fun i hi => hi, wipe_wipe], ?_⟩
              have ra2 := st2.reps ra
              have pg : Post G W2 H'' W0 (fun _ (d : Bool) v => v = d) (fc e1 S') fun b H3 => ∃ W3 S3', Stp W2 H'' W3 H3 ∧ Sim G W3 S3' H3 ∧ (if b then (fx e1 S3').bind fun y S'' => (.ok (some y) S'' : Res (Option D)) else .ok none S3') = .ok o S3 := by
                cases hf : fc e1 S' with
                | stuck => rw [hf] at hg; cases hg
                | exc _ _ _ => rw [hf] at hg; cases hg
                | ok b Sb =>
                  rw [hf] at hg
                  intro W3 H3 v s3 i3 e
                  subst e
                  exact ⟨W3, Sb, s3, i3, hg⟩
              refine ⟨W2, S', e1, si2, sl', pg.mono fun b H3 ⟨W3, S3', s3, i3, hb⟩ => ?_⟩
              obtain ⟨m1, m2, m3⟩ := keep s3 k1 k2 k3
              cases b with
              | false =>
                simp only [Bool.false_eq_true, if_false, Res.ok.injEq] at hb ⊢
                obtain ⟨rfl, rfl⟩ := hb
                exact ⟨W3, S3', dacc, acc, st3.trans s3, i3, m1, m2, m3, s3.reps ra2, hc3, zs, S4, hr, pf⟩
              | true =>
                simp only [if_true] at hb ⊢
                have px : Post G W3 H3 W0 (fun W' d v => RepV G W' d v) (fx e1 S3') fun y H4 => ∃ W4 dy, Stp W3 H3 W4 H4 ∧ Sim G W4 S3 H4 ∧ RepV G W4 dy y ∧ o = some dy := by
                  cases hf : fx e1 S3' with
                  | stuck => rw [hf] at hb; cases hb
                  | exc _ _ _ => rw [hf] at hb; cases hb
                  | ok y Sy =>
                    rw [hf] at hb
                    simp only [Res.bind, Res.ok.injEq] at hb
                    obtain ⟨rfl, rfl⟩ := hb
                    intro W4 H4 v s4 i4 r4
                    exact ⟨W4, y, s4, i4, r4, rfl⟩
                refine ⟨W3, S3', e1, i3, sl'.stp s3, px.mono fun y H4 ⟨W4, dy, s4, i4, r4, eo⟩ => ?_⟩
                subst eo
                dsimp only at pf
                obtain ⟨n1, n2, n3⟩ := keep s4 m1 m2 m3
                have lt : dacc.length < LINE := by
                  have pf' := pf
                  unfold newL at pf'
                  split at pf'
                  · rename_i hl
                    simp only [List.length_append, List.length_cons] at hl
                    omega
                  · exact False.elim pf'
                refine ⟨acc, n3, by rw [← ra.len, ← LINE_eq]; exact lt, ?_⟩
                have i5 : Sim G W4 S3 (upd H4 p (.lst (acc ++ [y]))) := i4.poke n1 n2 (by rw [n3]; simp)
                have s5 : Stp W1 H1 W4 (upd H4 p (.lst (acc ++ [y]))) := ((st3.trans s3).trans s4).poke hp
                exact ⟨W4, S3, dacc ++ [dy], acc ++ [y], s5, i5, n1, n2, upd_same, (s4.reps (s3.reps ra2)).app (.one r4), hc3, zs, S4, hr, by rw [List.append_assoc]; exact pf⟩
        · rw [if_neg hc3] at run; cases run
    · refine .inl ?_
      have e0 : i = w.xs.length := by omega
      subst e0
      refine ⟨wk.stop W' S' H' ex si' ck' _ (Nat.le_refl _), ?_⟩
      rw [List.drop_length] at run
      simp only [mapR, Res.ok.injEq] at run
      obtain ⟨rfl, rfl⟩ := run
      rw [List.append_nil] at pf
      exact post_list hp st nmu si' hm hF hH ra pf
end
end Mi
end
section
set_option Elab.async false
set_option linter.all false
set_option maxRecDepth 100000
set_option maxHeartbeats 1000000
/-! statements by their readings -/
namespace Mi
open PySem L2 PyProof.Rows
abbrev Beh := L2.St ⊕ V
def ROut (G : Gd) (W : Wd) (o : Out) (b : Beh) : Prop := match o, b with
  | .nx e, .inl σ => Slots G W e σ
  | .rt d, .inr v => RepV G W d v
  | _, _ => False
def ends (D : Ends) (b : Beh) (H : Hp) : Prop := match b with
  | .inl σ => D.nx σ H
  | .inr v => D.rt v H
def rdS (G : Gd) (Wx : WX) (f : Env → Sto → Res Out) : TS := fun D σ H => ∃ W S e, Sim G W S H ∧ Slots G W e σ ∧ Post G W H Wx (ROut G) (f e S) (ends D)
theorem _root_.L2.PS.imp {X : Cx} {st : Stmt} {t t' : TS} (h : PS X st t) (k : ∀ D σ H, t' D σ H → t D σ H) : PS X st t' := ⟨fun pins s σ H D I q => h.run pins s σ H D I (k D σ H q)⟩
theorem _root_.L2.PSs.imp {X : Cx} {st : List Stmt} {t t' : TS} (h : PSs X st t) (k : ∀ D σ H, t' D σ H → t D σ H) : PSs X st t' := ⟨fun pins s σ H D I q => h.run pins s σ H D I (k D σ H q)⟩
theorem _root_.L2.PI.imp {X : Cx} {tg it : PySem.Expr} {t t' : TI} (h : PI X tg it t) (k : ∀ σ H R, t' σ H R → t σ H R) : PI X tg it t' := ⟨fun pins s σ H R I q => h.run pins s σ H R I (k σ H R q)⟩
section
variable {G : Gd} {Wx : WX} {De : Ends} {σ : L2.St} {H : Hp}
theorem rd_seq {f g : Env → Sto → Res Out} (h : rdS G Wx (fun e S => (f e S).bind fun o S1 => match o with
    | .nx e1 => g e1 S1
    | .rt d => .ok (.rt d) S1) De σ H) : tSeq (rdS G Wx f) (rdS G Wx g) De σ H := by
  obtain ⟨W, S, e, si, sl, po⟩ := h
  refine ⟨W, S, e, si, sl, (Post.bind (R := ROut G) po).mono fun b H1 ⟨W1, S1, o, t1, s1, r1, _, po1⟩ => ?_⟩
  cases b with
  | inl σ1 => cases o with
    | nx e1 => exact ⟨W1, S1, e1, s1, r1, po1⟩
    | rt d => exact False.elim r1
  | inr v => cases o with
    | nx e1 => exact False.elim r1
    | rt d => exact po1.ok (v := .inr v) s1 r1
theorem rd_next (h : rdS G Wx (fun e S => .ok (.nx e) S) De σ H) : De.nx σ H := by
  obtain ⟨W, S, e, si, sl, po⟩ := h
  exact po.ok (v := .inl σ) si sl
theorem rd_if {fc : Env → Sto → Res Bool} {f g : Env → Sto → Res Out} (h : rdS G Wx (fun e S => (fc e S).bind fun k S1 => if k then f e S1 else g e S1) De σ H) : tIfS (rdT G Wx fc) (rdS G Wx f) (rdS G Wx g) De σ H := by
  obtain ⟨W, S, e, si, sl, po⟩ := h
  refine ⟨W, S, e, si, sl, (Post.bind (R := fun _ (d : Bool) v => v = d) po).mono fun b H1 ⟨W1, S1, k, t1, s1, r1, _, po1⟩ => ?_⟩
  subst r1
  cases b with
  | true => exact ⟨W1, S1, e, s1, sl.stp t1, po1⟩
  | false => exact ⟨W1, S1, e, s1, sl.stp t1, po1⟩
/-- an expression, then what is done with its value -/
theorem rd_then {f : Env → Sto → Res D} {g : D → Env → Sto → Res Out} {E : Ends} {Q : VK} (h : rdS G Wx (fun e S => (f e S).bind fun d S1 => g d e S1) E σ H)
    (k : ∀ W S e d v H1, Sim G W S H1 → Slots G W e σ → RepV G W d v → Post G W H1 Wx (ROut G) (g d e S) (ends E) → Q v H1) : rdE G Wx f σ H Q := by
  obtain ⟨W, S, e, si, sl, po⟩ := h
  exact ⟨W, S, e, si, sl, (Post.bind (R := fun W' d v => RepV G W' d v) po).mono fun v H1 ⟨W1, S1, d, t1, s1, r1, _, po1⟩ => k W1 S1 e d v H1 s1 (sl.stp t1) r1 po1⟩
theorem rd_while {fc : Env → Sto → Res Bool} {fb : Env → Sto → Res Out} {n : Nat} (h : rdS G Wx (fun e S => whileR fc fb n e S) De σ H) : tWhile (rdT G Wx fc) (rdS G Wx fb) De σ H := by
  obtain ⟨W, S, e, si, sl, po⟩ := h
  refine ⟨fun m σ H => ∃ W S e, Sim G W S H ∧ Slots G W e σ ∧ Post G W H Wx (ROut G) (whileR fc fb m e S) (ends De), ⟨n, W, S, e, si, sl, po⟩, ?_⟩
  rintro m σ H ⟨W, S, e, si, sl, po⟩
  cases m with
  | zero => exact False.elim po
  | succ m =>
    simp only [whileR] at po
    refine ⟨W, S, e, si, sl, (Post.bind (R := fun _ (d : Bool) v => v = d) po).mono fun b H1 ⟨W1, S1, k, t1, s1, r1, _, po1⟩ => ?_⟩
    subst r1
    have sl1 := sl.stp t1
    cases b with
    | true =>
      simp only [if_true] at po1 ⊢
      refine ⟨fun σ' H' => ∃ W S e, Sim G W S H' ∧ Slots G W e σ' ∧ Post G W H' Wx (ROut G) (whileR fc fb m e S) (ends De), fun σ' H' q => ⟨m, by omega, q⟩, ?_⟩
      refine ⟨W1, S1, e, s1, sl1, (Post.bind (R := ROut G) po1).mono fun b H2 ⟨W2, S2, o, t2, s2, r2, _, po2⟩ => ?_⟩
      cases b with
      | inl σ1 => cases o with
        | nx e1 => exact ⟨W2, S2, e1, s2, r2, po2⟩
        | rt d => exact False.elim r2
      | inr v => cases o with
        | nx e1 => exact False.elim r2
        | rt d => exact po2.ok (v := .inr v) s2 r2
    | false =>
      simp only [Bool.false_eq_true, if_false] at po1 ⊢
      exact po1.ok (v := .inl σ) s1 sl1
theorem rd_for {t : Tg} {fw : Env → Sto → Res Wk} {fb : Env → Sto → Res Out} (hck : ∀ e S w S1, fw e S = .ok w S1 → w.ck S1 = true ∧ w.lk = none)
    (h : rdS G Wx (fun e S => (fw e S).bind fun w S1 => if w.lk.isSome then .stuck else forR (foStep t fb) w.ck w.xs e S1) De σ H) : tFor (rdI G Wx fw) (rdG G t) (rdS G Wx fb) De σ H := by
  obtain ⟨W, S, e, si, sl, po⟩ := h
  refine ⟨W, S, e, si, sl, (Post.bind (R := fun W' w J => WkOk G W' w J) po).mono fun J H1 ⟨W1, S1, w, t1, s1, wk, ew, po1⟩ => ?_⟩
  obtain ⟨ck1, lk⟩ := hck _ _ _ _ ew
  rw [lk] at po1
  replace po1 : Post G W1 H1 Wx (ROut G) (forR (foStep t fb) w.ck w.xs e S1) (ends De) := po1
  refine ⟨fun i n σ H' => n = w.xs.length - i ∧ i ≤ w.xs.length ∧ ∃ W' S' e', Stp W1 H1 W' H' ∧ Sim G W' S' H' ∧ Slots G W' e' σ ∧ w.ck S' = true ∧ Post G W' H' Wx (ROut G) (forR (foStep t fb) w.ck (w.xs.drop i) e' S') (ends De),
    ⟨w.xs.length, by simp, Nat.zero_le _, W1, S1, e, .refl, s1, sl.stp t1, ck1, by simpa using po1⟩, ?_⟩
  rintro i n σ H' ⟨rfl, hi, W', S', e', st, si', sl', ck', pf⟩
  have ex : WExt W1 W' := st.ext
  by_cases hlt : i < w.xs.length
  · refine .inr ?_
    have hd : w.xs[i]? = some w.xs[i] := List.getElem?_eq_getElem hlt
    obtain ⟨g1, g2⟩ := wk.go W' S' H' ex si' ck' i _ hd
    rw [List.drop_eq_getElem_cons hlt] at pf
    simp only [forR] at pf
    refine ⟨g1, fun σ H' => ∃ W' S' e', Stp W1 H1 W' H' ∧ Sim G W' S' H' ∧ Slots G W' e' σ ∧ w.ck S' = true ∧ Post G W' H' Wx (ROut G) (forR (foStep t fb) w.ck (w.xs.drop (i + 1)) e' S') (ends De), fun σ' H' z => ⟨w.xs.length - (i + 1), by omega, rfl, hlt, z⟩, fun x H'' y => ?_⟩
    obtain ⟨W2, st2, si2, rx⟩ := g2 x H'' y
    have pf2 := pf.stp st2
    cases ht : asT t w.xs[i] e' with
    | none =>
      unfold foStep at pf2
      rw [ht] at pf2
      exact False.elim pf2
    | some e1 =>
      refine ⟨W2, S', e', _, e1, si2, sl'.stp st2, rx, ht, fun σ2 sl2 _ => ?_⟩
      refine ⟨W2, S', e1, si2, sl2, ?_⟩
      have eq : foStep t fb w.xs[i] e' S' = fb e1 S' := by unfold foStep; rw [ht]
      rw [eq] at pf2
      refine (Post.bind (R := ROut G) pf2).mono fun b H3 ⟨W3, S3, o, t3, s3, r3, _, po3⟩ => ?_
      cases b with
      | inl σ3 => cases o with
        | nx e3 =>
          dsimp only at po3
          split at po3
          · rename_i hc; exact ⟨W3, S3, e3, (st.trans st2).trans t3, s3, r3, hc, po3⟩
          · exact False.elim po3
        | rt d => exact False.elim r3
      | inr v => cases o with
        | nx e1 => exact False.elim r3
        | rt d => exact po3.ok (v := .inr v) s3 r3
  · refine .inl ?_
    have e0 : i = w.xs.length := by omega
    subst e0
    refine ⟨wk.stop W' S' H' ex si' ck' _ (Nat.le_refl _), ?_⟩
    rw [List.drop_length] at pf
    exact pf.ok (v := .inl σ) si' sl'
end
end Mi
end
section
set_option Elab.async false
set_option linter.all false
set_option maxRecDepth 100000
set_option maxHeartbeats 1000000
/-! what is walked -/
namespace Mi
open PySem L2 PyProof.Rows RZ
section
variable {G : Gd} {k : Nat} {Wx : WX} {N : List Str} {sc : Scope} {X : Cx}
theorem pi_or {tg it : PySem.Expr} {t u : TI} (h : PI X tg it t) (h' : PI X tg it u) : PI X tg it (fun σ H R => t σ H R ∨ u σ H R) :=
  ⟨fun pins s σ H R I q => q.elim (fun q => h.run pins s σ H R I q) fun q => h'.run pins s σ H R I q⟩
theorem seq_ofT {W : Wd} {S : Sto} {H : Hp} {d : D} {v : V} {xs : List D} (si : Sim G W S H) (r : RepV G W d v) (h : seqOf S d = some xs) :
    ∃ a vs, v = .ref a ∧ (d.isT = true → SqT G.K H a vs) ∧ (d.isT = false → SqL G.K H a vs) ∧ RepVs G W xs vs := by
  cases d with
  | tup ys =>
    simp only [seqOf, Option.some.injEq] at h; subst h
    simp only [RepV] at r
    obtain ⟨a, vs, e, q, t⟩ := r
    exact ⟨a, vs, e, fun _ => sqt_up si.sub q, fun z => by simp [D.isT] at z, t⟩
  | _ =>
    obtain ⟨a, vs, e, q, t⟩ := seq_list si r h (by simp)
    exact ⟨a, vs, e, fun z => by simp [D.isT] at z, fun _ => .inl q, t⟩
/-- the items of a sequence that stands -/
theorem seq_still {W W' : Wd} {S S' : Sto} {H' : Hp} {d : D} {v : V} {xs : List D} (r : RepV G W d v) (h : seqOf S d = some xs) (ex : WExt W W') (si' : Sim G W' S' H') (ck : still S d S' = true) :
    ∃ a vs, v = .ref a ∧ (d.isT = true → SqT G.K H' a vs) ∧ (d.isT = false → SqL G.K H' a vs) ∧ RepVs G W' xs vs := by
  have r' : RepV G W' d v := r.stp ex.F ex.mu
  have h' : seqOf S' d = some xs := by
    cases d with
    | ref n =>
      simp only [still, decide_eq_true_eq] at ck
      simp only [seqOf] at h ⊢
      rw [ck]; exact h
    | _ => exact h
  exact seq_ofT si' r' h'
theorem still_self (S : Sto) (d : D) : still S d S = true := by
  cases d <;> simp [still]
theorem wk_seq {W : Wd} {S : Sto} {d : D} {a : Addr} {xs : List D} (r : RepV G W d (.ref a)) (h : seqOf S d = some xs) :
    (d.isT = true → WkOk G W ⟨still S d, xs, none⟩ (Itt G.K a)) ∧ (d.isT = false → WkOk G W ⟨still S d, xs, none⟩ (Itl G.K a)) := by
  refine ⟨fun ht => ⟨fun W' S' H' ex si' ck i z hz => ?_, fun W' S' H' ex si' ck i hi => ?_⟩, fun ht => ⟨fun W' S' H' ex si' ck i z hz => ?_, fun W' S' H' ex si' ck i hi => ?_⟩⟩
  · obtain ⟨b, vs, e, q1, q2, t⟩ := seq_still r h ex si' ck
    cases e
    obtain ⟨u, g1, g2⟩ := t.get hz
    refine ⟨⟨vs, u, q1 ht, g1⟩, fun x H'' y => ?_⟩
    obtain ⟨e, y⟩ := y
    subst e
    have := y vs (q1 ht)
    rw [g1] at this; cases this
    exact ⟨W', .refl, si', g2⟩
  · obtain ⟨b, vs, e, q1, q2, t⟩ := seq_still r h ex si' ck
    cases e
    exact ⟨vs, q1 ht, by rw [← t.len]; exact hi⟩
  · obtain ⟨b, vs, e, q1, q2, t⟩ := seq_still r h ex si' ck
    cases e
    obtain ⟨u, g1, g2⟩ := t.get hz
    refine ⟨⟨vs, u, q2 ht, g1⟩, fun x H'' y => ?_⟩
    obtain ⟨e, y⟩ := y
    subst e
    have := y vs (q2 ht)
    rw [g1] at this; cases this
    exact ⟨W', .refl, si', g2⟩
  · obtain ⟨b, vs, e, q1, q2, t⟩ := seq_still r h ex si' ck
    cases e
    exact ⟨vs, q2 ht, by rw [← t.len]; exact hi⟩
theorem pi_seq (c : CxOk G k Wx N sc X) {tg e : PySem.Expr} {f : Env → Sto → Res D} (h : PE X e (rdE G Wx f)) :
    PI X tg e (rdI G Wx fun e S => (f e S).bind fun x S1 => lift ((seqOf S1 x).map fun xs => ⟨still S1 x, xs, none⟩) S1) := by
  refine (pi_or (pi_list h) (pi_tup h)).imp fun σ H R ⟨W, S, e, si, sl, po⟩ => ?_
  have main : ∀ b : Bool, (∀ d S1, f e S = .ok d S1 → d.isT = b) → (rdE G Wx f) σ H fun x H1 => ∃ a, x = .ref a ∧ (b = true → (∃ xs, SqT X.K H1 a xs) ∧ R (Itt X.K a) H1) ∧ (b = false → (∃ xs, SqL X.K H1 a xs) ∧ R (Itl X.K a) H1) := by
    intro b hb
    refine ⟨W, S, e, si, sl, (Post.bind (R := fun W' d v => RepV G W' d v) po).mono fun x H1 ⟨W1, S1, d, t1, s1, r1, ed, po1⟩ => ?_⟩
    obtain ⟨w, ew, po1⟩ := po1.lift
    obtain ⟨xs, hs, rfl⟩ := Option.map_eq_some_iff.mp ew
    have hd := hb d S1 ed
    obtain ⟨a, vs, rfl, q1, q2, t⟩ := seq_ofT s1 r1 hs
    obtain ⟨w1, w2⟩ := wk_seq (S := S1) r1 hs
    rw [c.cK]
    exact ⟨a, rfl, fun z => ⟨⟨vs, q1 (hd.trans z)⟩, po1.ok s1 (w1 (hd.trans z))⟩, fun z => ⟨⟨vs, q2 (hd.trans z)⟩, po1.ok s1 (w2 (hd.trans z))⟩⟩
  dsimp only at po
  cases hf : f e S with
  | stuck => rw [hf] at po; exact False.elim po
  | exc cc d S1 =>
    refine .inl ((main false fun d S1 z => by rw [hf] at z; cases z) |> fun ⟨W, S, e, a, b, p⟩ => ⟨W, S, e, a, b, p.mono fun x H1 ⟨q, e, _, h2⟩ => ⟨q, e, h2 rfl⟩⟩)
  | ok d S1 =>
    cases hd : d.isT with
    | true => exact .inr ((main true fun d' S1' z => by rw [hf] at z; cases z; exact hd) |> fun ⟨W, S, e, a, b, p⟩ => ⟨W, S, e, a, b, p.mono fun x H1 ⟨q, e, h1, _⟩ => ⟨q, e, h1 rfl⟩⟩)
    | false => exact .inl ((main false fun d' S1' z => by rw [hf] at z; cases z; exact hd) |> fun ⟨W, S, e, a, b, p⟩ => ⟨W, S, e, a, b, p.mono fun x H1 ⟨q, e, _, h2⟩ => ⟨q, e, h2 rfl⟩⟩)
theorem wk_rng {W : Wd} (lo : Int) (n : Nat) : WkOk G W ⟨fun _ => true, rangeD lo n, none⟩ (Itr lo n) := by
  have hl : (rangeD lo n).length = n := by simp [rangeD]
  refine ⟨fun W' S' H' ex si' ck i z hz => ?_, fun W' S' H' ex si' ck i hi => by show n ≤ i; rw [← hl]; exact hi⟩
  have hi : i < n := by rw [← hl]; exact (List.getElem?_eq_some_iff.mp hz).1
  have ez : z = .int (lo + i) := by
    have := hz
    simp only [rangeD, List.getElem?_map, List.getElem?_range hi, Option.map_some, Option.some.injEq] at this
    exact this.symm
  refine ⟨hi, fun x H'' y => ?_⟩
  obtain ⟨e, y⟩ := y
  subst e y ez
  exact ⟨W', .refl, si', by simp [RepV]⟩
theorem wk_rngC {W : Wd} (lo c : Int) (n : Nat) : WkOk G W ⟨fun _ => true, rangeS lo c n, none⟩ (Itc lo c n) := by
  have hl : (rangeS lo c n).length = n := by simp [rangeS]
  refine ⟨fun W' S' H' ex si' ck i z hz => ?_, fun W' S' H' ex si' ck i hi => by show n ≤ i; rw [← hl]; exact hi⟩
  have hi : i < n := by rw [← hl]; exact (List.getElem?_eq_some_iff.mp hz).1
  have ez : z = .int (lo + i * c) := by
    have := hz
    simp only [rangeS, List.getElem?_map, List.getElem?_range hi, Option.map_some, Option.some.injEq] at this
    exact this.symm
  refine ⟨hi, fun x H'' y => ?_⟩
  obtain ⟨e, y⟩ := y
  subst e y ez
  exact ⟨W', .refl, si', by simp [RepV]⟩
theorem rd_r1 {f : Env → Sto → Res D} {σ : L2.St} {H : Hp} {R : L2.It → Hp → Prop} (h : rdI G Wx (fun e S => (f e S).bind fun x S1 => match x with
    | .int j => if -(2 ^ 62) ≤ j ∧ j < 2 ^ 62 then .ok ⟨fun _ => true, rangeD 0 j.toNat, none⟩ S1 else .stuck
    | _ => .stuck) σ H R) : iRng1 (tCons (rdE G Wx f) tNil) σ H R := by
  obtain ⟨W, S, e, si, sl, po⟩ := h
  refine ⟨W, S, e, si, sl, (Post.bind (R := fun W' d v => RepV G W' d v) po).mono fun x H1 ⟨W1, S1, d, t1, s1, r1, ed, po1⟩ => ?_⟩
  split at po1
  · split at po1
    · rename_i j hc
      simp only [RepV] at r1
      subst r1
      exact ⟨j, rfl, hc.1, hc.2, po1.ok s1 (wk_rng 0 _)⟩
    · exact False.elim po1
  · exact False.elim po1
theorem rd_r2 {f g : Env → Sto → Res D} {σ : L2.St} {H : Hp} {R : L2.It → Hp → Prop} (h : rdI G Wx (fun e S => (f e S).bind fun x S1 => (g e S1).bind fun y S2 => match x, y with
    | .int i, .int j => if -(2 ^ 62) ≤ i ∧ i < 2 ^ 62 ∧ -(2 ^ 62) ≤ j ∧ j < 2 ^ 62 then .ok ⟨fun _ => true, rangeD i (j - i).toNat, none⟩ S2 else .stuck
    | _, _ => .stuck) σ H R) : iRng2 (tCons (rdE G Wx f) (tCons (rdE G Wx g) tNil)) σ H R := by
  obtain ⟨W, S, e, si, sl, po⟩ := h
  refine ⟨W, S, e, si, sl, (Post.bind (R := fun W' d v => RepV G W' d v) po).mono fun x H1 ⟨W1, S1, d, t1, s1, r1, ed, po1⟩ => ?_⟩
  refine ⟨W1, S1, e, s1, sl.stp t1, (Post.bind (R := fun W' d v => RepV G W' d v) po1).mono fun y H2 ⟨W2, S2, d2, t2, s2, r2, ed2, po2⟩ => ?_⟩
  have r1' := t2.rep r1
  split at po2
  · split at po2
    · rename_i i j _ hc
      simp only [RepV] at r1' r2
      subst r1' r2
      exact ⟨i, j, rfl, hc, po2.ok s2 (wk_rng _ _)⟩
    · exact False.elim po2
  · exact False.elim po2
theorem rd_r3 {f g : Env → Sto → Res D} {c : Int} {σ : L2.St} {H : Hp} {R : L2.It → Hp → Prop} (hc : c = -1) (h : rdI G Wx (fun e S => (f e S).bind fun x S1 => (g e S1).bind fun y S2 => match x, y with
    | .int i, .int j => if -(2 ^ 62) ≤ i ∧ i < 2 ^ 62 ∧ -(2 ^ 62) ≤ j ∧ j < 2 ^ 62 ∧ c ≠ 0 ∧ -1000 ≤ c ∧ c ≤ 1000 then .ok ⟨fun _ => true, rangeS i c (turnsOf i j c), none⟩ S2 else .stuck
    | _, _ => .stuck) σ H R) : iRng3 (tCons (rdE G Wx f) (tCons (rdE G Wx g) (tCons (rdE G Wx fun _ S => .ok (.int c) S) tNil))) σ H R := by
  obtain ⟨W, S, e, si, sl, po⟩ := h
  refine ⟨W, S, e, si, sl, (Post.bind (R := fun W' d v => RepV G W' d v) po).mono fun x H1 ⟨W1, S1, d, t1, s1, r1, ed, po1⟩ => ?_⟩
  refine ⟨W1, S1, e, s1, sl.stp t1, (Post.bind (R := fun W' d v => RepV G W' d v) po1).mono fun y H2 ⟨W2, S2, d2, t2, s2, r2, ed2, po2⟩ => ?_⟩
  have r1' := t2.rep r1
  refine ⟨W2, S2, e, s2, (sl.stp t1).stp t2, fun W3 H3 z t3 s3 r3 => ?_⟩
  have po3 := Post.stp po2 t3
  simp only [RepV] at r3
  subst r3
  split at po3
  · split at po3
    · rename_i i j _ hh
      have r1'' := t3.rep r1'
      have r2' := t3.rep r2
      simp only [RepV] at r1'' r2'
      subst r1'' r2' hc
      have et : turnsOf i j (-1) = (i - j).toNat := by
        unfold turnsOf
        rw [if_neg (by decide)]
        simp
      rw [et] at po3
      exact ⟨i, j, -1, _, rfl, RgC.neg hh.1 hh.2.1 hh.2.2.1 hh.2.2.2.1, po3.ok s3 (wk_rngC _ _ _)⟩
    · exact False.elim po3
  · exact False.elim po3
/-- pairs -/
theorem zip_get : ∀ {xs ys : List D} {i : Nat} {z : D}, (zipD xs ys)[i]? = some z → ∃ x y, xs[i]? = some x ∧ ys[i]? = some y ∧ z = .tup [x, y]
  | [], _, i, z, h => by simp [zipD] at h
  | _ :: _, [], i, z, h => by simp [zipD] at h
  | x :: xs, y :: ys, 0, z, h => by
    simp only [zipD, List.getElem?_cons_zero, Option.some.injEq] at h
    exact ⟨x, y, rfl, rfl, h.symm⟩
  | x :: xs, y :: ys, i + 1, z, h => by
    simp only [zipD, List.getElem?_cons_succ] at h
    obtain ⟨a, b, h1, h2, h3⟩ := zip_get h
    exact ⟨a, b, by simpa using h1, by simpa using h2, h3⟩
theorem zip_len : ∀ xs ys : List D, (zipD xs ys).length = min xs.length ys.length
  | [], _ => by simp [zipD]
  | _ :: _, [] => by simp [zipD]
  | x :: xs, y :: ys => by simp only [zipD, List.length_cons, zip_len xs ys]; omega
theorem rep_pair {W : Wd} {S : Sto} {H : Hp} {d e : D} {x y : V} {p : Addr} (si : Sim G W S H) (hp : H p = none) (r1 : RepV G W d x) (r2 : RepV G W e y) : ∃ W'', Stp W H W'' (upd H p (.tup [x, y])) ∧ Sim G W'' S (upd H p (.tup [x, y])) ∧ RepV G W'' (.tup [d, e]) (.ref p) := by
  have st := Stp.lay si (o := .tup [x, y]) hp
  refine ⟨_, st, si.lay hp, ?_⟩
  simp only [RepV]
  exact ⟨p, [x, y], rfl, by show upd W.F p _ p = _; rw [upd_same], (RepVs.one (st.rep r2)).cons (st.rep r1)⟩
theorem rd_zip (c : CxOk G k Wx N sc X) {f g : Env → Sto → Res D} {σ : L2.St} {H : Hp} {R : L2.It → Hp → Prop} (h : rdI G Wx (fun e S => (f e S).bind fun x S1 => (g e S1).bind fun y S2 => match seqOf S2 x, seqOf S2 y with
    | some xs, some ys => if x.isT = y.isT then .ok ⟨fun S => still S2 x S && still S2 y S, zipD xs ys, none⟩ S2 else .stuck
    | _, _ => .stuck) σ H R) : iZipA X.K (tCons (rdE G Wx f) (tCons (rdE G Wx g) tNil)) σ H R := by
  obtain ⟨W, S, e, si, sl, po⟩ := h
  refine ⟨W, S, e, si, sl, (Post.bind (R := fun W' d v => RepV G W' d v) po).mono fun x H1 ⟨W1, S1, d, t1, s1, r1, ed, po1⟩ => ?_⟩
  refine ⟨W1, S1, e, s1, sl.stp t1, (Post.bind (R := fun W' d v => RepV G W' d v) po1).mono fun y H2 ⟨W2, S2, d2, t2, s2, r2, ed2, po2⟩ => ?_⟩
  have r1' := t2.rep r1
  split at po2
  · rename_i xs ys hx hy
    split at po2
    · rename_i he
      obtain ⟨a, vs, rfl, q1, q2, u1⟩ := seq_ofT s2 r1' hx
      obtain ⟨b, us, rfl, q3, q4, u2⟩ := seq_ofT s2 r2 hy
      rw [c.cK]
      refine ⟨a, b, vs, us, rfl, ?_⟩
      cases ht : d.isT with
      | false =>
        have ht2 : d2.isT = false := by rw [← he]; exact ht
        refine .inl ⟨q2 ht, q4 ht2, po2.ok s2 ⟨fun W' S' H' ex si' ck i z hz => ?_, fun W' S' H' ex si' ck i hi => ?_⟩⟩
        · simp only [Bool.and_eq_true] at ck
          obtain ⟨a', vs', e1, g1, g2, g3⟩ := seq_still r1' hx ex si' ck.1
          obtain ⟨b', us', e2, g4, g5, g6⟩ := seq_still r2 hy ex si' ck.2
          cases e1; cases e2
          obtain ⟨x, y, h1, h2, rfl⟩ := zip_get hz
          obtain ⟨v1, w1, w2⟩ := g3.get h1
          obtain ⟨v2, w3, w4⟩ := g6.get h2
          refine ⟨⟨vs', us', v1, v2, g2 ht, g5 ht2, w1, w3⟩, fun z H'' yy => ?_⟩
          obtain ⟨T, v1', v2', rfl, hT, rfl, k1, k2⟩ := yy
          have := k1 vs' (g2 ht)
          rw [w1] at this; cases this
          have := k2 us' (g5 ht2)
          rw [w3] at this; cases this
          exact rep_pair si' hT w2 w4
        · simp only [Bool.and_eq_true] at ck
          obtain ⟨a', vs', e1, g1, g2, g3⟩ := seq_still r1' hx ex si' ck.1
          obtain ⟨b', us', e2, g4, g5, g6⟩ := seq_still r2 hy ex si' ck.2
          cases e1; cases e2
          dsimp only at hi
          rw [zip_len, g3.len, g6.len] at hi
          exact ⟨vs', us', g2 ht, g5 ht2, by omega⟩
      | true =>
        have ht2 : d2.isT = true := by rw [← he]; exact ht
        refine .inr ⟨q1 ht, q3 ht2, po2.ok s2 ⟨fun W' S' H' ex si' ck i z hz => ?_, fun W' S' H' ex si' ck i hi => ?_⟩⟩
        · simp only [Bool.and_eq_true] at ck
          obtain ⟨a', vs', e1, g1, g2, g3⟩ := seq_still r1' hx ex si' ck.1
          obtain ⟨b', us', e2, g4, g5, g6⟩ := seq_still r2 hy ex si' ck.2
          cases e1; cases e2
          obtain ⟨x, y, h1, h2, rfl⟩ := zip_get hz
          obtain ⟨v1, w1, w2⟩ := g3.get h1
          obtain ⟨v2, w3, w4⟩ := g6.get h2
          refine ⟨⟨vs', us', v1, v2, g1 ht, g4 ht2, w1, w3⟩, fun z H'' yy => ?_⟩
          obtain ⟨T, v1', v2', rfl, hT, rfl, k1, k2⟩ := yy
          have := k1 vs' (g1 ht)
          rw [w1] at this; cases this
          have := k2 us' (g4 ht2)
          rw [w3] at this; cases this
          exact rep_pair si' hT w2 w4
        · simp only [Bool.and_eq_true] at ck
          obtain ⟨a', vs', e1, g1, g2, g3⟩ := seq_still r1' hx ex si' ck.1
          obtain ⟨b', us', e2, g4, g5, g6⟩ := seq_still r2 hy ex si' ck.2
          cases e1; cases e2
          dsimp only at hi
          rw [zip_len, g3.len, g6.len] at hi
          exact ⟨vs', us', g1 ht, g4 ht2, by omega⟩
    · exact False.elim po2
  · exact False.elim po2
end
end Mi
end
section
set_option Elab.async false
set_option linter.all false
set_option maxRecDepth 100000
set_option maxHeartbeats 1000000
/-! expressions: the rules by readings -/
namespace Mi
open PySem L2 PyProof.Rows
def noStar : PySem.Expr → Bool
  | .Starred _ _ => false
  | _ => true
theorem star_cons {e : PySem.Expr} (h : noStar e = true) (es : List PySem.Expr) (env : PySem.Env) : starEach (e :: es) env = (false, eval e env) :: starEach es env := by
  cases e <;> first | rfl | (simp [noStar] at h)
theorem star_back {env : PySem.Env} {pos : Pos} : ∀ {es : List PySem.Expr}, es.all noStar = true → (backTo pos (starEach es env)).any (·.1) = false ∧ (backTo pos (starEach es env)).all (fun x => !x.1) = true
  | [], _ => ⟨rfl, rfl⟩
  | e :: es, h => by
    simp only [List.all_cons, Bool.and_eq_true] at h
    obtain ⟨h1, h2⟩ := star_back (env := env) (pos := pos) h.2
    rw [star_cons h.1]
    simp only [backTo, List.map_cons, List.any_cons, List.all_cons] at h1 h2 ⊢
    rw [h1, h2]
    exact ⟨rfl, rfl⟩
/-- what stands ahead of a dot -/
def attB : PySem.Expr → Bool
  | .Call (.Name _ _) [] [] _ => false
  | _ => true
theorem att_base {o : PySem.Expr} (h : attB o = true) (name : Str) (env : PySem.Env) (whole : Sem Value) : attributeBase o name env whole = whole := by
  unfold attributeBase
  split
  · simp [attB] at h
  · rfl
def plainIx : PySem.Expr → Bool
  | .Slice _ _ _ _ => false
  | _ => true
theorem plain_ix {b : PySem.Expr} (h : plainIx b = true) : PlainIx b := by
  intro o i
  cases b <;> first | rfl | (simp [plainIx] at h)
/-- a test that is the value's truth -/
def plainT : PySem.Expr → Bool
  | .UnaryOp .Not _ _ => false
  | .BoolOp _ _ _ => false
  | .IfExp _ _ _ _ => false
  | .Compare _ _ _ _ => false
  | _ => true
theorem plain_test {a : PySem.Expr} (h : plainT a = true) (env : PySem.Env) (whole : Sem Value) : isTrue a env whole = (do let v ← whole; standAt a.pos; holding [v] (truthy v)) := by
  cases a with
  | UnaryOp op x p => cases op <;> first | rfl | (simp [plainT] at h)
  | BoolOp _ _ _ => simp [plainT] at h
  | IfExp _ _ _ _ => simp [plainT] at h
  | Compare _ _ _ _ => simp [plainT] at h
  | _ => rfl
def noSet : PySem.Expr → Bool
  | .Set _ _ _ => false
  | _ => true
theorem no_marks {b : PySem.Expr} (h : noSet b = true) (op : CmpOp) : behindInMarks op b = false := by
  cases b <;> first | rfl | (simp [noSet] at h)
def isBO : PySem.Expr → Bool
  | .BoolOp _ _ _ => true
  | _ => false
/-- an expression is what f evaluates, as a value and as a test -/
structure Both (G : Gd) (Wx : WX) (X : Cx) (e : PySem.Expr) (f : Env → Sto → Res D) : Prop where
  pe : PE X e (rdE G Wx f)
  pt : PT X e (rdT G Wx fun e S => truR (f e S))
  pw : isBO e = true → PW X e (rdT G Wx fun e S => truR (f e S))
section
variable {G : Gd} {k : Nat} {Wx : WX} {N : List Str} {sc : Scope} {X : Cx} {e e1 e2 e3 : PySem.Expr} {f f1 f2 f3 : Env → Sto → Res D} {pos : Pos}
theorem both_of (c : CxOk G k Wx N sc X) (h : PE X e (rdE G Wx f)) (ht : plainT e = true) : Both G Wx X e f := by
  refine ⟨h, (pt_truth h fun whole => plain_test ht _ _).imp fun σ H Q q => rd_tru c.cK q, fun z => ?_⟩
  cases e <;> simp_all [isBO, plainT]
/-- what the two-way operators are -/
def andF (f1 f2 : Env → Sto → Res D) (e : Env) (S : Sto) : Res D := (f1 e S).bind fun x S1 => match truth S1 x with
    | some true => f2 e S1
    | some false => .ok x S1
    | none => .stuck
def orF (f1 f2 : Env → Sto → Res D) (e : Env) (S : Sto) : Res D := (f1 e S).bind fun x S1 => match truth S1 x with
    | some false => f2 e S1
    | some true => .ok x S1
    | none => .stuck
theorem rd_andT (c : CxOk G k Wx N sc X) {σ : L2.St} {H : Hp} {Q : VK} (h : rdE G Wx (andF f1 f2) σ H Q) : tAndT X.K (rdE G Wx f1) (rdE G Wx f2) σ H Q := by
  obtain ⟨W, S, e, si, sl, po⟩ := h
  refine ⟨W, S, e, si, sl, (Post.bind (R := fun W' d v => RepV G W' d v) po).mono fun x H1 ⟨W1, S1, d, t1, s1, r1, _, po1⟩ => ?_⟩
  cases ht : truth S1 d with
  | none => rw [ht] at po1; exact False.elim po1
  | some b =>
    rw [ht] at po1
    refine ⟨b, by rw [c.cK]; exact tru_rel s1 r1 ht, ?_⟩
    cases b with
    | true => exact ⟨W1, S1, e, s1, sl.stp t1, po1⟩
    | false => exact po1.ok s1 r1
theorem rd_orT (c : CxOk G k Wx N sc X) {σ : L2.St} {H : Hp} {Q : VK} (h : rdE G Wx (orF f1 f2) σ H Q) : tOrT X.K (rdE G Wx f1) (rdE G Wx f2) σ H Q := by
  obtain ⟨W, S, e, si, sl, po⟩ := h
  refine ⟨W, S, e, si, sl, (Post.bind (R := fun W' d v => RepV G W' d v) po).mono fun x H1 ⟨W1, S1, d, t1, s1, r1, _, po1⟩ => ?_⟩
  cases ht : truth S1 d with
  | none => rw [ht] at po1; exact False.elim po1
  | some b =>
    rw [ht] at po1
    refine ⟨b, by rw [c.cK]; exact tru_rel s1 r1 ht, ?_⟩
    cases b with
    | true => exact po1.ok s1 r1
    | false => exact ⟨W1, S1, e, s1, sl.stp t1, po1⟩
theorem rd_and {σ : L2.St} {H : Hp} {Q : Bool → Hp → Prop} (h : rdT G Wx (fun e S => truR (andF f1 f2 e S)) σ H Q) : tAnd (rdT G Wx fun e S => truR (f1 e S)) (rdT G Wx fun e S => truR (f2 e S)) σ H Q := by
  obtain ⟨W, S, e, si, sl, po⟩ := h
  refine ⟨W, S, e, si, sl, ?_⟩
  have eq : truR (andF f1 f2 e S) = (truR (f1 e S)).bind fun b S1 => if b then truR (f2 e S1) else .ok false S1 := by
    unfold andF truR
    cases f1 e S with
    | stuck => rfl
    | exc _ _ _ => rfl
    | ok d S1 =>
      simp only [Res.bind]
      cases ht : truth S1 d with
      | none => simp [lift]
      | some b => cases b <;> simp [lift, ht]
  dsimp only at po
  rw [eq] at po
  refine (Post.bind (R := fun _ (d : Bool) v => v = d) po).mono fun b H1 ⟨W1, S1, d, t1, s1, r1, _, po1⟩ => ?_
  subst r1
  cases b with
  | true => exact ⟨W1, S1, e, s1, sl.stp t1, po1⟩
  | false => exact po1.ok s1 rfl
theorem rd_or {σ : L2.St} {H : Hp} {Q : Bool → Hp → Prop} (h : rdT G Wx (fun e S => truR (orF f1 f2 e S)) σ H Q) : tOr (rdT G Wx fun e S => truR (f1 e S)) (rdT G Wx fun e S => truR (f2 e S)) σ H Q := by
  obtain ⟨W, S, e, si, sl, po⟩ := h
  refine ⟨W, S, e, si, sl, ?_⟩
  have eq : truR (orF f1 f2 e S) = (truR (f1 e S)).bind fun b S1 => if b then .ok true S1 else truR (f2 e S1) := by
    unfold orF truR
    cases f1 e S with
    | stuck => rfl
    | exc _ _ _ => rfl
    | ok d S1 =>
      simp only [Res.bind]
      cases ht : truth S1 d with
      | none => simp [lift]
      | some b => cases b <;> simp [lift, ht]
  dsimp only at po
  rw [eq] at po
  refine (Post.bind (R := fun _ (d : Bool) v => v = d) po).mono fun b H1 ⟨W1, S1, d, t1, s1, r1, _, po1⟩ => ?_
  subst r1
  cases b with
  | true => exact po1.ok s1 rfl
  | false => exact ⟨W1, S1, e, s1, sl.stp t1, po1⟩
theorem both_one {op : BoolOp} (h : Both G Wx X e f) : Both G Wx X (.BoolOp op [e] pos) f := by
  refine ⟨pe_one h.pe, ?_, fun _ => ?_⟩
  · cases op with
    | And => exact (pw_and1 h.pt).pt
    | Or => exact (pw_or1 h.pt).pt
  · cases op with
    | And => exact pw_and1 h.pt
    | Or => exact pw_or1 h.pt
theorem both_and (c : CxOk G k Wx N sc X) {es : List PySem.Expr} (h1 : Both G Wx X e1 f1) (h2 : Both G Wx X (.BoolOp .And (e2 :: es) pos) f2) : Both G Wx X (.BoolOp .And (e1 :: e2 :: es) pos) (andF f1 f2) := by
  have w := (pw_and h1.pt (h2.pw rfl)).imp fun σ H Q q => rd_and q
  exact ⟨(pe_andT h1.pe h2.pe).imp fun σ H Q q => rd_andT c q, w.pt, fun _ => w⟩
theorem both_or (c : CxOk G k Wx N sc X) {es : List PySem.Expr} (h1 : Both G Wx X e1 f1) (h2 : Both G Wx X (.BoolOp .Or (e2 :: es) pos) f2) : Both G Wx X (.BoolOp .Or (e1 :: e2 :: es) pos) (orF f1 f2) := by
  have w := (pw_or h1.pt (h2.pw rfl)).imp fun σ H Q q => rd_or q
  exact ⟨(pe_orT h1.pe h2.pe).imp fun σ H Q q => rd_orT c q, w.pt, fun _ => w⟩
theorem both_not (c : CxOk G k Wx N sc X) (h : Both G Wx X e f) : Both G Wx X (.UnaryOp .Not e pos) (fun e S => (truR (f e S)).bind fun k S1 => .ok (.bl (!k)) S1) := by
  refine ⟨(pe_notT h.pe).imp fun σ H Q q => ?_, (pt_not h.pt).imp fun σ H Q q => ?_, fun z => by cases z⟩
  · obtain ⟨W, S, e, si, sl, po⟩ := q
    have eq : (truR (f e S)).bind (fun k S1 => (.ok (.bl (!k)) S1 : Res D)) = (f e S).bind fun d S1 => (lift (truth S1 d) S1).bind fun k S1 => .ok (.bl (!k)) S1 := by
      unfold truR
      cases f e S <;> rfl
    dsimp only at po
    rw [eq] at po
    refine ⟨W, S, e, si, sl, (Post.bind (R := fun W' d v => RepV G W' d v) po).mono fun x H1 ⟨W1, S1, d, t1, s1, r1, _, po1⟩ => ?_⟩
    cases ht : truth S1 d with
    | none => rw [ht] at po1; exact False.elim po1
    | some b =>
      rw [ht] at po1
      exact ⟨b, by rw [c.cK]; exact tru_rel s1 r1 ht, po1.ok s1 (by simp [RepV])⟩
  · obtain ⟨W, S, e, si, sl, po⟩ := q
    have eq : truR ((truR (f e S)).bind fun k S1 => (.ok (.bl (!k)) S1 : Res D)) = (truR (f e S)).bind fun k S1 => .ok (!k) S1 := by
      cases truR (f e S) <;> rfl
    dsimp only at po
    rw [eq] at po
    refine ⟨W, S, e, si, sl, (Post.bind (R := fun _ (d : Bool) v => v = d) po).mono fun b H1 ⟨W1, S1, d, t1, s1, r1, _, po1⟩ => ?_⟩
    subst r1
    exact po1.ok s1 rfl
theorem both_neg (c : CxOk G k Wx N sc X) (h : PE X e (rdE G Wx f)) : Both G Wx X (.UnaryOp .USub e pos) (fun e S => (f e S).bind fun x S1 => match x with
    | .int i => .ok (.int (-i)) S1
    | _ => .stuck) := by
  refine both_of c ((pe_un un_neg h).imp fun σ H Q ⟨W, S, e, si, sl, po⟩ => ?_) rfl
  refine ⟨W, S, e, si, sl, (Post.bind (R := fun W' d v => RepV G W' d v) po).mono fun x H1 ⟨W1, S1, d, t1, s1, r1, _, po1⟩ => ?_⟩
  cases d with
  | int i =>
    simp only [RepV] at r1; subst r1
    exact ⟨i, rfl, po1.ok s1 (by simp [RepV])⟩
  | _ => exact False.elim po1
theorem both_bin (c : CxOk G k Wx N sc X) (o : BOp) (m : Bool) (h1 : PE X e1 (rdE G Wx f1)) (h2 : PE X e2 (rdE G Wx f2)) : Both G Wx X (.BinOp e1 (bopOf o) e2 pos) (fun e S => (f1 e S).bind fun x S1 => (f2 e S1).bind fun y S2 => binD o m S2 x y) :=
  both_of c ((pe_op (bop_ok c o m) h1 h2).imp fun σ H Q q => rd_bin q) rfl
theorem both_idx (c : CxOk G k Wx N sc X) (h1 : PE X e1 (rdE G Wx f1)) (h2 : PE X e2 (rdE G Wx f2)) (hi : plainIx e2 = true) : Both G Wx X (.Subscript e1 e2 pos) (fun e S => (f1 e S).bind fun x S1 => (f2 e S1).bind fun y S2 => getI S2 x y) :=
  both_of c ((pe_ix (ix_ok c) h1 h2 (plain_ix hi)).imp fun σ H Q q => rd_bin (p := fun a b S => getI S a b) q) rfl
theorem both_att (c : CxOk G k Wx N sc X) (ko : KOk G) {i : Nat} {x : Str} (hx : G.nm i = x) (h : PE X e (rdE G Wx f)) (hb : attB e = true) : Both G Wx X (.Attribute e x pos) (fun e S => (f e S).bind fun x S1 => lift (getA S1 x i) S1) := by
  subst hx
  exact both_of c ((pe_fld h (att_base hb _ _ _)).imp fun σ H Q q => att_rd c ko q) rfl
/-- c if t else e -/
theorem both_ite (c : CxOk G k Wx N sc X) (h1 : Both G Wx X e1 f1) (h2 : Both G Wx X e2 f2) (h3 : Both G Wx X e3 f3) : Both G Wx X (.IfExp e1 e2 e3 pos) (fun e S => (truR (f1 e S)).bind fun k S1 => if k then f2 e S1 else f3 e S1) := by
  have rd : ∀ (σ : L2.St) (H : Hp) (Q : VK), rdE G Wx (fun e S => (truR (f1 e S)).bind fun k S1 => if k then f2 e S1 else f3 e S1) σ H Q → tIf (rdT G Wx fun e S => truR (f1 e S)) (rdE G Wx f2) (rdE G Wx f3) σ H Q := fun σ H Q ⟨W, S, e, si, sl, po⟩ => by
    refine ⟨W, S, e, si, sl, (Post.bind (R := fun _ (d : Bool) v => v = d) po).mono fun b H1 ⟨W1, S1, d, t1, s1, r1, _, po1⟩ => ?_⟩
    subst r1
    cases b with
    | true => exact ⟨W1, S1, e, s1, sl.stp t1, po1⟩
    | false => exact ⟨W1, S1, e, s1, sl.stp t1, po1⟩
  refine ⟨(pe_ifExp h1.pt h2.pe h3.pe).imp rd, ?_, fun z => by cases z⟩
  refine ⟨fun pins s σ H Q I h => ?_⟩
  obtain ⟨W, S, e, si, sl, po⟩ := h
  have eq : truR ((truR (f1 e S)).bind fun k S1 => if k then f2 e S1 else f3 e S1) = (truR (f1 e S)).bind fun k S1 => if k then truR (f2 e S1) else truR (f3 e S1) := by
    cases truR (f1 e S) with
    | ok b S1 => cases b <;> rfl
    | exc _ _ _ => rfl
    | stuck => rfl
  dsimp only at po
  rw [eq] at po
  show wpAny _ _ (do
    if ← isTrue e1 X.env (eval e1 X.env) then isTrue e2 X.env (eval e2 X.env) else isTrue e3 X.env (eval e3 X.env)) _ _ s
  refine wpAny_bind (wpAny_mono (h1.pt.run pins s σ H (fun b H1 => ∃ W1 S1, Sim G W1 S1 H1 ∧ Slots G W1 e σ ∧ Post G W1 H1 Wx (fun _ (d : Bool) v => v = d) (if b then truR (f2 e S1) else truR (f3 e S1)) Q) I
    ⟨W, S, e, si, sl, (Post.bind (R := fun _ (d : Bool) v => v = d) po).mono fun b H1 ⟨W1, S1, d, t1, s1, r1, _, po1⟩ => ⟨W1, S1, s1, sl.stp t1, by subst r1; exact po1⟩⟩) (fun b s1 q => ?_) fun _ _ x => x)
  obtain ⟨H1, I1, W1, S1, i1, l1, po1⟩ := q
  cases b with
  | true => exact h2.pt.run pins s1 σ H1 Q I1 ⟨W1, S1, e, i1, l1, po1⟩
  | false => exact h3.pt.run pins s1 σ H1 Q I1 ⟨W1, S1, e, i1, l1, po1⟩
end
end Mi
end
section
set_option Elab.async false
set_option linter.all false
set_option maxRecDepth 100000
set_option maxHeartbeats 1000000
/-! comparisons, displays, arguments, built-in calls -/
namespace Mi
open PySem L2 PyProof.Rows
section
variable {G : Gd} {k : Nat} {Wx : WX} {N : List Str} {sc : Scope} {X : Cx} {e e1 e2 e3 : PySem.Expr} {es : List PySem.Expr} {f f1 f2 f3 : Env → Sto → Res D} {fs : Env → Sto → Res (List D)} {pos : Pos} {call : Nat → List D → Sto → Res D}
theorem both_cmp (c : CxOk G k Wx N sc X) (he : EqOk G Wx X call) (o : COp) (h1 : PE X e1 (rdE G Wx f1)) (h2 : PE X e2 (rdE G Wx f2)) (hs : noSet e2 = true) :
    Both G Wx X (.Compare e1 [copOf o] [e2] pos) (fun e S => (f1 e S).bind fun x S1 => (f2 e S1).bind fun y S2 => cmpD G.M call o S2 x y) := by
  refine ⟨(pe_cmpR (cmp_ok c he o) h1 h2 (no_marks hs _)).imp fun σ H Q q => rd_bin q, (pt_cmpR (cmp_ok c he o) h1 h2 (no_marks hs _)).imp fun σ H Q ⟨W, S, e, si, sl, po⟩ => ?_, fun z => by cases z⟩
  have eq : truR ((f1 e S).bind fun x S1 => (f2 e S1).bind fun y S2 => cmpD G.M call o S2 x y) = (f1 e S).bind fun x S1 => (f2 e S1).bind fun y S2 => truR (cmpD G.M call o S2 x y) := by
    cases f1 e S with
    | ok x S1 =>
      simp only [Res.bind]
      cases f2 e S1 <;> rfl
    | exc _ _ _ => rfl
    | stuck => rfl
  dsimp only at po
  rw [eq] at po
  refine ⟨W, S, e, si, sl, (Post.bind (R := fun W' d v => RepV G W' d v) po).mono fun x H1 ⟨W1, S1, d1, t1, s1, r1, _, po1⟩ => ?_⟩
  refine ⟨W1, S1, e, s1, sl.stp t1, (Post.bind (R := fun W' d v => RepV G W' d v) po1).mono fun y H2 ⟨W2, S2, d2, t2, s2, r2, _, po2⟩ => ?_⟩
  refine ⟨W2, S2, d1, d2, s2, t2.rep r1, r2, (Post.bind (R := fun W' d v => RepV G W' d v) po2).mono fun z H3 ⟨W3, S3, d3, t3, s3, r3, ec, po3⟩ => ?_⟩
  obtain ⟨b, rfl⟩ := cmpD_bl ec
  simp only [RepV] at r3
  exact ⟨b, r3, po3.ok s3 rfl⟩
theorem both_chn (c : CxOk G k Wx N sc X) (he : EqOk G Wx X call) (o o' : COp) (h1 : PE X e1 (rdE G Wx f1)) (h2 : PE X e2 (rdE G Wx f2)) (h3 : PE X e3 (rdE G Wx f3)) (hs : noSet e3 = true) :
    Both G Wx X (.Compare e1 [copOf o, copOf o'] [e2, e3] pos) (fun e S => (f1 e S).bind fun x S1 => (f2 e S1).bind fun y S2 => (cmpD G.M call o S2 x y).bind fun k S3 => match k with
    | .bl true => (f3 e S3).bind fun z S4 => cmpD G.M call o' S4 y z
    | .bl false => .ok (.bl false) S3
    | _ => .stuck) := by
  have hm : lastMarks [copOf o, copOf o'] [e2, e3] = false := no_marks hs _
  have key : ∀ (Q : VK) (σ : L2.St) (H : Hp), rdE G Wx (fun e S => (f1 e S).bind fun x S1 => (f2 e S1).bind fun y S2 => (cmpD G.M call o S2 x y).bind fun k S3 => match k with
    | .bl true => (f3 e S3).bind fun z S4 => cmpD G.M call o' S4 y z
    | .bl false => .ok (.bl false) S3
    | _ => .stuck) σ H Q → tChain (op2 G Wx fun a b S => cmpD G.M call o S a b) (op2 G Wx fun a b S => cmpD G.M call o' S a b) (rdE G Wx f1) (rdE G Wx f2) (rdE G Wx f3) σ H Q := fun Q σ H ⟨W, S, e, si, sl, po⟩ => by
    refine ⟨W, S, e, si, sl, (Post.bind (R := fun W' d v => RepV G W' d v) po).mono fun x H1 ⟨W1, S1, d1, t1, s1, r1, _, po1⟩ => ?_⟩
    refine ⟨W1, S1, e, s1, sl.stp t1, (Post.bind (R := fun W' d v => RepV G W' d v) po1).mono fun y H2 ⟨W2, S2, d2, t2, s2, r2, _, po2⟩ => ?_⟩
    refine ⟨W2, S2, d1, d2, s2, t2.rep r1, r2, (Post.bind (R := fun W' d v => RepV G W' d v) po2).mono fun z H3 ⟨W3, S3, d3, t3, s3, r3, ec, po3⟩ => ?_⟩
    obtain ⟨b, rfl⟩ := cmpD_bl ec
    simp only [RepV] at r3
    refine ⟨b, r3, ?_⟩
    cases b with
    | false => exact po3.ok s3 (by simp [RepV])
    | true =>
      refine ⟨W3, S3, e, s3, ((sl.stp t1).stp t2).stp t3, (Post.bind (R := fun W' d v => RepV G W' d v) po3).mono fun w H4 ⟨W4, S4, d4, t4, s4, r4, _, po4⟩ => ?_⟩
      exact ⟨W4, S4, d2, d4, s4, t4.rep (t3.rep r2), r4, po4⟩
  refine ⟨(pe_chain (cmp_ok c he o) (cmp_ok c he o') h1 h2 h3 hm).imp fun σ H Q q => key Q σ H q, (pt_chain (cmp_ok c he o) (cmp_ok c he o') h1 h2 h3 hm).imp fun σ H Q ⟨W, S, e, si, sl, po⟩ => key _ σ H ⟨W, S, e, si, sl, ?_⟩, fun z => by cases z⟩
  refine (Post.bind (R := fun W' d v => RepV G W' d v) (r := (f1 e S).bind fun x S1 => (f2 e S1).bind fun y S2 => (cmpD G.M call o S2 x y).bind fun k S3 => match k with
    | .bl true => (f3 e S3).bind fun z S4 => cmpD G.M call o' S4 y z
    | .bl false => .ok (.bl false) S3
    | _ => .stuck) (k := fun d S => lift (truth S d) S) po).mono fun z H3 ⟨W3, S3, d3, t3, s3, r3, ec, po3⟩ => ?_
  have hb : ∃ b, d3 = .bl b := by
    cases h1 : f1 e S with
    | stuck => rw [h1] at ec; cases ec
    | exc _ _ _ => rw [h1] at ec; cases ec
    | ok x S1 =>
      rw [h1] at ec
      simp only [Res.bind] at ec
      cases h2 : f2 e S1 with
      | stuck => rw [h2] at ec; cases ec
      | exc _ _ _ => rw [h2] at ec; cases ec
      | ok y S2 =>
        rw [h2] at ec
        simp only at ec
        cases h3 : cmpD G.M call o S2 x y with
        | stuck => rw [h3] at ec; cases ec
        | exc _ _ _ => rw [h3] at ec; cases ec
        | ok kk S3' =>
          obtain ⟨b, rfl⟩ := cmpD_bl h3
          rw [h3] at ec
          cases b with
          | false => simp only at ec; cases ec; exact ⟨_, rfl⟩
          | true =>
            simp only at ec
            cases h4 : f3 e S3' with
            | stuck => rw [h4] at ec; cases ec
            | exc _ _ _ => rw [h4] at ec; cases ec
            | ok z' S4 => rw [h4] at ec; exact cmpD_bl ec
  obtain ⟨b, rfl⟩ := hb
  simp only [RepV] at r3
  exact ⟨b, r3, po3.ok s3 rfl⟩
/-! ### arguments -/
theorem args_nil : PA X [] (rdA G Wx fun _ S => .ok [] S) := by
  refine ⟨fun pos pins s σ H Q I ⟨W, S, e, si, sl, po⟩ => ?_⟩
  exact pa_nil.run pos pins s σ H Q I (po.ok si RepVs.nil)
theorem args_cons (h1 : PE X e (rdE G Wx f)) (h2 : PA X es (rdA G Wx fs)) (hs : noStar e = true) : PA X (e :: es) (rdA G Wx fun e S => (f e S).bind fun d S1 => (fs e S1).bind fun ds S2 => .ok (d :: ds) S2) := by
  refine (pa_cons h1 h2 (star_cons hs _ _)).imp fun σ H Q ⟨W, S, e, si, sl, po⟩ => ?_
  refine ⟨W, S, e, si, sl, (Post.bind (R := fun W' d v => RepV G W' d v) po).mono fun x H1 ⟨W1, S1, d1, t1, s1, r1, _, po1⟩ => ?_⟩
  refine ⟨W1, S1, e, s1, sl.stp t1, (Post.bind (R := fun W' d v => RepVs G W' d v) po1).mono fun y H2 ⟨W2, S2, d2, t2, s2, r2, _, po2⟩ => ?_⟩
  exact po2.ok s2 (r2.cons (t2.rep r1))
theorem both_tup (c : CxOk G k Wx N sc X) {x1 : Nat} (h : PA X es (rdA G Wx fs)) : Both G Wx X (.Tuple es x1 pos) (fun e S => (fs e S).bind fun xs S1 => newT xs S1) := by
  refine both_of c ((pe_tup h).imp fun σ H Q ⟨W, S, e, si, sl, po⟩ => ?_) rfl
  refine ⟨W, S, e, si, sl, (Post.bind (R := fun W' d v => RepVs G W' d v) po).mono fun x H1 ⟨W1, S1, d1, t1, s1, r1, _, po1⟩ => ?_⟩
  unfold newT at po1
  split at po1
  · rename_i hl
    exact ⟨by rw [← r1.len, ← LINE_eq]; exact hl, post_tup s1 r1 po1⟩
  · exact False.elim po1
theorem both_lst (c : CxOk G k Wx N sc X) (m : Bool) (h : PA X es (rdA G Wx fs)) : Both G Wx X (.List es pos) (fun e S => (fs e S).bind fun xs S1 => newL m xs S1) := by
  refine both_of c ((pe_lst h).imp fun σ H Q ⟨W, S, e, si, sl, po⟩ => ?_) rfl
  refine ⟨W, S, e, si, sl, (Post.bind (R := fun W' d v => RepVs G W' d v) po).mono fun x H1 ⟨W1, S1, d1, t1, s1, r1, _, po1⟩ => ?_⟩
  exact post_lst s1 r1 po1
/-! ### slices -/
def rdO (G : Gd) (Wx : WX) (f : Env → Sto → Res (Option Int)) : TO := fun σ H Q => ∃ W S e, Sim G W S H ∧ Slots G W e σ ∧ Post G W H Wx (fun _ (d : Option Int) v => v = d) (f e S) Q
theorem part_none : PO X none (rdO G Wx fun _ S => .ok none S) := by
  refine ⟨fun pins s σ H Q I ⟨W, S, e, si, sl, po⟩ => ?_⟩
  exact po_none.run pins s σ H Q I (po.ok si rfl)
theorem part_some (h : PE X e (rdE G Wx f)) : PO X (some e) (rdO G Wx fun e S => (f e S).bind fun d S1 => match d with
    | .int i => .ok (some i) S1
    | _ => .stuck) := by
  refine ⟨fun pins s σ H Q I ⟨W, S, e, si, sl, po⟩ => ?_⟩
  refine (po_some h).run pins s σ H Q I ⟨W, S, e, si, sl, (Post.bind (R := fun W' d v => RepV G W' d v) po).mono fun x H1 ⟨W1, S1, d1, t1, s1, r1, _, po1⟩ => ?_⟩
  cases d1 with
  | int i => simp only [RepV] at r1; exact ⟨i, r1, po1.ok s1 rfl⟩
  | _ => exact False.elim po1
theorem both_sl (c : CxOk G k Wx N sc X) {lo hi : Option PySem.Expr} {p2 : Pos} {fl fh : Env → Sto → Res (Option Int)} (h : PE X e (rdE G Wx f)) (hl : PO X lo (rdO G Wx fl)) (hh : PO X hi (rdO G Wx fh)) :
    Both G Wx X (.Subscript e (.Slice lo hi none p2) pos) (fun e S => (f e S).bind fun x S1 => (fl e S1).bind fun l S2 => (fh e S2).bind fun h S3 => cutD S3 x l h) := by
  refine both_of c ((pe_slice (sl_ok c) h hl hh).imp fun σ H Q ⟨W, S, e, si, sl, po⟩ => ?_) rfl
  refine ⟨W, S, e, si, sl, (Post.bind (R := fun W' d v => RepV G W' d v) po).mono fun x H1 ⟨W1, S1, d1, t1, s1, r1, _, po1⟩ => ?_⟩
  refine ⟨W1, S1, e, s1, sl.stp t1, (Post.bind (R := fun _ (d : Option Int) v => v = d) po1).mono fun l H2 ⟨W2, S2, d2, t2, s2, r2, _, po2⟩ => ?_⟩
  refine ⟨W2, S2, e, s2, (sl.stp t1).stp t2, (Post.bind (R := fun _ (d : Option Int) v => v = d) po2).mono fun u H3 ⟨W3, S3, d3, t3, s3, r3, _, po3⟩ => ?_⟩
  subst r2 r3
  exact ⟨W3, S3, d1, s3, t3.rep (t2.rep r1), po3⟩
/-! ### built-in calls -/
theorem both_bltF (c : CxOk G k Wx N sc X) {id : String} {x : Str} {p : Pos} {g : List D → Sto → Res D} (hc : CallR X (.builtin id) (opn G Wx g)) (hg : Gl X x) (hm : X.mg x = none) (hv : bootBuiltins x = some (.builtin id)) (hn : x ≠ "__name__") (hdb : (x == ("__debug__" : Str)) = false) (ha : PA X (e :: es) (rdA G Wx fs)) (hs : (e :: es).all noStar = true) :
    Both G Wx X (.Call (.Name x p) (e :: es) [] pos) (fun e S => (fs e S).bind fun xs S1 => g xs S1) := by
  have hs' : noStar e = true ∧ es.all noStar = true := by simpa using hs
  exact both_of c ((pe_callB hc hg hm hv ha hn hdb (star_cons hs'.1 _ _) (star_back hs'.2).1).imp fun σ H Q q => rd_args q) rfl
theorem both_bltT (c : CxOk G k Wx N sc X) {id : String} {x : Str} {p : Pos} {g : List D → Sto → Res D} (hc : CallR X (.type id) (opn G Wx g)) (hg : Gl X x) (hm : X.mg x = none) (hv : bootBuiltins x = some (.type id)) (hn : x ≠ "__name__") (hdb : (x == ("__debug__" : Str)) = false) (ha : PA X (e :: es) (rdA G Wx fs)) (hs : (e :: es).all noStar = true) :
    Both G Wx X (.Call (.Name x p) (e :: es) [] pos) (fun e S => (fs e S).bind fun xs S1 => g xs S1) := by
  have hs' : noStar e = true ∧ es.all noStar = true := by simpa using hs
  exact both_of c ((pe_callTy hc hg hm hv ha hn hdb (star_cons hs'.1 _ _) (star_back hs'.2).1).imp fun σ H Q q => rd_args q) rfl
/-- max(xs, default=0) -/
theorem both_maxd (c : CxOk G k Wx N sc X) {x : Str} {p p2 kp : Pos} {kk : Nat} (hx : x = "max") (hg : Gl X x) (hm : X.mg x = none) (h : PE X e (rdE G Wx f)) (hs : noStar e = true) :
    Both G Wx X (.Call (.Name x p) [e] [⟨some "default", .Constant (.int 0) kk p2, kp⟩] pos) (fun e S => (f e S).bind fun d S1 => maxdB S1 d) := by
  subst hx
  have hc : CallRK X (.builtin "max") [Str.ofString "default"] (fun xs zs H Q => ∃ x, xs = [x] ∧ zs = [.int 0] ∧ ∃ W S d, Sim G W S H ∧ RepV G W d x ∧ Post G W H Wx (fun W' d v => RepV G W' d v) (maxdB S d) Q) := by
    intro pins s σ H xs zs us ws Q I rx rz ⟨x, ex, ez, W, S, d, si, r, po⟩
    subst ex ez
    obtain ⟨u, rfl, ru⟩ := vals1 rx
    obtain ⟨w, rfl, t, rfl⟩ := vals1 rz
    exact blt_maxd c I ru si r po
  have ha : PA X [e] (tCons (rdE G Wx f) tNil) := pa_cons h pa_nil (star_cons hs _ _)
  have hk : PK X [⟨some (Str.ofString "default"), .Constant (.int 0) kk p2, kp⟩] (tCons (tC (.int 0)) tNil) := pk_cons pe_int pk_nil
  refine both_of c ((pe_callBK hc hg hm (by decide +kernel) ha hk (by decide) (by decide) (by rw [star_cons hs]; rfl) (by rw [star_cons hs]; rfl) rfl rfl rfl).imp fun σ H Q ⟨W, S, e', si, sl, po⟩ => ?_) rfl
  refine ⟨W, S, e', si, sl, (Post.bind (R := fun W' d v => RepV G W' d v) po).mono fun y H1 ⟨W1, S1, d1, t1, s1, r1, _, po1⟩ => ?_⟩
  exact ⟨y, rfl, rfl, W1, S1, d1, s1, r1, po1⟩
/-- isinstance(x, T) -/
theorem both_isi (c : CxOk G k Wx N sc X) (ko : KOk G) {T : Ty} {x : Str} {p : Pos} {v : V} (hx : x = "isinstance") (hg : Gl X x) (hm : X.mg x = none) (h : PE X e (rdE G Wx f)) (h2 : PE X e2 (tC v)) (hv : ClsV v (tyVal G T)) (hT : ∀ e, T = .cls e → ∃ C, G.M.cls e = some C ∧ C.init.isSome = true) (hs : noStar e = true) (hs2 : noStar e2 = true) :
    Both G Wx X (.Call (.Name x p) [e, e2] [] pos) (fun e S => (f e S).bind fun x S1 => lift ((isOf (res S1 x) T).map .bl) S1) := by
  subst hx
  have ha : PA X [e, e2] (tCons (rdE G Wx f) (tCons (tC v) tNil)) := pa_cons h (pa_cons h2 pa_nil (star_cons hs2 _ _)) (star_cons hs _ _)
  refine both_of c ((pe_callB (call_isi (X := X)) hg hm (by decide +kernel) ha (by decide) (by decide) (star_cons hs _ _) (star_back (by simp [hs2])).1).imp fun σ H Q ⟨W, S, e', si, sl, po⟩ => ?_) rfl
  refine ⟨W, S, e', si, sl, (Post.bind (R := fun W' d v => RepV G W' d v) po).mono fun y H1 ⟨W1, S1, d1, t1, s1, r1, _, po1⟩ => ?_⟩
  obtain ⟨z, ez, po1⟩ := po1.lift
  obtain ⟨b, eb, rfl⟩ := Option.map_eq_some_iff.mp ez
  obtain ⟨t, q1, q2⟩ := ty_of ko c s1 r1 eb hT
  exact ⟨y, v, t, _, b, rfl, hv, q1, q2, po1.ok s1 (by simp [RepV])⟩
end
end Mi
end
section
set_option Elab.async false
set_option linter.all false
set_option maxRecDepth 100000
set_option maxHeartbeats 1000000
/-! what a call leaves; calls -/
namespace Mi
open PySem L2 PyProof.Rows
def Wd.cut (W : Wd) (n : Nat) : Wd := ⟨W.F, W.mu.take n⟩
section
variable {G : Gd} {W W' : Wd} {S S' : Sto} {H H' : Hp} {Wx : WX}
mutual
theorem rep_bel : ∀ (d : D) (v : V), RepV G W d v → d.bel W.mu.length = true
  | .non, _, _ => rfl
  | .bl _, _, _ => rfl
  | .int _, _, _ => rfl
  | .str _, _, _ => rfl
  | .tup ds, v, h => by
    simp only [RepV] at h
    obtain ⟨_, vs, _, _, t⟩ := h
    simp only [D.bel]; exact reps_bel ds vs t
  | .lst ds, v, h => by
    simp only [RepV] at h
    obtain ⟨_, vs, _, _, t⟩ := h
    simp only [D.bel]; exact reps_bel ds vs t
  | .ins _ _ ds, v, h => by
    simp only [RepV] at h
    obtain ⟨_, _, vs, _, _, t, _⟩ := h
    simp only [D.bel]; exact reps_bel ds vs t
  | .ref n, v, h => by
    simp only [RepV] at h
    obtain ⟨a, _, q⟩ := h
    simp only [D.bel, decide_eq_true_eq]
    exact (List.getElem?_eq_some_iff.mp q).1
theorem reps_bel : ∀ (ds : List D) (vs : List V), RepVs G W ds vs → D.bels W.mu.length ds = true
  | [], _, _ => rfl
  | d :: ds, vs, h => by
    simp only [RepVs] at h
    obtain ⟨v, r, _, q, t⟩ := h
    simp only [D.bels, rep_bel d v q, reps_bel ds r t]; rfl
end
mutual
theorem rep_cut {n : Nat} : ∀ (d : D) (v : V), d.bel n = true → RepV G W d v → RepV G (W.cut n) d v
  | .non, _, _, h => by simpa [RepV] using h
  | .bl _, _, _, h => by simpa [RepV] using h
  | .int _, _, _, h => by simpa [RepV] using h
  | .str _, _, _, h => by simpa [RepV] using h
  | .tup ds, v, b, h => by
    simp only [D.bel] at b
    simp only [RepV] at h ⊢
    obtain ⟨a, vs, e, q, t⟩ := h
    exact ⟨a, vs, e, q, reps_cut ds vs b t⟩
  | .lst ds, v, b, h => by
    simp only [D.bel] at b
    simp only [RepV] at h ⊢
    obtain ⟨a, vs, e, q, t⟩ := h
    exact ⟨a, vs, e, q, reps_cut ds vs b t⟩
  | .ins _ _ ds, v, b, h => by
    simp only [D.bel] at b
    simp only [RepV] at h ⊢
    obtain ⟨a, dx, vs, e, q, t, l⟩ := h
    exact ⟨a, dx, vs, e, q, reps_cut ds vs b t, l⟩
  | .ref m, v, b, h => by
    simp only [D.bel, decide_eq_true_eq] at b
    simp only [RepV] at h ⊢
    obtain ⟨a, e, q⟩ := h
    refine ⟨a, e, ?_⟩
    show (W.mu.take n)[m]? = some a
    rw [List.getElem?_take_of_lt b]; exact q
theorem reps_cut {n : Nat} : ∀ (ds : List D) (vs : List V), D.bels n ds = true → RepVs G W ds vs → RepVs G (W.cut n) ds vs
  | [], vs, _, h => by simpa [RepVs] using h
  | d :: ds, vs, b, h => by
    simp only [D.bels, Bool.and_eq_true] at b
    simp only [RepVs] at h ⊢
    obtain ⟨v, r, e, q, t⟩ := h
    exact ⟨v, r, e, rep_cut d v b.1 q, reps_cut ds r b.2 t⟩
end
theorem repk_cut {κ : Type} {R : D → κ → Prop} {n : Nat} : ∀ (ds : List (D × D)) (vs : List (κ × V)), D.bels n (ds.map (·.2)) = true → RepKs G W R ds vs → RepKs G (W.cut n) R ds vs
  | [], vs, _, h => by simpa [RepKs] using h
  | d :: ds, vs, b, h => by
    simp only [List.map_cons, D.bels, Bool.and_eq_true] at b
    simp only [RepKs] at h ⊢
    obtain ⟨k, v, r, e, q, u, t⟩ := h
    exact ⟨k, v, r, e, q, rep_cut _ _ b.1 u, repk_cut ds r b.2 t⟩
theorem repk_bel {κ : Type} {R : D → κ → Prop} : ∀ (ds : List (D × D)) (vs : List (κ × V)), RepKs G W R ds vs → D.bels W.mu.length (ds.map (·.2)) = true
  | [], _, _ => rfl
  | d :: ds, vs, h => by
    simp only [RepKs] at h
    obtain ⟨k, v, r, e, q, u, t⟩ := h
    simp only [List.map_cons, D.bels, rep_bel _ _ u, repk_bel ds r t]; rfl
def O.bel2 (n : Nat) : O → Bool
  | .lst xs => D.bels n xs
  | .dct _ _ kvs => D.bels n (kvs.map (·.2))
  | .ins _ _ ds => D.bels n ds
  | .dead => true
theorem bel_2 {n : Nat} {o : O} (h : o.bel n = true) : o.bel2 n = true := by
  cases o with
  | dct t l kvs => simp only [O.bel, Bool.and_eq_true] at h; exact h.2
  | _ => exact h
theorem repo_bel {o : O} {a : Addr} (r : RepO G W H a o) : o.bel2 W.mu.length = true := by
  cases o with
  | lst ds => obtain ⟨_, vs, _, t⟩ := r; exact reps_bel ds vs t
  | dct t l kvs => cases t with
    | false => obtain ⟨vs, _, t⟩ := r; exact repk_bel kvs vs t
    | true => obtain ⟨vs, _, t⟩ := r; exact repk_bel kvs vs t
  | ins c ks ds => obtain ⟨_, _, _, vs, _, t, _⟩ := r; exact reps_bel ds vs t
  | dead => rfl
theorem repo_cut {n : Nat} {o : O} {a : Addr} (b : o.bel2 n = true) (r : RepO G W H a o) : RepO G (W.cut n) H a o := by
  cases o with
  | lst ds => obtain ⟨f, vs, e, t⟩ := r; exact ⟨f, vs, e, reps_cut ds vs b t⟩
  | dct t l kvs => cases t with
    | false => obtain ⟨vs, e, t⟩ := r; exact ⟨vs, e, repk_cut kvs vs b t⟩
    | true => obtain ⟨vs, e, t⟩ := r; exact ⟨vs, e, repk_cut kvs vs b t⟩
  | ins c ks ds => obtain ⟨f, fo, dx, vs, e, t, l⟩ := r; exact ⟨f, fo, dx, vs, e, reps_cut ds vs b t, l⟩
  | dead => exact r
theorem keeps_at {n : Nat} : ∀ {S S' : Sto} {i : Nat} {o' : O}, keeps n S S' = true → i < S.length → S'[i]? = some o' → (∃ o, S[i]? = some o ∧ o' = o) ∨ o'.bel n = true
  | [], _, _, _, _, h, _ => by simp at h
  | _ :: _, [], _, _, k, _, _ => by simp [keeps] at k
  | o :: r, o1 :: r1, 0, o', k, _, e => by
    simp only [keeps, Bool.and_eq_true, Bool.or_eq_true, decide_eq_true_eq] at k
    simp only [List.getElem?_cons_zero, Option.some.injEq] at e
    subst e
    rcases k.1 with k | k
    · exact .inl ⟨o, rfl, k⟩
    · exact .inr k
  | o :: r, o1 :: r1, i + 1, o', k, h, e => by
    simp only [keeps, Bool.and_eq_true] at k
    rcases keeps_at k.2 (by simpa using h) (by simpa using e) with ⟨z, z1, z2⟩ | z
    · exact .inl ⟨z, by simpa using z1, z2⟩
    · exact .inr z
theorem keeps_len {n : Nat} : ∀ {S S' : Sto}, keeps n S S' = true → S.length ≤ S'.length
  | [], _, _ => by simp
  | _ :: _, [], k => by simp [keeps] at k
  | o :: r, o1 :: r1, k => by
    simp only [keeps, Bool.and_eq_true] at k
    have := keeps_len k.2
    simp only [List.length_cons]; omega
/-- what was laid within is forgotten -/
theorem trunc_ok {d : D} {v : V} (s : Sim G W S H) (t : Stp W H W' H') (s' : Sim G W' S' H') (r : RepV G W' d v) : ∃ W'', Stp W H W'' H' ∧ Sim G W'' (trunc S d S') H' ∧ RepV G W'' d v := by
  unfold trunc
  split
  · rename_i h
    simp only [Bool.and_eq_true] at h
    obtain ⟨hd, hk⟩ := h
    have hl := keeps_len hk
    obtain ⟨ext, e⟩ := t.mu
    have hmu : W'.mu.take S.length = W.mu := by rw [e, ← s.len]; simp
    refine ⟨W'.cut S.length, ⟨t.F, ⟨[], by show W'.mu.take _ = _; rw [hmu]; simp⟩, t.fr, fun a h n => ?_, t.dm, t.nf⟩, ⟨s'.sub, by show (W'.mu.take _).length = _; rw [List.length_take, List.length_take, s'.len], s'.nd.sublist (List.take_sublist _ _), fun a ha => s'.inH a (List.mem_of_mem_take ha), fun n a o h1 h2 => ?_⟩, rep_cut d v hd r⟩
    · have h' : a ∈ W'.mu.take S.length := h
      rw [hmu] at h'
      exact absurd h' n
    · have h1' : (W'.mu.take S.length)[n]? = some a := h1
      have hn : n < S.length := by
        have := (List.getElem?_eq_some_iff.mp h2).1
        rw [List.length_take] at this; omega
      rw [List.getElem?_take_of_lt hn] at h1' h2
      have ro := s'.obj n a o h1' h2
      refine repo_cut ?_ ro
      rcases keeps_at hk hn h2 with ⟨o1, z1, z2⟩ | z
      · rw [z2]
        have : W.mu[n]? = some a := by
          have : (W'.mu.take S.length)[n]? = some a := by rw [List.getElem?_take_of_lt hn]; exact h1'
          rw [hmu] at this; exact this
        have z3 := repo_bel (s.obj n a o1 this z1)
        rw [s.len] at z3; exact z3
      · exact bel_2 z
  · exact ⟨W', t, s', r⟩
end
/-- what a def promises -/
def spF (G : Gd) (call : Nat → List D → Sto → Res D) (np i : Nat) : Sp := fun vs H Q E => vs.length = np ∧ ∃ W S ds, Sim G W S H ∧ RepVs G W ds vs ∧ Post G W H (fun cls d _ H => E cls d H) (fun W' d v => RepV G W' d v) (call i ds S) Q
/-- a def that may be called -/
def FnF (G : Gd) (call : Nat → List D → Sto → Res D) (kc i : Nat) (f : Addr) (fd : FuncData) (ps : List Str) : Prop := FnOk G.prog G.w G.K G.mg G.base (L2.CX G.prog G.w) kc f fd ps (spF G call ps.length i)
section
variable {G : Gd} {kc : Nat} {Wx : WX} {N : List Str} {sc : Scope} {X : Cx} {e : PySem.Expr} {es : List PySem.Expr} {f : Env → Sto → Res D} {fs : Env → Sto → Res (List D)} {pos : Pos} {call : Nat → List D → Sto → Res D}
theorem postE {α β : Type} {W : Wd} {H : Hp} {R : Wd → α → β → Prop} {r : Res α} {Q : β → Hp → Prop} {σ : L2.St} (h : Post G W H Wx R r Q) : Post G W H (fun cls d _ H => Wx cls d σ H) R r Q := by
  cases r with
  | ok d S => exact h
  | exc c d S => exact fun W' H' v f _ dd a b c' e x => h W' H' v f σ dd a b c' e x
  | stuck => exact h
/-- one after another, the end told from the start -/
theorem Post.bind1 {α β γ δ : Type} {W W0 : Wd} {H H0 : Hp} {R : Wd → α → β → Prop} {R' : Wd → γ → δ → Prop} {r : Res α} {k : α → Sto → Res γ} {Q : δ → Hp → Prop} (h : Post G W H Wx R' (r.bind k) Q) (st : Stp W H W0 H0) :
    Post G W0 H0 Wx R r (fun v H1 => ∃ W1 S1 d, Stp W0 H0 W1 H1 ∧ Sim G W1 S1 H1 ∧ R W1 d v ∧ r = .ok d S1 ∧ Post G W H Wx R' (k d S1) Q) := by
  cases r with
  | ok d S' => exact fun W' H' v a b c => ⟨W', S', d, a, b, c, rfl, h⟩
  | exc c d S' => exact fun W' H' v f σ dd a b c => h W' H' v f σ dd (st.trans a) b c
  | stuck => exact h
theorem FnF.cx (c : CxOk G (kc + 1) Wx N sc X) {i : Nat} {fa : Addr} {fd : FuncData} {ps : List Str} (F : FnF G call kc i fa fd ps) : FnOk X.prog X.w X.K X.mg X.base (L2.CX X.prog X.w) kc fa fd ps (spF G call ps.length i) := by
  rw [c.cP, c.cw, c.cK, c.cmg, c.cb]; exact F
/-- f(e, ..) -/
theorem both_call (c : CxOk G (kc + 1) Wx N sc X) {i : Nat} {fa : Addr} {fd : FuncData} {ps : List Str} {x : Str} {p : Pos} (F : FnF G call kc i fa fd ps) (hg : Gl X x) (hm : G.mg x = some (.ref fa)) (hk : PySem.W.keepIn G.K (.ref fa) = true) (hb : Binds G.K fd ps []) (hl : (e :: es).length = ps.length)
    (ha : PA X (e :: es) (rdA G Wx fs)) (hfs : ∀ e S xs S', fs e S = .ok xs S' → xs.length = ps.length) (hdb : (x == ("__debug__" : Str)) = false) (hs : (e :: es).all noStar = true) : Both G Wx X (.Call (.Name x p) (e :: es) [] pos) (fun e S => (fs e S).bind fun xs S1 => call i xs S1) := by
  have hs' : noStar e = true ∧ es.all noStar = true := by simpa using hs
  refine both_of c ((pe_callS (F.cx c) (c.room.mono (Nat.le_succ _)) hg (by rw [c.cmg]; exact hm) (by rw [c.cK]; exact hk) (by rw [c.cK]; exact hb) (fun σ => passAt c.tk σ) ha hdb (star_cons hs'.1 _ _) (star_back hs'.2).1).imp fun σ H Q ⟨W, S, e', si, sl, po⟩ => ?_) rfl
  refine ⟨W, S, e', si, sl, (Post.bind (R := fun W' d v => RepVs G W' d v) po).mono fun xs H1 ⟨W1, S1, ds, t1, s1, r1, ed, po1⟩ => ?_⟩
  exact ⟨by rw [← r1.len]; exact hfs _ _ _ _ ed, W1, S1, ds, s1, r1, postE (σ := σ) po1⟩
theorem run_makeS {pins : List (Addr × Obj)} {σ : L2.St} {H : Hp} {s : Shared} {Q : VK} {us : List Value} {vs : List V} {C f : Addr} {fd : FuncData} {ps : List Str} {sp : Sp} {E : XK} {CX : CXT} (M : Mk X.K C f) (F : FnOk X.prog X.w X.K X.mg X.base CX kc f fd ps sp) (hr : Room (kc + 1) X.A) (hb : Binds X.K fd ps [])
    (hx : PassesAt CX X σ E) (I : L2.Inv X pins σ H s) (r : Vals vs us)
    (h : ∀ x dx, H x = none → H dx = none → dx ≠ x → sp (.ref x :: vs) (upd (upd H dx (.own x)) x (.ins C dx [])) (fun v H2 => v = .non ∧ Q (.ref x) H2) E) :
    wpAny (model X.prog X.w) X.A (PySem.call (.ref C) us) (EP X pins σ Q) X.xe s := by
  have hq := h (s.heap.objs.size + 1) s.heap.objs.size (I.hok.fresh (Nat.le_succ _)) (I.hok.fresh (Nat.le_refl _)) (Nat.ne_of_lt (Nat.lt_succ_self _))
  have I2 := Inv.made (C := C) I
  have r2 : Vals (V.ref (s.heap.objs.size + 1) :: vs) (Value.ref (s.heap.objs.size + 1) :: us) := .cons rfl r
  have hl : (Value.ref (s.heap.objs.size + 1) :: us).length = ps.length := by
    have e := r2.length
    rw [F.len _ _ _ _ hq] at e
    exact e.symm
  have b := hb { s with heap := ((s.heap.push { cls := .type "dict", data := .dict #[] }).push (PySem.W.instObj C s.heap.objs.size)) }
  refine wpAny_call (make_map (f := f) I.kIn M.makes M.init (beq_iff_eq.mp M.fn) (codeAny_mono (F.run _ X.stack _ _ ⟨Value.ref (s.heap.objs.size + 1) :: us, []⟩ (Value.ref (s.heap.objs.size + 1) :: us) _ _ E (hr.make C us [])
    (I2.env0.make C us []) (by
      have := hb _ (Value.ref (s.heap.objs.size + 1) :: us) I2.kIn (by rw [List.append_nil]; exact hl)
      rw [List.append_nil] at this
      exact this) r2 hq) fun r s' hq' => ?_))
  cases r with
  | error e => exact hx pins _ _ e s' I2 hq'
  | ok fl =>
    cases fl with
    | ret u =>
      obtain ⟨v, H', I3, rv, ev, q3⟩ := I2.after hq'
      subst ev
      exact ⟨rv, ⟨V.ref (s.heap.objs.size + 1), H', I3, rfl, q3⟩⟩
    | next => exact False.elim hq'
    | brk => exact False.elim hq'
    | cont => exact False.elim hq'
theorem pe_makeS {C fa : Addr} {fd : FuncData} {ps : List Str} {sp : Sp} {E : L2.St → XK} {CX : CXT} {x : Str} {p : Pos} {t : TA} (M : Mk X.K C fa) (F : FnOk X.prog X.w X.K X.mg X.base CX kc fa fd ps sp) (hr : Room (kc + 1) X.A) (hg : Gl X x) (hm : X.mg x = some (.ref C)) (hb : Binds X.K fd ps []) (hx : ∀ σ, PassesAt CX X σ (E σ))
    (ha : PA X (e :: es) t) (hdb : (x == ("__debug__" : Str)) = false) (he : starEach (e :: es) X.env = (false, eval e X.env) :: starEach es X.env) (hpl : (backTo pos (starEach es X.env)).any (·.1) = false) :
    PE X (.Call (.Name x p) (e :: es) [] pos) (fun σ H Q => t σ H fun vs H1 => ∀ x dx, H1 x = none → H1 dx = none → dx ≠ x → sp (.ref x :: vs) (upd (upd H1 dx (.own x)) x (.ins C dx [])) (fun v H2 => v = .non ∧ Q (.ref x) H2) (E σ)) := by
  refine ⟨fun pins s σ H Q I h => ?_⟩
  refine wpAny_Call_Name_kw (ld_glob I hg hm ?_ hdb)
  refine PySem.W.callWith_K (h₀ := X.base) I.ok.mod.kin M.kp (thn (ha.run pos pins s σ H _ I h) fun us s1 ⟨vs, H1, I1, r, q⟩ => ⟨I1.kIn, ?_⟩) he hpl
  exact run_makeS M F hr hb (hx σ) I1 r q
theorem rd_new (c : CxOk G (kc + 1) Wx N sc X) {ci i : Nat} {C : ClI} {ps : List Str} {fz : Bool} (hC : G.M.cls ci = some C) (hi : C.init = some i)
    (hfs : ∀ e S xs S', fs e S = .ok xs S' → xs.length + 1 = ps.length) {σ : L2.St} {H : Hp} {Q : VK} (h : rdE G Wx (fun e S => (fs e S).bind fun xs S1 => newC G.M call ci fz xs S1) σ H Q) :
    (rdA G Wx fs) σ H fun vs H1 => ∀ x dx, H1 x = none → H1 dx = none → dx ≠ x → spF G call ps.length i (.ref x :: vs) (upd (upd H1 dx (.own x)) x (.ins (G.cA ci) dx [])) (fun v H2 => v = .non ∧ Q (.ref x) H2) (WE Wx σ) := by
  obtain ⟨W, S, e', si, sl, po⟩ := h
  refine ⟨W, S, e', si, sl, (Post.bind (R := fun W' d v => RepVs G W' d v) po).mono fun xs H1 ⟨W1, S1, ds, t1, s1, r1, ed, po1⟩ => ?_⟩
  intro y dx hy hdx hne
  have hbind : (G.M.cls ci).bind (·.init) = some i := by rw [hC]; exact hi
  unfold newC at po1
  rw [hbind] at po1
  dsimp only at po1
  have s2 := s1.other (o := .own y) hdx
  have hy2 : upd H1 dx (.own y) y = none := by rw [upd_ne (Ne.symm hne)]; exact hy
  have st := (Stp.other (W := W1) (o := .own y) hdx).trans (Stp.put s2 (o := .ins (G.cA ci) dx []) hy2)
  have s3 : Sim G (W1.put y) (S1 ++ [.ins ci [] []]) (upd (upd H1 dx (.own y)) y (.ins (G.cA ci) dx [])) := s2.put hy2 ⟨s2.Fn hy2, ⟨C, hC, by rw [hi]; rfl, by simp⟩, dx, [], by rw [upd_same]; rfl, RepVs.nil, rfl⟩
  have hmu : (W1.put y).mu[S1.length]? = some y := by show (W1.mu ++ [y])[S1.length]? = _; rw [← s1.len]; simp
  refine ⟨by rw [List.length_cons, ← r1.len]; exact hfs _ _ _ _ ed, W1.put y, S1 ++ [.ins ci [] []], .ref S1.length :: ds, s3, (st.reps r1).cons (by simp only [RepV]; exact ⟨y, rfl, hmu⟩), ?_⟩
  refine (Post.bind1 (R := fun W' d v => RepV G W' d v) (postE (σ := σ) po1) st).mono fun v H2 ⟨W2, S2, r, t2, s2', r2, er, po2⟩ => ?_
  split at po2
  · rename_i hr
    subst hr
    simp only [RepV] at r2
    refine ⟨r2, ?_⟩
    have hmu2 := t2.get hmu
    split at po2
    · split at po2
      · rename_i c' ks ds' hx
        split at po2
        · rename_i ec
          subst ec
          obtain ⟨hF, fo, dx', vs', hH, u, l⟩ := s2'.obj S1.length y _ hmu2 hx
          obtain ⟨g1, g2⟩ := s2'.freeze hmu2 hx hH hF (fun _ h => by cases h)
          have rI : RepV G (W2.lay y (.ins (G.cA c') dx' ((ks.map G.nm).zip vs'))) (.ins c' ks ds') (.ref y) := by
            simp only [RepV]
            exact ⟨y, dx', vs', rfl, by show upd W2.F y _ y = _; rw [upd_same], g2.reps u, l, fo⟩
          obtain ⟨W'', z1, z2, z3⟩ := trunc_ok s1 ((st.trans t2).trans g2) g1 rI
          exact po2 W'' H2 (.ref y) z1 z2 z3
        · exact False.elim po2
      · exact False.elim po2
    · exact po2 W2 H2 (.ref y) (st.trans t2) s2' (by simp only [RepV]; exact ⟨y, rfl, hmu2⟩)
  · exact False.elim po2
/-- C(e, ..) -/
theorem both_new (c : CxOk G (kc + 1) Wx N sc X) {ci i : Nat} {C : ClI} {fa : Addr} {fd : FuncData} {ps : List Str} {x : Str} {p : Pos} {fz : Bool} (hC : G.M.cls ci = some C) (hi : C.init = some i) (M : Mk G.K (G.cA ci) fa) (F : FnF G call kc i fa fd ps) (hg : Gl X x) (hm : G.mg x = some (.ref (G.cA ci))) (hb : Binds G.K fd ps [])
    (ha : PA X (e :: es) (rdA G Wx fs)) (hfs : ∀ e S xs S', fs e S = .ok xs S' → xs.length + 1 = ps.length) (hdb : (x == ("__debug__" : Str)) = false) (hs : (e :: es).all noStar = true) : Both G Wx X (.Call (.Name x p) (e :: es) [] pos) (fun e S => (fs e S).bind fun xs S1 => newC G.M call ci fz xs S1) := by
  have hs' : noStar e = true ∧ es.all noStar = true := by simpa using hs
  refine both_of c ((pe_makeS (sp := spF G call ps.length i) (by rw [c.cK]; exact M) (F.cx c) c.room hg (by rw [c.cmg]; exact hm) (by rw [c.cK]; exact hb) (fun σ => passAt c.tk σ) ha hdb (star_cons hs'.1 _ _) (star_back hs'.2).1).imp fun σ H Q q => rd_new c hC hi hfs q) rfl
theorem pe_makeS0 {C fa : Addr} {fd : FuncData} {ps : List Str} {sp : Sp} {E : L2.St → XK} {CX : CXT} {x : Str} {p : Pos} (M : Mk X.K C fa) (F : FnOk X.prog X.w X.K X.mg X.base CX kc fa fd ps sp) (hr : Room (kc + 1) X.A) (hg : Gl X x) (hm : X.mg x = some (.ref C)) (hb : Binds X.K fd ps []) (hx : ∀ σ, PassesAt CX X σ (E σ)) (hdb : (x == ("__debug__" : Str)) = false) :
    PE X (.Call (.Name x p) [] [] pos) (fun σ H Q => ∀ x dx, H x = none → H dx = none → dx ≠ x → sp [.ref x] (upd (upd H dx (.own x)) x (.ins C dx [])) (fun v H2 => v = .non ∧ Q (.ref x) H2) (E σ)) :=
  ⟨fun pins s σ H Q I h => wpAny_Call_Name_kw (ld_glob I hg hm (PySem.W.callWith_K0 I.kIn M.kp (run_makeS (us := []) M F hr hb (hx σ) I .nil h)) hdb)⟩
/-- C() -/
theorem both_new0 (c : CxOk G (kc + 1) Wx N sc X) {ci i : Nat} {C : ClI} {fa : Addr} {fd : FuncData} {ps : List Str} {x : Str} {p : Pos} {fz : Bool} (hC : G.M.cls ci = some C) (hi : C.init = some i) (M : Mk G.K (G.cA ci) fa) (F : FnF G call kc i fa fd ps) (hg : Gl X x) (hm : G.mg x = some (.ref (G.cA ci))) (hb : Binds G.K fd ps [])
    (hl : ps.length = 1) (hdb : (x == ("__debug__" : Str)) = false) : Both G Wx X (.Call (.Name x p) [] [] pos) (fun e S => ((.ok [] S : Res (List D))).bind fun xs S1 => newC G.M call ci fz xs S1) := by
  refine both_of c ((pe_makeS0 (sp := spF G call ps.length i) (by rw [c.cK]; exact M) (F.cx c) c.room hg (by rw [c.cmg]; exact hm) (by rw [c.cK]; exact hb) (fun σ => passAt c.tk σ) hdb).imp fun σ H Q q => ?_) rfl
  obtain ⟨W, S, e', si, sl, po⟩ := rd_new (fs := fun _ S => .ok [] S) (ps := ps) c hC hi (fun e S xs S' z => by cases z; exact hl.symm) q
  exact po.ok si RepVs.nil
/-- f() -/
theorem both_call0 (c : CxOk G (kc + 1) Wx N sc X) {i : Nat} {fa : Addr} {fd : FuncData} {ps : List Str} {x : Str} {p : Pos} (F : FnF G call kc i fa fd ps) (hg : Gl X x) (hm : G.mg x = some (.ref fa)) (hk : PySem.W.keepIn G.K (.ref fa) = true) (hb : Binds G.K fd ps []) (hl : ps.length = 0) (hdb : (x == ("__debug__" : Str)) = false) :
    Both G Wx X (.Call (.Name x p) [] [] pos) (fun e S => ((.ok [] S : Res (List D))).bind fun xs S1 => call i xs S1) := by
  refine both_of c ((⟨fun pins s σ H Q I h => wpAny_Call_Name_kw (ld_glob I hg (by rw [c.cmg]; exact hm) (PySem.W.callWith_K0 I.kIn (by rw [c.cK]; exact hk) (run_fnS (us := []) (vs := []) (F.cx c) (c.room.mono (Nat.le_succ _)) (by rw [c.cK]; exact hb) (E := WE Wx) (passAt c.tk σ) I .nil h)) hdb)⟩ : PE X (.Call (.Name x p) [] [] pos) (fun σ H Q => spF G call ps.length i [] H Q (WE Wx σ))).imp fun σ H Q q => ?_) rfl
  obtain ⟨W, S, e', si, sl, po⟩ := q
  exact ⟨hl.symm, W, S, [], si, RepVs.nil, postE (σ := σ) po⟩
/-- a list that is given for good -/
theorem both_frz (c : CxOk G (kc + 1) Wx N sc X) (h : PE X e (rdE G Wx f)) (ht : plainT e = true) : Both G Wx X e (fun e S => (f e S).bind fun x S1 => frzD S1 x) := by
  refine both_of c (h.imp fun σ H Q ⟨W, S, e', si, sl, po⟩ => ?_) ht
  refine ⟨W, S, e', si, sl, (Post.bind (R := fun W' d v => RepV G W' d v) po).mono fun x H1 ⟨W1, S1, d, t1, s1, r1, ed, po1⟩ => ?_⟩
  unfold frzD at po1
  split at po1
  · rename_i n
    split at po1
    · rename_i xs hx
      simp only [RepV] at r1
      obtain ⟨a, rfl, q⟩ := r1
      obtain ⟨hF, vs, hH, t⟩ := s1.obj n a _ q hx
      obtain ⟨g1, g2⟩ := s1.freeze q hx hH hF (fun _ h => by cases h)
      refine po1.ok' g2 g1 ?_
      simp only [RepV]
      exact ⟨a, vs, rfl, .inl (by show upd W1.F a _ a = _; rw [upd_same]), g2.reps t⟩
    · exact False.elim po1
  · exact po1.ok s1 r1
end
end Mi
end
section
set_option Elab.async false
set_option linter.all false
set_option maxRecDepth 100000
set_option maxHeartbeats 1000000
/-! reversed, methods, comprehensions, targets -/
namespace Mi
open PySem L2 PyProof.Rows
section
variable {prog : Program} {w : World} {A : Around} {E : Value → Shared → Prop} {s : Shared}
theorem adjust_rev (n : Nat) : Builtin.Slice.sliceAdjust none none (-1) (n : Int) = ((n : Int) - 1, -1) := by
  unfold Builtin.Slice.sliceAdjust
  simp
theorem places_rev (n : Nat) : Builtin.Slice.slicePlaces ((n : Int) - 1) (-1) (-1) = n := by
  unfold Builtin.Slice.slicePlaces
  rw [if_neg (by decide)]
  split
  · simp only [Int.neg_neg, Int.ediv_one]; omega
  · omega
theorem sliceApplied_rev {sl : Addr} {vl vu vs : Value} {n : Nat} {Q : Int × Int × Nat → Shared → Prop} (hs : s.heap.IsSliceOf sl vl vu vs) (pl : IsPart vl none) (pu : IsPart vu none) (ps : IsPart vs (some (-1)))
    (h : Q ((n : Int) - 1, -1, n) s) : wpAny (model prog w) A (Builtin.Slice.sliceApplied (.ref sl) (pure (n : Int))) Q E s := by
  obtain ⟨os, hos, hcs, hds⟩ := id hs
  unfold Builtin.Slice.sliceApplied Builtin.Slice.sliceFields
  refine wpAny_bind (wpAny_bind (wpAny_field hos hds (x := vl) rfl (wpAny_bind (wpAny_field hos hds (x := vu) rfl (wpAny_bind (wpAny_field hos hds (x := vs) rfl (wpAny_pure ?_)))))))
  refine wpAny_bind (HT.slicePart_ ps ?_)
  show wpAny _ _ (if ((-1 : Int) == 0) = true then _ else _) _ _ s
  rw [if_neg (by decide)]
  refine wpAny_bind (HT.slicePart_ pl (wpAny_bind (HT.slicePart_ pu (wpAny_bind (wpAny_pure ?_)))))
  show wpAny _ _ (match Builtin.Slice.sliceAdjust none none (-1) (n : Int) with | (lo, hi) => pure (lo, (-1 : Int), Builtin.Slice.slicePlaces lo hi (-1))) _ _ s
  rw [adjust_rev]
  show wpAny _ _ (pure ((n : Int) - 1, (-1 : Int), Builtin.Slice.slicePlaces ((n : Int) - 1) (-1) (-1))) _ _ s
  rw [places_rev]
  exact wpAny_pure h
theorem pick_rev (xs : Array Value) : ((List.range xs.size).filterMap fun (k : Nat) => xs[(((xs.size : Int) - 1) + (k : Int) * -1).toNat]?).toArray = xs.toList.reverse.toArray := by
  have e : (List.range xs.size).filterMap (fun (k : Nat) => xs[(((xs.size : Int) - 1) + (k : Int) * -1).toNat]?) = ((List.range xs.size).map fun k => xs.size - 1 - k).filterMap (xs[·]?) := by
    rw [List.filterMap_map]
    congr 1
    funext k
    have e : (((xs.size : Int) - 1) + (k : Int) * -1).toNat = xs.size - 1 - k := by omega
    show xs[_]? = xs[_]?
    rw [e]
  rw [e, PySem.W.krv_range, List.filterMap_reverse, PySem.W.krv_all]
theorem getItem_tuple_rev {t sl : Addr} {items : Array Value} {vl vu vs : Value} {Q : Value → Shared → Prop} (ht : IsTup s.heap t items) (hs : s.heap.IsSliceOf sl vl vu vs) (pl : IsPart vl none) (pu : IsPart vu none) (ps : IsPart vs (some (-1)))
    (h : Q (.ref s.heap.objs.size) { s with heap := s.heap.push { cls := .type "tuple", data := .seq items.toList.reverse.toArray } })
    (hsz : items.size ≤ sizeLine) : wpAny (model prog w) A (getItem (.ref t) (.ref sl)) Q E s := by
  have htake : sizeOk (.seq items.toList.reverse.toArray) := by
    show items.toList.reverse.toArray.size ≤ sizeLine
    rw [List.size_toArray, List.length_reverse, Array.length_toList]
    exact hsz
  obtain ⟨os, hos, hcs, hds⟩ := id hs
  have hTs : s.TypeIs (.ref sl) "slice" := ⟨os, hos, hcs⟩
  unfold getItem
  try with_reducible refine wpAny_holding ?_
  first | refine wpAny_bind (wpAny_pure ?_) | skip
  refine wpAny_bind (wpAny_sequenceKey ht.typeIs (by decide) ?_)
  refine wpAny_bind (wpAny_callSpecial?_slot (name := Str.ofString "__getitem__") ht.typeIs PyProof.Rows.slot_tuple_getitem
    (wpAny_call_entry PyProof.Rows.slot_tuple_getitem ht.typeIs entry_tuple_getitem ?_ (args_tuple_getitem _ _)))
  show wpAny _ _ (Builtin.Tuple.tupleItemsOf (.ref t) >>= _) _ _ s
  refine wpAny_bind (tupleItemsOf_ ht ?_)
  refine wpAny_bind (wpAny_typeOf hTs ?_)
  rw [if_pos (by decide)]
  refine wpAny_bind (sliceApplied_rev hs pl pu ps ?_)
  have hno : ¬ ((((items.size : Int) - 1) == 0 && (-1 : Int) == 1 && items.size == items.size) = true) := by simp
  show wpAny _ _ (if (((items.size : Int) - 1) == 0 && (-1 : Int) == 1 && items.size == items.size) = true then _ else _) _ _ s
  rw [if_neg hno, pick_rev]
  first
    | exact wpAny_bind (m := Builtin.Tuple.tupleExact _) (wpAny_newObj_type (wpAny_pure ⟨_, rfl, wpAny_pure h⟩) htake)
    | exact wpAny_bind (m := Builtin.Tuple.tupleExact _) (wpAny_newObj_type (wpAny_bind (wpAny_pure (wpAny_pure ⟨_, rfl, wpAny_pure h⟩))) htake)
    | exact wpAny_bind (wpAny_bind (m := Builtin.Tuple.tupleExact _) (wpAny_newObj_type (wpAny_pure (wpAny_pure ⟨_, rfl, wpAny_pure h⟩)) htake))
    | exact wpAny_bind (wpAny_bind (m := Builtin.Tuple.tupleExact _) (wpAny_newObj_type (wpAny_pure ⟨_, rfl, wpAny_pure h⟩) htake))
end
section
variable {G : Gd} {k : Nat} {Wx : WX} {N : List Str} {sc : Scope} {X : Cx} {e : PySem.Expr} {es : List PySem.Expr} {f : Env → Sto → Res D} {fs : Env → Sto → Res (List D)} {pos : Pos}
/-- a[::-1], of lists and tuples -/
theorem pe_rev {te : TE} {kk : Nat} {p1 p2 p3 : Pos} (he : PE X e te) : PE X (.Subscript e (.Slice none none (some (.UnaryOp .USub (.Constant (.int 1) kk p1) p2)) p3) pos)
    (fun σ H Q => te σ H fun x H1 => ∃ a xs, x = .ref a ∧ ((SqL X.K H1 a xs ∧ ∀ p, H1 p = none → Q (.ref p) (upd H1 p (.lst xs.reverse))) ∨ (SqT X.K H1 a xs ∧ ∀ p, H1 p = none → Q (.ref p) (upd H1 p (.tup xs.reverse))))) := by
  refine ⟨fun pins s σ H Q I h => ?_⟩
  refine Subscript_ (thn (he.run pins s σ H _ I h) fun v s1 ⟨x, H1, I1, r1, q1⟩ => ?_)
  obtain ⟨a, xs, ex, q⟩ := q1
  subst ex
  cases r1
  have hst : PO X (some (.UnaryOp .USub (.Constant (.int 1) kk p1) p2)) (tPart (tUn (rU fun i => .int (-i)) (tC (.int 1)))) := po_some (pe_un un_neg pe_int)
  refine wpAny_Slice (thn (po_none.run pins s1 σ H1 (fun o H2 => o = none ∧ H2 = H1) I1 ⟨rfl, rfl⟩) fun vl s2 ⟨l, H2, I2, pl, el, e2⟩ => ?_)
  subst el e2
  refine thn (po_none.run pins s2 σ H2 (fun o H3 => o = none ∧ H3 = H2) I2 ⟨rfl, rfl⟩) fun vu s3 ⟨u, H3, I3, pu, eu, e3⟩ => ?_
  subst eu e3
  refine thn (hst.run pins s3 σ H3 (fun o H4 => o = some (-1) ∧ H4 = H3) I3 ⟨1, rfl, -1, rfl, rfl, rfl⟩) fun vs s4 ⟨o, H4, I4, ps, eo, e4⟩ => ?_
  subst eo e4
  have I5 : L2.Inv X pins σ H4 { s4 with heap := s4.heap.push { cls := .type "slice", data := .fields #[vl, vu, vs] } } := I4.kept (t' := s4.toks) fun b ob q => Heap.get?_push_of_some _ q
  show wpAny (model X.prog X.w) X.A (subscriptTail e (.Slice none none (some (.UnaryOp .USub (.Constant (.int 1) kk p1) p2)) p3) (.ref a) (.ref s4.heap.objs.size)) (EP X pins σ Q) X.xe { s4 with heap := s4.heap.push { cls := .type "slice", data := .fields #[vl, vu, vs] } }
  rcases q with ⟨hx, q⟩ | ⟨hx, q⟩
  · obtain ⟨its, r, ht, hz⟩ := I5.list hx
    have hlen := r.length
    refine tail_any (ops := [.ref a, .ref s4.heap.objs.size]) ht.isList.typeIs (PySem.slot_list_getitem.lookup) ?_ (by with_unfolding_all rfl)
    refine wpAny_getItem_list_slice ht.isList (Heap.IsSliceOf.new _ vl vu vs) pl pu ps (by decide) ?_ (by rw [List.size_toArray]; omega)
    rw [PySem.W.krv_pick]
    refine ⟨.ref _, _, I5.laid (t' := s4.toks) (o := .lst xs.reverse) (fun b ob q => Heap.get?_push_of_some _ q) (Nat.le_refl _) ?_, rfl, q _ (I5.hok.fresh (Nat.le_refl _))⟩
    exact ⟨by rw [List.length_reverse]; exact hz, _, 0, r.reverse, Heap.get?_push_size _ rfl⟩
  · obtain ⟨its, r, ht, hz⟩ := I5.tuple hx
    have hlen := r.length
    refine tail_any (ops := [.ref a, .ref s4.heap.objs.size]) ht.typeIs (PyProof.Rows.slot_tuple_getitem.lookup) ?_ (by with_unfolding_all rfl)
    refine getItem_tuple_rev ht (Heap.IsSliceOf.new _ vl vu vs) pl pu ps ?_ (by rw [List.size_toArray]; omega)
    refine ⟨.ref _, _, I5.laid (t' := s4.toks) (o := .tup xs.reverse) (fun b ob q => Heap.get?_push_of_some _ q) (Nat.le_refl _) ?_, rfl, q _ (I5.hok.fresh (Nat.le_refl _))⟩
    exact ⟨by rw [List.length_reverse]; exact hz, _, r.reverse, IsTup.new _ _⟩
theorem both_rev (c : CxOk G k Wx N sc X) {kk : Nat} {p1 p2 p3 : Pos} (h : PE X e (rdE G Wx f)) : Both G Wx X (.Subscript e (.Slice none none (some (.UnaryOp .USub (.Constant (.int 1) kk p1) p2)) p3) pos) (fun e S => (f e S).bind fun x S1 => revD S1 x) := by
  refine both_of c ((pe_rev h).imp fun σ H Q ⟨W, S, e', si, sl, po⟩ => ?_) rfl
  refine ⟨W, S, e', si, sl, (Post.bind (R := fun W' d v => RepV G W' d v) po).mono fun x H1 ⟨W1, S1, d, t1, s1, r1, ed, po1⟩ => ?_⟩
  rw [c.cK]
  unfold revD at po1
  split at po1
  · rename_i xs
    simp only [RepV] at r1
    obtain ⟨a, vs, rfl, q, t⟩ := r1
    exact ⟨a, vs, rfl, .inr ⟨sqt_up s1.sub q, post_tup s1 t.rev po1⟩⟩
  · rename_i nt
    split at po1
    · rename_i xs hs
      obtain ⟨a, vs, rfl, q, t⟩ := seq_list s1 r1 hs (fun ys z => nt ys z)
      refine ⟨a, vs, rfl, .inl ⟨.inl q, fun p hp => ?_⟩⟩
      have st := Stp.lay s1 (o := .lst vs.reverse) hp
      refine po1.ok' st (s1.lay hp) ?_
      simp only [RepV]
      exact ⟨p, _, rfl, .inl (by show upd W1.F p _ p = _; rw [upd_same]), st.reps t.rev⟩
    · exact False.elim po1
/-! ### methods -/
def bmT : BM → String
  | .get => "dict"
  | _ => "list"
def bmI : BM → String
  | .append => "list.append" | .extend => "list.extend" | .pop => "list.pop" | .pop0 => "list.pop" | .index => "list.index" | .insert => "list.insert" | .get => "dict.get"
theorem bm_plain : ∀ m : BM, PlainAttrs (bmT m)
  | .get => PySem.F.plainAttrs_dict
  | .append => PySem.F.plainAttrs_list
  | .extend => PySem.F.plainAttrs_list
  | .pop => PySem.F.plainAttrs_list
  | .pop0 => PySem.F.plainAttrs_list
  | .index => PySem.F.plainAttrs_list
  | .insert => PySem.F.plainAttrs_list
theorem bm_slot : ∀ m : BM, Slot (bmT m) (bmN m) (bmI m)
  | .get => PySem.F.slot_dict_get
  | .append => PySem.F.slot_list_append
  | .extend => PySem.F.slot_list_extend
  | .pop => PySem.F.slot_list_pop
  | .pop0 => PySem.F.slot_list_pop
  | .index => PySem.F.slot_list_index
  | .insert => PySem.F.slot_list_insert
theorem bm_type : ∀ m : BM, typeOf (.builtin (bmI m)) = pure (.type "method_descriptor")
  | .get => PySem.F.type_dict_get
  | .append => PySem.F.type_list_append
  | .extend => PySem.F.type_list_extend
  | .pop => PySem.F.type_list_pop
  | .pop0 => PySem.F.type_list_pop
  | .index => PySem.F.type_list_index
  | .insert => PySem.F.type_list_insert
theorem idx_spec {d : D} : ∀ {xs : List D} {n j : Nat}, idxOf d xs n = some j → n ≤ j ∧ (∃ z, xs[j - n]? = some z ∧ D.eqv z d = true) ∧ ∀ m z, m < j - n → xs[m]? = some z → D.eqv z d = false
  | [], n, j, h => by simp [idxOf] at h
  | x :: xs, n, j, h => by
    simp only [idxOf] at h
    split at h
    · rename_i e
      cases h
      exact ⟨Nat.le_refl _, ⟨x, by simp, e⟩, fun m z hm => by omega⟩
    · rename_i e
      obtain ⟨h1, ⟨z, h2, h3⟩, h4⟩ := idx_spec h
      have e1 : j - n = (j - (n + 1)) + 1 := by omega
      refine ⟨by omega, ⟨z, by rw [e1]; simpa using h2, h3⟩, fun m z' hm hz => ?_⟩
      cases m with
      | zero => simp only [List.getElem?_cons_zero, Option.some.injEq] at hz; subst hz; simpa using e
      | succ m => exact h4 m z' (by omega) (by simpa using hz)
theorem bm_index (c : CxOk G k Wx N sc X) : MtR X "list.index" (opm G Wx fun a xs S => one xs (idxD S a)) := by
  intro pins s σ H x xs v us Q I rx rs ⟨W, S, d, ds, si, r1, r2, po⟩
  obtain ⟨y, u, rfl, rfl, ru, pp⟩ := post_one r2 po
  clear po
  have po := pp
  clear pp
  unfold idxD at po
  split at po
  · rename_i ys hs
    split at po
    · rename_i hc
      simp only [Bool.and_eq_true, decide_eq_true_eq] at hc
      obtain ⟨⟨⟨h1, h2⟩, h3⟩, h4⟩ := hc
      split at po
      · rename_i j hj
        cases d with
        | tup zs => simp [lsq] at hs
        | _ =>
          have hs' := hs
          simp only [lsq] at hs'
          obtain ⟨a, vs, rfl, q, t⟩ := seq_list si r1 hs' (by simp)
          obtain ⟨q1, q2⟩ := seq_dp si r1 hs' h2
          obtain ⟨p1, p2⟩ := rep_dp si.sub y u h1 ru
          rw [← c.cK] at q1 p1
          have q1' : Dp X.K H (.ref a) (.list (D.pys ys)) := by
            have := reps_dp si.sub ys vs h2 t
            rw [← c.cK] at this
            exact .lst (.inl q) this.1
          obtain ⟨g1, ⟨z, g2, g3⟩, g4⟩ := idx_spec hj
          have sl : SeqAt.shaped (.list (D.pys ys)) = true := by
            show (PyData.canLay0 (.list (D.pys ys)) && decide (PyData.depth (.list (D.pys ys)) ≤ 64)) = true
            rw [Bool.and_eq_true]
            refine ⟨by simp only [PyData.canLay0]; exact q2, decide_eq_true ?_⟩
            simp only [PyData.depth]
            rw [pys_depth _ h2]; omega
          have sd : SeqAt.shaped y.py = true := by
            show (PyData.canLay0 y.py && decide (PyData.depth y.py ≤ 64)) = true
            rw [Bool.and_eq_true]
            refine ⟨p2, decide_eq_true ?_⟩
            rw [py_depth _ h1]; omega
          have at_ : ∀ (m : Nat) (z' : D), ys[m]? = some z' → (D.pys ys)[m]? = some z'.py := fun m z' h => by rw [pys_map, List.getElem?_map, h]; rfl
          refine mt_indexD (by have := c.units; omega) pins s σ H _ _ v us Q I rx rs ⟨a, u, y.py, D.pys ys, j, z.py, rfl, rfl, q1', p1, sl, sd, at_ j z (by simpa using g2), ?_, fun m z' hm hz => ?_, po.ok si (by simp [RepV])⟩
          · rw [py_eqv z y (datas_mem h2 z (List.mem_of_getElem? g2)) h1]; exact g3
          · rw [pys_map, List.getElem?_map] at hz
            obtain ⟨w, hw, rfl⟩ := Option.map_eq_some_iff.mp hz
            rw [py_eqv w y (datas_mem h2 w (List.mem_of_getElem? hw)) h1]
            exact g4 m w (by omega) hw
      · exact False.elim po
    · exact False.elim po
  · exact False.elim po
theorem bm_ok (c : CxOk G k Wx N sc X) (m : BM) : MtR X (bmI m) (opm G Wx fun a xs S => bmD m S a xs) := by
  cases m
  · exact bm_append
  · exact bm_extend
  · exact bm_pop
  · exact bm_pop0
  · exact bm_index c
  · exact bm_insert
  · exact bm_get c
theorem bm_ty (c : CxOk G k Wx N sc X) {m : BM} {W : Wd} {S : Sto} {H : Hp} {d : D} {v : V} (si : Sim G W S H) (r : RepV G W d v) (h : bmPre m S d = true) : TyG X (bmT m) v H := by
  have lst : ∀ (x : Nat × List D), lstOf S d = some x → TyG X "list" v H := fun ⟨n, ys⟩ h => by
    obtain ⟨a, vs, rfl, rfl, h1, h2, h3, h4, h5⟩ := lst_at si r h
    exact tyG_list (.inl (.inl h4))
  cases m with
  | get =>
    simp only [bmPre, Option.isSome_iff_exists] at h
    obtain ⟨⟨t, kvs⟩, h⟩ := h
    obtain ⟨a, rfl, q⟩ := dct_of si r h
    refine tyG_dict ?_
    cases t with
    | false => obtain ⟨vs, h1, _⟩ := q; exact .inl ⟨vs, h1⟩
    | true => obtain ⟨vs, h1, _⟩ := q; exact .inr ⟨vs, h1⟩
  | index =>
    simp only [bmPre, Option.isSome_iff_exists] at h
    obtain ⟨ys, h⟩ := h
    cases d with
    | tup zs => simp [lsq] at h
    | _ =>
      obtain ⟨a, vs, rfl, q, t⟩ := seq_list si r (by simpa only [lsq] using h) (by simp)
      exact tyG_list (.inl q)
  | _ =>
    simp only [bmPre, Option.isSome_iff_exists] at h
    obtain ⟨x, h⟩ := h
    exact lst x h
theorem rd_bm (c : CxOk G k Wx N sc X) {m : BM} {σ : L2.St} {H : Hp} {Q : VK} (h : rdE G Wx (fun e S => (f e S).bind fun x S1 => if bmPre m S1 x then (fs e S1).bind fun xs S2 => bmD m S2 x xs else .stuck) σ H Q) :
    tBMG X (bmN m) (opm G Wx fun a xs S => bmD m S a xs) (rdE G Wx f) (rdA G Wx fs) σ H Q := by
  obtain ⟨W, S, e, si, sl, po⟩ := h
  refine ⟨W, S, e, si, sl, (Post.bind (R := fun W' d v => RepV G W' d v) po).mono fun x H1 ⟨W1, S1, d, t1, s1, r1, ed, po1⟩ => ?_⟩
  split at po1
  · rename_i hp
    refine ⟨bmT m, bmI m, bm_plain m, bm_slot m, bm_type m, bm_ok c m, bm_ty c s1 r1 hp, W1, S1, e, s1, sl.stp t1, (Post.bind (R := fun W' d v => RepVs G W' d v) po1).mono fun xs H2 ⟨W2, S2, ds, t2, s2, r2, ed2, po2⟩ => ?_⟩
    exact ⟨W2, S2, d, ds, s2, t2.rep r1, r2, po2⟩
  · exact False.elim po1
theorem both_bm0 (c : CxOk G k Wx N sc X) {m : BM} {x : Str} {apos : Pos} (hx : x = bmN m) (h : PE X e (rdE G Wx f)) (hb : attB e = true) (hl : (apos.endLine == pos.line) = true) :
    Both G Wx X (.Call (.Attribute e x apos) [] [] pos) (fun e S => (f e S).bind fun x S1 => if bmPre m S1 x then ((.ok [] S1 : Res (List D))).bind fun xs S2 => bmD m S2 x xs else .stuck) := by
  subst hx
  refine both_of c ((pe_bmG0 (r := opm G Wx fun a xs S => bmD m S a xs) h (att_base hb _ _ _) hl).imp fun σ H Q q => ?_) rfl
  obtain ⟨W, S, e', si, sl, po⟩ := rd_bm (fs := fun _ S => .ok [] S) c q
  refine ⟨W, S, e', si, sl, po.mono fun x H1 ⟨T, id, z1, z2, z3, z4, z5, W1, S1, e1, s1, l1, po1⟩ => ⟨T, id, z1, z2, z3, z4, z5, po1.ok s1 RepVs.nil⟩⟩
theorem both_bm (c : CxOk G k Wx N sc X) {m : BM} {x : Str} {apos : Pos} {e1 : PySem.Expr} (hx : x = bmN m) (h : PE X e (rdE G Wx f)) (ha : PA X (e1 :: es) (rdA G Wx fs)) (hb : attB e = true) (hs : (e1 :: es).all noStar = true) (hl : (apos.endLine == pos.line) = true) (hf : (e1 :: es).length < 20) :
    Both G Wx X (.Call (.Attribute e x apos) (e1 :: es) [] pos) (fun e S => (f e S).bind fun x S1 => if bmPre m S1 x then (fs e S1).bind fun xs S2 => bmD m S2 x xs else .stuck) := by
  subst hx
  have hs' : noStar e1 = true ∧ es.all noStar = true := by simpa using hs
  refine both_of c ((pe_bmG (r := opm G Wx fun a xs S => bmD m S a xs) h ha (att_base hb _ _ _) ?_ hl (star_cons hs'.1 _ _) (star_back hs'.2).1).imp fun σ H Q q => rd_bm c q) rfl
  rw [(star_back (env := X.env) (pos := pos) hs).2]
  simp only [List.length_cons] at hf
  simp [keywordEach, backToKw]
  omega
/-! ### targets -/
theorem Slots.some {W : Wd} {e : Env} {σ : L2.St} (s : Slots G W e σ) {i : Nat} (h : i < e.length) : i < σ.length := by rw [← s.len]; exact h
theorem wipe_set {σ : L2.St} {i : Nat} {v : V} : ∀ {vs : List Nat}, i ∈ vs → L2.wipe (σ.set i (some v)) vs = L2.wipe σ vs
  | [], h => by cases h
  | u :: us, h => by
    simp only [L2.wipe]
    by_cases e : u = i
    · subst e
      by_cases hm : u ∈ us
      · rw [wipe_set hm]
      · have : ∀ (τ : L2.St) (ws : List Nat), u ∉ ws → L2.wipe (τ.set u (some v)) ws = (L2.wipe τ ws).set u (some v) := fun τ ws => by
          induction ws with
          | nil => intro _; rfl
          | cons w ws ih =>
            intro hn
            simp only [L2.wipe]
            rw [ih (fun z => hn (by simp [z])), List.set_comm _ _ (fun z => hn (by simp [z]))]
        rw [this _ _ hm]
        simp
    · rw [wipe_set (by
        rcases List.mem_cons.mp h with z | z
        · exact absurd z.symm e
        · exact z)]
theorem tg_var (c : CxOk G k Wx N sc X) {i : Nat} {x : Str} (hN : N[i]? = some x) (hx : Loc sc x) (hf : X.fn x = true ∨ sc.names.lookup x = some .local) : PG X (.Name x pos) (rdG G (.var i)) := by
  have g := pg_name (X := X) (pos := pos) (i := i) (x := x) (by rw [c.cN]; exact c.cnd) (by rw [c.cN]; exact hN) (by rw [c.csc]; exact hx) (by rw [c.csc]; exact hf)
  refine ⟨fun pins s σ H v u Q I r ⟨W, S, e, d, e', si, sl, rv, ht, q⟩ => g.run pins s σ H v u Q I r ?_⟩
  simp only [asT] at ht
  split at ht
  · cases ht
    exact q _ (sl.set rv) fun vs hv => wipe_set (hv i (by simp [Tg.own]))
  · cases ht
def rdGs (G : Gd) (ts : Tgs) : TGs := fun vs σ H Q => ∃ W S e ds e', Sim G W S H ∧ Slots G W e σ ∧ RepVs G W ds vs ∧ asTs ts ds e = some e' ∧ ∀ σ', Slots G W e' σ' → (∀ ws : List Nat, (∀ i ∈ ts.own, i ∈ ws) → L2.wipe σ' ws = L2.wipe σ ws) → Q σ' H
theorem tgs_nil : PGs X [] (rdGs G .nil) := by
  refine ⟨fun pins s σ H vs us Q I r ⟨W, S, e, ds, e', si, sl, rv, ht, q⟩ => ?_⟩
  cases ds with
  | nil =>
    simp only [RepVs] at rv; subst rv
    simp only [asTs] at ht; cases ht
    exact pgs_nil.run pins s σ H _ us Q I r ⟨rfl, q σ sl fun _ _ => rfl⟩
  | cons d ds => simp [asTs] at ht
theorem ass_cons {e : PySem.Expr} (h : noStar e = true) (es : List PySem.Expr) (env : PySem.Env) : assignEach (e :: es) env = (false, assign e env) :: assignEach es env := by
  cases e <;> first | rfl | (simp [noStar] at h)
theorem ass_len {env : PySem.Env} : ∀ {es : List PySem.Expr}, es.all noStar = true → (assignEach es env).length = es.length ∧ (assignEach es env).findIdx? (·.1) = none
  | [], _ => ⟨rfl, rfl⟩
  | e :: es, h => by
    simp only [List.all_cons, Bool.and_eq_true] at h
    obtain ⟨h1, h2⟩ := ass_len (env := env) h.2
    rw [ass_cons h.1]
    simp only [List.length_cons, h1, true_and]
    rw [List.findIdx?_eq_none_iff] at h2 ⊢
    intro x hx
    rcases List.mem_cons.mp hx with rfl | hx
    · rfl
    · exact h2 x hx
theorem tgs_cons {e : PySem.Expr} {es : List PySem.Expr} {t : Tg} {ts : Tgs} (h1 : PG X e (rdG G t)) (h2 : PGs X es (rdGs G ts)) (hs : noStar e = true) : PGs X (e :: es) (rdGs G (.cons t ts)) := by
  have h := pgs_cons h1 h2 (by rw [ass_cons hs]; rfl)
  refine ⟨fun pins s σ H vs us Q I r ⟨W, S, e, ds, e', si, sl, rv, ht, q⟩ => h.run pins s σ H vs us Q I r ?_⟩
  cases ds with
  | nil => simp [asTs] at ht
  | cons d ds =>
    simp only [RepVs] at rv
    obtain ⟨v, vr, rfl, r1, r2⟩ := rv
    simp only [asTs] at ht
    obtain ⟨e1, h3, h4⟩ := Option.bind_eq_some_iff.mp ht
    refine ⟨v, vr, rfl, W, S, e, d, e1, si, sl, r1, h3, fun σ1 sl1 w1 => ?_⟩
    refine ⟨W, S, e1, ds, e', si, sl1, r2, h4, fun σ2 sl2 w2 => q σ2 sl2 fun ws hw => ?_⟩
    rw [w2 ws fun i hi => hw i (by simp [Tgs.own, hi]), w1 ws fun i hi => hw i (by simp [Tgs.own, hi])]
theorem tg_tup (c : CxOk G k Wx N sc X) {es : List PySem.Expr} {kk : Nat} {ts : Tgs} (h : PGs X es (rdGs G ts)) (hs : es.all noStar = true) (hl : ∀ ds e e', asTs ts ds e = some e' → ds.length = es.length) : PG X (.Tuple es kk pos) (rdG G (.tup ts)) := by
  have g := pg_tup (X := X) (k := kk) (pos := pos) c.calm h (ass_len hs).1 (ass_len hs).2
  refine ⟨fun pins s σ H v u Q I r ⟨W, S, e, d, e', si, sl, rv, ht, q⟩ => g.run pins s σ H v u Q I r ?_⟩
  cases d with
  | tup ds =>
    simp only [asT] at ht
    simp only [RepV] at rv
    obtain ⟨a, vs, rfl, hF, t⟩ := rv
    exact ⟨a, vs, rfl, by rw [c.cK]; exact sqt_up si.sub hF, by rw [← t.len]; exact hl _ _ _ ht, W, S, e, ds, e', si, sl, t, ht, q⟩
  | _ => simp [asT] at ht
end
end Mi
end
section
set_option Elab.async false
set_option linter.all false
set_option maxRecDepth 100000
set_option maxHeartbeats 1000000
/-! methods of own classes -/
namespace Mi
open PySem L2 PyProof.Rows RZ
section
variable {X : Cx} {o e : PySem.Expr} {es : List PySem.Expr} {ta : TE} {t : TA} {m : Str} {apos pos : Pos} {kc : Nat}
theorem eval_meth {args : List PySem.Expr} {env : PySem.Env} (hb : attributeBase o m env (eval o env) = eval o env) (hf : methodCallForm (args.length + ([] : List Keyword).length) (backTo pos (starEach args env)) (backToKw pos (keywordEach [] env)) = true) (hl : (apos.endLine == pos.line) = true) :
    eval (.Call (.Attribute o m apos) args [] pos) env = (do
      let u ← eval o env
      standAt apos.atName
      let (f, first) ← holding [u] (getMethod u m (do return (← importBound o env).getD true))
      callWith pos f first (backTo pos (starEach args env)) (backToKw pos (keywordEach [] env))) := by
  refine mcall_of (kws := []) hb fun u => ?_
  unfold methodCall
  rw [hf]
  simp only [calleeOf, methodCallPos, hl, if_true, Bool.not_true, Bool.false_or, pure_bind]
/-- what is called of the receiver's class -/
structure Mth (X : Cx) (kc : Nat) (C : Addr) (m : Str) (sp : Sp) : Prop where
  ex : ∃ f fd ps, Cls X.K C ∧ Meth X.K C m f ∧ FnOk X.prog X.w X.K X.mg X.base (L2.CX X.prog X.w) kc f fd ps sp ∧ Binds X.K fd ps []
/-- o.m(..), the class told by the receiver -/
def tMthG (X : Cx) (kc : Nat) (m : Str) (E : L2.St → XK) (ta : TE) (t : TA) : TE := fun σ H Q => ta σ H fun x H1 => ∃ a C dx fs sp, x = .ref a ∧ H1 a = some (.ins C dx fs) ∧ fs.lookup m = none ∧ Mth X kc C m sp ∧ t σ H1 fun vs H2 => sp (x :: vs) H2 Q (E σ)
theorem pe_mth {E : L2.St → XK} (he : PE X o ta) (hr : Room kc X.A) (hx : ∀ σ, PassesAt (L2.CX X.prog X.w) X σ (E σ)) (ha : PA X (e :: es) t)
    (hst : starEach (e :: es) X.env = (false, eval e X.env) :: starEach es X.env) (hpl : (backTo pos (starEach es X.env)).any (·.1) = false)
    (hb : attributeBase o m X.env (eval o X.env) = eval o X.env) (hf : methodCallForm ((e :: es).length + ([] : List Keyword).length) (backTo pos (starEach (e :: es) X.env)) (backToKw pos (keywordEach [] X.env)) = true) (hl : (apos.endLine == pos.line) = true) :
    PE X (.Call (.Attribute o m apos) (e :: es) [] pos) (tMthG X kc m E ta t) :=
  ⟨fun pins s σ H Q I h => PySem.W.methodCall_KW (thn (he.run pins s σ H _ I h) fun u s1 ⟨x, H1, I1, rx, a, C, dx, fs, sp, ex, ea, l, ⟨f, fd, ps, c, hm, F, hbd⟩, q⟩ => by
    subst ex
    obtain rfl : u = Value.ref a := rx
    exact getmeth_ok I1 ea c hm l (PySem.W.callWith_K (first := [.ref a]) (h₀ := X.base) I.ok.mod.kin hm.kp (thn (ha.run pos pins s1 σ H1 _ I1 q) fun us s2 ⟨vs, H2, I2, r, q2⟩ => ⟨I2.kIn, run_fnS (us := .ref a :: us) (vs := .ref a :: vs) F hr hbd (hx σ) I2 (.cons rfl r) q2⟩) hst hpl)) (eval_meth hb hf hl)⟩
theorem pe_mth0 {E : L2.St → XK} (he : PE X o ta) (hr : Room kc X.A) (hx : ∀ σ, PassesAt (L2.CX X.prog X.w) X σ (E σ))
    (hb : attributeBase o m X.env (eval o X.env) = eval o X.env) (hl : (apos.endLine == pos.line) = true) :
    PE X (.Call (.Attribute o m apos) [] [] pos) (tMthG X kc m E ta tNil) :=
  ⟨fun pins s σ H Q I h => PySem.W.methodCall_KW (thn (he.run pins s σ H _ I h) fun u s1 ⟨x, H1, I1, rx, a, C, dx, fs, sp, ex, ea, l, ⟨f, fd, ps, c, hm, F, hbd⟩, q⟩ => by
    subst ex
    obtain rfl : u = Value.ref a := rx
    exact getmeth_ok I1 ea c hm l (PySem.W.callWith_K0 (first := [.ref a]) I1.kIn hm.kp (run_fnS (us := [.ref a]) (vs := [.ref a]) F hr hbd (hx σ) I1 (.cons rfl .nil) q))) (eval_meth hb rfl hl)⟩
end
section
variable {G : Gd} {kc : Nat} {Wx : WX} {N : List Str} {sc : Scope} {X : Cx} {call : Nat → List D → Sto → Res D} {e : PySem.Expr} {es : List PySem.Expr} {f : Env → Sto → Res D} {fs : Env → Sto → Res (List D)} {pos : Pos}
/-- a program's methods -/
def MtOk (G : Gd) (call : Nat → List D → Sto → Res D) (kc : Nat) (m : Nat) (n : Nat) : Prop := ∀ c C i, G.M.cls c = some C → C.meths.lookup m = some i → C.init.isSome = true ∧ ∃ fa fd ps, Meth G.K (G.cA c) (G.nm m) fa ∧ Binds G.K fd ps [] ∧ ps.length = n ∧ FnF G call kc i fa fd ps
/-- no field has the name of a method -/
theorem no_fld {c : Nat} {C : ClI} {m : Nat} {fa : Addr} (ko : KOk G) (hC : G.M.cls c = some C) (hi : C.init.isSome = true) (hm : Meth G.K (G.cA c) (G.nm m) fa) : ∀ {ks : List Nat} {vs : List V}, (∀ k ∈ ks, k ∈ C.flds) → ((ks.map G.nm).zip vs).lookup (G.nm m) = none
  | [], _, _ => rfl
  | _ :: _, [], _ => rfl
  | k :: ks, v :: vs, h => by
    have hk := (ko.na c C hC hi k (h k (by simp))).1
    have hne : (G.nm m == G.nm k) = false := by
      rw [beq_eq_false_iff_ne]
      intro e
      have h1 : PySem.W.findIn G.K (.ref (G.cA c)) (G.nm k) = some none := hk
      have h2 := hm.at_
      rw [e, h1] at h2
      cases h2
    simp only [List.map_cons, List.zip_cons_cons, List.lookup, hne]
    exact no_fld ko hC hi hm fun k hk => h k (by simp [hk])
theorem rd_mth (c : CxOk G (kc + 1) Wx N sc X) (ko : KOk G) {m n : Nat} (mt : MtOk G call kc m n) (hfs : ∀ e S xs S', fs e S = .ok xs S' → xs.length + 1 = n) {σ : L2.St} {H : Hp} {Q : VK} (h : rdE G Wx (fun e S => (f e S).bind fun x S1 => match (clsOf S1 x).bind G.M.cls with
    | some C => match C.meths.lookup m with
      | some i => (fs e S1).bind fun xs S2 => call i (x :: xs) S2
      | none => .stuck
    | none => .stuck) σ H Q) : tMthG X kc (G.nm m) (WE Wx) (rdE G Wx f) (rdA G Wx fs) σ H Q := by
  obtain ⟨W, S, e, si, sl, po⟩ := h
  refine ⟨W, S, e, si, sl, (Post.bind (R := fun W' d v => RepV G W' d v) po).mono fun x H1 ⟨W1, S1, d, t1, s1, r1, ed, po1⟩ => ?_⟩
  split at po1
  · rename_i C hC
    split at po1
    · rename_i i hi
      obtain ⟨ci, hci, hC⟩ := Option.bind_eq_some_iff.mp hC
      obtain ⟨hin, fa, fd, ps, hm, hb, hl, F⟩ := mt ci C i hC hi
      have key : ∃ a dx ks vs, x = .ref a ∧ H1 a = some (.ins (G.cA ci) dx ((ks.map G.nm).zip vs)) ∧ FldOk G ci ks := by
        unfold clsOf at hci
        split at hci
        · cases hci
          simp only [RepV] at r1
          obtain ⟨a, dx, vs, rfl, q, t, l, fo⟩ := r1
          exact ⟨a, dx, _, vs, rfl, s1.sub _ _ q, fo⟩
        · rename_i n'
          split at hci
          · rename_i hx
            cases hci
            simp only [RepV] at r1
            obtain ⟨a, rfl, q⟩ := r1
            obtain ⟨_, fo, dx, vs, e, t, l⟩ := s1.obj n' a _ q hx
            exact ⟨a, dx, _, vs, rfl, e, fo⟩
          · cases hci
        · cases hci
      obtain ⟨a, dx, ks, vs, rfl, ha, fo⟩ := key
      obtain ⟨C', h1, h2, h3⟩ := fo
      rw [hC] at h1
      cases h1
      refine ⟨a, G.cA ci, dx, _, spF G call ps.length i, rfl, ha, no_fld ko hC hin hm h3, ⟨fa, fd, ps, by rw [c.cK]; exact (ko.cls ci C hC hin).1, by rw [c.cK]; exact hm, F.cx c, by rw [c.cK]; exact hb⟩, W1, S1, e, s1, sl.stp t1, (Post.bind (R := fun W' d v => RepVs G W' d v) po1).mono fun xs H2 ⟨W2, S2, ds, t2, s2, r2, ed2, po2⟩ => ?_⟩
      refine ⟨?_, W2, S2, d :: ds, s2, r2.cons (t2.rep r1), postE (σ := σ) po2⟩
      have := r2.len
      have := hfs _ _ _ _ ed2
      simp only [List.length_cons]; omega
    · exact False.elim po1
  · exact False.elim po1
theorem both_mth0 (c : CxOk G (kc + 1) Wx N sc X) (ko : KOk G) {m : Nat} {x : Str} {apos : Pos} (hx : G.nm m = x) (h : PE X e (rdE G Wx f)) (hb : attB e = true) (hl : (apos.endLine == pos.line) = true) (mt : MtOk G call kc m 1) :
    Both G Wx X (.Call (.Attribute e x apos) [] [] pos) (fun e S => (f e S).bind fun x S1 => match (clsOf S1 x).bind G.M.cls with
    | some C => match C.meths.lookup m with
      | some i => ((.ok [] S1 : Res (List D))).bind fun xs S2 => call i (x :: xs) S2
      | none => .stuck
    | none => .stuck) := by
  subst hx
  refine both_of c ((pe_mth0 (E := WE Wx) h (c.room.mono (Nat.le_succ _)) (fun σ => passAt c.tk σ) (att_base hb _ _ _) hl).imp fun σ H Q q => ?_) rfl
  obtain ⟨W, S, e', si, sl, po⟩ := rd_mth (fs := fun _ S => .ok [] S) c ko mt (fun e S xs S' z => by cases z; rfl) q
  refine ⟨W, S, e', si, sl, po.mono fun x H1 ⟨a, C, dx, fs, sp, z1, z2, z3, z4, W1, S1, e1, s1, l1, po1⟩ => ⟨a, C, dx, fs, sp, z1, z2, z3, z4, po1.ok s1 RepVs.nil⟩⟩
theorem both_mth (c : CxOk G (kc + 1) Wx N sc X) (ko : KOk G) {m n : Nat} {x : Str} {apos : Pos} {e1 : PySem.Expr} (hx : G.nm m = x) (h : PE X e (rdE G Wx f)) (ha : PA X (e1 :: es) (rdA G Wx fs)) (hb : attB e = true) (hs : (e1 :: es).all noStar = true) (hl : (apos.endLine == pos.line) = true) (hf : (e1 :: es).length < 20) (mt : MtOk G call kc m n) (hfs : ∀ e S xs S', fs e S = .ok xs S' → xs.length + 1 = n) :
    Both G Wx X (.Call (.Attribute e x apos) (e1 :: es) [] pos) (fun e S => (f e S).bind fun x S1 => match (clsOf S1 x).bind G.M.cls with
    | some C => match C.meths.lookup m with
      | some i => (fs e S1).bind fun xs S2 => call i (x :: xs) S2
      | none => .stuck
    | none => .stuck) := by
  subst hx
  have hs' : noStar e1 = true ∧ es.all noStar = true := by simpa using hs
  refine both_of c ((pe_mth (E := WE Wx) h (c.room.mono (Nat.le_succ _)) (fun σ => passAt c.tk σ) ha (star_cons hs'.1 _ _) (star_back hs'.2).1 (att_base hb _ _ _) ?_ hl).imp fun σ H Q q => rd_mth c ko mt hfs q) rfl
  unfold methodCallForm
  rw [(star_back (env := X.env) (pos := pos) hs).2]
  simp only [List.length_cons] at hf
  simp [keywordEach, backToKw]
  omega
end
end Mi
end
section
set_option Elab.async false
set_option linter.all false
set_option maxRecDepth 100000
set_option maxHeartbeats 1000000
/-! enumerate(list), enumerate(tuple) -/
namespace PySem
/-- enumerate(v) is made -/
theorem meets_enum1 {v : Value} {o : Obj} {H : Heap → Prop} (B : Begins v o H) : Meets (Builtin.«enumerate.__new__» ⟨[.type "enumerate", v], []⟩) (fun _ R s => H s.heap ∧
    R (.ok (.ret (.ref (s.heap.push o).objs.size))) { s with heap := (s.heap.push o).push ⟨.type "enumerate", none, .fields #[.none, .bool false, .ref s.heap.objs.size, rawInt 0, .none, .none], #[]⟩ }) := by
  refine .of_wp fun prog w A R s ⟨x, y⟩ => ?_
  obtain ⟨hp, gg, dd, kk, oo⟩ := s
  have sb := sub_enumerate
  have it1 : ∀ {A2 : Around} {E2 Q2 : Value → Shared → Prop}, Q2 (.ref hp.objs.size) ⟨hp.push o, gg, dd, kk, oo⟩ → wpAny (model prog w) A2 (pyIter v) Q2 E2 ⟨hp, gg, dd, kk, oo⟩ := fun z => B.iter prog w _ _ ⟨hp, gg, dd, kk, oo⟩ _ x z
  wp_walk using it1
  refine wpAny_stack_any fun _ => wpAny_pure ?_
  split
  · rename_i cl _ _ _ _ _
    cases hcl : (cl == Value.type "enumerate") <;> (wp_walk using it1; exact ⟨_, rfl, y⟩)
  · wp_walk using it1; exact ⟨_, rfl, y⟩
end PySem
namespace Mi
open PySem L2 PyProof.Rows RZ
/-- the tuple at a, each item in a new pair -/
def IteT (K : PySem.W.Frag) (a : Addr) : L2.It where
  go := fun i H => ∃ (xs : List V) (x : V), SqT K H a xs ∧ xs[i]? = some x
  yld := fun i H v H' => ∃ T x, v = .ref T ∧ H T = none ∧ H' = upd H T (.tup [.int (i : Nat), x]) ∧ ∀ xs, SqT K H a xs → xs[i]? = some x
  stop := fun i H => ∃ xs : List V, SqT K H a xs ∧ xs.length ≤ i
theorem turn_enumT {P : Program} {w : World} {K : PySem.W.Frag} {els : List PySem.Expr} {kk : Nat} {tp : Pos} (a e it : Addr) :
    Turn P w K (.Tuple els kk tp) (IteT K a) [e, it] e (fun i h => (∃ old, IsEnum h e it ((i : Nat) : Int) old) ∧ h.IsTupleIter it a i ∧ e ≠ it ∧ e ≠ a ∧ it ≠ a) where
  mem := List.mem_cons_self
  obj := fun i h ⟨⟨old, x⟩, ⟨o, y, yc, yd⟩, _⟩ b hb => by
    rcases List.mem_cons.mp hb with rfl | hb
    · exact ⟨_, x, fun v z => nomatch z⟩
    · rcases List.mem_singleton.mp hb with rfl
      exact ⟨o, y, fun v z => by rw [yd] at z; cases z⟩
  keep := fun i h h' ⟨⟨old, x⟩, y, d⟩ k => ⟨⟨old, k e List.mem_cons_self _ x⟩, y.at fun o z => k it (by simp) o z, d⟩
  item := by
    intro X eP ew eK calm i pins s σ H E I free ⟨⟨old, en⟩, ti, d1, d2, d3⟩ ⟨xs, x, hq, hx⟩
    subst eP ew eK
    obtain ⟨its, rv, p, hz⟩ := I.tuple hq
    obtain ⟨u, hu, ru⟩ := rv.get hx
    have hp : s.heap.IsTuple a its.toArray := p
    have ub : i < its.toArray.size := by simpa using (List.getElem?_eq_some_iff.mp hu).1
    have le : e < s.heap.objs.size := Heap.lt_size en
    have li : it < s.heap.objs.size := by obtain ⟨_, z, _⟩ := ti; exact Heap.lt_size z
    refine wpAny_pyNext_enum_itemD (Draws.tuple (A := X.A.in1) (I.ok.hd calm) it a (Ne.symm d3) its.toArray) en ⟨ti, hp⟩ ub d1 (by simp [d1, d2]) fun y h1 tk hy out ⟨ti1, hp1⟩ hT hsz hk => ?_
    have ey : y = u := by
      rw [List.getElem?_toArray, hu] at hy
      exact (Option.some.inj hy).symm
    subst ey
    refine ⟨_, rfl, wpAny_letOwnedTupleGo_enum (s := { s with heap := h1, toks := tk + 1 }) out fun h2 en2 sb => ?_⟩
    have apart : ∀ b, b ∉ [e, it] → ∀ o, s.heap.get? b = some o → h2.get? b = some o := fun b hb o z => (sb.2 b fun q => hb (by simp [q])).trans (hk b o (fun q => hb (by simp [q])) (fun q => hb (by simp [q])) z)
    have tup : h2.get? s.heap.objs.size = some { cls := .type "tuple", data := .seq #[.int i tk, y] } := (sb.2 _ (Nat.ne_of_gt le)).trans hT
    have fin : L2.Inv X pins σ (upd H s.heap.objs.size (.tup [.int (i : Nat), x])) { s with heap := h2, toks := tk + 1 } :=
      I.turnedNew (ch := [e, it]) (fun b o hb z => apart b hb o z) free (Nat.le_refl _) ⟨by show 2 ≤ sizeLine; decide, [.int i tk, y], .cons ⟨_, rfl⟩ (.cons ru .nil), ⟨_, tup, rfl, _, rfl⟩⟩
    refine ⟨.ref s.heap.objs.size, _, fin, rfl, ⟨_, x, rfl, I.hok.fresh (Nat.le_refl _), rfl, fun ys hy => ?_⟩, ⟨⟨y, ?_⟩, ti1.at fun o z => (sb.2 it (Ne.symm d1)).trans z, d1, d2, d3⟩, fun b hb => ?_⟩
    · have e1 := I.tuple_inj hy hq
      rw [e1]; exact hx
    · rw [Int.natCast_add]; exact en2
    · have lb : b < s.heap.objs.size := by
        rcases List.mem_cons.mp hb with rfl | hb
        · exact le
        · rw [List.mem_singleton.mp hb]; exact li
      rw [upd_ne (Nat.ne_of_lt lb)]
      exact (free b hb).1
  done := by
    intro X eP ew eK calm i pins s σ H E I free ⟨⟨old, en⟩, ti, d1, d2, d3⟩ ⟨xs, hq, hx⟩
    subst eP ew eK
    obtain ⟨its, rv, p, hz⟩ := I.tuple hq
    have hp : s.heap.IsTuple a its.toArray := p
    obtain ⟨f0, f1, f2, f3, f4, f5⟩ := free it (by simp)
    have len := rv.length
    have end_ : its.toArray[i]? = none := by simp; omega
    have D : Draws X.prog X.w X.A.in1 it [it, a] i (fun _ _ => True) (fun j h => j = i ∧ h.IsTupleIter it a i ∧ h.IsTuple a its.toArray) := {
      live := fun _ _ z => let ⟨o, y, _⟩ := z.2.1; ⟨o, y⟩
      frame := fun _ _ _ z k => ⟨z.1, z.2.1.at fun o y => k it (by simp) o y, z.2.2.at fun o y => k a (by simp) o y⟩
      item := fun j _ _ _ lt z _ => absurd z.1 (Nat.ne_of_lt lt)
      done := fun _ _ _ z k => wpAny_nextOf_tuple_end (I.ok.hd calm) z.2.1 z.2.2 end_ k }
    exact wpAny_pyNext_enum_endD D en ⟨rfl, ti, hp⟩ fun h' eb => ⟨rfl, I.turned (t' := s.toks) (fun b o hb z => eb b o hb z) f0 f1 f3 f4 f5⟩
  self := fun A i s Q E ⟨⟨_, x⟩, _⟩ h => wpAny_pyIter_enum x h
/-- enumerate, of a list, of a tuple -/
def iEnA (K : PySem.W.Frag) (ta : TA) : TI := fun σ H R => ta σ H fun vs H1 => ∃ a xs, vs = [.ref a] ∧ ((SqL K H1 a xs ∧ R (Ite K a) H1) ∨ (SqT K H1 a xs ∧ R (IteT K a) H1))
theorem pi_enA {X : Cx} {e : PySem.Expr} {ta : TA} {p pos tp : Pos} {els : List PySem.Expr} {kk : Nat} (hg : Gl X "enumerate") (hm : X.mg "enumerate" = none) (ha : PA X [e] ta) (hs : starEach [e] X.env = [(false, eval e X.env)]) :
    PI X (.Tuple els kk tp) (.Call (.Name "enumerate" p) [e] [] pos) (iEnA X.K ta) := by
  refine ⟨fun pins s σ H R I h => Call_ (ld_blt I hg hm boot_enumerate (PyProof.Rows.callWith_type1 (thn (ha.run pos pins s σ H _ I h) fun us s1 ⟨vs, H1, I1, r1, a, xs, ex, q1⟩ => ?_) hs rfl))⟩
  subst ex
  obtain ⟨u, rfl, ru⟩ := vals1 r1
  cases ru
  have new : ∀ b, b ∈ [s1.heap.objs.size + 1, s1.heap.objs.size] → FpOk X pins H1 b := fun b hb => by
    have le : s1.heap.objs.size ≤ b := by
      simp only [List.mem_cons, List.not_mem_nil, or_false] at hb
      rcases hb with rfl | rfl
      · exact Nat.le_succ _
      · exact Nat.le_refl _
    exact I1.fpOk le (I1.hok.fresh le)
  rcases q1 with ⟨hq, q⟩ | ⟨hq, q⟩
  · obtain ⟨its, rv, pl, hz⟩ := I1.list hq
    exact call_enumerate_list pl.isList fun h' en it1 sz kp => wpAny_pyIter_enum en ⟨_, [s1.heap.objs.size + 1, s1.heap.objs.size], _, _, H1, rfl, I1.kept (t' := s1.toks) kp, turn_enum a (s1.heap.objs.size + 1) s1.heap.objs.size, ⟨⟨.none, en⟩, it1, Nat.succ_ne_self _⟩, new, q⟩
  · obtain ⟨its, rv, pl, hz⟩ := I1.tuple hq
    have hp : s1.heap.IsTuple a its.toArray := pl
    have la : a < s1.heap.objs.size := by obtain ⟨_, z, _⟩ := hp; exact Heap.lt_size z
    refine callType_new F.called_enumerate (by decide) (F.typeCall_enumerate_1 _) (F.newCall_enumerate_1 _) (fun b => F.args_object_init_2 b _) F.entry_enumerate_new (meets_enum1 (begins_tuple a its.toArray)) ⟨hp, ?_⟩
    have sz : (s1.heap.push { cls := .type "tuple_iterator", data := .fields #[.ref a, .int 0 0] }).objs.size = s1.heap.objs.size + 1 := Heap.size_push ..
    show _ ∧ _
    rw [sz]
    have en : IsEnum ((s1.heap.push { cls := .type "tuple_iterator", data := .fields #[.ref a, .int 0 0] }).push ⟨.type "enumerate", none, .fields #[.none, .bool false, .ref s1.heap.objs.size, rawInt 0, .none, .none], #[]⟩) (s1.heap.objs.size + 1) s1.heap.objs.size 0 .none := by
      have z := Heap.get?_push_size (s1.heap.push { cls := .type "tuple_iterator", data := .fields #[.ref a, .int 0 0] }) (o := ⟨.type "enumerate", none, .fields #[.none, .bool false, .ref s1.heap.objs.size, rawInt 0, .none, .none], #[]⟩) rfl
      rw [sz] at z; exact z
    refine ⟨⟨_, en, rfl⟩, wpAny_pyIter_enum en ?_⟩
    refine ⟨s1.heap.objs.size + 1, [s1.heap.objs.size + 1, s1.heap.objs.size], _, _, H1, rfl, I1.kept (t' := s1.toks) fun b o z => Heap.get?_push_of_some _ (Heap.get?_push_of_some _ z), turn_enumT a (s1.heap.objs.size + 1) s1.heap.objs.size, ⟨⟨.none, en⟩, ⟨_, Heap.get?_push_of_some _ (Heap.get?_push_size _ rfl), rfl, rfl⟩, Nat.succ_ne_self _, ?_, Nat.ne_of_gt la⟩, new, q⟩
    exact Nat.ne_of_gt (Nat.lt_succ_of_lt la)
section
variable {G : Gd} {k : Nat} {Wx : WX} {N : List Str} {sc : Scope} {X : Cx}
theorem enum_get : ∀ {xs : List D} {n i : Nat} {z : D}, (enumD n xs)[i]? = some z → ∃ x, xs[i]? = some x ∧ z = .tup [.int ((n + i : Nat) : Int), x]
  | [], n, i, z, h => by simp [enumD] at h
  | x :: xs, n, 0, z, h => by
    simp only [enumD, List.getElem?_cons_zero, Option.some.injEq] at h
    exact ⟨x, rfl, h.symm⟩
  | x :: xs, n, i + 1, z, h => by
    simp only [enumD, List.getElem?_cons_succ] at h
    obtain ⟨a, h1, h2⟩ := enum_get h
    exact ⟨a, by simpa using h1, by rw [h2, show n + 1 + i = n + (i + 1) by omega]⟩
theorem enum_len : ∀ (xs : List D) (n : Nat), (enumD n xs).length = xs.length
  | [], _ => rfl
  | x :: xs, n => by simp only [enumD, List.length_cons, enum_len xs]
theorem rd_enum (c : CxOk G k Wx N sc X) {f : Env → Sto → Res D} {σ : L2.St} {H : Hp} {R : L2.It → Hp → Prop} (h : rdI G Wx (fun e S => (f e S).bind fun x S1 => lift ((seqOf S1 x).map fun xs => ⟨still S1 x, enumD 0 xs, none⟩) S1) σ H R) : iEnA X.K (tCons (rdE G Wx f) tNil) σ H R := by
  obtain ⟨W, S, e, si, sl, po⟩ := h
  refine ⟨W, S, e, si, sl, (Post.bind (R := fun W' d v => RepV G W' d v) po).mono fun x H1 ⟨W1, S1, d, t1, s1, r1, ed, po1⟩ => ?_⟩
  obtain ⟨w, ew, po1⟩ := po1.lift
  obtain ⟨xs, hs, rfl⟩ := Option.map_eq_some_iff.mp ew
  obtain ⟨a, vs, rfl, q1, q2, t⟩ := seq_ofT s1 r1 hs
  rw [c.cK]
  have one : ∀ {W' : Wd} {S' : Sto} {H' : Hp} {i : Nat} {z : D} {us : List V}, Sim G W' S' H' → RepVs G W' xs us → (enumD 0 xs)[i]? = some z → ∃ u, us[i]? = some u ∧ ∀ T, H' T = none → ∃ W'', Stp W' H' W'' (upd H' T (.tup [.int (i : Nat), u])) ∧ Sim G W'' S' (upd H' T (.tup [.int (i : Nat), u])) ∧ RepV G W'' z (.ref T) := fun {W' S' H' i z us} si' g hz => by
    obtain ⟨x, h1, rfl⟩ := enum_get hz
    obtain ⟨u, w1, w2⟩ := g.get h1
    refine ⟨u, w1, fun T hT => ?_⟩
    rw [Nat.zero_add]
    exact rep_pair si' hT (by simp only [RepV]) w2
  refine ⟨a, vs, rfl, ?_⟩
  cases ht : d.isT with
  | false =>
    refine .inl ⟨q2 ht, po1.ok s1 ⟨fun W' S' H' ex si' ck i z hz => ?_, fun W' S' H' ex si' ck i hi => ?_⟩⟩
    · obtain ⟨a', us, e1, g1, g2, g3⟩ := seq_still r1 hs ex si' ck
      cases e1
      obtain ⟨u, w1, w2⟩ := one si' g3 hz
      refine ⟨⟨us, u, g2 ht, w1⟩, fun z H'' ⟨T, u', ez, hT, eh, k1⟩ => ?_⟩
      subst ez eh
      have := k1 us (g2 ht)
      rw [w1] at this; cases this
      exact w2 T hT
    · obtain ⟨a', us, e1, g1, g2, g3⟩ := seq_still r1 hs ex si' ck
      cases e1
      dsimp only at hi
      rw [enum_len, g3.len] at hi
      exact ⟨us, g2 ht, hi⟩
  | true =>
    refine .inr ⟨q1 ht, po1.ok s1 ⟨fun W' S' H' ex si' ck i z hz => ?_, fun W' S' H' ex si' ck i hi => ?_⟩⟩
    · obtain ⟨a', us, e1, g1, g2, g3⟩ := seq_still r1 hs ex si' ck
      cases e1
      obtain ⟨u, w1, w2⟩ := one si' g3 hz
      refine ⟨⟨us, u, g1 ht, w1⟩, fun z H'' ⟨T, u', ez, hT, eh, k1⟩ => ?_⟩
      subst ez eh
      have := k1 us (g1 ht)
      rw [w1] at this; cases this
      exact w2 T hT
    · obtain ⟨a', us, e1, g1, g2, g3⟩ := seq_still r1 hs ex si' ck
      cases e1
      dsimp only at hi
      rw [enum_len, g3.len] at hi
      exact ⟨us, g1 ht, hi⟩
end
end Mi
end
section
set_option Elab.async false
set_option linter.all false
set_option maxRecDepth 100000
set_option maxHeartbeats 1000000
/-! the checker of expressions -/
namespace Mi
open PySem L2 PyProof.Rows RZ
structure CxE (G : Gd) (k : Nat) (Wx : WX) (N : List Str) (sc : Scope) (fl : Str → Bool) (X : Cx) : Prop where
  c : CxOk G k Wx N sc X
  fn : ∀ x, fl x = true → X.fn x = true
/-- the names of a program -/
structure Ck where
  M : Pg
  fns : List Str
  cls : List Str
  globs : List Str
  flds : List Str
def nmB (x : Str) : Bool := !(x == ("__debug__" : Str)) && !(x == ("__classdict__" : Str)) && !(x == ("__name__" : Str))
def visB (sc : Scope) (x : Str) : Bool := match sc.names.lookup x with
  | some .local => true
  | some .cell => true
  | some .free => true
  | _ => false
def locB (sc : Scope) (x : Str) : Bool := match sc.names.lookup x with
  | some .local => true
  | some .cell => true
  | _ => false
def lclB (sc : Scope) (x : Str) : Bool := match sc.names.lookup x with
  | some .local => true
  | _ => false
def glB (sc : Scope) (x : Str) : Bool := match sc.names.lookup x with
  | some .globalImplicit => true
  | _ => false
def cstB (d : D) (c : Const) : Bool := match d, c with
  | .non, .none => true
  | .bl b, .bool b' => b == b'
  | .int i, .int j => i == j
  | .str s, .str x => decide (x = sV s) && s.all (· < 1114112)
  | _, _ => false
def opB (o : BOp) (op : Operator) : Bool := match o, op with
  | .add, .Add => true | .sub, .Sub => true | .mul, .Mult => true | .fdiv, .FloorDiv => true | .mod, .Mod => true | .pow, .Pow => true
  | _, _ => false
def coB (o : COp) (op : CmpOp) : Bool := match o, op with
  | .eq, .Eq => true | .ne, .NotEq => true | .lt, .Lt => true | .le, .LtE => true | .gt, .Gt => true | .ge, .GtE => true | .isin, .In => true | .notin, .NotIn => true | .is, .Is => true | .isnot, .IsNot => true
  | _, _ => false
def bltN : Blt → Str
  | .len => "len" | .abs => "abs" | .int => "int" | .str => "str" | .list => "list" | .tuple => "tuple" | .dict => "dict" | .sum => "sum" | .min => "min" | .max => "max" | .all => "all" | .any => "any" | .sorted => "sorted"
  | .min2 => "min" | .max2 => "max" | .maxd => "max" | .listzip => "list"
def tyN : Ty → Str
  | .int => "int" | .bool => "bool" | .tuple => "tuple" | .str => "str" | .list => "list" | .cls _ => "object"
def isTupE : PySem.Expr → Bool
  | .Tuple _ _ _ => true
  | _ => false
mutual
def chT (N : List Str) (sc : Scope) (fl : Str → Bool) : Tg → PySem.Expr → Bool
  | .var i, e => match e with
    | .Name x _ => decide (N[i]? = some x) && locB sc x && (fl x || lclB sc x)
    | _ => false
  | .tup ts, e => match e with
    | .Tuple es _ _ => es.all noStar && chTs N sc fl ts es
    | _ => false
def chTs (N : List Str) (sc : Scope) (fl : Str → Bool) : Tgs → List PySem.Expr → Bool
  | .nil, es => es.isEmpty
  | .cons t ts, es => match es with
    | e :: es => chT N sc fl t e && chTs N sc fl ts es
    | [] => false
end
def ownOf (N : List Str) (t : Tg) : List (Str × Nat) := t.own.map fun i => (N.getD i "", i)
def hasInit (M : Pg) (c : Nat) : Bool := match M.cls c with
  | some C => C.init.isSome
  | none => false
def npOf (M : Pg) (f : Nat) : Nat := match M.fns f with
  | some F => F.np
  | none => 0
def initNp (M : Pg) (c : Nat) : Nat := match (M.cls c).bind (·.init) with
  | some f => npOf M f
  | none => 0
def exLen : Exs → Nat
  | .nil => 0
  | .cons _ es => exLen es + 1
/-- how many a method of this name takes, in all classes -/
def mtNp (T : Ck) (m n : Nat) : Bool := (List.range T.cls.length).all fun c => match T.M.cls c with
  | some C => match C.meths.lookup m with
    | some f => C.init.isSome && decide (npOf T.M f = n)
    | none => true
  | none => true
/-- the arguments of a built-in call -/
def callArgs (b : Blt) (sc : Scope) : PySem.Expr → List PySem.Expr
  | .Call (.Name x _) ys [] _ => if x == bltN b && glB sc x then ys else []
  | _ => []
/-- a name, or a field of what a name holds -/
def pureX : Ex → Bool
  | .var _ => true
  | .att (.var _) _ => true
  | _ => false
/-- what a comprehension's block takes from the def -/
def flB (scope : Scope) (y : Str) : Bool := match scope.names.lookup y with
  | some .cell => true
  | _ => false
mutual
def chE (T : Ck) (N : List Str) : Ex → Scope → (Str → Bool) → PySem.Expr → Bool
  | .var i, sc, fl, e => match e with
    | .Name x _ => decide (N[i]? = some x) && visB sc x && nmB x
    | _ => false
  | .cst d, sc, fl, e => match e with
    | .Constant c _ _ => cstB d c
    | _ => false
  | .glob g, sc, fl, e => match e with
    | .Name x _ => decide (T.globs[g]? = some x) && glB sc x && nmB x
    | _ => false
  | .bin o m a b, sc, fl, e => match e with
    | .BinOp l op r _ => opB o op && chE T N a sc fl l && chE T N b sc fl r
    | _ => false
  | .neg a, sc, fl, e => match e with
    | .UnaryOp .USub x _ => chE T N a sc fl x
    | _ => false
  | .cmp o a b, sc, fl, e => match e with
    | .Compare l [op] [r] _ => coB o op && chE T N a sc fl l && chE T N b sc fl r && noSet r
    | _ => false
  | .chn o o' a b c, sc, fl, e => match e with
    | .Compare l [op, op'] [r, q] _ => coB o op && coB o' op' && chE T N a sc fl l && chE T N b sc fl r && chE T N c sc fl q && noSet q
    | _ => false
  | .andE a b, sc, fl, e => match e with
    | .BoolOp .And (x :: y :: r) p => chE T N a sc fl x && (match r with
      | [] => chE T N b sc fl y
      | _ => chE T N b sc fl (.BoolOp .And (y :: r) p))
    | _ => false
  | .orE a b, sc, fl, e => match e with
    | .BoolOp .Or (x :: y :: r) p => chE T N a sc fl x && (match r with
      | [] => chE T N b sc fl y
      | _ => chE T N b sc fl (.BoolOp .Or (y :: r) p))
    | _ => false
  | .notE a, sc, fl, e => match e with
    | .UnaryOp .Not x _ => chE T N a sc fl x
    | _ => false
  | .ite c a b, sc, fl, e => match e with
    | .IfExp x y z _ => chE T N c sc fl x && chE T N a sc fl y && chE T N b sc fl z
    | _ => false
  | .tup es, sc, fl, e => match e with
    | .Tuple xs _ _ => chEs T N es sc fl xs
    | _ => false
  | .lst m es, sc, fl, e => match e with
    | .List xs _ => chEs T N es sc fl xs
    | _ => false
  | .idx a i, sc, fl, e => match e with
    | .Subscript x y _ => chE T N a sc fl x && chE T N i sc fl y && plainIx y
    | _ => false
  | .sl a lo hi, sc, fl, e => match e with
    | .Subscript x (.Slice l h none _) _ => chE T N a sc fl x && chO T N lo sc fl l && chO T N hi sc fl h
    | _ => false
  | .rev a, sc, fl, e => match e with
    | .Subscript x (.Slice none none (some (.UnaryOp .USub (.Constant (.int 1) _ _) _)) _) _ => chE T N a sc fl x
    | _ => false
  | .att a f, sc, fl, e => match e with
    | .Attribute x n _ => chE T N a sc fl x && decide (T.flds[f]? = some n) && attB x
    | _ => false
  | .call f es, sc, fl, e => match e with
    | .Call (.Name x _) (y :: ys) [] _ => decide (T.fns[f]? = some x) && glB sc x && nmB x && chEs T N es sc fl (y :: ys) && decide (exLen es = npOf T.M f)
    | .Call (.Name x _) [] [] _ => decide (T.fns[f]? = some x) && glB sc x && nmB x && chEs T N es sc fl [] && decide (npOf T.M f = 0)
    | _ => false
  | .callk _ _ _ _, _, _, _ => false
  | .meth a m es, sc, fl, e => match e with
    | .Call (.Attribute x n apos) ys [] pos => decide (T.flds[m]? = some n) && chE T N a sc fl x && attB x && chEs T N es sc fl ys && apos.endLine == pos.line && decide (ys.length < 20) && mtNp T m (exLen es + 1)
    | _ => false
  | .new c fz es, sc, fl, e => match e with
    | .Call (.Name x _) (y :: ys) [] _ => decide (T.cls[c]? = some x) && glB sc x && nmB x && chEs T N es sc fl (y :: ys) && hasInit T.M c && decide (exLen es + 1 = initNp T.M c)
    | .Call (.Name x _) [] [] _ => decide (T.cls[c]? = some x) && glB sc x && nmB x && chEs T N es sc fl [] && hasInit T.M c && decide (initNp T.M c = 1)
    | _ => false
  | .blt b m es, sc, fl, e => match b with
    | .maxd => match es with
      | .cons a .nil => match e with
        | .Call (.Name x _) [y] [⟨some z, .Constant (.int 0) _ _, _⟩] _ => x == ("max" : Str) && z == ("default" : Str) && glB sc x && chE T N a sc fl y && noStar y
        | _ => false
      | _ => false
    | .dict => false
    | .listzip => false
    | _ => !(callArgs b sc e).isEmpty && chEs T N es sc fl (callArgs b sc e)
  | .isi a t, sc, fl, e => match e with
    | .Call (.Name x _) [y, .Name z _] [] _ => x == ("isinstance" : Str) && glB sc x && chE T N a sc fl y && noStar y && glB sc z && (match t with
      | .cls c => decide (T.cls[c]? = some z) && nmB z && hasInit T.M c
      | t => z == tyN t)
    | _ => false
  | .bm m a es, sc, fl, e => match e with
    | .Call (.Attribute x n apos) ys [] pos => n == bmN m && chE T N a sc fl x && attB x && chEs T N es sc fl ys && apos.endLine == pos.line && decide (ys.length < 20)
    | _ => false
  | .comp m x t it cs, sc, fl, e => match e with
    | .ListComp elt [⟨tg, iter, ifs, 0⟩] scope _ => chE T N x (relS scope sc) (flB scope) elt && chT N (relS scope sc) (flB scope) t tg && chI T N it true sc fl tg iter && chC T N cs (relS scope sc) (flB scope) ifs && blkC N sc scope (ownOf N t) && noSet iter
    | _ => false
  | .comp2 m x t it cs t2 it2 cs2, sc, fl, e => match e with
    | .ListComp elt [⟨tg, iter, ifs, 0⟩, ⟨tg2, iter2, ifs2, 0⟩] scope _ => chE T N x (relS scope sc) (flB scope) elt && chT N (relS scope sc) (flB scope) t tg && chI T N it false sc fl tg iter && chC T N cs (relS scope sc) (flB scope) ifs && blkC N sc scope (ownOf N t ++ ownOf N t2) && noSet iter && chT N (relS scope sc) (flB scope) t2 tg2 && chI T N it2 false (relS scope sc) (flB scope) tg2 iter2 && chC T N cs2 (relS scope sc) (flB scope) ifs2 && noSet iter2
    | _ => false
  | .dcomp k a b t it cs, sc, fl, e => match e with
    | .DictComp ke ve [⟨tg, iter, ifs, 0⟩] scope _ => chE T N a (relS scope sc) (flB scope) ke && chE T N b (relS scope sc) (flB scope) ve && chT N (relS scope sc) (flB scope) t tg && chI T N it false sc fl tg iter && chC T N cs (relS scope sc) (flB scope) ifs && blkC N sc scope (ownOf N t) && noSet iter
    | _ => false
  | .dct k ks vs, sc, fl, e => match ks, vs with
    | .nil, .nil => match e with
      | .Dict [] [] _ => true
      | _ => false
    | _, _ => false
  | .frz a, sc, fl, e => chE T N a sc fl e && plainT e
def chEs (T : Ck) (N : List Str) : Exs → Scope → (Str → Bool) → List PySem.Expr → Bool
  | .nil, sc, fl, es => es.isEmpty
  | .cons x xs, sc, fl, es => match es with
    | e :: es => chE T N x sc fl e && noStar e && chEs T N xs sc fl es
    | [] => false
def chO (T : Ck) (N : List Str) : Ox → Scope → (Str → Bool) → Option PySem.Expr → Bool
  | .nul, sc, fl, o => o.isNone
  | .one x, sc, fl, o => match o with
    | some e => chE T N x sc fl e
    | none => false
def chC (T : Ck) (N : List Str) : Exs → Scope → (Str → Bool) → List PySem.Expr → Bool
  | .nil, sc, fl, es => es.isEmpty
  | .cons x .nil, sc, fl, es => match es with
    | [e] => chE T N x sc fl e
    | _ => false
  | .cons _ (.cons _ _), _, _, _ => false
/-- what is walked; dk: a dict that a name holds, too -/
def chI (T : Ck) (N : List Str) : It → Bool → Scope → (Str → Bool) → PySem.Expr → PySem.Expr → Bool
  | .seq a, dk, sc, fl, tg, e => chE T N a sc fl e
  | .rng1 a, dk, sc, fl, tg, e => match e with
    | .Call (.Name x _) [y] [] _ => x == ("range" : Str) && glB sc x && chE T N a sc fl y && noStar y
    | _ => false
  | .rng2 a b, dk, sc, fl, tg, e => match e with
    | .Call (.Name x _) [y, z] [] _ => x == ("range" : Str) && glB sc x && chE T N a sc fl y && noStar y && chE T N b sc fl z && noStar z
    | _ => false
  | .rng3 a b c, dk, sc, fl, tg, e => match e with
    | .Call (.Name x _) [y, z, .UnaryOp .USub (.Constant (.int 1) _ _) _] [] _ => x == ("range" : Str) && glB sc x && chE T N a sc fl y && noStar y && chE T N b sc fl z && noStar z && c == -1
    | _ => false
  | .zip a b, dk, sc, fl, tg, e => match e with
    | .Call (.Name x _) [y, z] [] _ => x == ("zip" : Str) && glB sc x && chE T N a sc fl y && noStar y && chE T N b sc fl z && noStar z && isTupE tg
    | _ => false
  | .enum a, dk, sc, fl, tg, e => match e with
    | .Call (.Name x _) [y] [] _ => x == ("enumerate" : Str) && glB sc x && chE T N a sc fl y && noStar y && isTupE tg
    | _ => false
  | .dic a, dk, sc, fl, tg, e => dk && pureX a && chE T N a sc fl e
  | .comb _ _, _, _, _, _, _ => false
end
end Mi
end
section
set_option Elab.async false
set_option linter.all false
set_option maxRecDepth 100000
set_option maxHeartbeats 4000000
/-! the checker is right: expressions -/
namespace Mi
open PySem L2 PyProof.Rows RZ
def bltNames : List Str := ["len", "abs", "int", "str", "list", "tuple", "dict", "sum", "min", "max", "all", "any", "sorted", "range", "zip", "enumerate", "isinstance", "bool"]
structure TOk (G : Gd) (T : Ck) (call : Nat → List D → Sto → Res D) (kc : Nat) : Prop where
  M : T.M = G.M
  fn : ∀ i x, T.fns[i]? = some x → ∃ fa fd ps, G.mg x = some (.ref fa) ∧ PySem.W.keepIn G.K (.ref fa) = true ∧ Binds G.K fd ps [] ∧ ps.length = npOf G.M i ∧ FnF G call kc i fa fd ps
  mkc : ∀ c x C f, T.cls[c]? = some x → G.M.cls c = some C → C.init = some f → G.mg x = some (.ref (G.cA c)) ∧ ∃ fa fd ps, Mk G.K (G.cA c) fa ∧ Binds G.K fd ps [] ∧ ps.length = npOf G.M f ∧ FnF G call kc f fa fd ps
  mt : ∀ c C m f, G.M.cls c = some C → C.meths.lookup m = some f → c < T.cls.length ∧ ∃ fa fd ps, Meth G.K (G.cA c) (G.nm m) fa ∧ Binds G.K fd ps [] ∧ ps.length = npOf G.M f ∧ FnF G call kc f fa fd ps
  gl : ∀ g x, T.globs[g]? = some x → ∃ v u d, G.mg x = some u ∧ G.M.glob g = some d ∧ RelV v u ∧ ∀ W, RepV G W d v
  fl : ∀ i x, T.flds[i]? = some x → G.nm i = x
  bl : ∀ x ∈ bltNames, G.mg x = none
  ko : KOk G
  eq : ∀ Wx N sc X, CxOk G (kc + 1) Wx N sc X → EqOk G Wx X call
theorem visB_ok {sc : Scope} {x : Str} (h : visB sc x = true) : Vis sc x := by
  unfold visB at h
  unfold Vis
  split at h <;> simp_all
theorem locB_ok {sc : Scope} {x : Str} (h : locB sc x = true) : L2.Loc sc x := by
  unfold locB at h
  unfold L2.Loc
  split at h <;> simp_all
theorem lclB_ok {sc : Scope} {x : Str} (h : lclB sc x = true) : sc.names.lookup x = some .local := by
  unfold lclB at h
  split at h <;> simp_all
theorem nmB_ok {x : Str} (h : nmB x = true) : (x == ("__debug__" : Str)) = false ∧ (x == ("__classdict__" : Str)) = false ∧ x ≠ "__name__" := by
  unfold nmB at h
  simp only [Bool.and_eq_true, Bool.not_eq_true'] at h
  exact ⟨h.1.1, h.1.2, fun e => by
    have := h.2
    rw [e, beq_self_eq_true] at this
    cases this⟩
theorem opB_ok {o : BOp} {op : Operator} (h : opB o op = true) : op = bopOf o := by
  cases o <;> cases op <;> first | rfl | (cases h)
theorem coB_ok {o : COp} {op : CmpOp} (h : coB o op = true) : op = copOf o := by
  cases o <;> cases op <;> first | rfl | (cases h)
section
variable {G : Gd} {T : Ck} {kc : Nat} {Wx : WX} {N : List Str} {sc : Scope} {fl : Str → Bool} {X : Cx} {call : Nat → List D → Sto → Res D}
theorem glB_ok (c : CxE G (kc + 1) Wx N sc fl X) {x : Str} (h : glB sc x = true) : Gl X x := by
  unfold glB at h
  show X.env.scope.names.lookup x = _
  rw [c.c.csc]
  split at h <;> simp_all
theorem TOk.mth (t : TOk G T call kc) {m n : Nat} (h : mtNp T m n = true) : MtOk G call kc m n := fun c C i hC hi => by
  obtain ⟨lt, fa, fd, ps, h1, h2, h3, h4⟩ := t.mt c C m i hC hi
  have z := List.all_eq_true.mp h c (List.mem_range.mpr lt)
  rw [t.M, hC] at z
  dsimp only at z
  rw [hi] at z
  simp only [Bool.and_eq_true, decide_eq_true_eq] at z
  exact ⟨z.1, fa, fd, ps, h1, h2, h3.trans z.2, h4⟩
theorem TOk.nb (t : TOk G T call kc) (c : CxE G (kc + 1) Wx N sc fl X) {x : Str} (h : x ∈ bltNames) : X.mg x = none := by
  rw [c.c.cmg]; exact t.bl x h
theorem pe_cst {d : D} {cc : Const} {kk : Nat} {pos : Pos} (h : cstB d cc = true) : PE X (.Constant cc kk pos) (rdE G Wx fun _ S => .ok d S) := by
  unfold cstB at h
  split at h
  · exact pe_ct pe_non fun W => by simp [RepV]
  · rw [eq_of_beq h]; exact pe_ct pe_bl fun W => by simp [RepV]
  · rw [eq_of_beq h]; exact pe_ct pe_int fun W => by simp [RepV]
  · simp only [Bool.and_eq_true, decide_eq_true_eq, List.all_eq_true] at h
    rw [h.1]
    exact pe_ct pe_str fun W => by simp only [RepV]; exact ⟨trivial, h.2⟩
  · cases h
theorem evs_len {P : Pg} : ∀ {es : Exs} {e : Env} {S S' : Sto} {xs : List D}, evs P call es e S = .ok xs S' → xs.length = exLen es
  | .nil, e, S, S', xs, h => by simp only [evs] at h; cases h; rfl
  | .cons x es, e, S, S', xs, h => by
    simp only [evs] at h
    cases h1 : ev P call x e S with
    | stuck => rw [h1] at h; cases h
    | exc _ _ _ => rw [h1] at h; cases h
    | ok d S1 =>
      rw [h1] at h
      simp only [Res.bind] at h
      cases h2 : evs P call es e S1 with
      | stuck => rw [h2] at h; cases h
      | exc _ _ _ => rw [h2] at h; cases h
      | ok ds S2 =>
        rw [h2] at h
        cases h
        simp only [List.length_cons, exLen, evs_len h2]
theorem chT_ok (c : CxE G (kc + 1) Wx N sc fl X) : ∀ (t : Tg) (e : PySem.Expr), chT N sc fl t e = true → PG X e (rdG G t) := by
  have main : ∀ (n : Nat), (∀ (t : Tg) (e : PySem.Expr), sizeOf t ≤ n → chT N sc fl t e = true → PG X e (rdG G t)) ∧ (∀ (ts : Tgs) (es : List PySem.Expr), sizeOf ts ≤ n → chTs N sc fl ts es = true → es.all noStar = true → PGs X es (rdGs G ts) ∧ ∀ ds e e', asTs ts ds e = some e' → ds.length = es.length) := by
    intro n
    induction n with
    | zero => exact ⟨fun t e h => by cases t <;> simp at h, fun ts es h => by cases ts <;> simp at h⟩
    | succ n ih =>
      refine ⟨fun t e hs h => ?_, fun ts es hs h hst => ?_⟩
      · cases t with
        | var i =>
          simp only [chT] at h
          split at h
          · simp only [Bool.and_eq_true, decide_eq_true_eq, Bool.or_eq_true] at h
            exact tg_var c.c h.1.1 (locB_ok h.1.2) (h.2.elim (fun z => .inl (c.fn _ z)) fun z => .inr (lclB_ok z))
          · cases h
        | tup ts =>
          simp only [chT] at h
          split at h
          · simp only [Bool.and_eq_true] at h
            have hs' : sizeOf ts ≤ n := by simp at hs; omega
            obtain ⟨h1, h2⟩ := ih.2 ts _ hs' h.2 h.1
            exact tg_tup c.c h1 h.1 h2
          · cases h
      · cases ts with
        | nil =>
          simp only [chTs, List.isEmpty_iff] at h
          subst h
          refine ⟨tgs_nil, fun ds e e' q => ?_⟩
          cases ds with
          | nil => rfl
          | cons _ _ => simp [asTs] at q
        | cons t ts =>
          simp only [chTs] at h
          split at h
          · rename_i e es
            simp only [Bool.and_eq_true] at h
            simp only [List.all_cons, Bool.and_eq_true] at hst
            have hs1 : sizeOf t ≤ n := by simp at hs; omega
            have hs2 : sizeOf ts ≤ n := by simp at hs; omega
            obtain ⟨h1, h2⟩ := ih.2 ts es hs2 h.2 hst.2
            refine ⟨tgs_cons (ih.1 t e hs1 h.1) h1 hst.1, fun ds e e' q => ?_⟩
            cases ds with
            | nil => simp [asTs] at q
            | cons d ds =>
              simp only [asTs] at q
              obtain ⟨e1, q1, q2⟩ := Option.bind_eq_some_iff.mp q
              simp only [List.length_cons, h2 _ _ _ q2]
          · cases h
  exact fun t e h => (main (sizeOf t)).1 t e (Nat.le_refl _) h
theorem W0_takes {X : Cx} : Takes X W0 := takes0
/-- inside a comprehension -/
theorem CxE.blk (c : CxE G (kc + 1) Wx N sc fl X) (s : Shared) (H : Hp) (C : Addr) (cl : List (Str × Addr)) (fp : List Addr) (scope : Scope) :
    CxE G (kc + 1) W0 N (relS scope sc) (flB scope) (X.blk s H scope (compEnvC scope cl C X.env) fp) := by
  refine ⟨⟨c.c.cP, c.c.cw, c.c.cK, c.c.cmg, c.c.cb, c.c.cN, c.c.cnd, ?_, c.c.calm, c.c.room, W0_takes⟩, fun x hx => ?_⟩
  · show relS scope X.env.scope = relS scope sc
    rw [c.c.csc]
  · show (scope.names.lookup x == some .cell) = true
    unfold flB at hx
    split at hx
    · rename_i h; rw [h]; rfl
    · cases hx
theorem no_fold {e : PySem.Expr} (h : noSet e = true) (env : PySem.Env) (x : Value) : foldedSetIterable e env x = pure x := by
  cases e <;> first | rfl | (simp [noSet] at h)
theorem own_snd (t : Tg) : (ownOf N t).map (·.2) = t.own := by
  unfold ownOf
  rw [List.map_map]
  exact List.map_id _
theorem walk_ck {P : Pg} (it : It) (e : Env) (S : Sto) (w : Wk) (S1 : Sto) (hn : ∀ a, it ≠ .dic a) (h : walk P call it e S = .ok w S1) : w.ck S1 = true ∧ w.lk = none := by
  have b : ∀ {α β : Type} {r : Res α} {k : α → Sto → Res β} {w : β} {S1 : Sto}, r.bind k = .ok w S1 → ∃ a S2, k a S2 = .ok w S1 := fun {α β r k w S1} h => by
    cases r with
    | ok a S2 => exact ⟨a, S2, h⟩
    | exc _ _ _ => cases h
    | stuck => cases h
  have l : ∀ {α : Type} {o : Option α} {S S1 : Sto} {w : α}, lift o S = .ok w S1 → o = some w ∧ S = S1 := fun {α o S S1 w} h => by
    cases o with
    | none => cases h
    | some a => cases h; exact ⟨rfl, rfl⟩
  cases it <;> simp only [walk] at h
  · obtain ⟨a, S2, h⟩ := b h
    obtain ⟨h1, rfl⟩ := l h
    obtain ⟨xs, _, rfl⟩ := Option.map_eq_some_iff.mp h1
    exact ⟨still_self _ _, rfl⟩
  · obtain ⟨a, S2, h⟩ := b h
    split at h
    · split at h
      · cases h; exact ⟨rfl, rfl⟩
      · cases h
    · cases h
  · obtain ⟨a, S2, h⟩ := b h
    obtain ⟨a', S3, h⟩ := b h
    split at h
    · split at h
      · cases h; exact ⟨rfl, rfl⟩
      · cases h
    · cases h
  · obtain ⟨a, S2, h⟩ := b h
    obtain ⟨a', S3, h⟩ := b h
    split at h
    · split at h
      · cases h; exact ⟨rfl, rfl⟩
      · cases h
    · cases h
  · obtain ⟨a, S2, h⟩ := b h
    obtain ⟨a', S3, h⟩ := b h
    split at h
    · split at h
      · cases h
        refine ⟨?_, rfl⟩
        simp only [still_self, Bool.and_self]
      · cases h
    · cases h
  · obtain ⟨a, S2, h⟩ := b h
    obtain ⟨h1, rfl⟩ := l h
    obtain ⟨xs, _, rfl⟩ := Option.map_eq_some_iff.mp h1
    exact ⟨still_self _ _, rfl⟩
  · rename_i a
    exact absurd rfl (hn a)
  · obtain ⟨a, S2, h⟩ := b h
    obtain ⟨a', S3, h⟩ := b h
    split at h
    · split at h
      · cases h; exact ⟨rfl, rfl⟩
      · cases h
    · cases h
theorem both_blt (t : TOk G T call kc) (c : CxE G (kc + 1) Wx N sc fl X) {b : Blt} {m : Bool} {x : Str} {p pos : Pos} {e : PySem.Expr} {es : List PySem.Expr} {fs : Env → Sto → Res (List D)} (h1 : b ≠ .maxd) (h2 : b ≠ .dict) (h3 : b ≠ .listzip) (hx : x = bltN b) (hg : Gl X x) (ha : PA X (e :: es) (rdA G Wx fs)) (hs : (e :: es).all noStar = true) :
    Both G Wx X (.Call (.Name x p) (e :: es) [] pos) (fun e S => (fs e S).bind fun xs S1 => bltD b m S1 xs) := by
  subst hx
  cases b with
  | len => exact both_bltF c.c (g := fun xs S => one xs (lenD S)) (blt_len c.c) hg (t.nb c (by decide +kernel)) (by decide +kernel) (by decide +kernel) (by decide +kernel) ha hs
  | abs => exact both_bltF c.c (g := fun xs S => one xs (absD S)) blt_abs hg (t.nb c (by decide +kernel)) (by decide +kernel) (by decide +kernel) (by decide +kernel) ha hs
  | int => exact both_bltT c.c (g := fun xs S => one xs (intD S)) blt_int hg (t.nb c (by decide +kernel)) (by decide +kernel) (by decide +kernel) (by decide +kernel) ha hs
  | str => exact both_bltT c.c (g := fun xs S => one xs (strD S)) blt_str hg (t.nb c (by decide +kernel)) (by decide +kernel) (by decide +kernel) (by decide +kernel) ha hs
  | list => exact both_bltT c.c (g := fun xs S => one xs (listD m S)) (blt_list c.c m) hg (t.nb c (by decide +kernel)) (by decide +kernel) (by decide +kernel) (by decide +kernel) ha hs
  | tuple => exact both_bltT c.c (g := fun xs S => one xs (tupleD S)) (blt_tuple c.c) hg (t.nb c (by decide +kernel)) (by decide +kernel) (by decide +kernel) (by decide +kernel) ha hs
  | sum => exact both_bltF c.c (g := fun xs S => one xs (sumD S)) (blt_sum c.c) hg (t.nb c (by decide +kernel)) (by decide +kernel) (by decide +kernel) (by decide +kernel) ha hs
  | min => exact both_bltF c.c (g := fun xs S => one xs (minB S)) (blt_min c.c) hg (t.nb c (by decide +kernel)) (by decide +kernel) (by decide +kernel) (by decide +kernel) ha hs
  | max => exact both_bltF c.c (g := fun xs S => one xs (maxB S)) (blt_max c.c) hg (t.nb c (by decide +kernel)) (by decide +kernel) (by decide +kernel) (by decide +kernel) ha hs
  | sorted => exact both_bltF c.c (g := fun xs S => one xs (sortB S)) (blt_sorted c.c) hg (t.nb c (by decide +kernel)) (by decide +kernel) (by decide +kernel) (by decide +kernel) ha hs
  | min2 => exact both_bltF c.c (g := fun xs S => two xs (min2D S)) (blt_min2 c.c) hg (t.nb c (by decide +kernel)) (by decide +kernel) (by decide +kernel) (by decide +kernel) ha hs
  | max2 => exact both_bltF c.c (g := fun xs S => two xs (max2D S)) (blt_max2 c.c) hg (t.nb c (by decide +kernel)) (by decide +kernel) (by decide +kernel) (by decide +kernel) ha hs
  | all => exact both_bltF c.c (g := fun xs S => one xs (allD S)) (blt_all c.c) hg (t.nb c (by decide +kernel)) (by decide +kernel) (by decide +kernel) (by decide +kernel) ha hs
  | any => exact both_bltF c.c (g := fun xs S => one xs (anyD S)) (blt_any c.c) hg (t.nb c (by decide +kernel)) (by decide +kernel) (by decide +kernel) (by decide +kernel) ha hs
  | dict => exact absurd rfl h2
  | maxd => exact absurd rfl h1
  | listzip => exact absurd rfl h3
theorem _root_.L2.PTs.imp {es : List PySem.Expr} {t t' : TT} (h : PTs X es t) (k : ∀ σ H Q, t' σ H Q → t σ H Q) : PTs X es t' := ⟨fun pins s σ H Q I q => h.run pins s σ H Q I (k σ H Q q)⟩
/-- a comprehension -/
theorem both_comp (c : CxE G (kc + 1) Wx N sc fl X) {m : Bool} {t : Tg} {fw : Env → Sto → Res Wk} {fc : Env → Sto → Res Bool} {fx : Env → Sto → Res D} {elt tg iter : PySem.Expr} {ifs : List PySem.Expr} {scope : Scope} {pos : Pos}
    (hi : PI X tg iter (rdI G Wx fw)) (ok : blkC N sc scope (ownOf N t) = true)
    (hg : ∀ X', CxE G (kc + 1) W0 N (relS scope sc) (flB scope) X' → PG X' tg (rdG G t) ∧ PTs X' ifs (rdT G W0 fc) ∧ PE X' elt (rdE G W0 fx)) (hs : noSet iter = true) (hck : ∀ e S w S1, fw e S = .ok w S1 → w.ck S1 = true ∧ w.lk = none) :
    Both G Wx X (.ListComp elt [⟨tg, iter, ifs, 0⟩] scope pos) (fun e S => (fw e S).bind fun w S1 => ((mapR (lcStep t t.own e fc fx) w.ck w.xs (lockO true S1 w.lk)).nox).bind fun ys S2 => newL m ys (lockO false S2 w.lk)) := by
  refine both_of c.c ((pe_lc (own := ownOf N t) c.c.calm (by rw [c.c.cN]; exact c.c.cnd) hi (by rw [c.c.cN, c.c.csc]; exact blkOk_by ok) (fun s H C cl fp => (hg _ (c.blk s H C cl fp scope)).1) (fun s H C cl fp => (hg _ (c.blk s H C cl fp scope)).2.1) (fun s H C cl fp => (hg _ (c.blk s H C cl fp scope)).2.2) (no_fold hs _)).imp fun σ H Q q => ?_) rfl
  exact lc_rd (own_snd t) hck q
end
end Mi
end
section
set_option Elab.async false
set_option linter.all false
set_option maxRecDepth 100000
set_option maxHeartbeats 1000000
/-! a dict that is walked: it is locked meanwhile -/
namespace Mi
open PySem L2 PyProof.Rows RZ
/-- the walk in a store where the dict is locked -/
def dicL (x : D) (S : Sto) : Res Wk := match x with
  | .ref n => match S[n]? with
    | some (.dct t true kvs) => .ok ⟨fun S' => decide (S'[n]? = some (.dct t true kvs)), kvs.map (·.1), none⟩ S
    | _ => .stuck
  | _ => .stuck
def Wd.un (W : Wd) (d : Addr) : Wd := ⟨fun a => if a = d then none else W.F a, W.mu⟩
def dictHO (u : HO) : Prop := (∃ vs, u = .dK vs) ∨ ∃ vs, u = .dT vs
section
variable {G : Gd} {W W' : Wd} {S S' : Sto} {H H' : Hp} {Wx : WX} {d : Addr} {od : Obj} {u : HO}
theorem un_F {a : Addr} (h : a ≠ d) : (W.un d).F a = W.F a := by simp [Wd.un, h]
theorem un_d : (W.un d).F d = none := by simp [Wd.un]
theorem un_of {a : Addr} {o : HO} (hd : W.F d = some (.frz od u)) (h : W.F a = some o) (hn : ∀ od u, o ≠ .frz od u) : (W.un d).F a = some o := by
  rw [un_F, h]
  intro e
  subst e
  rw [hd] at h; cases h
  exact hn _ _ rfl
mutual
theorem rep_un (hd : W.F d = some (.frz od u)) (hu : dictHO u) : ∀ (x : D) (v : V), RepV G W x v → RepV G (W.un d) x v
  | .non, _, h => by simpa [RepV] using h
  | .bl _, _, h => by simpa [RepV] using h
  | .int _, _, h => by simpa [RepV] using h
  | .str _, _, h => by simpa [RepV] using h
  | .tup ds, v, h => by
    simp only [RepV] at h ⊢
    obtain ⟨a, vs, e, q, r⟩ := h
    exact ⟨a, vs, e, un_of hd q (fun _ _ h => by cases h), reps_un hd hu ds vs r⟩
  | .lst ds, v, h => by
    simp only [RepV] at h ⊢
    obtain ⟨a, vs, e, q, r⟩ := h
    refine ⟨a, vs, e, ?_, reps_un hd hu ds vs r⟩
    rcases q with q | ⟨o, q⟩
    · exact .inl (un_of hd q fun _ _ h => by cases h)
    · refine .inr ⟨o, ?_⟩
      rw [un_F, q]
      intro e; subst e
      rw [hd] at q; cases q
      rcases hu with ⟨_, z⟩ | ⟨_, z⟩ <;> cases z
  | .ins c ks ds, v, h => by
    simp only [RepV] at h ⊢
    obtain ⟨a, dx, vs, e, q, r, l⟩ := h
    exact ⟨a, dx, vs, e, un_of hd q (fun _ _ h => by cases h), reps_un hd hu ds vs r, l⟩
  | .ref n, v, h => by
    simp only [RepV] at h ⊢
    exact h
theorem reps_un (hd : W.F d = some (.frz od u)) (hu : dictHO u) : ∀ (xs : List D) (vs : List V), RepVs G W xs vs → RepVs G (W.un d) xs vs
  | [], vs, h => by simpa [RepVs] using h
  | x :: xs, vs, h => by
    simp only [RepVs] at h ⊢
    obtain ⟨v, r, e, q, t⟩ := h
    exact ⟨v, r, e, rep_un hd hu x v q, reps_un hd hu xs r t⟩
end
theorem repk_un {κ : Type} {R : D → κ → Prop} (hd : W.F d = some (.frz od u)) (hu : dictHO u) : ∀ (ds : List (D × D)) (vs : List (κ × V)), RepKs G W R ds vs → RepKs G (W.un d) R ds vs
  | [], vs, h => by simpa [RepKs] using h
  | x :: ds, vs, h => by
    simp only [RepKs] at h ⊢
    obtain ⟨k, v, r, e, q, w, t⟩ := h
    exact ⟨k, v, r, e, q, rep_un hd hu _ v w, repk_un hd hu ds r t⟩
theorem repo_un {a : Addr} {o : O} (hd : W.F d = some (.frz od u)) (hu : dictHO u) (hn : a ≠ d) (r : RepO G W H a o) : RepO G (W.un d) (upd H d u) a o := by
  have hH : ∀ w, H a = some w → (upd H d u) a = some w := fun w h => by rw [upd_ne hn]; exact h
  cases o with
  | lst ds => obtain ⟨f, vs, e, t⟩ := r; exact ⟨by rw [un_F hn]; exact f, vs, hH _ e, reps_un hd hu ds vs t⟩
  | dct t l kvs =>
    have atl : ∀ w, AtL W.F H a l w → AtL (W.un d).F (upd H d u) a l w := fun w h => by
      cases l with
      | false => exact ⟨by rw [un_F hn]; exact h.1, hH _ h.2⟩
      | true => obtain ⟨o, h1, h2⟩ := h; exact ⟨o, by rw [un_F hn]; exact h1, hH _ h2⟩
    cases t with
    | false => obtain ⟨vs, e, t⟩ := r; exact ⟨vs, atl _ e, repk_un hd hu kvs vs t⟩
    | true => obtain ⟨vs, e, t⟩ := r; exact ⟨vs, atl _ e, repk_un hd hu kvs vs t⟩
  | ins c ks ds => obtain ⟨f, fo, dx, vs, e, t, l⟩ := r; exact ⟨by rw [un_F hn]; exact f, fo, dx, vs, hH _ e, reps_un hd hu ds vs t, l⟩
  | dead => obtain ⟨w, h1, h2⟩ := r; exact ⟨w, hH _ h1, h2⟩
/-- the dict is locked -/
theorem Sim.lock (s : Sim G W S H) {n : Nat} {t : Bool} {kvs : List (D × D)} (hn : W.mu[n]? = some d) (hS : S[n]? = some (.dct t false kvs)) :
    ∃ u, dictHO u ∧ W.F d = none ∧ H d = some u ∧ ∀ od, Sim G (W.lay d (.frz od u)) (S.set n (.dct t true kvs)) (upd H d (.frz od u)) ∧ WExt W (W.lay d (.frz od u)) := by
  have ro := s.obj n d _ hn hS
  have hF : W.F d = none := ro.Fn rfl
  have hu : ∃ u, dictHO u ∧ H d = some u ∧ ∀ (W' : Wd) (H' : Hp) (od : Obj), (∀ a o, W.F a = some o → W'.F a = some o) → W'.mu = W.mu → W'.F d = some (.frz od u) → H' d = some (.frz od u) → RepO G W' H' d (.dct t true kvs) := by
    cases t with
    | false =>
      obtain ⟨vs, e, r⟩ := ro
      exact ⟨_, .inl ⟨vs, rfl⟩, e.2, fun W' H' od h1 h2 h3 h4 => ⟨vs, ⟨od, h3, h4⟩, r.stp h1 fun _ _ h => by rw [h2]; exact h⟩⟩
    | true =>
      obtain ⟨vs, e, r⟩ := ro
      exact ⟨_, .inr ⟨vs, rfl⟩, e.2, fun W' H' od h1 h2 h3 h4 => ⟨vs, ⟨od, h3, h4⟩, r.stp h1 fun _ _ h => by rw [h2]; exact h⟩⟩
  obtain ⟨u, h1, h2, h3⟩ := hu
  refine ⟨u, h1, hF, h2, fun od => ?_⟩
  have F : ∀ a o, W.F a = some o → (W.lay d (.frz od u)).F a = some o := fun a o h => by
    show upd W.F d _ a = some o
    rw [upd_ne (fun z => by subst z; rw [hF] at h; cases h)]; exact h
  refine ⟨⟨fun a o h => ?_, by simp [Wd.lay, s.len], s.nd, fun a ha => ?_, fun m a o g1 g2 => ?_⟩, ⟨F, fun _ _ h => h⟩⟩
  · have h' : upd W.F d (.frz od u) a = some o := h
    by_cases z : a = d
    · subst z; rw [upd_same] at h' ⊢; exact h'
    · rw [upd_ne z] at h' ⊢; exact s.sub _ _ h'
  · by_cases z : a = d
    · subst z; rw [upd_same]; simp
    · rw [upd_ne z]; exact s.inH a ha
  · have g1' : W.mu[m]? = some a := g1
    by_cases z : m = n
    · subst z
      rw [hn] at g1'; cases g1'
      rw [List.getElem?_set_self (List.getElem?_eq_some_iff.mp hS).1] at g2
      cases g2
      exact h3 _ _ od F rfl (by show upd W.F d _ d = _; rw [upd_same]) upd_same
    · rw [List.getElem?_set_ne (Ne.symm z)] at g2
      have nb : a ≠ d := fun e => z ((List.getElem?_inj (List.getElem?_eq_some_iff.mp g1').1 s.nd).mp (by rw [g1', hn, e]))
      refine (s.obj m a o g1' g2).keep F (fun _ _ h => h) (fun h => ?_) fun w hw => by rw [upd_ne nb]; exact hw
      show upd W.F d _ a = none
      rw [upd_ne nb]; exact h
/-- .. and let go -/
theorem Sim.unlock (s : Sim G W S H) {n : Nat} {t : Bool} {kvs : List (D × D)} (hn : W.mu[n]? = some d) (hS : S[n]? = some (.dct t true kvs)) (hd : W.F d = some (.frz od u)) (hu : dictHO u) :
    Sim G (W.un d) (S.set n (.dct t false kvs)) (upd H d u) := by
  refine ⟨fun a o h => ?_, by simp [Wd.un, s.len], s.nd, fun a ha => ?_, fun m a o g1 g2 => ?_⟩
  · by_cases z : a = d
    · subst z; rw [un_d] at h; cases h
    · rw [un_F z] at h; rw [upd_ne z]; exact s.sub _ _ h
  · by_cases z : a = d
    · subst z; rw [upd_same]; simp
    · rw [upd_ne z]; exact s.inH a ha
  · have g1' : W.mu[m]? = some a := g1
    by_cases z : m = n
    · subst z
      rw [hn] at g1'; cases g1'
      rw [List.getElem?_set_self (List.getElem?_eq_some_iff.mp hS).1] at g2
      cases g2
      have ro := s.obj m d _ hn hS
      cases t with
      | false =>
        obtain ⟨vs, ⟨o, e, _⟩, r⟩ := ro
        rw [hd] at e; cases e
        exact ⟨vs, ⟨un_d, upd_same⟩, repk_un hd hu kvs vs r⟩
      | true =>
        obtain ⟨vs, ⟨o, e, _⟩, r⟩ := ro
        rw [hd] at e; cases e
        exact ⟨vs, ⟨un_d, upd_same⟩, repk_un hd hu kvs vs r⟩
    · rw [List.getElem?_set_ne (Ne.symm z)] at g2
      have nb : a ≠ d := fun e => z ((List.getElem?_inj (List.getElem?_eq_some_iff.mp g1').1 s.nd).mp (by rw [g1', hn, e]))
      exact repo_un hd hu nb (s.obj m a o g1' g2)
/-- the step over all of it -/
theorem Stp.unlock {n : Nat} (hn : W.mu[n]? = some d) (hF : W.F d = none) (st : Stp (W.lay d (.frz od u)) (upd H d (.frz od u)) W' H') : Stp W H (W'.un d) (upd H' d u) := by
  have hm : d ∈ W.mu := List.mem_of_getElem? hn
  obtain ⟨ext, e⟩ := st.mu
  refine ⟨fun a o h => ?_, ⟨ext, e⟩, fun a o h na => ?_, fun a h na => ?_, fun a h => ?_, fun a h => ?_⟩
  · have z : a ≠ d := fun z => by subst z; rw [hF] at h; cases h
    rw [un_F z]
    refine st.F a o ?_
    show upd W.F d _ a = _
    rw [upd_ne z]; exact h
  · have z : a ≠ d := fun z => by subst z; exact na hm
    rw [upd_ne z]
    refine st.fr a o ?_ na
    rw [upd_ne z]; exact h
  · have z : a ≠ d := fun z => by subst z; exact na hm
    have := st.nw a h na
    rw [upd_ne z] at this; exact this
  · by_cases z : a = d
    · subst z; rw [upd_same]; simp
    · rw [upd_ne z]
      refine st.dm a ?_
      rw [upd_ne z]; exact h
  · have z : a ≠ d := fun z => by subst z; rw [un_d] at h; exact h rfl
    rw [un_F z] at h
    have := st.nf a h
    rw [upd_ne z] at this
    rcases this with q | q
    · have q' : upd W.F d (.frz od u) a ≠ none := q
      rw [upd_ne z] at q'
      exact .inl q'
    · exact .inr q
end
section
variable {G : Gd} {k : Nat} {Wx : WX} {N : List Str} {sc : Scope} {X : Cx} {P : Pg} {call : Nat → List D → Sto → Res D}
theorem keyR_rep {W : Wd} {d : D} {q : Key} (h : KeyR d q) : RepV G W d (kV q) := by
  cases d <;> simp only [KeyR] at h
  · subst h; simp [RepV, kV]
  · obtain ⟨rfl, h⟩ := h; simp [RepV, kV, h]
theorem keyRs_rep {W : Wd} : ∀ {ds : List D} {qs : List Key}, KeyRs ds qs → RepVs G W ds (qs.map kV)
  | [], qs, h => by simp only [KeyRs] at h; subst h; exact RepVs.nil
  | d :: ds, qs, h => by
    simp only [KeyRs] at h
    obtain ⟨q, r, rfl, h1, h2⟩ := h
    exact (keyRs_rep h2).cons (keyR_rep h1)
theorem repk_get {κ : Type} {W : Wd} {R : D → κ → Prop} : ∀ {ds : List (D × D)} {vs : List (κ × V)} {i : Nat} {d : D}, RepKs G W R ds vs → (ds.map (·.1))[i]? = some d → ∃ q v, vs[i]? = some (q, v) ∧ R d q
  | [], _, _, _, _, h => by simp at h
  | x :: ds, vs, i, d, r, h => by
    simp only [RepKs] at r
    obtain ⟨q, v, t, rfl, h1, _, h2⟩ := r
    cases i with
    | zero => simp at h; subst h; exact ⟨q, v, rfl, h1⟩
    | succ i => simpa using repk_get h2 (by simpa using h)
/-- a tuple that is there is known for good -/
theorem Sim.adoptT {W : Wd} {S : Sto} {H : Hp} (s : Sim G W S H) {q : Addr} {xs : List V} {ds : List D} (hq : H q = some (.tup xs)) (r : ∀ W, RepVs G W ds xs) : ∃ W', Stp W H W' H ∧ Sim G W' S H ∧ RepV G W' (.tup ds) (.ref q) := by
  have hm : q ∉ W.mu := fun z => by
    obtain ⟨n, h1, h2⟩ := List.mem_iff_getElem.mp z
    have h3 : n < S.length := by rw [← s.len]; exact h1
    obtain ⟨u, e, nt⟩ := (s.obj n q S[n] (by rw [List.getElem?_eq_getElem h1, h2]) (List.getElem?_eq_getElem h3)).nt
    rw [hq] at e; cases e
    exact nt _ rfl
  cases hF : W.F q with
  | some o =>
    have := s.sub _ _ hF
    rw [hq] at this; cases this
    exact ⟨W, .refl, s, by simp only [RepV]; exact ⟨q, xs, rfl, hF, r W⟩⟩
  | none =>
    have F : ∀ a u, W.F a = some u → (W.lay q (.tup xs)).F a = some u := fun a u h => by
      show upd W.F q _ a = some u
      rw [upd_ne (fun z => by subst z; rw [hF] at h; cases h)]; exact h
    refine ⟨W.lay q (.tup xs), ⟨F, ⟨[], (List.append_nil _).symm⟩, fun _ _ h _ => h, fun _ h n => absurd h n, fun _ h => h, fun a h => ?_⟩, s.adoptF hm hF hq, ?_⟩
    · by_cases z : a = q
      · subst z; exact .inr (.inr (.inr ⟨xs, hq⟩))
      · have h' : upd W.F q (.tup xs) a ≠ none := h
        rw [upd_ne z] at h'
        exact .inl h'
    · simp only [RepV]
      exact ⟨q, xs, rfl, by show upd W.F q _ q = _; rw [upd_same], r _⟩
theorem rd_keys {f : Env → Sto → Res D} {σ : L2.St} {H : Hp} {R : L2.It → Hp → Prop} (h : rdI G Wx (fun e S => (f e S).bind dicL) σ H R) : iKeys (rdE G Wx f) σ H R := by
  obtain ⟨W, S, e, si, sl, po⟩ := h
  refine ⟨W, S, e, si, sl, (Post.bind (R := fun W' d v => RepV G W' d v) po).mono fun x H1 ⟨W1, S1, d, t1, s1, r1, ed, po1⟩ => ?_⟩
  unfold dicL at po1
  split at po1
  · rename_i n
    split at po1
    · rename_i t kvs hS
      simp only [RepV] at r1
      obtain ⟨a, rfl, hn⟩ := r1
      have ro := s1.obj n a _ hn hS
      cases t with
      | false =>
        obtain ⟨vs, ⟨od, hF, hH⟩, rk⟩ := ro
        refine ⟨a, od, rfl, .inl ⟨vs, hH, po1.ok s1 ⟨fun W' S' H' ex si' ck i z hz => ?_, fun W' S' H' ex si' ck i hi => ?_⟩⟩⟩
        · obtain ⟨q, v, g1, g2⟩ := repk_get rk hz
          refine ⟨⟨si'.sub _ _ (ex.F _ _ hF), (List.getElem?_eq_some_iff.mp g1).1⟩, fun x H'' y => ?_⟩
          obtain ⟨rfl, k', v', e1, rfl⟩ := y
          rw [g1] at e1; cases e1
          exact ⟨W', .refl, si', keyR_rep g2⟩
        · exact ⟨si'.sub _ _ (ex.F _ _ hF), by rw [← rk.len]; simpa using hi⟩
      | true =>
        obtain ⟨vs, ⟨od, hF, hH⟩, rk⟩ := ro
        refine ⟨a, od, rfl, .inr ⟨vs, hH, po1.ok s1 ⟨fun W' S' H' ex si' ck i z hz => ?_, fun W' S' H' ex si' ck i hi => ?_⟩⟩⟩
        · obtain ⟨q, v, g1, g2⟩ := repk_get rk hz
          refine ⟨⟨si'.sub _ _ (ex.F _ _ hF), (List.getElem?_eq_some_iff.mp g1).1⟩, fun x H'' y => ?_⟩
          obtain ⟨rfl, k', v', p, e1, rfl, hp⟩ := y
          rw [g1] at e1; cases e1
          obtain ⟨ds, rfl, g3⟩ := g2
          exact si'.adoptT hp fun W => keyRs_rep g3
        · exact ⟨si'.sub _ _ (ex.F _ _ hF), by rw [← rk.len]; simpa using hi⟩
    · exact False.elim po1
  · exact False.elim po1
theorem pure_ev {a : Ex} (h : pureX a = true) (e : Env) (S : Sto) : (∃ x, ev P call a e S = .ok x S ∧ ∀ (n : Nat) (t : Bool) (l l' : Bool) (kvs : List (D × D)), S[n]? = some (.dct t l kvs) → ev P call a e (S.set n (.dct t l' kvs)) = .ok x (S.set n (.dct t l' kvs))) ∨ ev P call a e S = .stuck := by
  unfold pureX at h
  split at h
  · rename_i i
    simp only [ev]
    cases he : e[i]? with
    | none => exact .inr rfl
    | some o =>
      cases o with
      | none => exact .inr rfl
      | some d => exact .inl ⟨d, rfl, fun _ _ _ _ _ _ => rfl⟩
  · rename_i i f
    simp only [ev]
    cases he : e[i]? with
    | none => exact .inr rfl
    | some o =>
      cases o with
      | none => exact .inr rfl
      | some d =>
        simp only [Res.bind]
        cases hg : getA S d f with
        | none => exact .inr rfl
        | some x =>
          refine .inl ⟨x, rfl, fun n t l l' kvs hS => ?_⟩
          have : getA (S.set n (.dct t l' kvs)) d f = some x := by
            cases d with
            | ref m =>
              simp only [getA] at hg ⊢
              by_cases z : n = m
              · subst z; rw [hS] at hg; simp at hg
              · rw [List.getElem?_set_ne z]; exact hg
            | ins c ks ds => exact hg
            | _ => simp [getA] at hg
          rw [this]; rfl
  · cases h
theorem mapR_ck {g : D → Sto → Res (Option D)} {ck : Sto → Bool} : ∀ {xs : List D} {S S' : Sto} {ys : List D}, ck S = true → mapR g ck xs S = .ok ys S' → ck S' = true
  | [], S, S', ys, h, e => by simp only [mapR] at e; cases e; exact h
  | x :: xs, S, S', ys, h, e => by
    simp only [mapR] at e
    cases hg : g x S with
    | stuck => rw [hg] at e; cases e
    | exc _ _ _ => rw [hg] at e; cases e
    | ok o S1 =>
      rw [hg] at e
      simp only [Res.bind] at e
      split at e
      · rename_i hc
        cases hr : mapR g ck xs S1 with
        | stuck => rw [hr] at e; cases e
        | exc _ _ _ => rw [hr] at e; cases e
        | ok zs S2 => rw [hr] at e; cases e; exact mapR_ck hc hr
      · cases e
/-- the comprehension over a dict, in its two stores -/
theorem dic_post {a : Ex} {m : Bool} {g : D → Sto → Res (Option D)} {W : Wd} {S : Sto} {H : Hp} {e : Env} {σ : L2.St} {Q : VK} (ha : pureX a = true) (si : Sim G W S H) (sl : Slots G W e σ)
    (po : Post G W H Wx (fun W' d v => RepV G W' d v) ((walk P call (.dic a) e S).bind fun w S1 => ((mapR g w.ck w.xs (lockO true S1 w.lk)).nox).bind fun ys S2 => newL m ys (lockO false S2 w.lk)) Q) :
    ∃ d u, H d = some u ∧ Mut (some u) ∧ ∀ od, ∃ Wl Sl, Sim G Wl Sl (upd H d (.frz od u)) ∧ Slots G Wl e σ ∧
      Post G Wl (upd H d (.frz od u)) Wx (fun W' d v => RepV G W' d v) (((ev P call a e Sl).bind dicL).bind fun w S1 => ((mapR g w.ck w.xs (lockO true S1 w.lk)).nox).bind fun ys S2 => newL m ys (lockO false S2 w.lk)) (fun v H' => H' d = some (.frz od u) ∧ Q v (upd H' d u)) := by
  rcases pure_ev (P := P) (call := call) ha e S with ⟨x, hx, hl⟩ | hx
  · simp only [walk] at po
    rw [hx] at po
    replace po : Post G W H Wx (fun W' d v => RepV G W' d v) ((dicW x S).bind fun w S1 => ((mapR g w.ck w.xs (lockO true S1 w.lk)).nox).bind fun ys S2 => newL m ys (lockO false S2 w.lk)) Q := po
    unfold dicW at po
    split at po
    · rename_i n
      split at po
      · rename_i t kvs hS
        have hlt : n < S.length := (List.getElem?_eq_some_iff.mp hS).1
        have hmu : n < W.mu.length := by rw [si.len]; exact hlt
        have hn : W.mu[n]? = some W.mu[n] := List.getElem?_eq_getElem hmu
        generalize W.mu[n] = d at hn
        obtain ⟨u, hu, hF, hH, lk⟩ := si.lock hn hS
        refine ⟨d, u, hH, ?_, fun od => ?_⟩
        · rcases hu with ⟨_, rfl⟩ | ⟨_, rfl⟩ <;> trivial
        obtain ⟨sl1, ex⟩ := lk od
        have hS1 : (S.set n (.dct t true kvs))[n]? = some (.dct t true kvs) := List.getElem?_set_self hlt
        refine ⟨_, S.set n (.dct t true kvs), sl1, ⟨sl.len, fun i d h => let ⟨v, a, b⟩ := sl.at_ i d h; ⟨v, a, b.stp ex.F ex.mu⟩⟩, ?_⟩
        have e1 := hl n t false true kvs hS
        rw [e1]
        have e2 : dicL (.ref n) (S.set n (.dct t true kvs)) = .ok ⟨fun S' => decide (S'[n]? = some (.dct t true kvs)), kvs.map (·.1), none⟩ (S.set n (.dct t true kvs)) := by
          simp only [dicL, hS1]
        show Post G _ _ Wx _ ((dicL (.ref n) (S.set n (.dct t true kvs))).bind _) _
        rw [e2]
        have e3 : lockO true S (some n) = S.set n (.dct t true kvs) := by simp only [lockO, lockD, hS]
        simp only [Res.bind, e3] at po
        show Post G _ _ Wx _ (((mapR g (fun S' => decide (S'[n]? = some (.dct t true kvs))) (kvs.map (·.1)) (S.set n (.dct t true kvs))).nox).bind fun ys S2 => newL m ys S2) _
        cases hr : mapR g (fun S' => decide (S'[n]? = some (.dct t true kvs))) (kvs.map (·.1)) (S.set n (.dct t true kvs)) with
        | stuck => rw [hr] at po; exact False.elim po
        | exc _ _ _ => rw [hr] at po; exact False.elim po
        | ok ys S2 =>
          rw [hr] at po
          have h2 : S2[n]? = some (.dct t true kvs) := of_decide_eq_true (mapR_ck (decide_eq_true hS1) hr)
          have hlt2 : n < S2.length := (List.getElem?_eq_some_iff.mp h2).1
          have e4 : lockO false S2 (some n) = S2.set n (.dct t false kvs) := by simp only [lockO, lockD, h2]
          simp only [Res.nox, Res.bind, e4] at po ⊢
          have fin : ∀ {W' H' v dd S3}, Stp (W.lay d (.frz od u)) (upd H d (.frz od u)) W' H' → Sim G W' S3 H' → RepV G W' dd v → S3[n]? = some (.dct t true kvs) → (∀ W'' H'' v, Stp W H W'' H'' → Sim G W'' (S3.set n (.dct t false kvs)) H'' → RepV G W'' dd v → Q v H'') → H' d = some (.frz od u) ∧ Q v (upd H' d u) := fun {W' H' v dd S3} st s3 r3 g3 q => by
            have hFd : W'.F d = some (.frz od u) := st.F d _ (by show upd W.F d _ d = _; rw [upd_same])
            have hn' : W'.mu[n]? = some d := st.get hn
            exact ⟨s3.sub _ _ hFd, q _ _ v (st.unlock hn hF) (s3.unlock hn' g3 hFd hu) (rep_un hFd hu _ _ r3)⟩
          unfold newL at po ⊢
          split
          · rename_i hL
            rw [if_pos hL] at po
            cases m with
            | false =>
              rw [if_neg Bool.false_ne_true] at po ⊢
              exact fun W' H' v st s3 r3 => fin st s3 r3 h2 po
            | true =>
              rw [if_pos rfl] at po ⊢
              intro W' H' v st s3 r3
              refine fin st s3 r3 (by rw [List.getElem?_append_left hlt2]; exact h2) ?_
              rw [List.set_append_left _ _ hlt2]
              have : S2.length = (S2.set n (.dct t false kvs)).length := by simp
              rw [this]
              exact po
          · rename_i hL
            rw [if_neg hL] at po; exact False.elim po
      · exact False.elim po
    · exact False.elim po
  · simp only [walk] at po
    rw [hx] at po; exact False.elim po
theorem dicL_ck {f : Env → Sto → Res D} (e : Env) (S : Sto) (w : Wk) (S1 : Sto) (h : (f e S).bind dicL = .ok w S1) : w.ck S1 = true ∧ w.lk = none := by
  cases hf : f e S with
  | stuck => rw [hf] at h; cases h
  | exc _ _ _ => rw [hf] at h; cases h
  | ok x S2 =>
    rw [hf] at h
    have h : dicL x S2 = .ok w S1 := h
    unfold dicL at h
    split at h
    · split at h
      · rename_i hS
        cases h
        exact ⟨decide_eq_true hS, rfl⟩
      · cases h
    · cases h
end
section
variable {G : Gd} {kc : Nat} {Wx : WX} {N : List Str} {sc : Scope} {fl : Str → Bool} {X : Cx} {P : Pg} {call : Nat → List D → Sto → Res D}
theorem rd_dic {a : Ex} {m : Bool} {t : Tg} {fc : Env → Sto → Res Bool} {fx : Env → Sto → Res D} {σ : L2.St} {H : Hp} {Q : VK} {vs : List Nat} (hvs : vs = t.own) (ha : pureX a = true)
    (h : rdE G Wx (fun e S => (walk P call (.dic a) e S).bind fun w S1 => ((mapR (lcStep t t.own e fc fx) w.ck w.xs (lockO true S1 w.lk)).nox).bind fun ys S2 => newL m ys (lockO false S2 w.lk)) σ H Q) :
    tLockE (tLc (rdI G Wx fun e S => (ev P call a e S).bind dicL) (rdG G t) (rdT G W0 fc) (rdE G W0 fx) vs) σ H Q := by
  obtain ⟨W, S, e, si, sl, po⟩ := h
  obtain ⟨d, u, hH, mu, k⟩ := dic_post ha si sl po
  refine ⟨d, u, hH, mu, fun od => ?_⟩
  obtain ⟨Wl, Sl, si', sl', po'⟩ := k od
  exact lc_rd (m := m) hvs dicL_ck ⟨Wl, Sl, e, si', sl', po'⟩
/-- [x for t in d if c], d a dict -/
theorem both_dicc (c : CxE G (kc + 1) Wx N sc fl X) {a : Ex} {m : Bool} {t : Tg} {fc : Env → Sto → Res Bool} {fx : Env → Sto → Res D} {elt tg iter : PySem.Expr} {ifs : List PySem.Expr} {scope : Scope} {pos : Pos}
    (ha : pureX a = true) (he : PE X iter (rdE G Wx (ev P call a))) (ok : blkC N sc scope (ownOf N t) = true)
    (hg : ∀ X', CxE G (kc + 1) W0 N (relS scope sc) (flB scope) X' → PG X' tg (rdG G t) ∧ PTs X' ifs (rdT G W0 fc) ∧ PE X' elt (rdE G W0 fx)) (hs : noSet iter = true) :
    Both G Wx X (.ListComp elt [⟨tg, iter, ifs, 0⟩] scope pos) (fun e S => (walk P call (.dic a) e S).bind fun w S1 => ((mapR (lcStep t t.own e fc fx) w.ck w.xs (lockO true S1 w.lk)).nox).bind fun ys S2 => newL m ys (lockO false S2 w.lk)) := by
  refine both_of c.c ((pe_lock (pe_lc (own := ownOf N t) c.c.calm (by rw [c.c.cN]; exact c.c.cnd) ((pi_keys he).imp fun σ H R q => rd_keys q) (by rw [c.c.cN, c.c.csc]; exact blkOk_by ok) (fun s H C cl fp => (hg _ (c.blk s H C cl fp scope)).1) (fun s H C cl fp => (hg _ (c.blk s H C cl fp scope)).2.1) (fun s H C cl fp => (hg _ (c.blk s H C cl fp scope)).2.2) (no_fold hs _))).imp fun σ H Q q => ?_) rfl
  exact rd_dic (own_snd t) ha q
end
end Mi
end
section
set_option Elab.async false
set_option linter.all false
set_option maxRecDepth 100000
set_option maxHeartbeats 4000000
/-! dict comprehensions, the keys of either kind -/
namespace Mi
open PySem L2 PyProof.Rows RZ
abbrev BlkFor (α : Cx → Prop) (X : Cx) (sc : Scope) : Prop := ∀ (s : Shared) (H : Hp) (C : Addr) (cl : List (Str × Addr)) (fp : List Addr), α (X.blk s H sc (compEnvC sc cl C X.env) fp)
/-- {y: z for .. in .. if ..}: u0 an empty dict of this kind -/
def tDq (u0 : HO) (wi : TI) (g : TG) (tt : TT) (tk tv : TE) (vs : List Nat) : TE := fun σ H Q => wi σ H fun J Ha => ∀ p, Ha p = none →
  ∃ I : Nat → Nat → Hp → Prop, (∃ m, I 0 m (upd Ha p u0)) ∧ ∀ i m H, I i m H → (J.stop i H ∧ Q (.ref p) H) ∨ (J.go i H ∧ ∃ Z : Hp → Prop, (∀ H', Z H' → ∃ m', m' < m ∧ I (i + 1) m' H') ∧
    ∀ x H', J.yld i H x H' → g x (L2.wipe σ vs) H' fun σ2 H2 => L2.wipe σ2 vs = L2.wipe σ vs ∧ tt σ2 H2 fun b H3 => if b = true then tk σ2 H3 fun y H4 => tv σ2 H4 fun z H5 => ∃ H6, DPut H5 p y z H6 ∧ Z H6 else Z H3)
/-- an entry is written, as a comprehension does it -/
theorem put_entry {X : Cx} {ps : List (Addr × Obj)} {σ : L2.St} {H H' : Hp} {s : Shared} {E : Value → Shared → Prop} {p : Addr} {y z : V} {u r : Value} {Q : Unit → Shared → Prop} (hu : X.A.units + 1 < cLine) (I : Inv X ps σ H s) (g : DPut H p y z H') (ry : RelV y u) (rz : RelV z r)
    (q : ∀ s', Inv X ps σ H' s' → Q () s') : wpAny (model X.prog X.w) X.A (dictSet p u r) Q E s := by
  rcases g with ⟨kvs, k, e, rfl, l, rfl⟩ | ⟨kvs, k, b, e, rfl, eb, l, rfl⟩
  · exact d_dictSet I e l ry rz q
  · cases ry
    obtain ⟨zz, hd, xs, rel, dd⟩ := dt_of I.hok e
    have lx : xs.length ≤ sizeLine := by rw [← Paired.length rel]; exact zz
    have lk := length_putK kvs k z
    refine wpAny_dictSet_heap (hsz := lx) (show _ from Nat.lt_of_succ_lt hu) (key_of I.hok eb) dd fun hp dd' same => q _ ?_
    obtain ⟨o, es, ep, ho, h2, h3, h4, _, h5⟩ := dd'
    refine d_write I (by rw [e]; trivial) same ⟨o, ho⟩ ⟨by omega, hd, _, (rel.put k eb rz).keeps fun c ys ec => ?_, o, es, ep, ho, h2, h3, h4, h5⟩
    have : c ≠ p := fun e' => by rw [e', e] at ec; cases ec
    rw [upd_ne this]; exact ec
/-- the dict is new -/
def NewDk (u0 : HO) : Prop := u0 = .dK [] ∨ u0 = .dT []
theorem new_dk {u0 : HO} (h : NewDk u0) {P : Program} {w : World} {H : Hp} (hp : Heap) (hb : sysModules < hp.objs.size) : ObjOk P w H (hp.push { cls := .type "dict", data := .dict #[] }) hp.objs.size u0 := by
  rcases h with rfl | rfl
  · exact dk_empty hp hb
  · exact dt_empty hp hb
/-- what a dict comprehension runs through; ends: what is wanted where it is done -/
theorem dq_core {X : Cx} {use : Option (Value → Sem Unit)} {Qf : Value → Shared → Prop} {ps : List (Addr × Obj)} {s : Shared} {σ : L2.St} {H : Hp} {Q : VK} {u0 : HO} (h0 : NewDk u0) (hu : X.A.units + 1 < cLine) {ke ve tge ite : PySem.Expr} {tests : List PySem.Expr} {scp : Scope} {own : List (Str × Nat)} {pos pos' : Pos} {wi : TI} {g : TG} {tt : TT} {tk tv : TE} (calm : X.calm = true) (nd : X.N.Nodup) (wk : PI X tge ite wi) (blk : BlkOk X.N X.env.scope scp own)
    (bg : BlkFor (fun Y => PG Y tge g) X scp) (bt : BlkFor (fun Y => PTs Y tests tt) X scp) (bk : BlkFor (fun Y => PE Y ke tk) X scp) (bv : BlkFor (fun Y => PE Y ve tv) X scp) (plain : ∀ x, foldedSetIterable ite X.env x = pure x) (I : Inv X ps σ H s) (h : tDq u0 wi g tt tk tv (own.map (·.2)) σ H Q)
    (ends : ∀ p C s' m H', Inv X ps σ H' s' → Q (.ref p) H' → s'.heap.Ns C m → FpOk X ps H' C → compPost (model X.prog X.w) X.A X.xe use Qf (.ref p) C (.ok .next) s') :
    wpAny (model X.prog X.w) X.A (comprehension (.DictComp ke ve [⟨tge, ite, tests, 0⟩] scp pos) scp X.env pos' newDict false (eval ite X.env) use) Qf X.xe s := by
  have cellsThere : ∀ y ∈ scp.names, y.2 = .free → ∃ c, X.env.cells.lookup y.1 = some c := fun y hy e => (blk.free y hy e).elim (fun z => I.ok.has _ (.inl z)) fun z => I.ok.has _ (.inr z)
  refine wpAny_comprehension_free (use := use) rfl plain (closure_ok cellsThere) blk.kind (fun y hy e => by rw [blk.uniq y hy, e]) (thn (wk.run ps s σ H _ I h) fun xv sa ha => thn ha fun itv sb hb => ?_)
  obtain ⟨it, fps, turned, J, Hb, rfl, Ib, T, stb, okb, q⟩ := hb
  refine wpAny_newObj_type (newEnv_comp ?_)
  -- where the dict comes to stand
  generalize hp : sb.heap.objs.size = p
  have pn : Hb p = none := Ib.hok.fresh (Nat.le_of_eq hp)
  obtain ⟨V, ⟨mm, v0⟩, turns⟩ := q p pn
  generalize hsc : ({ sb with heap := sb.heap.push { cls := .type "dict", data := .dict #[] } } : Shared) = sd
  have hd : sd.heap = sb.heap.push { cls := .type "dict", data := .dict #[] } := by rw [← hsc]
  have Id : Inv X ps σ (upd Hb p u0) sd := by
    rw [← hsc]
    exact Ib.laid (t' := sb.toks) (fun b o e => Heap.get?_push_of_some _ e) (Nat.le_of_eq hp) (by rw [← hp]; exact new_dk h0 sb.heap Ib.big)
  have okd : ∀ b ∈ fps, FpOk X ps (upd Hb p u0) b ∧ b < sd.heap.objs.size := fun b hb => by
    obtain ⟨o, e, _⟩ := T.obj _ _ stb b hb
    have lt : b < sb.heap.objs.size := Heap.lt_size e
    have ne : b ≠ p := by rw [← hp]; exact Nat.ne_of_lt lt
    refine ⟨⟨by rw [upd_ne ne]; exact (okb b hb).1, (okb b hb).2⟩, ?_⟩
    rw [hd, Heap.size_push]; exact Nat.lt_succ_of_lt lt
  have std : turned 0 sd.heap := T.keep _ _ _ stb fun b _ o e => by rw [hd]; exact Heap.get?_push_of_some _ e
  have Ie := block_start Id blk nd okd
  show codeAny _ _ (.compStart (.DictComp ke ve [⟨tge, ite, tests, 0⟩] scp pos) 0 (.ref it) (.ref p) (compEnvC scp (cellsFrom (sd.heap.objs.size + 1) scp.names (cloFrom X.env.cells scp.names [])) sd.heap.objs.size X.env)) (compPost (model X.prog X.w) X.A X.xe use Qf (.ref p) sd.heap.objs.size)
    { sd with heap := pushCells (sd.heap.push { cls := .type "dict", data := .dict #[] }) scp.names }
  generalize hcl : cellsFrom (sd.heap.objs.size + 1) scp.names (cloFrom X.env.cells scp.names []) = cells at Ie ⊢
  have rg := bg sd (upd Hb p u0) sd.heap.objs.size cells fps
  have rt := bt sd (upd Hb p u0) sd.heap.objs.size cells fps
  have rk := bk sd (upd Hb p u0) sd.heap.objs.size cells fps
  have rv := bv sd (upd Hb p u0) sd.heap.objs.size cells fps
  have none_fps : ∀ b ∈ fps, (upd Hb p u0) b = none := fun b hb => (okd b hb).1.1
  have atL : (compEnvC scp cells sd.heap.objs.size X.env).locals = sd.heap.objs.size := rfl
  generalize henv : compEnvC scp cells sd.heap.objs.size X.env = ev at Ie rg rt rk rv atL ⊢
  generalize hHd : upd Hb p u0 = Hd at Id Ie rg rt rk rv v0 none_fps okd
  generalize hse : ({ sd with heap := pushCells (sd.heap.push { cls := .type "dict", data := .dict #[] }) scp.names } : Shared) = se at Ie ⊢
  have ste : turned 0 se.heap := T.keep _ _ _ std fun b _ o e => by rw [← hse]; exact pushCells_keeps _ _ _ _ (Heap.get?_push_of_some _ e)
  have stands : ∀ {τ : L2.St} {H' : Hp} {s' : Shared}, Inv (X.blk sd Hd scp ev fps) [] τ H' s' → (∀ b ∈ fps, H' b = none) → ∀ b ∈ fps, FpOk (X.blk sd Hd scp ev fps) [] H' b := fun {τ H' s'} J' hn b hb => by
    refine ⟨hn b hb, (J'.ok.exf b hb).1, J'.ok.exfs b hb, .inl hb, fun x c e => (J'.ok.exf b hb).2 x c e, fun z hz => ?_⟩
    have hz : z ∈ ([] : List (Addr × Obj)) ++ [] := hz
    simp at hz
  refine codeAny_compStart_dict ?_ (T.self X.A 0 _ _ _ ste ?_)
  all_goals
    refine compLoop_anyD (fun n s' => ∃ i H', Inv (X.blk sd Hd scp ev fps) [] (L2.wipe σ (own.map (·.2))) H' s' ∧ turned i s'.heap ∧ (∀ b ∈ fps, H' b = none) ∧ V i n H') ?_ mm ⟨0, Hd, Ie, ste, none_fps, v0⟩
    rintro n sf ⟨i, Hf, If, stf, nf, vf⟩
    rcases turns i n Hf vf with ⟨stop, fin⟩ | ⟨go, Z, less, step⟩
    · refine thnF (T.done (X.blk sd Hd scp ev fps) rfl rfl rfl calm i [] sf _ Hf (fun _ _ => False) If (stands If nf) stf stop) fun r sg ⟨er, Ig⟩ => ?_
      subst er
      have back : Inv X ps σ Hf sg := Id.call' (ch := fps) Ig.os Ig.base Ig.hok Ig.bare fun b hb => ⟨(okd b hb).1.2.2.2.1, (okd b hb).1.2.1, (okd b hb).1.2.2.2.2.1, (okd b hb).1.2.2.2.2.2⟩
      have freeL : Hf sd.heap.objs.size = none := by
        have : Hf ev.locals = none := Ig.free
        rwa [atL] at this
      obtain ⟨m, there, _⟩ := Ig.loc
      have there : sg.heap.Ns ev.locals m := there
      rw [atL] at there
      exact ends p _ sg m Hf back fin there (Id.fpOk (Nat.le_refl _) freeL)
    · refine thnF (T.item (X.blk sd Hd scp ev fps) rfl rfl rfl calm i [] sf _ Hf (fun _ _ => False) If (stands If nf) stf go) fun r sg ⟨u, er, hg⟩ => ?_
      subst er
      refine thnF hg fun _ sh ⟨x, Hh, Ih, rx, yh, sth, nh⟩ => ?_
      have Ip := Ih.pinned (stands Ih nh) (T.obj _ _ sth)
      refine thnF (rg.run _ sh _ Hh x u _ Ip rx (step x Hh yh)) fun _ si ⟨σi, Hi, Ii, wi', qi⟩ => thnF (rt.run _ si σi Hi _ Ii qi) fun b sj ⟨Hj, Ij, qj⟩ => ?_
      have next : ∀ {s' : Shared} {H' : Hp}, Inv (X.blk sd Hd scp ev fps) ([] ++ pinsAt fps sh.heap) σi H' s' → Z H' → ∃ m, m < n ∧ ∃ i H', Inv (X.blk sd Hd scp ev fps) [] (L2.wipe σ (own.map (·.2))) H' s' ∧ turned i s'.heap ∧ (∀ b ∈ fps, H' b = none) ∧ V i m H' := fun {s' H'} J' z => by
        obtain ⟨m', lt, v'⟩ := less H' z
        have pinned : ∀ b ∈ fps, ∀ o, sh.heap.get? b = some o → s'.heap.get? b = some o ∧ H' b = none := fun b hb o e => by
          have := J'.pin (b, o) (List.mem_append_right _ (List.mem_append_right _ (mem_pinsAt hb e)))
          exact ⟨this.1, this.2.1⟩
        refine ⟨m', lt, i + 1, H', (J'.unpinned (pins := [])).weak (by rw [← wi', wipe_length]) (fun j v e => by rw [← wi'] at e; exact (wipe_some e).1), T.keep _ _ _ sth fun b hb o e => (pinned b hb o e).1, fun b hb => ?_, v'⟩
        obtain ⟨o, e, _⟩ := T.obj _ _ sth b hb
        exact (pinned b hb o e).2
      cases b with
      | false =>
        rw [if_neg Bool.false_ne_true] at qj ⊢
        exact next Ij qj
      | true =>
        rw [if_pos rfl] at qj ⊢
        refine thnF (rk.run _ sj σi Hj _ Ij qj) fun z1 sk ⟨y, Hk, Ik, ry, qk⟩ => thnF (rv.run _ sk σi Hk _ Ik qk) fun z2 sl ⟨z, Hl, Il, rz, H6, dp, zn⟩ => ?_
        exact put_entry (X := X.blk sd Hd scp ev fps) hu Il dp ry rz fun s' J' => next J' zn
/-- as a value -/
theorem pe_dq {X : Cx} {u0 : HO} (h0 : NewDk u0) (hu : X.A.units + 1 < cLine) {ke ve tge ite : PySem.Expr} {tests : List PySem.Expr} {scp : Scope} {own : List (Str × Nat)} {pos : Pos} {wi : TI} {g : TG} {tt : TT} {tk tv : TE} (calm : X.calm = true) (nd : X.N.Nodup) (wk : PI X tge ite wi) (blk : BlkOk X.N X.env.scope scp own)
    (bg : BlkFor (fun Y => PG Y tge g) X scp) (bt : BlkFor (fun Y => PTs Y tests tt) X scp) (bk : BlkFor (fun Y => PE Y ke tk) X scp) (bv : BlkFor (fun Y => PE Y ve tv) X scp) (plain : ∀ x, foldedSetIterable ite X.env x = pure x) :
    PE X (.DictComp ke ve [⟨tge, ite, tests, 0⟩] scp pos) (tDq u0 wi g tt tk tv (own.map (·.2))) := by
  refine ⟨fun ps s σ H Q I h => ?_⟩
  rw [arm_eval_DictComp]
  refine dq_core h0 hu calm nd wk blk bg bt bk bv plain I h fun p C s' m H' back fin there ok => ⟨m, there, fun hx same => ?_⟩
  obtain ⟨g0, g1, g2, g3, g4, g5⟩ := ok
  exact ⟨.ref p, H', back.turned (t' := s'.toks) (fun b o hb e => (same.2 b hb).trans e) g0 g1 g3 g4 g5, rfl, fin⟩
/-- kept by a local, on one line -/
theorem ps_setDq {X : Cx} {u0 : HO} (h0 : NewDk u0) (hu : X.A.units + 1 < cLine) {ke ve tge ite : PySem.Expr} {tests : List PySem.Expr} {scp : Scope} {own : List (Str × Nat)} {pos spos py : Pos} {i : Nat} {y : Str} {wi : TI} {g : TG} {tt : TT} {tk tv : TE} (calm : X.calm = true) (nd : X.N.Nodup) (wk : PI X tge ite wi) (blk : BlkOk X.N X.env.scope scp own)
    (bg : BlkFor (fun Y => PG Y tge g) X scp) (bt : BlkFor (fun Y => PTs Y tests tt) X scp) (bk : BlkFor (fun Y => PE Y ke tk) X scp) (bv : BlkFor (fun Y => PE Y ve tv) X scp) (plain : ∀ x, foldedSetIterable ite X.env x = pure x) (hy : X.N[i]? = some y) (loc : X.env.scope.names.lookup y = some .local)
    (sw : swapsWith (.DictComp ke ve [⟨tge, ite, tests, 0⟩] scp pos) (some (.Name y py)) spos.line X.env = pure true) :
    PS X (.Assign [.Name y py] (.DictComp ke ve [⟨tge, ite, tests, 0⟩] scp pos) spos) (tAsg (tDq u0 wi g tt tk tv (own.map (·.2))) (gName i)) := by
  refine ⟨fun ps s σ H K I h => ?_⟩
  rw [exec_Assign_Name_used _ _ _ _ sw]
  refine wpAny_bind (wpAny_standAt (wpAny_bind ?_))
  have h' : tDq u0 wi g tt tk tv (own.map (·.2)) σ H (fun x H1 => gName i x σ H1 K.nx) := h
  refine wpAny_bind (thn (dq_core (use := some (assign (.Name y py) X.env)) (Qf := fun _ s' => SP X ps K .next s') h0 hu calm nd wk blk bg bt bk bv plain I h' fun p C s' m H' back fin there ok => ?_) fun _ s' q => wpAny_pure (wpAny_pure q))
  obtain ⟨g0, g1, g2, g3, g4, g5⟩ := ok
  refine wpAny_assign_Name (store_ok2 (v := V.ref p) back nd hy (.inl loc) rfl (fun sn In ⟨a, sb, wh⟩ => ?_) (.inr loc))
  have ne : C ≠ a := wh.elim (fun z => by rw [z]; exact g1) fun z e => g4 y a z e.symm
  exact ⟨m, there.sameBut sb ne, fun hx same => ⟨_, H', In.turned (t' := sn.toks) (fun b o hb e => (same.2 b hb).trans e) g0 g1 g3 g4 g5, fin⟩⟩
theorem sw_dq {ke ve : PySem.Expr} {gs : List Comprehension} {scp : Scope} {cpos py : Pos} {y : Str} {l : Nat} {env : PySem.Env} (hk : env.scope.kind = .function) : swapsWith (.DictComp ke ve gs scp cpos) (some (.Name y py)) l env = pure (env.kindOf y == some .local && py.line == cpos.line && !(scp.names.any fun (n, k) => n == y && (k == .local || k == .cell))) := by
  have hb : env.blockKind = .function := by unfold Env.blockKind; rw [hk]; rfl
  unfold swapsWith
  simp only [hb, Expr.pos]
  rfl
end Mi
end
section
set_option Elab.async false
set_option linter.all false
set_option maxRecDepth 100000
set_option maxHeartbeats 1000000
/-! dict comprehensions: what the evaluator does -/
namespace Mi
open PySem L2 PyProof.Rows RZ
def dk0 (k : Bool) : HO := if k then .dT [] else .dK []
theorem dk0_new (k : Bool) : NewDk (dk0 k) := by cases k <;> simp [dk0, NewDk]
/-- the dict at p -/
def RepDk (G : Gd) (W : Wd) (H : Hp) (p : Addr) : Bool → List (D × D) → Prop
  | false, kvs => ∃ vs, H p = some (.dK vs) ∧ RepKs G W KeyR kvs vs
  | true, kvs => ∃ vs, H p = some (.dT vs) ∧ RepKs G W TupR kvs vs
section
variable {G : Gd} {W W' : Wd} {S : Sto} {H H' : Hp} {Wx : WX} {p : Addr} {k : Bool} {kvs : List (D × D)}
theorem RepDk.nil (h : H p = some (dk0 k)) : RepDk G W H p k [] := by
  cases k
  · exact ⟨[], h, by simp [RepKs]⟩
  · exact ⟨[], h, by simp [RepKs]⟩
theorem RepDk.some (r : RepDk G W H p k kvs) : ∃ o, H p = some o ∧ (∀ vs, o ≠ .tup vs) ∧ dictHO o := by
  cases k
  · obtain ⟨vs, e, _⟩ := r; exact ⟨_, e, (fun _ h => by cases h), .inl ⟨vs, rfl⟩⟩
  · obtain ⟨vs, e, _⟩ := r; exact ⟨_, e, (fun _ h => by cases h), .inr ⟨vs, rfl⟩⟩
theorem RepDk.stp (r : RepDk G W H p k kvs) (st : Stp W H W' H') (hm : p ∉ W.mu) : RepDk G W' H' p k kvs := by
  cases k
  · obtain ⟨vs, e, t⟩ := r; exact ⟨vs, st.fr p _ e hm, t.stp st.F fun _ _ h => st.get h⟩
  · obtain ⟨vs, e, t⟩ := r; exact ⟨vs, st.fr p _ e hm, t.stp st.F fun _ _ h => st.get h⟩
theorem RepDk.put (s : Sim G W S H) (r : RepDk G W H p k kvs) {x y : D} {v u : V} (ko : keyOk k x = true) (rx : RepV G W x v) (ry : RepV G W y u) (lt : kvs.length < LINE) : ∃ o, DPut H p v u (upd H p o) ∧ RepDk G W (upd H p o) p k (dput kvs x y) := by
  cases k with
  | false =>
    obtain ⟨vs, e, t⟩ := r
    obtain ⟨q, rfl, kr⟩ := key_of_rep ko rx
    exact ⟨_, DPut.k e (by rw [← t.len, ← LINE_eq]; exact lt), putK vs q u, upd_same, dput_rel (fun a b => KeyR.inj a b) kr ry t⟩
  | true =>
    obtain ⟨vs, e, t⟩ := r
    obtain ⟨b, ks, rfl, hF, kr⟩ := tup_of_rep ko rx
    exact ⟨_, DPut.t e (s.sub _ _ hF) (by rw [← t.len, ← LINE_eq]; exact lt), putK vs ks u, upd_same, dput_rel (fun a b => TupR.inj a b) kr ry t⟩
/-- the dict that a comprehension has filled comes into the store -/
theorem post_dict {H1 H' : Hp} {W1 : Wd} {Q : VK} (hD : H1 p = none) (st : Stp W1 H1 W' H') (si : Sim G W' S H') (hm : p ∉ W'.mu) (hF : W'.F p = none) (r : RepDk G W' H' p k kvs)
    (po : Post G W1 H1 Wx (fun W' d v => RepV G W' d v) (newD k kvs S) Q) : Q (.ref p) H' := by
  obtain ⟨ext, e⟩ := st.mu
  have mm : ∀ (n : Nat) y, W'.mu[n]? = some y → (W'.put p).mu[n]? = some y := fun n y h => by
    show (W'.mu ++ [p])[n]? = some y
    rw [List.getElem?_append_left (List.getElem?_eq_some_iff.mp h).1]; exact h
  obtain ⟨o, ho, _⟩ := r.some
  refine po (W'.put p) H' (.ref p) ⟨st.F, ⟨ext ++ [p], ?_⟩, st.fr, fun a h hn => ?_, st.dm, st.nf⟩ (si.adopt hm (by rw [ho]; simp) ?_) ?_
  · show W'.mu ++ [p] = _
    rw [e, List.append_assoc]
  · rcases List.mem_append.mp h with h | h
    · exact st.nw a h hn
    · have e : a = p := by simpa using h
      rw [e]; exact hD
  · cases k with
    | false => obtain ⟨vs, e, t⟩ := r; exact ⟨vs, ⟨hF, e⟩, RepKs.stp (W := W') (W' := W'.put p) (fun _ _ h => h) mm _ _ t⟩
    | true => obtain ⟨vs, e, t⟩ := r; exact ⟨vs, ⟨hF, e⟩, RepKs.stp (W := W') (W' := W'.put p) (fun _ _ h => h) mm _ _ t⟩
  · simp only [RepV]
    exact ⟨p, rfl, by show (W'.mu ++ [p])[S.length]? = _; rw [← si.len]; simp⟩
/-- {x: y for t in it if c} -/
theorem dq_rd {t : Tg} {fw : Env → Sto → Res Wk} {fc : Env → Sto → Res Bool} {fx fy : Env → Sto → Res D} {vs : List Nat} {σ : L2.St} {H : Hp} {Q : VK} (hvs : vs = t.own) (hck : ∀ e S w S1, fw e S = .ok w S1 → w.ck S1 = true ∧ w.lk = none)
    (h : rdE G Wx (fun e S => (fw e S).bind fun w S1 => ((mapK (dcStep k t t.own e fc fx fy) w.ck w.xs [] (lockO true S1 w.lk)).nox).bind fun kvs S2 => newD k kvs (lockO false S2 w.lk)) σ H Q) :
    tDq (dk0 k) (rdI G Wx fw) (rdG G t) (rdT G W0 fc) (rdE G W0 fx) (rdE G W0 fy) vs σ H Q := by
  subst hvs
  obtain ⟨W, S, e, si, sl, po⟩ := h
  refine ⟨W, S, e, si, sl, (Post.bind (R := fun W' w J => WkOk G W' w J) po).mono fun J H1 ⟨W1, S1, w, t1, s1, wk, ew, po1⟩ => ?_⟩
  obtain ⟨ck1, lk⟩ := hck _ _ _ _ ew
  rw [lk] at po1
  have sl1 := sl.stp t1
  intro p hp
  let g := dcStep k t t.own e fc fx fy
  have run0 : ∃ ys S2, mapK g w.ck w.xs [] S1 = .ok ys S2 ∧ Post G W1 H1 Wx (fun W' d v => RepV G W' d v) (newD k ys S2) Q := by
    have po1 : Post G W1 H1 Wx (fun W' d v => RepV G W' d v) (((mapK g w.ck w.xs [] S1).nox).bind fun ys S2 => newD k ys S2) Q := po1
    cases hr : mapK g w.ck w.xs [] S1 with
    | ok ys S2 => rw [hr] at po1; exact ⟨ys, S2, rfl, po1⟩
    | exc _ _ _ => rw [hr] at po1; exact False.elim po1
    | stuck => rw [hr] at po1; exact False.elim po1
  have nmu : p ∉ W1.mu := s1.muH hp
  let Inv' : Nat → Hp → Prop := fun i H' => ∃ W' S' dacc, Stp W1 H1 W' H' ∧ Sim G W' S' H' ∧ p ∉ W'.mu ∧ W'.F p = none ∧ RepDk G W' H' p k dacc ∧ w.ck S' = true ∧
    ∃ ys S2, mapK g w.ck (w.xs.drop i) dacc S' = .ok ys S2 ∧ Post G W1 H1 Wx (fun W' d v => RepV G W' d v) (newD k ys S2) Q
  refine ⟨fun i n H' => n = w.xs.length - i ∧ i ≤ w.xs.length ∧ Inv' i H', ?_, ?_⟩
  · obtain ⟨ys, S2, r, q⟩ := run0
    exact ⟨w.xs.length, by simp, Nat.zero_le _, W1, S1, [], .other hp, s1.other hp, nmu, s1.Fn hp, .nil upd_same, ck1, ys, S2, by simpa using r, q⟩
  · rintro i n H' ⟨rfl, hi, W', S', dacc, st, si', hm, hF, ra, ck', ys, S2, run, pf⟩
    have ex : WExt W1 W' := st.ext
    by_cases hlt : i < w.xs.length
    · refine .inr ?_
      obtain ⟨g1, g2⟩ := wk.go W' S' H' ex si' ck' i _ (List.getElem?_eq_getElem hlt)
      rw [List.drop_eq_getElem_cons hlt] at run
      simp only [mapK] at run
      cases hg : g w.xs[i] S' with
      | stuck => rw [hg] at run; cases run
      | exc _ _ _ => rw [hg] at run; cases run
      | ok o S3 =>
        rw [hg] at run
        simp only [Res.bind] at run
        by_cases hc3 : w.ck S3 = true
        · rw [if_pos hc3] at run
          refine ⟨g1, Inv' (i + 1), fun H' z => ⟨w.xs.length - (i + 1), by omega, rfl, hlt, z⟩, fun x H'' y => ?_⟩
          obtain ⟨W2, st2, si2, rx⟩ := g2 x H'' y
          have hg' : dcStep k t t.own e fc fx fy w.xs[i] S' = .ok o S3 := hg
          unfold dcStep at hg'
          cases ht : asT t w.xs[i] (wipe e t.own) with
          | none => rw [ht] at hg'; cases hg'
          | some e1 =>
            rw [ht] at hg'
            dsimp only at hg'
            have st3 := st.trans st2
            refine ⟨W2, S', wipe e t.own, _, e1, si2, (sl1.stp st3).wipe t.own, rx, ht, fun σ' sl' hw => ⟨by rw [hw _ fun i hi => hi, wipe_wipe], ?_⟩⟩
            have keep : ∀ {Wa Wb : Wd} {Ha Hb : Hp}, Stp Wa Ha Wb Hb → p ∉ Wa.mu → Wa.F p = none → RepDk G Wa Ha p k dacc → p ∉ Wb.mu ∧ Wb.F p = none ∧ RepDk G Wb Hb p k dacc := fun {Wa Wb Ha Hb} s3 ha hf hin => by
              obtain ⟨u, hu, nt, _⟩ := hin.some
              refine ⟨fun z => ?_, ?_, hin.stp s3 ha⟩
              · have := s3.nw p z ha
                rw [hu] at this; cases this
              · cases r : Wb.F p with
                | none => rfl
                | some o =>
                  rcases s3.nf p (by rw [r]; simp) with q | q | q | ⟨vs, q⟩
                  · exact absurd hf q
                  · rw [hu] at q; cases q
                  · exact absurd q ha
                  · rw [hu] at q; cases q; exact absurd rfl (nt vs)
            obtain ⟨k1, k2, k3⟩ := keep st2 hm hF ra
            have pg : Post G W2 H'' W0 (fun _ (d : Bool) v => v = d) (fc e1 S') fun b H3 => ∃ W3 S3', Stp W2 H'' W3 H3 ∧ Sim G W3 S3' H3 ∧ (if b then (fx e1 S3').bind fun x S2 => (fy e1 S2).bind fun y S3 => if keyOk k x then (.ok (some (x, y)) S3 : Res (Option (D × D))) else .stuck else .ok none S3') = .ok o S3 := by
              cases hf : fc e1 S' with
              | stuck => rw [hf] at hg'; cases hg'
              | exc _ _ _ => rw [hf] at hg'; cases hg'
              | ok b Sb =>
                rw [hf] at hg'
                intro W3 H3 v s3 i3 e
                subst e
                exact ⟨W3, Sb, s3, i3, hg'⟩
            refine ⟨W2, S', e1, si2, sl', pg.mono fun b H3 ⟨W3, S3', s3, i3, hb⟩ => ?_⟩
            obtain ⟨m1, m2, m3⟩ := keep s3 k1 k2 k3
            cases b with
            | false =>
              simp only [Bool.false_eq_true, if_false, Res.ok.injEq] at hb ⊢
              obtain ⟨rfl, rfl⟩ := hb
              exact ⟨W3, S3', dacc, st3.trans s3, i3, m1, m2, m3, hc3, ys, S2, run, pf⟩
            | true =>
              simp only [if_true] at hb ⊢
              have px : Post G W3 H3 W0 (fun W' d v => RepV G W' d v) (fx e1 S3') fun v H4 => ∃ W4 S4 dx, Stp W3 H3 W4 H4 ∧ Sim G W4 S4 H4 ∧ RepV G W4 dx v ∧ ((fy e1 S4).bind fun y S3 => if keyOk k dx then (.ok (some (dx, y)) S3 : Res (Option (D × D))) else .stuck) = .ok o S3 := by
                cases hf : fx e1 S3' with
                | stuck => rw [hf] at hb; cases hb
                | exc _ _ _ => rw [hf] at hb; cases hb
                | ok y Sy =>
                  rw [hf] at hb
                  intro W4 H4 v s4 i4 r4
                  exact ⟨W4, Sy, y, s4, i4, r4, hb⟩
              refine ⟨W3, S3', e1, i3, sl'.stp s3, px.mono fun v H4 ⟨W4, S4, dx, s4, i4, r4, hb4⟩ => ?_⟩
              obtain ⟨n1, n2, n3⟩ := keep s4 m1 m2 m3
              have py : Post G W4 H4 W0 (fun W' d v => RepV G W' d v) (fy e1 S4) fun u H5 => ∃ W5 dy, Stp W4 H4 W5 H5 ∧ Sim G W5 S3 H5 ∧ RepV G W5 dy u ∧ keyOk k dx = true ∧ o = some (dx, dy) := by
                cases hf : fy e1 S4 with
                | stuck => rw [hf] at hb4; cases hb4
                | exc _ _ _ => rw [hf] at hb4; cases hb4
                | ok y Sy =>
                  rw [hf] at hb4
                  simp only [Res.bind] at hb4
                  split at hb4
                  · rename_i ko
                    cases hb4
                    intro W5 H5 v s5 i5 r5
                    exact ⟨W5, y, s5, i5, r5, ko, rfl⟩
                  · cases hb4
              refine ⟨W4, S4, e1, i4, (sl'.stp s3).stp s4, py.mono fun u H5 ⟨W5, dy, s5, i5, r5, ko, eo⟩ => ?_⟩
              subst eo
              dsimp only at run
              obtain ⟨o1, o2, o3⟩ := keep s5 n1 n2 n3
              split at run
              · rename_i lt
                obtain ⟨ho, dp, rd⟩ := o3.put i5 ko (s5.rep r4) r5 lt
                obtain ⟨w0, hw0, _⟩ := o3.some
                refine ⟨_, dp, W5, S3, dput dacc dx dy, (((st3.trans s3).trans s4).trans s5).poke hp, i5.poke o1 o2 (by rw [hw0]; simp), o1, o2, rd, hc3, ys, S2, run, pf⟩
              · cases run
        · rw [if_neg hc3] at run; cases run
    · refine .inl ?_
      have e0 : i = w.xs.length := by omega
      subst e0
      refine ⟨wk.stop W' S' H' ex si' ck' _ (Nat.le_refl _), ?_⟩
      rw [List.drop_length] at run
      simp only [mapK, Res.ok.injEq] at run
      obtain ⟨rfl, rfl⟩ := run
      exact post_dict hp st si' hm hF ra pf
end
end Mi
end
section
set_option Elab.async false
set_option linter.all false
set_option maxRecDepth 100000
set_option maxHeartbeats 2000000
/-! a comprehension with two fors; new dicts; constants stored together -/
namespace Mi
open PySem L2 PyProof.Rows RZ
section
variable {G : Gd} {W W' : Wd} {S : Sto} {H H' : Hp} {Wx : WX}
/-- what stands at p, unknown to the world, stays -/
theorem stays {Wa Wb : Wd} {Ha Hb : Hp} {p : Addr} {acc : List V} (s3 : Stp Wa Ha Wb Hb) (ha : p ∉ Wa.mu) (hf : Wa.F p = none) (hin : Ha p = some (.lst acc)) : p ∉ Wb.mu ∧ Wb.F p = none ∧ Hb p = some (.lst acc) := by
  refine ⟨fun z => ?_, ?_, s3.fr p _ hin ha⟩
  · have := s3.nw p z ha
    rw [hin] at this; cases this
  · cases r : Wb.F p with
    | none => rfl
    | some o =>
      rcases s3.nf p (by rw [r]; simp) with q | q | q | ⟨_, q⟩
      · exact absurd hf q
      · rw [hin] at q; cases q
      · exact absurd q ha
      · rw [hin] at q; cases q
/-- the list so far -/
structure Acc (G : Gd) (W1 : Wd) (H1 : Hp) (p : Addr) (W' : Wd) (S' : Sto) (H' : Hp) (dacc : List D) (acc : List V) : Prop where
  st : Stp W1 H1 W' H'
  si : Sim G W' S' H'
  mu : p ∉ W'.mu
  F : W'.F p = none
  H : H' p = some (.lst acc)
  r : RepVs G W' dacc acc
theorem Acc.stp {W1 : Wd} {H1 : Hp} {p : Addr} {S' : Sto} {dacc : List D} {acc : List V} {W2 : Wd} {S2 : Sto} {H2 : Hp} (a : Acc G W1 H1 p W' S' H' dacc acc) (s : Stp W' H' W2 H2) (si : Sim G W2 S2 H2) : Acc G W1 H1 p W2 S2 H2 dacc acc := by
  obtain ⟨k1, k2, k3⟩ := stays s a.mu a.F a.H
  exact ⟨a.st.trans s, si, k1, k2, k3, s.reps a.r⟩
theorem Acc.app {W1 : Wd} {H1 : Hp} {p : Addr} {S' : Sto} {dacc : List D} {acc : List V} {d : D} {v : V} (a : Acc G W1 H1 p W' S' H' dacc acc) (h1 : H1 p = none) (rv : RepV G W' d v) : Acc G W1 H1 p W' S' (upd H' p (.lst (acc ++ [v]))) (dacc ++ [d]) (acc ++ [v]) :=
  ⟨a.st.poke h1, a.si.poke a.mu a.F (by rw [a.H]; simp), a.mu, a.F, upd_same, a.r.app (.one rv)⟩
theorem mapR_cons {g : D → Sto → Res (Option D)} {ck : Sto → Bool} {x : D} {xs : List D} {S S2 : Sto} {ys : List D} (h : mapR g ck (x :: xs) S = .ok ys S2) : ∃ o S3 zs, g x S = .ok o S3 ∧ ck S3 = true ∧ mapR g ck xs S3 = .ok zs S2 ∧ ys = (match o with
    | some y => y :: zs
    | none => zs) := by
  simp only [mapR] at h
  cases hg : g x S with
  | stuck => rw [hg] at h; cases h
  | exc _ _ _ => rw [hg] at h; cases h
  | ok o S3 =>
    rw [hg] at h
    simp only [Res.bind] at h
    split at h
    · rename_i hc
      cases hr : mapR g ck xs S3 with
      | stuck => rw [hr] at h; cases h
      | exc _ _ _ => rw [hr] at h; cases h
      | ok zs S4 =>
        rw [hr] at h
        cases h
        exact ⟨o, S3, zs, rfl, hc, hr, rfl⟩
    · cases h
theorem mapRR_cons {g : D → Sto → Res (List D)} {ck : Sto → Bool} {x : D} {xs : List D} {S S2 : Sto} {ys : List D} (h : mapRR g ck (x :: xs) S = .ok ys S2) : ∃ o S3 zs, g x S = .ok o S3 ∧ ck S3 = true ∧ mapRR g ck xs S3 = .ok zs S2 ∧ ys = o ++ zs := by
  simp only [mapRR] at h
  cases hg : g x S with
  | stuck => rw [hg] at h; cases h
  | exc _ _ _ => rw [hg] at h; cases h
  | ok o S3 =>
    rw [hg] at h
    simp only [Res.bind] at h
    split at h
    · rename_i hc
      cases hr : mapRR g ck xs S3 with
      | stuck => rw [hr] at h; cases h
      | exc _ _ _ => rw [hr] at h; cases h
      | ok zs S4 =>
        rw [hr] at h
        cases h
        exact ⟨o, S3, zs, rfl, hc, hr, rfl⟩
    · cases h
theorem post_some {α β γ : Type} {R : Wd → α → β → Prop} {r : Res α} {k : α → Sto → Res γ} {o : γ} {S3 : Sto} (h : r.bind k = .ok o S3) : Post G W H Wx R r fun v H' => ∃ W' S' d, Stp W H W' H' ∧ Sim G W' S' H' ∧ R W' d v ∧ k d S' = .ok o S3 := by
  cases r with
  | stuck => cases h
  | exc _ _ _ => cases h
  | ok d S1 => exact fun W' H' v s i r => ⟨W', S1, d, s, i, r, h⟩
/-- [x for t in it if c for t2 in it2 if c2] -/
theorem lc2_rd {t t2 : Tg} {m : Bool} {fw fw2 : Env → Sto → Res Wk} {fc fc2 : Env → Sto → Res Bool} {fx : Env → Sto → Res D} {vs vs1 : List Nat} {σ : L2.St} {H : Hp} {Q : VK} (hvs : vs = t.own ++ t2.own) (hvs1 : vs1 = t2.own)
    (hck : ∀ e S w S1, fw e S = .ok w S1 → w.ck S1 = true ∧ w.lk = none) (hck2 : ∀ e S w S1, fw2 e S = .ok w S1 → w.ck S1 = true ∧ w.lk = none)
    (h : rdE G Wx (fun e S => (fw e S).bind fun w S1 => ((mapRR (lc2Step t t2 e fc fw2 fc2 fx) w.ck w.xs (lockO true S1 w.lk)).nox).bind fun ys S2 => newL m ys (lockO false S2 w.lk)) σ H Q) :
    tLc2 (rdI G Wx fw) (rdG G t) (rdT G W0 fc) (rdI G W0 fw2) (rdG G t2) (rdT G W0 fc2) (rdE G W0 fx) vs vs1 σ H Q := by
  subst hvs hvs1
  obtain ⟨W, S, e, si, sl, po⟩ := h
  refine ⟨W, S, e, si, sl, (Post.bind (R := fun W' w J => WkOk G W' w J) po).mono fun J H1 ⟨W1, S1, w, t1, s1, wk, ew, po1⟩ => ?_⟩
  obtain ⟨ck1, lk⟩ := hck _ _ _ _ ew
  rw [lk] at po1
  have sl1 := sl.stp t1
  intro p hp
  let g := lc2Step t t2 e fc fw2 fc2 fx
  have run0 : ∃ ys S2, mapRR g w.ck w.xs S1 = .ok ys S2 ∧ Post G W1 H1 Wx (fun W' d v => RepV G W' d v) (newL m ys S2) Q := by
    have po1 : Post G W1 H1 Wx (fun W' d v => RepV G W' d v) (((mapRR g w.ck w.xs S1).nox).bind fun ys S2 => newL m ys S2) Q := po1
    cases hr : mapRR g w.ck w.xs S1 with
    | ok ys S2 => rw [hr] at po1; exact ⟨ys, S2, rfl, po1⟩
    | exc _ _ _ => rw [hr] at po1; exact False.elim po1
    | stuck => rw [hr] at po1; exact False.elim po1
  have nmu : p ∉ W1.mu := s1.muH hp
  let Iv : Nat → Hp → Prop := fun i H' => ∃ W' S' dacc acc, Acc G W1 H1 p W' S' H' dacc acc ∧ w.ck S' = true ∧
    ∃ ys S2, mapRR g w.ck (w.xs.drop i) S' = .ok ys S2 ∧ Post G W1 H1 Wx (fun W' d v => RepV G W' d v) (newL m (dacc ++ ys) S2) Q
  refine ⟨fun i n H' => n = w.xs.length - i ∧ i ≤ w.xs.length ∧ Iv i H', ?_, ?_⟩
  · obtain ⟨ys, S2, r, q⟩ := run0
    exact ⟨w.xs.length, by simp, Nat.zero_le _, W1, S1, [], [], ⟨.other hp, s1.other hp, nmu, s1.Fn hp, upd_same, RepVs.nil⟩, ck1, ys, S2, by simpa using r, by simpa using q⟩
  · rintro i n H' ⟨rfl, hi, W', S', dacc, acc, A, ck', ys, S2, run, pf⟩
    have ex : WExt W1 W' := A.st.ext
    by_cases hlt : i < w.xs.length
    · refine .inr ?_
      obtain ⟨g1, g2⟩ := wk.go W' S' H' ex A.si ck' i _ (List.getElem?_eq_getElem hlt)
      rw [List.drop_eq_getElem_cons hlt] at run
      obtain ⟨o, S3, zs, hg, hc3, hr, rfl⟩ := mapRR_cons run
      refine ⟨g1, Iv (i + 1), fun H' z => ⟨w.xs.length - (i + 1), by omega, rfl, hlt, z⟩, fun x H'' y => ?_⟩
      obtain ⟨W2, st2, si2, rx⟩ := g2 x H'' y
      have hg' : lc2Step t t2 e fc fw2 fc2 fx w.xs[i] S' = .ok o S3 := hg
      unfold lc2Step at hg'
      cases ht : asT t w.xs[i] (wipe e (t.own ++ t2.own)) with
      | none => rw [ht] at hg'; cases hg'
      | some e1 =>
        rw [ht] at hg'
        dsimp only at hg'
        have A2 := A.stp st2 si2
        refine ⟨W2, S', wipe e (t.own ++ t2.own), _, e1, si2, (sl1.stp A2.st).wipe _, rx, ht, fun σ' sl' hw => ⟨by rw [hw _ fun i hi => List.mem_append_left _ hi, wipe_wipe], ?_⟩⟩
        refine ⟨W2, S', e1, si2, sl', (post_some (R := fun _ (d : Bool) v => v = d) hg').mono fun b H3 ⟨W3, S3', d3, s3, i3, eb, hb⟩ => ?_⟩
        subst eb
        have A3 := A2.stp s3 i3
        cases b with
        | false =>
          simp only [Bool.false_eq_true, if_false, Res.ok.injEq] at hb ⊢
          obtain ⟨rfl, rfl⟩ := hb
          exact ⟨W3, S3', dacc, acc, A3, hc3, zs, S2, hr, by simpa using pf⟩
        | true =>
          simp only [if_true] at hb ⊢
          refine ⟨W3, S3', e1, i3, sl'.stp s3, ?_⟩
          cases hw2 : fw2 e1 S3' with
          | stuck => rw [hw2] at hb; cases hb
          | exc _ _ _ => rw [hw2] at hb; cases hb
          | ok w2 S4 =>
            rw [hw2] at hb
            obtain ⟨ck2, lk2⟩ := hck2 _ _ _ _ hw2
            simp only [Res.bind, lk2, Option.isSome_none, Bool.false_eq_true, if_false] at hb
            intro W4 H4 J1 s4 i4 wk2
            have A4 := A3.stp s4 i4
            have sl4 := (sl'.stp s3).stp s4
            let g2 := lcStep t2 t2.own e1 fc2 fx
            let Iw : Nat → Hp → Prop := fun j H' => ∃ W' S' dacc acc, Acc G W1 H1 p W' S' H' dacc acc ∧ WExt W4 W' ∧ w2.ck S' = true ∧ ∃ us, mapR g2 w2.ck (w2.xs.drop j) S' = .ok us S3 ∧ Post G W1 H1 Wx (fun W' d v => RepV G W' d v) (newL m (dacc ++ (us ++ zs)) S2) Q
            refine ⟨fun j k H' => k = w2.xs.length - j ∧ j ≤ w2.xs.length ∧ Iw j H', ⟨w2.xs.length, by simp, Nat.zero_le _, W4, S4, dacc, acc, A4, .refl, ck2, o, by simpa using hb, pf⟩, ?_⟩
            rintro j k H5 ⟨rfl, hj, W5, S5, dacc5, acc5, A5, x5, ck5, us, run5, pf5⟩
            by_cases hlt2 : j < w2.xs.length
            · refine .inr ?_
              obtain ⟨f1, f2⟩ := wk2.go W5 S5 H5 x5 A5.si ck5 j _ (List.getElem?_eq_getElem hlt2)
              rw [List.drop_eq_getElem_cons hlt2] at run5
              obtain ⟨o5, S6, us6, hg5, hc6, hr6, rfl⟩ := mapR_cons run5
              refine ⟨f1, Iw (j + 1), fun H' z => ⟨w2.xs.length - (j + 1), by omega, rfl, hlt2, z⟩, fun x5' H6 y5 => ?_⟩
              obtain ⟨W6, st6, si6, rx6⟩ := f2 x5' H6 y5
              have hg6 : lcStep t2 t2.own e1 fc2 fx w2.xs[j] S5 = .ok o5 S6 := hg5
              unfold lcStep at hg6
              cases ht6 : asT t2 w2.xs[j] (wipe e1 t2.own) with
              | none => rw [ht6] at hg6; cases hg6
              | some e2 =>
                rw [ht6] at hg6
                dsimp only at hg6
                have A6 := A5.stp st6 si6
                have sl5 : Slots G W6 e1 σ' := ⟨sl4.len, fun i d h => let ⟨v, a, b⟩ := sl4.at_ i d h; ⟨v, a, st6.rep (b.stp x5.F x5.mu)⟩⟩
                have x6 : WExt W4 W6 := x5.trans st6.ext
                refine ⟨W6, S5, wipe e1 t2.own, _, e2, si6, sl5.wipe _, rx6, ht6, fun σ6 sl6 hw6 => ⟨by rw [hw6 _ fun i hi => hi, wipe_wipe], ?_⟩⟩
                refine ⟨W6, S5, e2, si6, sl6, (post_some (R := fun _ (d : Bool) v => v = d) hg6).mono fun b H7 ⟨W7, S7, d7, s7, i7, eb, hb7⟩ => ?_⟩
                subst eb
                have A7 := A6.stp s7 i7
                cases b with
                | false =>
                  simp only [Bool.false_eq_true, if_false, Res.ok.injEq] at hb7 ⊢
                  obtain ⟨rfl, rfl⟩ := hb7
                  exact ⟨W7, S7, dacc5, acc5, A7, x6.trans s7.ext, hc6, us6, hr6, pf5⟩
                | true =>
                  simp only [if_true] at hb7 ⊢
                  refine ⟨W7, S7, e2, i7, sl6.stp s7, (post_some (R := fun W' d v => RepV G W' d v) hb7).mono fun y8 H8 ⟨W8, S8, d8, s8, i8, r8, h8⟩ => ?_⟩
                  cases h8
                  have A8 := A7.stp s8 i8
                  dsimp only at pf5
                  have lt : dacc5.length < LINE := by
                    have pf' := pf5
                    unfold newL at pf'
                    split at pf'
                    · rename_i hl
                      simp only [List.length_append, List.length_cons] at hl
                      omega
                    · exact False.elim pf'
                  refine ⟨acc5, A8.H, by rw [← A8.r.len, ← LINE_eq]; exact lt, ?_⟩
                  exact ⟨W8, S6, dacc5 ++ [d8], acc5 ++ [y8], A8.app hp r8, (x6.trans s7.ext).trans s8.ext, hc6, us6, hr6, by simpa [List.append_assoc] using pf5⟩
            · refine .inl ?_
              have e0 : j = w2.xs.length := by omega
              subst e0
              refine ⟨wk2.stop W5 S5 H5 x5 A5.si ck5 _ (Nat.le_refl _), ?_⟩
              rw [List.drop_length] at run5
              simp only [mapR, Res.ok.injEq] at run5
              obtain ⟨rfl, rfl⟩ := run5
              exact ⟨W5, S5, dacc5, acc5, A5, hc3, zs, S2, hr, by simpa using pf5⟩
    · refine .inl ?_
      have e0 : i = w.xs.length := by omega
      subst e0
      refine ⟨wk.stop W' S' H' ex A.si ck' _ (Nat.le_refl _), ?_⟩
      rw [List.drop_length] at run
      simp only [mapRR, Res.ok.injEq] at run
      obtain ⟨rfl, rfl⟩ := run
      rw [List.append_nil] at pf
      exact post_list hp A.st nmu A.si A.mu A.F A.H A.r pf
end
section
variable {G : Gd} {kc : Nat} {Wx : WX} {N : List Str} {sc : Scope} {fl : Str → Bool} {X : Cx}
/-- {} -/
theorem pe_nil (k : Bool) {pos : Pos} : PE X (.Dict [] [] pos) (rdE G Wx fun _ S => newD k [] S) := by
  have fin : ∀ {σ : L2.St} {H : Hp} {Q : VK}, rdE G Wx (fun _ S => newD k [] S) σ H Q → ∀ p, H p = none → Q (.ref p) (upd H p (dk0 k)) := fun {σ H Q} ⟨W, S, e, si, sl, po⟩ p hp =>
    post_dict (W' := W) (k := k) (kvs := []) hp (.other hp) (si.other hp) (si.muH hp) (si.Fn hp) (.nil upd_same) po
  cases k with
  | false => exact pe_dnewK.imp fun σ H Q q => fin q
  | true => exact pe_dnewT.imp fun σ H Q q => fin q
/-- a dict comprehension -/
theorem both_dcomp (c : CxE G (kc + 1) Wx N sc fl X) {k : Bool} {t : Tg} {fw : Env → Sto → Res Wk} {fc : Env → Sto → Res Bool} {fx fy : Env → Sto → Res D} {ke ve tg iter : PySem.Expr} {ifs : List PySem.Expr} {scope : Scope} {pos : Pos}
    (hi : PI X tg iter (rdI G Wx fw)) (ok : blkC N sc scope (ownOf N t) = true)
    (hg : ∀ X', CxE G (kc + 1) W0 N (relS scope sc) (flB scope) X' → PG X' tg (rdG G t) ∧ PTs X' ifs (rdT G W0 fc) ∧ PE X' ke (rdE G W0 fx) ∧ PE X' ve (rdE G W0 fy)) (hs : noSet iter = true) (hck : ∀ e S w S1, fw e S = .ok w S1 → w.ck S1 = true ∧ w.lk = none) :
    Both G Wx X (.DictComp ke ve [⟨tg, iter, ifs, 0⟩] scope pos) (fun e S => (fw e S).bind fun w S1 => ((mapK (dcStep k t t.own e fc fx fy) w.ck w.xs [] (lockO true S1 w.lk)).nox).bind fun kvs S2 => newD k kvs (lockO false S2 w.lk)) := by
  refine both_of c.c ((pe_dq (own := ownOf N t) (dk0_new k) c.c.hu c.c.calm (by rw [c.c.cN]; exact c.c.cnd) hi (by rw [c.c.cN, c.c.csc]; exact blkOk_by ok) (fun s H C cl fp => (hg _ (c.blk s H C cl fp scope)).1) (fun s H C cl fp => (hg _ (c.blk s H C cl fp scope)).2.1) (fun s H C cl fp => (hg _ (c.blk s H C cl fp scope)).2.2.1) (fun s H C cl fp => (hg _ (c.blk s H C cl fp scope)).2.2.2) (no_fold hs _)).imp fun σ H Q q => ?_) rfl
  exact dq_rd (own_snd t) hck q
/-- a comprehension with two fors -/
theorem both_comp2 (c : CxE G (kc + 1) Wx N sc fl X) {m : Bool} {t t2 : Tg} {fw fw2 : Env → Sto → Res Wk} {fc fc2 : Env → Sto → Res Bool} {fx : Env → Sto → Res D} {elt tg iter tg2 iter2 : PySem.Expr} {ifs ifs2 : List PySem.Expr} {scope : Scope} {pos : Pos}
    (hi : PI X tg iter (rdI G Wx fw)) (ok : blkC N sc scope (ownOf N t ++ ownOf N t2) = true)
    (hg : ∀ X', CxE G (kc + 1) W0 N (relS scope sc) (flB scope) X' → PG X' tg (rdG G t) ∧ PTs X' ifs (rdT G W0 fc) ∧ PI X' tg2 iter2 (rdI G W0 fw2) ∧ PG X' tg2 (rdG G t2) ∧ PTs X' ifs2 (rdT G W0 fc2) ∧ PE X' elt (rdE G W0 fx)) (hs : noSet iter = true) (hs2 : noSet iter2 = true)
    (hck : ∀ e S w S1, fw e S = .ok w S1 → w.ck S1 = true ∧ w.lk = none) (hck2 : ∀ e S w S1, fw2 e S = .ok w S1 → w.ck S1 = true ∧ w.lk = none) :
    Both G Wx X (.ListComp elt [⟨tg, iter, ifs, 0⟩, ⟨tg2, iter2, ifs2, 0⟩] scope pos) (fun e S => (fw e S).bind fun w S1 => ((mapRR (lc2Step t t2 e fc fw2 fc2 fx) w.ck w.xs (lockO true S1 w.lk)).nox).bind fun ys S2 => newL m ys (lockO false S2 w.lk)) := by
  have own2 : (ownOf N t ++ ownOf N t2).map (·.2) = t.own ++ t2.own := by rw [List.map_append, own_snd, own_snd]
  refine both_of c.c ((pe_lc2 (own := ownOf N t ++ ownOf N t2) (vs1 := t2.own) c.c.calm (by rw [c.c.cN]; exact c.c.cnd) hi (by rw [c.c.cN, c.c.csc]; exact blkOk_by ok) (fun i hi => by rw [own2]; exact List.mem_append_right _ hi)
    (fun s H C cl fp => (hg _ (c.blk s H C cl fp scope)).1) (fun s H C cl fp => (hg _ (c.blk s H C cl fp scope)).2.1) (fun s H C cl fp => (hg _ (c.blk s H C cl fp scope)).2.2.1) (fun s H C cl fp => (hg _ (c.blk s H C cl fp scope)).2.2.2.1) (fun s H C cl fp => (hg _ (c.blk s H C cl fp scope)).2.2.2.2.1) (fun s H C cl fp => (hg _ (c.blk s H C cl fp scope)).2.2.2.2.2) (no_fold hs _) (fun env => no_fold hs2 env)).imp fun σ H Q q => ?_) rfl
  exact lc2_rd own2 rfl hck hck2 q
theorem swst_const {ts vs : List PySem.Expr} {kt k2} {pt pt2 : Pos} {env : PySem.Env} (h : vs.all (foldedForSure 8) = true) : swappedStores [.Tuple ts kt pt] (.Tuple vs k2 pt2) env = pure none := by
  unfold swappedStores
  simp only [h]
  split
  · rfl
  · split
    · rfl
    · simp
end
end Mi
end
section
set_option Elab.async false
set_option linter.all false
set_option maxRecDepth 100000
set_option maxHeartbeats 4000000
/-! every expression that the checker takes is what the evaluator makes of it -/
namespace Mi
open PySem L2 PyProof.Rows RZ
variable {G : Gd} {T : Ck} {kc : Nat} {N : List Str} {call : Nat → List D → Sto → Res D}
mutual
theorem chE_ok (t : TOk G T call kc) : ∀ (x : Ex) (sc : Scope) (fl : Str → Bool) (e : PySem.Expr) (Wx : WX) (X : Cx), chE T N x sc fl e = true → CxE G (kc + 1) Wx N sc fl X → Both G Wx X e (ev G.M call x)
  | .var i, sc, fl, e, Wx, X, h, c => by
    simp only [chE] at h
    split at h
    · simp only [Bool.and_eq_true, decide_eq_true_eq] at h
      obtain ⟨n1, n2, _⟩ := nmB_ok h.2
      exact both_of c.c (pe_vr c.c h.1.1 (visB_ok h.1.2) n1 n2) rfl
    · cases h
  | .cst d, sc, fl, e, Wx, X, h, c => by
    simp only [chE] at h
    split at h
    · exact both_of c.c (pe_cst h) rfl
    · cases h
  | .glob g, sc, fl, e, Wx, X, h, c => by
    simp only [chE] at h
    split at h
    · simp only [Bool.and_eq_true, decide_eq_true_eq] at h
      obtain ⟨n1, _, _⟩ := nmB_ok h.2
      obtain ⟨v, u, d, q1, q2, q3, q4⟩ := t.gl _ _ h.1.1
      refine both_of c.c ((pe_glob (glB_ok c h.1.2) (by rw [c.c.cmg]; exact q1) q3 n1).imp fun σ H Q ⟨W, S, e, si, sl, po⟩ => ?_) rfl
      simp only [ev, q2] at po
      exact po.ok si (q4 W)
    · cases h
  | .bin o m a b, sc, fl, e, Wx, X, h, c => by
    simp only [chE] at h
    split at h
    · simp only [Bool.and_eq_true] at h
      rw [opB_ok h.1.1]
      exact both_bin c.c o m (chE_ok t a sc fl _ Wx X h.1.2 c).pe (chE_ok t b sc fl _ Wx X h.2 c).pe
    · cases h
  | .neg a, sc, fl, e, Wx, X, h, c => by
    simp only [chE] at h
    split at h
    · exact both_neg c.c (chE_ok t a sc fl _ Wx X h c).pe
    · cases h
  | .cmp o a b, sc, fl, e, Wx, X, h, c => by
    simp only [chE] at h
    split at h
    · simp only [Bool.and_eq_true] at h
      rw [coB_ok h.1.1.1]
      exact both_cmp c.c (t.eq _ _ _ _ c.c) o (chE_ok t a sc fl _ Wx X h.1.1.2 c).pe (chE_ok t b sc fl _ Wx X h.1.2 c).pe h.2
    · cases h
  | .chn o o' a b d, sc, fl, e, Wx, X, h, c => by
    simp only [chE] at h
    split at h
    · simp only [Bool.and_eq_true] at h
      rw [coB_ok h.1.1.1.1.1, coB_ok h.1.1.1.1.2]
      exact both_chn c.c (t.eq _ _ _ _ c.c) o o' (chE_ok t a sc fl _ Wx X h.1.1.1.2 c).pe (chE_ok t b sc fl _ Wx X h.1.1.2 c).pe (chE_ok t d sc fl _ Wx X h.1.2 c).pe h.2
    · cases h
  | .andE a b, sc, fl, e, Wx, X, h, c => by
    simp only [chE] at h
    split at h
    · rename_i x y r p
      simp only [Bool.and_eq_true] at h
      have h1 := chE_ok t a sc fl _ Wx X h.1 c
      have h2 : Both G Wx X (.BoolOp .And (y :: r) p) (ev G.M call b) := by
        have h2 := h.2
        split at h2
        · exact both_one (chE_ok t b sc fl _ Wx X h2 c)
        · exact chE_ok t b sc fl _ Wx X h2 c
      exact both_and c.c h1 h2
    · cases h
  | .orE a b, sc, fl, e, Wx, X, h, c => by
    simp only [chE] at h
    split at h
    · rename_i x y r p
      simp only [Bool.and_eq_true] at h
      have h1 := chE_ok t a sc fl _ Wx X h.1 c
      have h2 : Both G Wx X (.BoolOp .Or (y :: r) p) (ev G.M call b) := by
        have h2 := h.2
        split at h2
        · exact both_one (chE_ok t b sc fl _ Wx X h2 c)
        · exact chE_ok t b sc fl _ Wx X h2 c
      exact both_or c.c h1 h2
    · cases h
  | .notE a, sc, fl, e, Wx, X, h, c => by
    simp only [chE] at h
    split at h
    · exact both_not c.c (chE_ok t a sc fl _ Wx X h c)
    · cases h
  | .ite k a b, sc, fl, e, Wx, X, h, c => by
    simp only [chE] at h
    split at h
    · simp only [Bool.and_eq_true] at h
      exact both_ite c.c (chE_ok t k sc fl _ Wx X h.1.1 c) (chE_ok t a sc fl _ Wx X h.1.2 c) (chE_ok t b sc fl _ Wx X h.2 c)
    · cases h
  | .tup es, sc, fl, e, Wx, X, h, c => by
    simp only [chE] at h
    split at h
    · exact both_tup c.c (chEs_ok t es sc fl _ Wx X h c).1
    · cases h
  | .lst m es, sc, fl, e, Wx, X, h, c => by
    simp only [chE] at h
    split at h
    · exact both_lst c.c m (chEs_ok t es sc fl _ Wx X h c).1
    · cases h
  | .idx a i, sc, fl, e, Wx, X, h, c => by
    simp only [chE] at h
    split at h
    · simp only [Bool.and_eq_true] at h
      exact both_idx c.c (chE_ok t a sc fl _ Wx X h.1.1 c).pe (chE_ok t i sc fl _ Wx X h.1.2 c).pe h.2
    · cases h
  | .sl a lo hi, sc, fl, e, Wx, X, h, c => by
    simp only [chE] at h
    split at h
    · simp only [Bool.and_eq_true] at h
      exact both_sl c.c (chE_ok t a sc fl _ Wx X h.1.1 c).pe (chO_ok t lo sc fl _ Wx X h.1.2 c) (chO_ok t hi sc fl _ Wx X h.2 c)
    · cases h
  | .rev a, sc, fl, e, Wx, X, h, c => by
    simp only [chE] at h
    split at h
    · exact both_rev c.c (chE_ok t a sc fl _ Wx X h c).pe
    · cases h
  | .att a f, sc, fl, e, Wx, X, h, c => by
    simp only [chE] at h
    split at h
    · simp only [Bool.and_eq_true, decide_eq_true_eq] at h
      exact both_att c.c t.ko (t.fl _ _ h.1.2) (chE_ok t a sc fl _ Wx X h.1.1 c).pe h.2
    · cases h
  | .call f es, sc, fl, e, Wx, X, h, c => by
    simp only [chE] at h
    split at h
    · simp only [Bool.and_eq_true, decide_eq_true_eq] at h
      obtain ⟨⟨⟨⟨h1, h2⟩, h3⟩, h4⟩, h5⟩ := h
      obtain ⟨n1, _, _⟩ := nmB_ok h3
      obtain ⟨fa, fd, ps, q1, q2, q3, q4, q5⟩ := t.fn _ _ h1
      obtain ⟨a1, a2⟩ := chEs_ok t es sc fl _ Wx X h4 c
      rw [t.M] at h5
      refine both_call c.c q5 (glB_ok c h2) q1 q2 q3 ?_ a1 (fun e S xs S' q => ?_) n1 a2.1
      · rw [q4, ← h5, a2.2]
      · rw [evs_len q, q4, h5]
    · simp only [Bool.and_eq_true, decide_eq_true_eq] at h
      obtain ⟨⟨⟨⟨h1, h2⟩, h3⟩, h4⟩, h5⟩ := h
      obtain ⟨n1, _, _⟩ := nmB_ok h3
      obtain ⟨fa, fd, ps, q1, q2, q3, q4, q5⟩ := t.fn _ _ h1
      rw [t.M] at h5
      cases es with
      | nil => exact both_call0 c.c q5 (glB_ok c h2) q1 q2 q3 (q4.trans h5) n1
      | cons _ _ => simp [chEs] at h4
    · cases h
  | .callk _ _ _ _, sc, fl, e, Wx, X, h, c => by simp [chE] at h
  | .meth a m es, sc, fl, e, Wx, X, h, c => by
    simp only [chE] at h
    split at h
    · rename_i x n apos ys pos
      simp only [Bool.and_eq_true, decide_eq_true_eq] at h
      obtain ⟨⟨⟨⟨⟨⟨h1, h2⟩, h3⟩, h4⟩, h5⟩, h6⟩, h7⟩ := h
      have e1 := t.fl _ _ h1
      have mk := t.mth h7
      cases es with
      | nil =>
        cases ys with
        | nil => exact both_mth0 c.c t.ko e1 (chE_ok t a sc fl _ Wx X h2 c).pe h3 h5 mk
        | cons _ _ => simp [chEs] at h4
      | cons e1' es' =>
        cases ys with
        | nil => simp [chEs] at h4
        | cons y ys =>
          obtain ⟨a1, a2⟩ := chEs_ok t (.cons e1' es') sc fl _ Wx X h4 c
          exact both_mth c.c t.ko e1 (chE_ok t a sc fl _ Wx X h2 c).pe a1 h3 a2.1 h5 h6 mk (fun e S xs S' q => by rw [evs_len q])
    · cases h
  | .new ci fz es, sc, fl, e, Wx, X, h, c => by
    simp only [chE] at h
    split at h
    · simp only [Bool.and_eq_true, decide_eq_true_eq] at h
      obtain ⟨⟨⟨⟨⟨h1, h2⟩, h3⟩, h4⟩, h5⟩, h6⟩ := h
      obtain ⟨n1, _, _⟩ := nmB_ok h3
      obtain ⟨a1, a2⟩ := chEs_ok t es sc fl _ Wx X h4 c
      rw [t.M] at h5 h6
      unfold hasInit at h5
      split at h5
      · rename_i C hC
        obtain ⟨f, hf⟩ := Option.isSome_iff_exists.mp h5
        obtain ⟨q1, fa, fd, ps, q2, q3, q4, q5⟩ := t.mkc _ _ _ _ h1 hC hf
        have h7 : initNp G.M ci = npOf G.M f := by unfold initNp; rw [hC]; simp [hf]
        refine both_new c.c hC hf q2 q5 (glB_ok c h2) q1 q3 a1 (fun e S xs S' q => ?_) n1 a2.1
        rw [evs_len q, q4, ← h7, h6]
      · cases h5
    · simp only [Bool.and_eq_true, decide_eq_true_eq] at h
      obtain ⟨⟨⟨⟨⟨h1, h2⟩, h3⟩, h4⟩, h5⟩, h6⟩ := h
      obtain ⟨n1, _, _⟩ := nmB_ok h3
      rw [t.M] at h5 h6
      unfold hasInit at h5
      split at h5
      · rename_i C hC
        obtain ⟨f, hf⟩ := Option.isSome_iff_exists.mp h5
        obtain ⟨q1, fa, fd, ps, q2, q3, q4, q5⟩ := t.mkc _ _ _ _ h1 hC hf
        have h7 : initNp G.M ci = npOf G.M f := by unfold initNp; rw [hC]; simp [hf]
        cases es with
        | nil => exact both_new0 c.c hC hf q2 q5 (glB_ok c h2) q1 q3 (by rw [q4, ← h7, h6]) n1
        | cons _ _ => simp [chEs] at h4
      · cases h5
    · cases h
  | .blt b m es, sc, fl, e, Wx, X, h, c => by
    have gen : ∀ (b : Blt) (e : PySem.Expr), b ≠ .maxd → b ≠ .dict → b ≠ .listzip → (!(callArgs b sc e).isEmpty && chEs T N es sc fl (callArgs b sc e)) = true → Both G Wx X e (ev G.M call (.blt b m es)) := by
      clear h
      intro b e h1 h2 h3 h
      simp only [Bool.and_eq_true, Bool.not_eq_true'] at h
      obtain ⟨k1, k2⟩ := h
      obtain ⟨a1, a2⟩ := chEs_ok t es sc fl _ Wx X k2 c
      unfold callArgs at k1 a1 a2
      split at k1
      · split at k1
        · rename_i hh
          simp only [Bool.and_eq_true] at hh
          rename_i x p ys pos
          simp only [hh.1, hh.2, Bool.and_self, if_true] at a1 a2
          cases ys with
          | nil => simp at k1
          | cons y ys => exact both_blt t c h1 h2 h3 (eq_of_beq hh.1) (glB_ok c hh.2) a1 a2.1
        · simp at k1
      · simp at k1
    cases b with
    | maxd =>
      cases es with
      | nil => simp [chE] at h
      | cons a es =>
        cases es with
        | cons _ _ => simp [chE] at h
        | nil =>
          simp only [chE] at h
          split at h
          · simp only [Bool.and_eq_true] at h
            obtain ⟨⟨⟨⟨h1, h2⟩, h3⟩, h4⟩, h5⟩ := h
            have e2 := eq_of_beq h2
            subst e2
            have e1 := eq_of_beq h1
            have hf : (fun e S => (ev G.M call a e S).bind fun d S1 => maxdB S1 d) = ev G.M call (.blt .maxd m (.cons a .nil)) := by
              funext e S
              simp only [ev, evs]
              cases ev G.M call a e S <;> rfl
            rw [← hf]
            exact both_maxd c.c e1 (glB_ok c h3) (t.nb c (by rw [e1]; decide +kernel)) (chE_ok t a sc fl _ Wx X h4 c).pe h5
          · cases h
    | dict => simp [chE] at h
    | listzip => simp [chE] at h
    | len => exact gen .len _ (by simp) (by simp) (by simp) (by simpa only [chE] using h)
    | abs => exact gen .abs _ (by simp) (by simp) (by simp) (by simpa only [chE] using h)
    | int => exact gen .int _ (by simp) (by simp) (by simp) (by simpa only [chE] using h)
    | str => exact gen .str _ (by simp) (by simp) (by simp) (by simpa only [chE] using h)
    | list => exact gen .list _ (by simp) (by simp) (by simp) (by simpa only [chE] using h)
    | tuple => exact gen .tuple _ (by simp) (by simp) (by simp) (by simpa only [chE] using h)
    | sum => exact gen .sum _ (by simp) (by simp) (by simp) (by simpa only [chE] using h)
    | min => exact gen .min _ (by simp) (by simp) (by simp) (by simpa only [chE] using h)
    | max => exact gen .max _ (by simp) (by simp) (by simp) (by simpa only [chE] using h)
    | all => exact gen .all _ (by simp) (by simp) (by simp) (by simpa only [chE] using h)
    | any => exact gen .any _ (by simp) (by simp) (by simp) (by simpa only [chE] using h)
    | sorted => exact gen .sorted _ (by simp) (by simp) (by simp) (by simpa only [chE] using h)
    | min2 => exact gen .min2 _ (by simp) (by simp) (by simp) (by simpa only [chE] using h)
    | max2 => exact gen .max2 _ (by simp) (by simp) (by simp) (by simpa only [chE] using h)
  | .isi a ty, sc, fl, e, Wx, X, h, c => by
    simp only [chE] at h
    split at h
    · simp only [Bool.and_eq_true] at h
      obtain ⟨⟨⟨⟨⟨h1, h2⟩, h3⟩, h4⟩, h5⟩, h6⟩ := h
      have e1 := eq_of_beq h1
      have ha := (chE_ok t a sc fl _ Wx X h3 c).pe
      have bt : ∀ (nm : String) (z : Str) (p : Pos), Gl X z → z ∈ bltNames → bootBuiltins z = some (.type nm) → z ≠ "__name__" → (z == ("__debug__" : Str)) = false → PE X (.Name z p) (tC (.ty nm)) := fun nm z p g1 g2 g3 g4 g5 => pe_bltn g1 (t.nb c g2) g3 rfl g4 g5
      cases ty with
      | cls ci =>
        simp only [Bool.and_eq_true, decide_eq_true_eq] at h6
        obtain ⟨⟨k1, k2⟩, k3⟩ := h6
        rw [t.M] at k3
        unfold hasInit at k3
        split at k3
        · rename_i C hC
          obtain ⟨f, hf⟩ := Option.isSome_iff_exists.mp k3
          obtain ⟨q1, _⟩ := t.mkc _ _ _ _ k1 hC hf
          exact both_isi c.c t.ko e1 (glB_ok c h2) (t.nb c (by rw [e1]; decide +kernel)) ha (pe_glob (v := .ref (G.cA ci)) (glB_ok c h5) (by rw [c.c.cmg]; exact q1) rfl (nmB_ok k2).1) (.own _) (fun e z => by cases z; exact ⟨C, hC, k3⟩) h4 rfl
        · cases k3
      | int =>
        have e2 := eq_of_beq h6
        exact both_isi c.c t.ko e1 (glB_ok c h2) (t.nb c (by rw [e1]; decide +kernel)) ha (bt "int" _ _ (glB_ok c h5) (by rw [e2]; decide +kernel) (by rw [e2]; decide +kernel) (by rw [e2]; decide +kernel) (by rw [e2]; decide +kernel)) (.ty _) (fun e z => by cases z) h4 rfl
      | bool =>
        have e2 := eq_of_beq h6
        exact both_isi c.c t.ko e1 (glB_ok c h2) (t.nb c (by rw [e1]; decide +kernel)) ha (bt "bool" _ _ (glB_ok c h5) (by rw [e2]; decide +kernel) (by rw [e2]; decide +kernel) (by rw [e2]; decide +kernel) (by rw [e2]; decide +kernel)) (.ty _) (fun e z => by cases z) h4 rfl
      | tuple =>
        have e2 := eq_of_beq h6
        exact both_isi c.c t.ko e1 (glB_ok c h2) (t.nb c (by rw [e1]; decide +kernel)) ha (bt "tuple" _ _ (glB_ok c h5) (by rw [e2]; decide +kernel) (by rw [e2]; decide +kernel) (by rw [e2]; decide +kernel) (by rw [e2]; decide +kernel)) (.ty _) (fun e z => by cases z) h4 rfl
      | str =>
        have e2 := eq_of_beq h6
        exact both_isi c.c t.ko e1 (glB_ok c h2) (t.nb c (by rw [e1]; decide +kernel)) ha (bt "str" _ _ (glB_ok c h5) (by rw [e2]; decide +kernel) (by rw [e2]; decide +kernel) (by rw [e2]; decide +kernel) (by rw [e2]; decide +kernel)) (.ty _) (fun e z => by cases z) h4 rfl
      | list =>
        have e2 := eq_of_beq h6
        exact both_isi c.c t.ko e1 (glB_ok c h2) (t.nb c (by rw [e1]; decide +kernel)) ha (bt "list" _ _ (glB_ok c h5) (by rw [e2]; decide +kernel) (by rw [e2]; decide +kernel) (by rw [e2]; decide +kernel) (by rw [e2]; decide +kernel)) (.ty _) (fun e z => by cases z) h4 rfl
    · cases h
  | .bm m a es, sc, fl, e, Wx, X, h, c => by
    simp only [chE] at h
    split at h
    · rename_i x n apos ys pos
      simp only [Bool.and_eq_true, decide_eq_true_eq] at h
      obtain ⟨⟨⟨⟨⟨h1, h2⟩, h3⟩, h4⟩, h5⟩, h6⟩ := h
      have ha := (chE_ok t a sc fl _ Wx X h2 c).pe
      obtain ⟨a1, a2⟩ := chEs_ok t es sc fl _ Wx X h4 c
      cases ys with
      | nil =>
        cases es with
        | nil => exact both_bm0 c.c (eq_of_beq h1) ha h3 h5
        | cons _ _ => simp [chEs] at h4
      | cons y ys => exact both_bm c.c (eq_of_beq h1) ha a1 h3 a2.1 h5 h6
    · cases h
  | .comp m x tg it cs, sc, fl, e, Wx, X, h, c => by
    simp only [chE] at h
    split at h
    · simp only [Bool.and_eq_true] at h
      obtain ⟨⟨⟨⟨⟨h1, h2⟩, h3⟩, h4⟩, h5⟩, h6⟩ := h
      cases it with
      | dic a =>
        simp only [chI, Bool.and_eq_true] at h3
        exact both_dicc c h3.1.2 (chE_ok t a sc fl _ Wx X h3.2 c).pe h5 (fun X' c' => ⟨chT_ok c' tg _ h2, chC_ok t cs _ _ _ W0 X' h4 c', (chE_ok t x _ _ _ W0 X' h1 c').pe⟩) h6
      | seq a => obtain ⟨i1, i2⟩ := chI_ok t (.seq a) sc fl _ _ Wx X h3 c; exact both_comp c i1 h5 (fun X' c' => ⟨chT_ok c' tg _ h2, chC_ok t cs _ _ _ W0 X' h4 c', (chE_ok t x _ _ _ W0 X' h1 c').pe⟩) h6 (fun e S w S1 q => walk_ck _ e S w S1 i2 q)
      | rng1 a => obtain ⟨i1, i2⟩ := chI_ok t (.rng1 a) sc fl _ _ Wx X h3 c; exact both_comp c i1 h5 (fun X' c' => ⟨chT_ok c' tg _ h2, chC_ok t cs _ _ _ W0 X' h4 c', (chE_ok t x _ _ _ W0 X' h1 c').pe⟩) h6 (fun e S w S1 q => walk_ck _ e S w S1 i2 q)
      | rng2 a b => obtain ⟨i1, i2⟩ := chI_ok t (.rng2 a b) sc fl _ _ Wx X h3 c; exact both_comp c i1 h5 (fun X' c' => ⟨chT_ok c' tg _ h2, chC_ok t cs _ _ _ W0 X' h4 c', (chE_ok t x _ _ _ W0 X' h1 c').pe⟩) h6 (fun e S w S1 q => walk_ck _ e S w S1 i2 q)
      | rng3 a b d => obtain ⟨i1, i2⟩ := chI_ok t (.rng3 a b d) sc fl _ _ Wx X h3 c; exact both_comp c i1 h5 (fun X' c' => ⟨chT_ok c' tg _ h2, chC_ok t cs _ _ _ W0 X' h4 c', (chE_ok t x _ _ _ W0 X' h1 c').pe⟩) h6 (fun e S w S1 q => walk_ck _ e S w S1 i2 q)
      | zip a b => obtain ⟨i1, i2⟩ := chI_ok t (.zip a b) sc fl _ _ Wx X h3 c; exact both_comp c i1 h5 (fun X' c' => ⟨chT_ok c' tg _ h2, chC_ok t cs _ _ _ W0 X' h4 c', (chE_ok t x _ _ _ W0 X' h1 c').pe⟩) h6 (fun e S w S1 q => walk_ck _ e S w S1 i2 q)
      | enum a => obtain ⟨i1, i2⟩ := chI_ok t (.enum a) sc fl _ _ Wx X h3 c; exact both_comp c i1 h5 (fun X' c' => ⟨chT_ok c' tg _ h2, chC_ok t cs _ _ _ W0 X' h4 c', (chE_ok t x _ _ _ W0 X' h1 c').pe⟩) h6 (fun e S w S1 q => walk_ck _ e S w S1 i2 q)
      | comb a b => obtain ⟨i1, i2⟩ := chI_ok t (.comb a b) sc fl _ _ Wx X h3 c; exact both_comp c i1 h5 (fun X' c' => ⟨chT_ok c' tg _ h2, chC_ok t cs _ _ _ W0 X' h4 c', (chE_ok t x _ _ _ W0 X' h1 c').pe⟩) h6 (fun e S w S1 q => walk_ck _ e S w S1 i2 q)
    · cases h
  | .comp2 m x tg it cs tg2 it2 cs2, sc, fl, e, Wx, X, h, c => by
    simp only [chE] at h
    split at h
    · simp only [Bool.and_eq_true] at h
      obtain ⟨⟨⟨⟨⟨⟨⟨⟨⟨h1, h2⟩, h3⟩, h4⟩, h5⟩, h6⟩, h7⟩, h8⟩, h9⟩, h10⟩ := h
      obtain ⟨i1, i2⟩ := chI_ok t it sc fl _ _ Wx X h3 c
      refine both_comp2 c i1 h5 (fun X' c' => ⟨chT_ok c' tg _ h2, chC_ok t cs _ _ _ W0 X' h4 c', (chI_ok t it2 _ _ _ _ W0 X' h8 c').1, chT_ok c' tg2 _ h7, chC_ok t cs2 _ _ _ W0 X' h9 c', (chE_ok t x _ _ _ W0 X' h1 c').pe⟩) h6 h10 (fun e S w S1 q => walk_ck it e S w S1 i2 q) (fun e S w S1 q => walk_ck it2 e S w S1 ?_ q)
      intro a ea
      rw [ea] at h8
      simp [chI] at h8
    · cases h
  | .dcomp k a b tg it cs, sc, fl, e, Wx, X, h, c => by
    simp only [chE] at h
    split at h
    · simp only [Bool.and_eq_true] at h
      obtain ⟨⟨⟨⟨⟨⟨h1, h1b⟩, h2⟩, h3⟩, h4⟩, h5⟩, h6⟩ := h
      obtain ⟨i1, i2⟩ := chI_ok t it sc fl _ _ Wx X h3 c
      exact both_dcomp c i1 h5 (fun X' c' => ⟨chT_ok c' tg _ h2, chC_ok t cs _ _ _ W0 X' h4 c', (chE_ok t a _ _ _ W0 X' h1 c').pe, (chE_ok t b _ _ _ W0 X' h1b c').pe⟩) h6 (fun e S w S1 q => walk_ck it e S w S1 i2 q)
    · cases h
  | .dct k ks vs, sc, fl, e, Wx, X, h, c => by
    cases ks with
    | nil =>
      cases vs with
      | nil =>
        simp only [chE] at h
        split at h
        · exact both_of c.c (pe_nil k) rfl
        · cases h
      | cons _ _ => simp [chE] at h
    | cons _ _ => simp [chE] at h
  | .frz a, sc, fl, e, Wx, X, h, c => by
    simp only [chE, Bool.and_eq_true] at h
    exact both_frz c.c (chE_ok t a sc fl _ Wx X h.1 c).pe h.2
theorem chEs_ok (t : TOk G T call kc) : ∀ (xs : Exs) (sc : Scope) (fl : Str → Bool) (es : List PySem.Expr) (Wx : WX) (X : Cx), chEs T N xs sc fl es = true → CxE G (kc + 1) Wx N sc fl X → PA X es (rdA G Wx (evs G.M call xs)) ∧ es.all noStar = true ∧ es.length = exLen xs
  | .nil, sc, fl, es, Wx, X, h, c => by
    simp only [chEs, List.isEmpty_iff] at h
    subst h
    exact ⟨args_nil, rfl, rfl⟩
  | .cons x xs, sc, fl, es, Wx, X, h, c => by
    simp only [chEs] at h
    split at h
    · simp only [Bool.and_eq_true] at h
      obtain ⟨a1, a2, a3⟩ := chEs_ok t xs sc fl _ Wx X h.2 c
      exact ⟨args_cons (chE_ok t x sc fl _ Wx X h.1.1 c).pe a1 h.1.2, by simp [h.1.2, a2], by simp [exLen, a3]⟩
    · cases h
theorem chO_ok (t : TOk G T call kc) : ∀ (x : Ox) (sc : Scope) (fl : Str → Bool) (o : Option PySem.Expr) (Wx : WX) (X : Cx), chO T N x sc fl o = true → CxE G (kc + 1) Wx N sc fl X → PO X o (rdO G Wx (evo G.M call x))
  | .nul, sc, fl, o, Wx, X, h, c => by
    simp only [chO, Option.isNone_iff_eq_none] at h
    subst h
    exact part_none
  | .one x, sc, fl, o, Wx, X, h, c => by
    simp only [chO] at h
    split at h
    · exact part_some (chE_ok t x sc fl _ Wx X h c).pe
    · cases h
theorem chC_ok (t : TOk G T call kc) : ∀ (xs : Exs) (sc : Scope) (fl : Str → Bool) (es : List PySem.Expr) (Wx : WX) (X : Cx), chC T N xs sc fl es = true → CxE G (kc + 1) Wx N sc fl X → PTs X es (rdT G Wx (evc G.M call xs))
  | .nil, sc, fl, es, Wx, X, h, c => by
    simp only [chC, List.isEmpty_iff] at h
    subst h
    exact pts_nil.imp fun σ H Q ⟨W, S, e, si, sl, po⟩ => po.ok si rfl
  | .cons x .nil, sc, fl, es, Wx, X, h, c => by
    simp only [chC] at h
    split at h
    · exact pts_one (chE_ok t x sc fl _ Wx X h c).pt
    · cases h
  | .cons _ (.cons _ _), sc, fl, es, Wx, X, h, c => by simp [chC] at h
theorem chI_ok (t : TOk G T call kc) : ∀ (it : It) (sc : Scope) (fl : Str → Bool) (tg e : PySem.Expr) (Wx : WX) (X : Cx), chI T N it false sc fl tg e = true → CxE G (kc + 1) Wx N sc fl X → PI X tg e (rdI G Wx (walk G.M call it)) ∧ ∀ a, it ≠ .dic a
  | .seq a, sc, fl, tg, e, Wx, X, h, c => by
    simp only [chI] at h
    exact ⟨pi_seq c.c (chE_ok t a sc fl _ Wx X h c).pe, by simp⟩
  | .rng1 a, sc, fl, tg, e, Wx, X, h, c => by
    simp only [chI] at h
    split at h
    · simp only [Bool.and_eq_true] at h
      obtain ⟨⟨⟨h1, h2⟩, h3⟩, h4⟩ := h
      have e1 := eq_of_beq h1
      subst e1
      exact ⟨(pi_range1 (glB_ok c h2) (t.nb c (by decide +kernel)) (pa_cons (chE_ok t a sc fl _ Wx X h3 c).pe pa_nil (star_cons h4 _ _)) (star_cons h4 _ _)).imp fun σ H R q => rd_r1 q, by simp⟩
    · cases h
  | .rng2 a b, sc, fl, tg, e, Wx, X, h, c => by
    simp only [chI] at h
    split at h
    · simp only [Bool.and_eq_true] at h
      obtain ⟨⟨⟨⟨⟨h1, h2⟩, h3⟩, h4⟩, h5⟩, h6⟩ := h
      have e1 := eq_of_beq h1
      subst e1
      exact ⟨(pi_range2 (glB_ok c h2) (t.nb c (by decide +kernel)) (pa_cons (chE_ok t a sc fl _ Wx X h3 c).pe (pa_cons (chE_ok t b sc fl _ Wx X h5 c).pe pa_nil (star_cons h6 _ _)) (star_cons h4 _ _)) (by rw [star_cons h4, star_cons h6]; rfl) (star_cons h6 _ _)).imp fun σ H R q => rd_r2 q, by simp⟩
    · cases h
  | .rng3 a b cc, sc, fl, tg, e, Wx, X, h, c => by
    simp only [chI] at h
    split at h
    · simp only [Bool.and_eq_true] at h
      obtain ⟨⟨⟨⟨⟨⟨h1, h2⟩, h3⟩, h4⟩, h5⟩, h6⟩, h7⟩ := h
      have e1 := eq_of_beq h1
      subst e1
      have e7 := eq_of_beq h7
      subst e7
      have hc : ∀ (kk : Nat) (p1 p2 : Pos), PE X (.UnaryOp .USub (.Constant (.int 1) kk p1) p2) (rdE G Wx fun _ S => .ok (.int (-1)) S) := fun _ _ _ => (pe_un un_neg pe_int).imp fun σ H Q ⟨W, S, e, si, sl, po⟩ => ⟨1, rfl, po.ok si (by simp [RepV])⟩
      exact ⟨(pi_range3 (glB_ok c h2) (t.nb c (by decide +kernel)) (pa_cons (chE_ok t a sc fl _ Wx X h3 c).pe (pa_cons (chE_ok t b sc fl _ Wx X h5 c).pe (pa_cons (hc _ _ _) pa_nil) (star_cons h6 _ _)) (star_cons h4 _ _)) (star_cons h4 _ _) (star_back (by simp only [List.all_cons, h6, List.all_nil, Bool.and_true, Bool.true_and]; rfl)).1).imp fun σ H R q => rd_r3 rfl q, by simp⟩
    · cases h
  | .zip a b, sc, fl, tg, e, Wx, X, h, c => by
    simp only [chI] at h
    split at h
    · simp only [Bool.and_eq_true] at h
      obtain ⟨⟨⟨⟨⟨⟨h1, h2⟩, h3⟩, h4⟩, h5⟩, h6⟩, h7⟩ := h
      have e1 := eq_of_beq h1
      subst e1
      cases tg with
      | Tuple elts kk tpos =>
        exact ⟨(pi_zipA (glB_ok c h2) (t.nb c (by decide +kernel)) (pa_cons (chE_ok t a sc fl _ Wx X h3 c).pe (pa_cons (chE_ok t b sc fl _ Wx X h5 c).pe pa_nil (star_cons h6 _ _)) (star_cons h4 _ _)) (star_cons h4 _ _) (star_back (by simp [h6])).1).imp fun σ H R q => rd_zip c.c q, by simp⟩
      | _ => simp [isTupE] at h7
    · cases h
  | .enum a, sc, fl, tg, e, Wx, X, h, c => by
    simp only [chI] at h
    split at h
    · simp only [Bool.and_eq_true] at h
      obtain ⟨⟨⟨⟨h1, h2⟩, h3⟩, h4⟩, h5⟩ := h
      have e1 := eq_of_beq h1
      subst e1
      cases tg with
      | Tuple elts kk tpos =>
        exact ⟨(pi_enA (glB_ok c h2) (t.nb c (by decide +kernel)) (pa_cons (chE_ok t a sc fl _ Wx X h3 c).pe pa_nil (star_cons h4 _ _)) (star_cons h4 _ _)).imp fun σ H R q => rd_enum c.c q, by simp⟩
      | _ => simp [isTupE] at h5
    · cases h
  | .dic _, sc, fl, tg, e, Wx, X, h, c => by simp [chI] at h
  | .comb _ _, sc, fl, tg, e, Wx, X, h, c => by simp [chI] at h
end
end Mi
end
section
set_option Elab.async false
set_option linter.all false
set_option maxRecDepth 100000
set_option maxHeartbeats 2000000
/-! statements: the rules by readings -/
namespace Mi
open PySem L2 PyProof.Rows RZ
def noComp : PySem.Expr → Bool
  | .ListComp _ _ _ _ => false
  | .SetComp _ _ _ _ => false
  | .DictComp _ _ _ _ _ => false
  | _ => true
theorem swap_no {e : PySem.Expr} (h : noComp e = true) (t : Option PySem.Expr) (l : Nat) (env : PySem.Env) : swapsWith e t l env = pure false := by
  cases e <;> first | rfl | (simp [noComp] at h)
def noNm : PySem.Expr → Bool
  | .Name _ _ => false
  | _ => true
theorem swap_tg {t : PySem.Expr} (h : noNm t = true) (e : PySem.Expr) (l : Nat) (env : PySem.Env) : swapsWith e (some t) l env = pure false := by
  cases t <;> first | (cases e <;> rfl) | (simp [noNm] at h)
structure StX (G : Gd) (k : Nat) (Wx : WX) (N : List Str) (sc : Scope) (fl : Str → Bool) (X : Cx) : Prop where
  e : CxE G k Wx N sc fl X
  kd : sc.kind = .function
  pas : PassesOwn (model X.prog X.w) X.A X.env X.xe
  hs : X.stack = X.env :: X.outer
  hf : X.env.frame = some X.env.locals
section
variable {G : Gd} {T : Ck} {kc : Nat} {Wx : WX} {N : List Str} {sc : Scope} {fl : Str → Bool} {X : Cx} {call : Nat → List D → Sto → Res D} {e e1 e2 e3 : PySem.Expr} {f f1 f2 f3 : Env → Sto → Res D} {pos : Pos}
theorem st_ex (c : StX G (kc + 1) Wx N sc fl X) (h : PE X e (rdE G Wx f)) (hn : noComp e = true) : PS X (.Expr e pos) (rdS G Wx fun e S => (f e S).bind fun _ S1 => .ok (.nx e) S1) :=
  (ps_expr h (swap_no hn _ _ _)).imp fun De σ H q => rd_then (g := fun _ e S1 => .ok (.nx e) S1) q fun W S e d v H1 si sl r po => po.ok (v := .inl σ) si sl
theorem st_ret (h : PE X e (rdE G Wx f)) : PS X (.Return (some e) pos) (rdS G Wx fun e S => (f e S).bind fun d S1 => .ok (.rt d) S1) :=
  (ps_ret h).imp fun De σ H q => rd_then (g := fun d e S1 => .ok (.rt d) S1) q fun W S e d v H1 si sl r po => po.ok (v := .inr v) si r
theorem st_retn : PS X (.Return none pos) (rdS G Wx fun _ S => .ok (.rt .non) S) :=
  ps_retN.imp fun De σ H ⟨W, S, e, si, sl, po⟩ => po.ok (v := .inr .non) si (by simp [ROut, RepV])
theorem st_pas : PS X (.Pass pos) (rdS G Wx fun e S => .ok (.nx e) S) := ps_pass.imp fun De σ H q => rd_next q
theorem st_set (c : StX G (kc + 1) Wx N sc fl X) {i : Nat} {y : Str} {py : Pos} (h : PE X e (rdE G Wx f)) (hN : N[i]? = some y) (hl : L2.Loc sc y) (hf : X.fn y = true ∨ sc.names.lookup y = some .local) (hsw : swapsWith e (some (.Name y py)) pos.line X.env = pure false) :
    PS X (.Assign [.Name y py] e pos) (rdS G Wx fun e S => (f e S).bind fun d S1 => if i < e.length then .ok (.nx (e.set i (some d))) S1 else .stuck) :=
  (ps_set (by rw [c.e.c.cN]; exact c.e.c.cnd) (by rw [c.e.c.cN]; exact hN) (by rw [c.e.c.csc]; exact hl) h hsw (by rw [c.e.c.csc]; exact hf)).imp fun De σ H q =>
    rd_then (g := fun d e S1 => if i < e.length then .ok (.nx (e.set i (some d))) S1 else .stuck) q fun W S e d v H1 si sl r po => by
      split at po
      · exact po.ok (v := .inl (σ.set i (some v))) si (sl.set r)
      · exact False.elim po
theorem st_setLc (c : StX G (kc + 1) Wx N sc fl X) {m : Bool} {t : Tg} {fw : Env → Sto → Res Wk} {fc : Env → Sto → Res Bool} {fx : Env → Sto → Res D} {elt tg iter : PySem.Expr} {ifs : List PySem.Expr} {scope : Scope} {cpos : Pos} {i : Nat} {y : Str} {py : Pos}
    (hi : PI X tg iter (rdI G Wx fw)) (ok : blkC N sc scope (ownOf N t) = true)
    (hg : ∀ X', CxE G (kc + 1) W0 N (relS scope sc) (flB scope) X' → PG X' tg (rdG G t) ∧ PTs X' ifs (rdT G W0 fc) ∧ PE X' elt (rdE G W0 fx)) (hs : noSet iter = true) (hck : ∀ e S w S1, fw e S = .ok w S1 → w.ck S1 = true ∧ w.lk = none)
    (hN : N[i]? = some y) (hy : sc.names.lookup y = some .local) (hl : (py.line == cpos.line) = true) (ha : (scope.names.any fun (n, k) => n == y && (k == .local || k == .cell)) = false) :
    PS X (.Assign [.Name y py] (.ListComp elt [⟨tg, iter, ifs, 0⟩] scope cpos) pos) (rdS G Wx fun e S => ((fw e S).bind fun w S1 => ((mapR (lcStep t t.own e fc fx) w.ck w.xs (lockO true S1 w.lk)).nox).bind fun ys S2 => newL m ys (lockO false S2 w.lk)).bind fun d S1 => if i < e.length then .ok (.nx (e.set i (some d))) S1 else .stuck) := by
  refine (ps_setLc (own := ownOf N t) (i := i) c.e.c.calm (by rw [c.e.c.cN]; exact c.e.c.cnd) (by rw [c.e.c.cN]; exact hN) (by rw [c.e.c.csc]; exact hy) (sw_true (by rw [c.e.c.csc]; exact c.kd) (by rw [c.e.c.csc]; exact hy) hl ha) hi (by rw [c.e.c.cN, c.e.c.csc]; exact blkOk_by ok) (fun s H C cl fp => (hg _ (c.e.blk s H C cl fp scope)).1) (fun s H C cl fp => (hg _ (c.e.blk s H C cl fp scope)).2.1) (fun s H C cl fp => (hg _ (c.e.blk s H C cl fp scope)).2.2) (no_fold hs _)).imp fun De σ H q => ?_
  refine lc_rd (m := m) (own_snd t) hck (rd_then (g := fun d e S1 => if i < e.length then .ok (.nx (e.set i (some d))) S1 else .stuck) q fun W S e d v H1 si sl r po => ?_)
  split at po
  · exact po.ok (v := .inl (σ.set i (some v))) si (sl.set r)
  · exact False.elim po
theorem st_setLcD (c : StX G (kc + 1) Wx N sc fl X) {P : Pg} {a : Ex} {m : Bool} {t : Tg} {fc : Env → Sto → Res Bool} {fx : Env → Sto → Res D} {elt tg iter : PySem.Expr} {ifs : List PySem.Expr} {scope : Scope} {cpos : Pos} {i : Nat} {y : Str} {py : Pos}
    (ha : pureX a = true) (he : PE X iter (rdE G Wx (ev P call a))) (ok : blkC N sc scope (ownOf N t) = true)
    (hg : ∀ X', CxE G (kc + 1) W0 N (relS scope sc) (flB scope) X' → PG X' tg (rdG G t) ∧ PTs X' ifs (rdT G W0 fc) ∧ PE X' elt (rdE G W0 fx)) (hs : noSet iter = true)
    (hN : N[i]? = some y) (hy : sc.names.lookup y = some .local) (hl : (py.line == cpos.line) = true) (hn : (scope.names.any fun (n, k) => n == y && (k == .local || k == .cell)) = false) :
    PS X (.Assign [.Name y py] (.ListComp elt [⟨tg, iter, ifs, 0⟩] scope cpos) pos) (rdS G Wx fun e S => ((walk P call (.dic a) e S).bind fun w S1 => ((mapR (lcStep t t.own e fc fx) w.ck w.xs (lockO true S1 w.lk)).nox).bind fun ys S2 => newL m ys (lockO false S2 w.lk)).bind fun d S1 => if i < e.length then .ok (.nx (e.set i (some d))) S1 else .stuck) := by
  refine (ps_lock (ps_setLc (own := ownOf N t) (i := i) c.e.c.calm (by rw [c.e.c.cN]; exact c.e.c.cnd) (by rw [c.e.c.cN]; exact hN) (by rw [c.e.c.csc]; exact hy) (sw_true (by rw [c.e.c.csc]; exact c.kd) (by rw [c.e.c.csc]; exact hy) hl hn) ((pi_keys he).imp fun σ H R q => rd_keys q) (by rw [c.e.c.cN, c.e.c.csc]; exact blkOk_by ok) (fun s H C cl fp => (hg _ (c.e.blk s H C cl fp scope)).1) (fun s H C cl fp => (hg _ (c.e.blk s H C cl fp scope)).2.1) (fun s H C cl fp => (hg _ (c.e.blk s H C cl fp scope)).2.2) (no_fold hs _))).imp fun De σ H q => ?_
  have := rd_then (g := fun d e S1 => if i < e.length then .ok (.nx (e.set i (some d))) S1 else .stuck) (Q := fun v H' => De.nx (σ.set i (some v)) H') q fun W S e d v H1 si sl r po => (by
    split at po
    · exact po.ok (v := .inl (σ.set i (some v))) si (sl.set r)
    · exact False.elim po)
  exact rd_dic (m := m) (own_snd t) ha this
theorem st_setDq (c : StX G (kc + 1) Wx N sc fl X) {k : Bool} {t : Tg} {fw : Env → Sto → Res Wk} {fc : Env → Sto → Res Bool} {fx fy : Env → Sto → Res D} {ke ve tg iter : PySem.Expr} {ifs : List PySem.Expr} {scope : Scope} {cpos : Pos} {i : Nat} {y : Str} {py : Pos}
    (hi : PI X tg iter (rdI G Wx fw)) (ok : blkC N sc scope (ownOf N t) = true)
    (hg : ∀ X', CxE G (kc + 1) W0 N (relS scope sc) (flB scope) X' → PG X' tg (rdG G t) ∧ PTs X' ifs (rdT G W0 fc) ∧ PE X' ke (rdE G W0 fx) ∧ PE X' ve (rdE G W0 fy)) (hs : noSet iter = true) (hck : ∀ e S w S1, fw e S = .ok w S1 → w.ck S1 = true ∧ w.lk = none)
    (hN : N[i]? = some y) (hy : sc.names.lookup y = some .local) (sw : swapsWith (.DictComp ke ve [⟨tg, iter, ifs, 0⟩] scope cpos) (some (.Name y py)) pos.line X.env = pure true) :
    PS X (.Assign [.Name y py] (.DictComp ke ve [⟨tg, iter, ifs, 0⟩] scope cpos) pos) (rdS G Wx fun e S => ((fw e S).bind fun w S1 => ((mapK (dcStep k t t.own e fc fx fy) w.ck w.xs [] (lockO true S1 w.lk)).nox).bind fun kvs S2 => newD k kvs (lockO false S2 w.lk)).bind fun d S1 => if i < e.length then .ok (.nx (e.set i (some d))) S1 else .stuck) := by
  refine (ps_setDq (own := ownOf N t) (i := i) (dk0_new k) c.e.c.hu c.e.c.calm (by rw [c.e.c.cN]; exact c.e.c.cnd) hi (by rw [c.e.c.cN, c.e.c.csc]; exact blkOk_by ok) (fun s H C cl fp => (hg _ (c.e.blk s H C cl fp scope)).1) (fun s H C cl fp => (hg _ (c.e.blk s H C cl fp scope)).2.1) (fun s H C cl fp => (hg _ (c.e.blk s H C cl fp scope)).2.2.1) (fun s H C cl fp => (hg _ (c.e.blk s H C cl fp scope)).2.2.2) (no_fold hs _) (by rw [c.e.c.cN]; exact hN) (by rw [c.e.c.csc]; exact hy) sw).imp fun De σ H q => ?_
  refine dq_rd (own_snd t) hck (rd_then (g := fun d e S1 => if i < e.length then .ok (.nx (e.set i (some d))) S1 else .stuck) q fun W S e d v H1 si sl r po => ?_)
  split at po
  · exact po.ok (v := .inl (σ.set i (some v))) si (sl.set r)
  · exact False.elim po
def notTup : PySem.Expr → Bool
  | .Tuple _ _ _ => false
  | _ => true
theorem swst_no {e : PySem.Expr} (h : notTup e = true) (t : PySem.Expr) (env : PySem.Env) : swappedStores [t] e env = pure none := by
  cases e with
  | Tuple _ _ _ => simp [notTup] at h
  | _ => cases t <;> rfl
theorem swst_tg {t : PySem.Expr} (h : notTup t = true) (hl : ∀ es p, t ≠ .List es p) (e : PySem.Expr) (env : PySem.Env) : swappedStores [t] e env = pure none := by
  cases t with
  | Tuple _ _ _ => simp [notTup] at h
  | List es p => exact absurd rfl (hl es p)
  | _ => cases e <;> rfl
/-- a target with a name that is no plain local -/
def cellT (sc : Scope) : PySem.Expr → Bool
  | .Tuple ts _ _ => ts.any fun t => match t with
    | .Name x _ => !(sc.names.lookup x == some NameKind.local)
    | _ => true
  | _ => false
theorem fm_short {α β : Type} {f : α → Option β} : ∀ {ts : List α}, (ts.any fun t => (f t).isNone) = true → (ts.filterMap f).length < ts.length
  | [], h => by simp at h
  | t :: ts, h => by
    have hle := List.length_filterMap_le f ts
    rw [List.any_cons, Bool.or_eq_true] at h
    rw [List.filterMap_cons]
    cases e : f t with
    | none => simp only [List.length_cons]; omega
    | some b =>
      rw [e] at h
      have := fm_short (h.resolve_left (by simp))
      simp only [List.length_cons]; omega
theorem swst_cell {tg e : PySem.Expr} {env : PySem.Env} (h : cellT env.scope tg = true) : swappedStores [tg] e env = pure none := by
  unfold cellT at h
  split at h
  · rename_i ts k p
    cases e with
    | Tuple vs k2 p2 =>
      unfold swappedStores
      dsimp only
      split
      · rfl
      · split
        · rfl
        · generalize hL : List.filterMap _ _ = L
          have hl : L.length < ts.length := by
            rw [← hL]
            refine fm_short ?_
            rw [List.any_eq_true] at h ⊢
            obtain ⟨t, ht, hx⟩ := h
            refine ⟨t, ht, ?_⟩
            have kx : ∀ z, env.kindOf z = env.scope.names.lookup z := fun _ => rfl
            cases t with
            | Name x q =>
              dsimp only at hx ⊢
              rw [Bool.not_eq_true'] at hx
              rw [kx, hx]; rfl
            | _ => rfl
          rw [if_pos (by simp; left; omega)]
    | _ => rfl
  · cases h
theorem st_sett (c : StX G (kc + 1) Wx N sc fl X) {t : Tg} {tg : PySem.Expr} (h : PE X e (rdE G Wx f)) (hg : PG X tg (rdG G t)) (hn : noNm tg = true) (hs : noStar tg = true) (ht : swappedStores [tg] e X.env = pure none) :
    PS X (.Assign [tg] e pos) (rdS G Wx fun e S => (f e S).bind fun d S1 => lift ((asT t d e).map .nx) S1) :=
  (ps_asg h hg (swap_tg hn _ _ _) ht (by rw [ass_cons hs]; rfl)).imp fun De σ H q => rd_then (g := fun d e S1 => lift ((asT t d e).map .nx) S1) q fun W S e d v H1 si sl r po => by
    obtain ⟨o, eo, po⟩ := po.lift
    obtain ⟨e', he, rfl⟩ := Option.map_eq_some_iff.mp eo
    exact ⟨W, S, e, d, e', si, sl, r, he, fun σ' sl' _ => po.ok (v := .inl σ') si sl'⟩
theorem st_satt (c : StX G (kc + 1) Wx N sc fl X) (ko : KOk G) {i : Nat} {x : Str} {ap : Pos} (hx : G.nm i = x) (ha : PE X e1 (rdE G Wx f1)) (h : PE X e (rdE G Wx f)) :
    PS X (.Assign [.Attribute e1 x ap] e pos) (rdS G Wx fun e S => (f e S).bind fun d S1 => (f1 e S1).bind fun o S2 => (setA G.M S2 o i d).bind fun _ S3 => .ok (.nx e) S3) := by
  subst hx
  refine (ps_fld ha h (swap_tg rfl _ _ _)).imp fun De σ H q => rd_then (g := fun d e S1 => (f1 e S1).bind fun o S2 => (setA G.M S2 o i d).bind fun _ S3 => .ok (.nx e) S3) q fun W S e d v H1 si sl r po => ?_
  refine ⟨W, S, e, si, sl, (Post.bind (R := fun W' d v => RepV G W' d v) po).mono fun x H2 ⟨W2, S2, o, t2, s2, r2, _, po2⟩ => ?_⟩
  have po3 := (Post.bind (R := fun _ (_ : Unit) (_ : Unit) => True) po2).mono (Q' := fun _ H3 => De.nx σ H3) fun u H3 ⟨W3, S3, _, t3, s3, _, _, po3⟩ => po3.ok (v := .inl σ) s3 ((sl.stp t2).stp t3)
  obtain ⟨a, C, dx, fs, k1, k2, k3, k4, k5, k6⟩ := setA_run ko s2 r2 (t2.rep r) po3
  exact ⟨a, C, dx, fs, k1, k2, by rw [c.e.c.cK]; exact k3, by rw [c.e.c.cK]; exact k4, k5, k6⟩
theorem ass_sub {i : PySem.Expr} (h : plainIx i = true) (o : PySem.Expr) (p : Pos) (env : PySem.Env) (v : Value) : assign (.Subscript o i p) env v = (do
    let ov ← holding [v] (eval o env)
    let iv ← holding [v, ov] (eval i env)
    standAt p
    holding [v, ov, iv] (setItem ov iv v)
    release [v, ov, iv] []) := by
  cases i <;> first | rfl | (simp [plainIx] at h)
theorem st_sidx (c : StX G (kc + 1) Wx N sc fl X) {sp : Pos} (hp : plainIx e2 = true) (h : PE X e (rdE G Wx f)) (h1 : PE X e1 (rdE G Wx f1)) (h2 : PE X e2 (rdE G Wx f2)) :
    PS X (.Assign [.Subscript e1 e2 sp] e pos) (rdS G Wx fun e S => (f e S).bind fun d S1 => (f1 e S1).bind fun o S2 => (f2 e S2).bind fun j S3 => (setI S3 o j d).bind fun _ S4 => .ok (.nx e) S4) := by
  refine (ps_asg h (pg_sub h1 h2 (set_ok (Wx := Wx) c.e.c) (ass_sub hp _ _ _)) (swap_tg (t := .Subscript e1 e2 sp) rfl e pos.line X.env) (swst_tg rfl (fun _ _ z => by cases z) _ _) rfl).imp fun De σ H q => rd_then (g := fun d e S1 => (f1 e S1).bind fun o S2 => (f2 e S2).bind fun j S3 => (setI S3 o j d).bind fun _ S4 => .ok (.nx e) S4) q fun W S e d v H1 si sl r po => ?_
  refine ⟨W, S, e, si, sl, (Post.bind (R := fun W' d v => RepV G W' d v) po).mono fun x H2 ⟨W2, S2, o, t2, s2, r2, _, po2⟩ => ?_⟩
  refine ⟨W2, S2, e, s2, sl.stp t2, (Post.bind (R := fun W' d v => RepV G W' d v) po2).mono fun y H3 ⟨W3, S3, j, t3, s3, r3, _, po3⟩ => ?_⟩
  refine ⟨W3, S3, o, j, d, s3, t3.rep r2, r3, t3.rep (t2.rep r), (Post.bind (R := fun _ (_ : Unit) (_ : Unit) => True) po3).mono fun u H4 ⟨W4, S4, _, t4, s4, _, _, po4⟩ => ?_⟩
  exact po4.ok (v := .inl σ) s4 (((sl.stp t2).stp t3).stp t4)
theorem st_sidx2 (c : StX G (kc + 1) Wx N sc fl X) {sp sp2 tp : Pos} {kk : Nat} {e3 e4 : PySem.Expr} {f3 f4 : Env → Sto → Res D} (hp : plainIx e2 = true) (hp2 : plainIx e4 = true) (h : PE X e (rdE G Wx f)) (h1 : PE X e1 (rdE G Wx f1)) (h2 : PE X e2 (rdE G Wx f2)) (h3 : PE X e3 (rdE G Wx f3)) (h4 : PE X e4 (rdE G Wx f4)) :
    PS X (.Assign [.Tuple [.Subscript e1 e2 sp, .Subscript e3 e4 sp2] kk tp] e pos) (rdS G Wx fun e S => (f e S).bind fun d S1 => set2R d fun u v => (f1 e S1).bind fun o S2 => (f2 e S2).bind fun k S3 => (setI S3 o k u).bind fun _ S4 => (f3 e S4).bind fun o' S5 => (f4 e S5).bind fun l S6 => (setI S6 o' l v).bind fun _ S7 => .ok (.nx e) S7) := by
  have g := pg_tup (X := X) (k := kk) (pos := tp) (n := 2) c.e.c.calm (pgs_cons (pg_sub (pos := sp) h1 h2 (set_ok (Wx := Wx) c.e.c) (ass_sub hp _ _ _)) (pgs_cons (pg_sub (pos := sp2) h3 h4 (set_ok (Wx := Wx) c.e.c) (ass_sub hp2 _ _ _)) pgs_nil rfl) rfl) rfl rfl
  refine (ps_asg h g (swap_tg (t := .Tuple [.Subscript e1 e2 sp, .Subscript e3 e4 sp2] kk tp) rfl e pos.line X.env) (swst_cell rfl) rfl).imp fun De σ H q => rd_then (g := fun d e S1 => set2R d fun u v => (f1 e S1).bind fun o S2 => (f2 e S2).bind fun k S3 => (setI S3 o k u).bind fun _ S4 => (f3 e S4).bind fun o' S5 => (f4 e S5).bind fun l S6 => (setI S6 o' l v).bind fun _ S7 => .ok (.nx e) S7) q fun W S e d v H1 si sl r po => ?_
  unfold set2R at po
  split at po
  · rename_i u w
    simp only [RepV] at r
    obtain ⟨a, vs, rfl, hF, t⟩ := r
    simp only [RepVs] at t
    obtain ⟨v1, vr, rfl, r1, v2, vr2, rfl, r2, rfl⟩ := t
    refine ⟨a, [v1, v2], rfl, by rw [c.e.c.cK]; exact sqt_up si.sub hF, rfl, v1, [v2], rfl, ?_⟩
    refine ⟨W, S, e, si, sl, (Post.bind (R := fun W' d v => RepV G W' d v) po).mono fun x H2 ⟨W2, S2, o, t2, s2, q2, _, po2⟩ => ?_⟩
    refine ⟨W2, S2, e, s2, sl.stp t2, (Post.bind (R := fun W' d v => RepV G W' d v) po2).mono fun y H3 ⟨W3, S3, j, t3, s3, q3, _, po3⟩ => ?_⟩
    refine ⟨W3, S3, o, j, u, s3, t3.rep q2, q3, t3.rep (t2.rep r1), (Post.bind (R := fun _ (_ : Unit) (_ : Unit) => True) po3).mono fun _ H4 ⟨W4, S4, _, t4, s4, _, _, po4⟩ => ?_⟩
    refine ⟨v2, [], rfl, ?_⟩
    refine ⟨W4, S4, e, s4, ((sl.stp t2).stp t3).stp t4, (Post.bind (R := fun W' d v => RepV G W' d v) po4).mono fun x5 H5 ⟨W5, S5, o5, t5, s5, q5, _, po5⟩ => ?_⟩
    refine ⟨W5, S5, e, s5, (((sl.stp t2).stp t3).stp t4).stp t5, (Post.bind (R := fun W' d v => RepV G W' d v) po5).mono fun y6 H6 ⟨W6, S6, j6, t6, s6, q6, _, po6⟩ => ?_⟩
    refine ⟨W6, S6, o5, j6, w, s6, t6.rep q5, q6, t6.rep (t5.rep (t4.rep (t3.rep (t2.rep r2)))), (Post.bind (R := fun _ (_ : Unit) (_ : Unit) => True) po6).mono fun _ H7 ⟨W7, S7, _, t7, s7, _, _, po7⟩ => ?_⟩
    exact ⟨rfl, po7.ok (v := .inl σ) s7 ((((((sl.stp t2).stp t3).stp t4).stp t5).stp t6).stp t7)⟩
  · exact False.elim po
/-- an augmented operator on ints -/
def iopB : BOp → Bool
  | .add => true | .sub => true | .mul => true
  | _ => false
theorem iop_ok (c : CxOk G (kc + 1) Wx N sc X) {o : BOp} (h : iopB o = true) : PIp X (bopOf o) fun x y H Q => ∃ W S i j, Sim G W S H ∧ x = .int i ∧ y = .int j ∧ Post G W H Wx (fun W' d v => RepV G W' d v) (binD o false S (.int i) (.int j)) Q := by
  intro pins s σ H x y v u Q I rx ry ⟨W, S, i, j, si, ex, ey, po⟩
  subst ex ey
  cases o with
  | add => exact iop_add pins s σ H _ _ v u Q I rx ry ⟨i, j, rfl, rfl, po.ok si (by simp [RepV])⟩
  | sub => exact iop_sub pins s σ H _ _ v u Q I rx ry ⟨i, j, rfl, rfl, po.ok si (by simp [RepV])⟩
  | mul =>
    unfold binD at po
    dsimp only at po
    split at po
    · rename_i hc
      exact iop_mul pins s σ H _ _ v u Q I rx ry ⟨i, j, rfl, rfl, hc, po.ok si (by simp [RepV])⟩
    · exact False.elim po
  | _ => cases h
theorem st_aug (c : StX G (kc + 1) Wx N sc fl X) {i : Nat} {y : Str} {py : Pos} {o : BOp} (h : PE X e (rdE G Wx f)) (hN : N[i]? = some y) (hl : L2.Loc sc y) (hf : X.fn y = true ∨ sc.names.lookup y = some .local) (ho : iopB o = true) :
    PS X (.AugAssign (.Name y py) (bopOf o) e pos) (rdS G Wx fun e S => match e[i]? with
    | some (some u) => (f e S).bind fun d S1 => match u, d with
      | .int _, .int _ => (binD o false S1 u d).bind fun r S2 => .ok (.nx (e.set i (some r))) S2
      | _, _ => .stuck
    | _ => .stuck) := by
  refine (ps_aug (by rw [c.e.c.cN]; exact c.e.c.cnd) (by rw [c.e.c.cN]; exact hN) (by rw [c.e.c.csc]; exact hl) h (iop_ok (Wx := Wx) c.e.c ho) (by rw [c.e.c.csc]; exact hf)).imp fun De σ H ⟨W, S, e, si, sl, po⟩ => ?_
  dsimp only at po
  split at po
  · rename_i u hu
    obtain ⟨x, g1, g2⟩ := sl.at_ i u hu
    refine ⟨x, g1, W, S, e, si, sl, (Post.bind (R := fun W' d v => RepV G W' d v) po).mono fun y H1 ⟨W1, S1, d, t1, s1, r1, _, po1⟩ => ?_⟩
    have g2' := t1.rep g2
    split at po1
    · simp only [RepV] at g2' r1
      refine ⟨W1, S1, _, _, s1, g2', r1, (Post.bind (R := fun W' d v => RepV G W' d v) po1).mono fun z H2 ⟨W2, S2, r, t2, s2, r2, _, po2⟩ => ?_⟩
      exact po2.ok (v := .inl (σ.set i (some z))) s2 (((sl.stp t1).stp t2).set r2)
    · exact False.elim po1
  · exact False.elim po
theorem aug_store {i : PySem.Expr} (h : plainIx i = true) (ov iv new : Value) : augStore i ov iv new = (do holding [new, ov, iv] (setItem ov iv new); release [new, ov, iv] []; pure .next) := by
  cases i <;> first | rfl | (simp [plainIx] at h)
theorem st_augi (c : StX G (kc + 1) Wx N sc fl X) {sp : Pos} {o : BOp} (h1 : PE X e1 (rdE G Wx f1)) (h2 : PE X e2 (rdE G Wx f2)) (h : PE X e (rdE G Wx f)) (ho : iopB o = true) (hp : plainIx e2 = true) :
    PS X (.AugAssign (.Subscript e1 e2 sp) (bopOf o) e pos) (rdS G Wx fun e S => (f1 e S).bind fun p S1 => (f2 e S1).bind fun j S2 => (getI S2 p j).bind fun u S3 => (f e S3).bind fun d S4 => match u, d with
    | .int _, .int _ => (binD o false S4 u d).bind fun r S5 => (setI S5 p j r).bind fun _ S6 => .ok (.nx e) S6
    | _, _ => .stuck) := by
  refine (ps_augS h1 h2 (get_ok (Wx := Wx) c.e.c) h (iop_ok (Wx := Wx) c.e.c ho) (set_ok (Wx := Wx) c.e.c) (aug_store hp)).imp fun De σ H ⟨W, S, e, si, sl, po⟩ => ?_
  refine ⟨W, S, e, si, sl, (Post.bind (R := fun W' d v => RepV G W' d v) po).mono fun x H1 ⟨W1, S1, p, t1, s1, r1, _, po1⟩ => ?_⟩
  refine ⟨W1, S1, e, s1, sl.stp t1, (Post.bind (R := fun W' d v => RepV G W' d v) po1).mono fun y H2 ⟨W2, S2, j, t2, s2, r2, _, po2⟩ => ?_⟩
  refine ⟨W2, S2, p, j, s2, t2.rep r1, r2, (Post.bind (R := fun W' d v => RepV G W' d v) po2).mono fun z H3 ⟨W3, S3, u, t3, s3, r3, _, po3⟩ => ?_⟩
  refine ⟨W3, S3, e, s3, ((sl.stp t1).stp t2).stp t3, (Post.bind (R := fun W' d v => RepV G W' d v) po3).mono fun w H4 ⟨W4, S4, d, t4, s4, r4, _, po4⟩ => ?_⟩
  have r3' := t4.rep r3
  split at po4
  · simp only [RepV] at r3' r4
    refine ⟨W4, S4, _, _, s4, r3', r4, (Post.bind (R := fun W' d v => RepV G W' d v) po4).mono fun q H5 ⟨W5, S5, r, t5, s5, r5, _, po5⟩ => ?_⟩
    refine ⟨W5, S5, p, j, r, s5, t5.rep (t4.rep (t3.rep (t2.rep r1))), t5.rep (t4.rep (t3.rep r2)), r5, (Post.bind (R := fun _ (_ : Unit) (_ : Unit) => True) po5).mono fun u H6 ⟨W6, S6, _, t6, s6, _, _, po6⟩ => ?_⟩
    exact po6.ok (v := .inl σ) s6 ((((((sl.stp t1).stp t2).stp t3).stp t4).stp t5).stp t6)
  · exact False.elim po4
theorem st_nil : PSs X [] (rdS G Wx fun e S => .ok (.nx e) S) := pss_nil.imp fun De σ H q => rd_next q
theorem st_cons {s : Stmt} {ss : List Stmt} {g1 g2 : Env → Sto → Res Out} (h1 : PS X s (rdS G Wx g1)) (h2 : PSs X ss (rdS G Wx g2)) : PSs X (s :: ss) (rdS G Wx fun e S => (g1 e S).bind fun o S1 => match o with
    | .nx e1 => g2 e1 S1
    | .rt d => .ok (.rt d) S1) := (pss_cons h1 h2).imp fun De σ H q => rd_seq q
theorem st_if {a b : List Stmt} {g1 g2 : Env → Sto → Res Out} {fc : Env → Sto → Res Bool} (h : PT X e (rdT G Wx fc)) (h1 : PSs X a (rdS G Wx g1)) (h2 : PSs X b (rdS G Wx g2)) : PS X (.If e a b pos) (rdS G Wx fun e S => (fc e S).bind fun k S1 => if k then g1 e S1 else g2 e S1) :=
  (ps_if h h1 h2).imp fun De σ H q => rd_if q
theorem st_while (c : StX G (kc + 1) Wx N sc fl X) {a : List Stmt} {g1 : Env → Sto → Res Out} {fc : Env → Sto → Res Bool} {n : Nat} (h : PT X e (rdT G Wx fc)) (h1 : PSs X a (rdS G Wx g1)) : PS X (.While e a [] pos) (rdS G Wx fun e S => whileR fc g1 n e S) :=
  (ps_while c.pas h h1).imp fun De σ H q => rd_while q
theorem st_for (c : StX G (kc + 1) Wx N sc fl X) {a : List Stmt} {g1 : Env → Sto → Res Out} {t : Tg} {tg : PySem.Expr} {fw : Env → Sto → Res Wk} (hi : PI X tg e (rdI G Wx fw)) (hg : PG X tg (rdG G t)) (h1 : PSs X a (rdS G Wx g1)) (hs : noSet e = true) (hck : ∀ e S w S1, fw e S = .ok w S1 → w.ck S1 = true ∧ w.lk = none) :
    PS X (.For tg e a [] pos) (rdS G Wx fun e S => (fw e S).bind fun w S1 => if w.lk.isSome then .stuck else forR (foStep t g1) w.ck w.xs e S1) :=
  (ps_for c.pas c.e.c.calm hi hg h1 (no_fold hs _)).imp fun De σ H q => rd_for hck q
end
theorem swst_two {x y : Str} {px py pt pt2 : Pos} {kt k2} {a b : PySem.Expr} {env : PySem.Env} (hk : env.scope.kind = .function) (hx : env.scope.names.lookup x = some .local) (hy : env.scope.names.lookup y = some .local) (hxy : x ≠ y) (hl : (py.line == px.line) = true)
    (h1 : noStar a = true) (h2 : noStar b = true) (h3 : [a, b].all (foldedForSure 8) = false) (h4 : [a, b].all (constantsAlone 8) = false) :
    swappedStores [.Tuple [.Name x px, .Name y py] kt pt] (.Tuple [a, b] k2 pt2) env = pure (some [x, y]) := by
  have hb : env.blockKind = .function := by unfold Env.blockKind; rw [hk]; rfl
  have kx : env.kindOf x = some .local := hx
  have ky : env.kindOf y = some .local := hy
  have hn : ([x, y].eraseDups.length != [x, y].length) = false := by
    have hyx : (y == x) = false := by simpa using fun e => hxy e.symm
    simp [List.eraseDups, List.eraseDupsBy, List.eraseDupsBy.loop, hyx]
  unfold swappedStores
  simp only [hb, kx, ky, h3, h4, List.any_cons, List.any_nil]
  rw [if_neg (by simp)]
  rw [if_neg (by
    rw [Bool.not_eq_true, Bool.or_eq_false_iff, Bool.or_eq_false_iff]
    exact ⟨by cases a <;> first | rfl | (simp [noStar] at h1), by cases b <;> first | rfl | (simp [noStar] at h2), rfl⟩)]
  generalize hL : List.filterMap _ _ = L
  have e : L = [x, y] := by
    rw [← hL]
    have hl' : py.line = px.line := eq_of_beq hl
    simp [List.filterMap_cons, kx, ky, Expr.pos, hl']
  subst e
  have hyx : (y == x) = false := by simpa using fun e => hxy e.symm
  simp [List.eraseDups, List.eraseDupsBy, List.eraseDupsBy.loop, hyx]
section
variable {G : Gd} {T : Ck} {kc : Nat} {Wx : WX} {N : List Str} {sc : Scope} {fl : Str → Bool} {X : Cx} {pos : Pos}
theorem st_par (c : StX G (kc + 1) Wx N sc fl X) {i j : Nat} {x y : Str} {px py pt pt2 : Pos} {kt k2} {a b : PySem.Expr} {fs : Env → Sto → Res (List D)} (h : PA X [a, b] (rdA G Wx fs)) (hN : N[i]? = some x) (hN2 : N[j]? = some y) (hij : i ≠ j) (hxy : x ≠ y)
    (hx : sc.names.lookup x = some .local) (hy : sc.names.lookup y = some .local) (hl : (py.line == px.line) = true) (h1 : noStar a = true) (h2 : noStar b = true) (h3 : [a, b].all (foldedForSure 8) = false) (h4 : [a, b].all (constantsAlone 8) = false) :
    PS X (.Assign [.Tuple [.Name x px, .Name y py] kt pt] (.Tuple [a, b] k2 pt2) pos) (rdS G Wx fun e S => (fs e S).bind fun ds S1 => if ds.length = [i, j].length ∧ [i, j].all (· < e.length) then .ok (.nx (([i, j].zip ds).foldl (fun e p => e.set p.1 (some p.2)) e)) S1 else .stuck) := by
  have hk : X.env.scope.kind = .function := by rw [c.e.c.csc]; exact c.kd
  have kx : X.env.scope.names.lookup x = some .local := by rw [c.e.c.csc]; exact hx
  have ky : X.env.scope.names.lookup y = some .local := by rw [c.e.c.csc]; exact hy
  refine (ps_par c.e.c.calm (by rw [c.e.c.cN]; exact c.e.c.cnd) (by rw [c.e.c.cN]; exact hN) (by rw [c.e.c.cN]; exact hN2) hij kx ky h (swst_two hk kx ky hxy hl h1 h2 h3 h4)).imp fun De σ H ⟨W, S, e, si, sl, po⟩ => ?_
  refine ⟨W, S, e, si, sl, (Post.bind (R := fun W' d v => RepVs G W' d v) po).mono fun vs H1 ⟨W1, S1, ds, t1, s1, r1, _, po1⟩ => ?_⟩
  split at po1
  · rename_i hc
    match ds, hc.1, r1, po1 with
    | [d1, d2], _, r1, po1 =>
      simp only [RepVs] at r1
      obtain ⟨v1, vs1, rfl, q1, v2, vs2, rfl, q2, rfl⟩ := r1
      exact ⟨v1, v2, rfl, po1.ok (v := .inl ((σ.set i (some v1)).set j (some v2))) s1 (((sl.stp t1).set q1).set q2)⟩
  · exact False.elim po1
theorem swst_three {x y z : Str} {px py pz pt pt2 : Pos} {kt k2} {a b d : PySem.Expr} {env : PySem.Env} (hk : env.scope.kind = .function) (hx : env.scope.names.lookup x = some .local) (hy : env.scope.names.lookup y = some .local) (hz : env.scope.names.lookup z = some .local) (hxy : x ≠ y) (hxz : x ≠ z) (hyz : y ≠ z) (hl : (py.line == px.line) = true) (hl2 : (pz.line == px.line) = true)
    (h1 : [a, b, d].all noStar = true) (h3 : [a, b, d].all (foldedForSure 8) = false) (h4 : [a, b, d].all (constantsAlone 8) = false) :
    swappedStores [.Tuple [.Name x px, .Name y py, .Name z pz] kt pt] (.Tuple [a, b, d] k2 pt2) env = pure (some [x, y, z]) := by
  have hb : env.blockKind = .function := by unfold Env.blockKind; rw [hk]; rfl
  have kx : env.kindOf x = some .local := hx
  have ky : env.kindOf y = some .local := hy
  have kz : env.kindOf z = some .local := hz
  have hyx : (y == x) = false := by simpa using fun e => hxy e.symm
  have hzx : (z == x) = false := by simpa using fun e => hxz e.symm
  have hzy : (z == y) = false := by simpa using fun e => hyz e.symm
  simp only [List.all_cons, List.all_nil, Bool.and_true, Bool.and_eq_true] at h1
  unfold swappedStores
  simp only [hb, kx, ky, kz, h3, h4, List.any_cons, List.any_nil]
  rw [if_neg (by simp)]
  rw [if_neg (by
    rw [Bool.not_eq_true, Bool.or_eq_false_iff, Bool.or_eq_false_iff, Bool.or_eq_false_iff]
    exact ⟨by cases a <;> first | rfl | (simp [noStar] at h1), by cases b <;> first | rfl | (simp [noStar] at h1), by cases d <;> first | rfl | (simp [noStar] at h1), rfl⟩)]
  generalize hL : List.filterMap _ _ = L
  have e : L = [x, y, z] := by
    rw [← hL]
    have hl' : py.line = px.line := eq_of_beq hl
    have hl2' : pz.line = px.line := eq_of_beq hl2
    simp [List.filterMap_cons, kx, ky, kz, Expr.pos, hl', hl2']
  subst e
  simp [List.eraseDups, List.eraseDupsBy, List.eraseDupsBy.loop, hyx, hzx, hzy]
theorem st_par3 (c : StX G (kc + 1) Wx N sc fl X) {i j l : Nat} {x y z : Str} {px py pz pt pt2 : Pos} {kt k2} {a b d : PySem.Expr} {fs : Env → Sto → Res (List D)} (h : PA X [a, b, d] (rdA G Wx fs)) (hN : N[i]? = some x) (hN2 : N[j]? = some y) (hN3 : N[l]? = some z) (hij : i ≠ j) (hil : i ≠ l) (hjl : j ≠ l) (hxy : x ≠ y) (hxz : x ≠ z) (hyz : y ≠ z)
    (hx : sc.names.lookup x = some .local) (hy : sc.names.lookup y = some .local) (hz : sc.names.lookup z = some .local) (hl : (py.line == px.line) = true) (hl2 : (pz.line == px.line) = true) (h1 : [a, b, d].all noStar = true) (h3 : [a, b, d].all (foldedForSure 8) = false) (h4 : [a, b, d].all (constantsAlone 8) = false) :
    PS X (.Assign [.Tuple [.Name x px, .Name y py, .Name z pz] kt pt] (.Tuple [a, b, d] k2 pt2) pos) (rdS G Wx fun e S => (fs e S).bind fun ds S1 => if ds.length = [i, j, l].length ∧ [i, j, l].all (· < e.length) then .ok (.nx (([i, j, l].zip ds).foldl (fun e p => e.set p.1 (some p.2)) e)) S1 else .stuck) := by
  have hk : X.env.scope.kind = .function := by rw [c.e.c.csc]; exact c.kd
  have kx : X.env.scope.names.lookup x = some .local := by rw [c.e.c.csc]; exact hx
  have ky : X.env.scope.names.lookup y = some .local := by rw [c.e.c.csc]; exact hy
  have kz : X.env.scope.names.lookup z = some .local := by rw [c.e.c.csc]; exact hz
  refine (ps_par3 c.e.c.calm (by rw [c.e.c.cN]; exact c.e.c.cnd) (by rw [c.e.c.cN]; exact hN) (by rw [c.e.c.cN]; exact hN2) (by rw [c.e.c.cN]; exact hN3) hij hil hjl kx ky kz h (swst_three hk kx ky kz hxy hxz hyz hl hl2 h1 h3 h4)).imp fun De σ H ⟨W, S, e, si, sl, po⟩ => ?_
  refine ⟨W, S, e, si, sl, (Post.bind (R := fun W' d v => RepVs G W' d v) po).mono fun vs H1 ⟨W1, S1, ds, t1, s1, r1, _, po1⟩ => ?_⟩
  split at po1
  · rename_i hc
    match ds, hc.1, r1, po1 with
    | [d1, d2, d3], _, r1, po1 =>
      simp only [RepVs] at r1
      obtain ⟨v1, vs1, rfl, q1, v2, vs2, rfl, q2, v3, vs3, rfl, q3, rfl⟩ := r1
      exact ⟨v1, v2, v3, rfl, po1.ok (v := .inl (((σ.set i (some v1)).set j (some v2)).set l (some v3))) s1 ((((sl.stp t1).set q1).set q2).set q3)⟩
  · exact False.elim po1
end
end Mi
end
section
set_option Elab.async false
set_option linter.all false
set_option maxRecDepth 100000
set_option maxHeartbeats 2000000
/-! try with several named clauses -/
namespace Mi
open PySem L2 PyProof.Rows RZ
abbrev Suite := Value × Nat × (Addr → Value → Option Addr → TS)
/-- what named clauses wish of an exception, one after the other -/
def wNamed (K : PySem.W.Frag) (Wout : WX) (De : Ends) (nl : Nat) : List Suite → WX
  | [] => Wout
  | (c, i, ts) :: r => fun cls d σ H => ∃ b, PySem.W.exmOne K cls c = some b ∧
    (b = true → σ.length = nl → ∀ a, H a = none → ts a cls d { nx := fun σ' H' => De.nx (σ'.set i none) H', rt := De.rt, bk := fun σ' H' => De.bk (σ'.set i none) H', ct := fun σ' H' => De.ct (σ'.set i none) H' } (σ.set i (some (.ref a))) H) ∧
    (b = false → wNamed K Wout De nl r cls d σ H)
inductive HdsN (X : Cx) : List ExceptHandler → List Suite → Prop
  | nil : HdsN X [] []
  | cons {x n : Str} {c : Value} {i : Nat} {ts : Addr → Value → Option Addr → TS} {b₀ : Stmt} {suite : List Stmt} {np pos' : Pos} {hds : List ExceptHandler} {l : List Suite} (hc : Names X x c) (hi : X.N[i]? = some n) (hn : X.env.kindOf n = some .local)
      (hsu : ∀ (a : Addr) (oe : Obj) (cls : Value) (d : Option Addr) (pn : List (Addr × Obj)), Zc cls d oe → (∃ vs, oe.data = .fields vs) → PSs (X.suite a ((a, oe) :: pn)) (b₀ :: suite) (ts a cls d)) (r : HdsN X hds l) :
      HdsN X (.ExceptHandler (some (.Name x np)) (some n) (b₀ :: suite) pos' :: hds) ((c, i, ts) :: l)
section
variable {X : Cx} {body : List Stmt} {h₀ : ExceptHandler} {hds : List ExceptHandler} {l : List Suite} {pos : Pos} {tb : WX → TS} {Wout : WX}
theorem ps_try_named (hN : X.N.Nodup) (hs : X.stack = X.env :: X.outer) (hf : X.env.frame = some X.env.locals) (tk : Takes X Wout)
    (hb : ∀ (W : WX) (pn : List (Addr × Obj)) (xe : Value → Shared → Prop), Takes (X.tr pn xe) W → PassesOwn (model X.prog X.w) X.A X.env xe → PSs (X.tr pn xe) body (tb W))
    (hh : HdsN X (h₀ :: hds) l) : PS X (.Try body (h₀ :: hds) [] [] pos) (fun De σ H => tb (wNamed X.K Wout De X.N.length l) De σ H) := by
  refine ⟨fun pins s σ H De I h => ?_⟩
  have ok := I.ok
  have hfr : X.A.frames = some (X.env :: X.outer) := by rw [ok.frames, hs]
  refine wpAny_Try_except ?_
  refine wpAny_mono ((hb (wNamed X.K Wout De X.N.length l) (X.pn ++ pins) (fun e s₁ => wpAny (model X.prog X.w) X.A (noteFrame e X.env) (fun _ s₂ => wpAny (model X.prog X.w) X.A (setFlight e none) (fun _ s₃ =>
    wpAny (model X.prog X.w) X.A (handleBy e X.env (h₀ :: hds)) (SP X pins De) X.xe s₃) X.xe s₂) X.xe s₁) (fun u s' xx => ?_) PassesOwn.looking).run [] s σ H De (I.toTry _) h) (fun f s1 hsp => ?_) (fun e s1 he => he)
  · obtain ⟨a, B, sI, pins', σ', H', cls, d, rfl, J', nb, up, sky, na, os, ag, w⟩ := xx
    have J : L2.Inv X pins σ' H' sI := J'.ofTry ok
    have sky' : Sky B (X.env :: X.outer) a (Zc cls d) X.env.locals s'.heap := by rw [← hs]; exact sky
    show wpAny (model X.prog X.w) X.A (noteFrame (.ref a) X.env) _ _ _
    refine Sky.land Zc.steady hfr hf sky' fun h3 fl3 up3 => ?_
    have J3 : L2.Inv X pins σ' H' { s' with heap := h3 } := J.landed nb fl3.1 (up.trans up3) os ag
    obtain ⟨oe3, vs3, he3, hz3, hd3⟩ := fl3.there
    have notFr : ∀ {h : Heap} {o : Obj} {vs : Array Value}, h.FunFrames B (X.env :: X.outer) → h.get? a = some o → o.data = .fields vs → a ∉ frs (X.env :: X.outer) := fun {h o vs} ff e dd hm => by
      obtain ⟨_, o', e', hnf⟩ := ff.mem hm
      rw [e] at e'; cases e'
      exact hnf _ dd
    have nfr := notFr fl3.2.2.1 he3 hd3
    have nL : a ≠ X.env.locals := fun z => nfr (List.mem_filterMap.mpr ⟨X.env, List.mem_cons_self, by rw [hf, z]⟩)
    have nF : a ∉ X.fs := fun hm => by
      obtain ⟨e, he, q⟩ := List.mem_filterMap.mp hm
      exact nfr (List.mem_filterMap.mpr ⟨e, List.mem_cons_of_mem _ he, q⟩)
    have S3 := J3.suite he3 hd3 na nL nF
    have go : ∀ {hds' : List ExceptHandler} {l' : List Suite}, HdsN X hds' l' → wNamed X.K Wout De X.N.length l' cls d σ' H' →
        wpAny (model X.prog X.w) X.A (handleBy (.ref a) X.env hds') (SP X pins De) X.xe { s' with heap := h3 } := by
      intro hds' l' hk
      induction hk with
      | nil =>
        intro w
        refine wpAny_handleBy_nil ?_
        obtain ⟨k1, k2, k3, oe, vs, Tt, oT, ts', he, hz, hd, h1, hr⟩ := id fl3
        unfold PySem.passOn
        refine wpAny_bind (wpAny_field he hd h1 ?_)
        rw [if_neg (show ¬ ((Value.ref Tt == Value.none) = true) from by simp)]
        have fin : wpAny (model X.prog X.w) X.A (setFlight (.ref a) X.env.frame) (fun _ s4 => wpAny (model X.prog X.w) X.A (throw (.ref a) : Sem Flow) (SP X pins De) X.xe s4) X.xe { s' with heap := h3 } := by
          rw [hf]
          refine HandSPX.setFlight_upZ fl3 fun h4 hh4 up4 => wpAny_throw (tk _ _ ?_)
          exact ⟨a, B, sI, pins, σ', H', cls, d, rfl, J, nb, (up.trans up3).trans up4, .inr (.inr (by rw [hs]; exact hh4)), na, os, ag, w⟩
        first
          | exact wpAny_bind (wpAny_pure (wpAny_bind fin))
          | exact wpAny_bind fin
      | @cons x n c i ts b₀ suite np pos' hds2 l2 hc hi hln hsu r ih =>
        intro w
        obtain ⟨b, hb1, hyes, hno⟩ := w
        have hloc : L2.Loc X.env.scope n := .inl hln
        refine wpAny_handleBy_cons (codeAny_handlers_test ?_) (by intro q; cases q)
        have LT : PySem.W.Looks (model X.prog X.w) h3 (typeOf (.ref a)) cls := fun A Q E s k q => wpAny_typeOf_ref (k _ _ he3) (by rw [hz3.1]; exact q)
        have LM := PySem.W.exm_one (M := model X.prog X.w) (J3.kIn) LT hb1
        have test : ∀ {Q : Value → Shared → Prop} {E : Value → Shared → Prop}, Q c { s' with heap := h3 } → wpAny (model X.prog X.w) (X.A.mark (some (.ref a))) (eval (.Name x np) X.env) Q E { s' with heap := h3 } := fun {Q E} q => by
          obtain ⟨hg, hdbg, hm | ⟨hm, hv, hnn⟩⟩ := hc
          · exact ld_glob (X := X.suite a ((a, oe3) :: (X.pn ++ pins))) S3 hg hm q hdbg
          · exact ld_blt (X := X.suite a ((a, oe3) :: (X.pn ++ pins))) S3 hg hm hv q hnn hdbg
        refine test (LM.here ?_)
        cases b with
        | true =>
          refine codeAny_handlers_suite_as ?_
          refine HandSPX.lands_againZ fl3 fun h4 fl4 up4 => ?_
          have J4 : L2.Inv X pins σ' H' { s' with heap := h4 } := J.landed nb fl4.1 ((up.trans up3).trans up4) os ag
          obtain ⟨oe4, vs4, he4, hz4, hd4⟩ := fl4.there
          have S4 := J4.suite he4 hd4 na nL nF
          refine store_ok (X := X.suite a ((a, oe4) :: (X.pn ++ pins))) (v := .ref a) S4 hN hi hloc rfl (fun s5 S5 => ?_) (.inr hln)
          refine wpAny_mono ((hsu a oe4 cls d (X.pn ++ pins) hz4 ⟨_, hd4⟩).run [] s5 _ H' _ S5 (hyes rfl J.len a na)) (fun f s6 hsp => ?_) (fun _ _ z => False.elim z)
          have end_ : ∀ {σ6 : L2.St} {H6 : Hp} {Q : Shared → Prop}, L2.Inv (X.suite a ((a, oe4) :: (X.pn ++ pins))) [] σ6 H6 s6 → (∀ s7, L2.Inv X pins (σ6.set i none) H6 s7 → Q s7) →
              wpAny (model X.prog X.w) X.A (do bindName X.env n .none; unbindBehindTheSuite X.env n pos') (fun _ s7 => Q s7) X.xe s6 := fun {σ6 H6 Q} S6 hq => gone_ok (S6.unsuite ok) hN hi hln hq
          cases f with
          | next =>
            obtain ⟨σ6, H6, S6, q6⟩ := hsp
            exact end_ S6 fun s7 J7 => ⟨_, _, J7, q6⟩
          | brk =>
            obtain ⟨σ6, H6, S6, q6⟩ := hsp
            exact end_ S6 fun s7 J7 => ⟨_, _, J7, q6⟩
          | cont =>
            obtain ⟨σ6, H6, S6, q6⟩ := hsp
            exact end_ S6 fun s7 J7 => ⟨_, _, J7, q6⟩
          | ret u =>
            obtain ⟨v6, σ6, H6, S6, r6, q6⟩ := hsp
            exact end_ S6 fun s7 J7 => ⟨_, _, _, J7, r6, q6⟩
        | false =>
          show wpAny _ X.A (handleBy (.ref a) X.env hds2) _ _ _
          exact ih (hno rfl)
    exact go hh w
  · cases f with
    | next =>
      obtain ⟨σ', H', J', q⟩ := hsp
      exact wpAny_execs_nil ⟨σ', H', J'.ofTry ok, q⟩
    | brk =>
      obtain ⟨σ', H', J', q⟩ := hsp
      exact ⟨σ', H', J'.ofTry ok, q⟩
    | cont =>
      obtain ⟨σ', H', J', q⟩ := hsp
      exact ⟨σ', H', J'.ofTry ok, q⟩
    | ret u =>
      obtain ⟨v, σ', H', J', r, q⟩ := hsp
      exact ⟨v, σ', H', J'.ofTry ok, r, q⟩
end
end Mi
end
section
set_option Elab.async false
set_option linter.all false
set_option maxRecDepth 100000
set_option maxHeartbeats 2000000
/-! errors; the checker of statements -/
namespace Mi
open PySem L2 PyProof.Rows RZ
/-- what a clause's suite returns -/
def tSuG (G : Gd) (i : Nat) (w : Option (List Nat)) (f : Str) : Addr → Value → Option Addr → TS := fun a cls d De σ H => σ[i]? = some (some (.ref a)) ∧ ∃ (C dd : Addr) (fs : List (Str × V)) (v : V), XfC G.K C ∧ PySem.W.findIn G.K (.ref C) f = some none ∧ cls = .ref C ∧ d = some dd ∧ H dd = some (.xd fs) ∧ fs.lookup f = some v ∧ (match w with
  | none => De.rt v H
  | some s => ∀ p, H p = none → De.rt (.ref p) (upd H p (.tup [.str (sV s), v])))
/-- a class of errors, as the tables say -/
def errC (T : Ck) (c : Nat) : Bool := match T.M.cls c with
  | some C => C.init.isNone
  | none => false
def suB (T : Ck) (h : Hd) (n : Str) (b : Stmt) : Bool := match h.word with
  | none => match b with
    | .Return (some (.Attribute (.Name m _) f _)) _ => m == n && decide (T.flds[h.fld]? = some f)
    | _ => false
  | some w => match b with
    | .Return (some (.Tuple [.Constant (.str s) _ _, .Attribute (.Name m _) f _] _ _)) _ => decide (s = sV w) && w.all (· < 1114112) && m == n && decide (T.flds[h.fld]? = some f)
    | _ => false
def chH (T : Ck) (N : List Str) (sc : Scope) : List Hd → List ExceptHandler → Bool
  | [], [] => true
  | h :: hs, e :: es => (match e with
    | .ExceptHandler (some (.Name x _)) (some n) [b] _ => (decide (T.cls[h.cls]? = some x) && errC T h.cls) && glB sc x && nmB x && lclB sc n && nmB n && decide (N[N.idxOf n]? = some n) && suB T h n b
    | _ => false) && chH T N sc hs es
  | _, _ => false
/-- of errors -/
structure XOk (G : Gd) (T : Ck) : Prop where
  cm : ∀ c x, T.cls[c]? = some x → G.mg x = some (.ref (G.cA c))
  xf : ∀ c C f, G.M.cls c = some C → C.exf = some f → XfC G.K (G.cA c) ∧ PySem.W.findIn G.K (.ref (G.cA c)) (G.nm f) = some none
  exm : ∀ c C f c' x', G.M.cls c = some C → C.exf = some f → T.cls[c']? = some x' → errC T c' = true → PySem.W.exmOne G.K (.ref (G.cA c)) (.ref (G.cA c')) = some ((G.M.sub c).contains c')
  fl : ∀ i x, T.flds[i]? = some x → G.nm i = x
section
variable {G : Gd} {T : Ck} {kc : Nat} {Wx : WX} {N : List Str} {sc : Scope} {fl : Str → Bool} {X : Cx} {call : Nat → List D → Sto → Res D}
theorem su_ok (x : XOk G T) (c : StX G (kc + 1) Wx N sc fl X) {h : Hd} {n : Str} {i : Nat} {b : Stmt} (hb : suB T h n b = true) (hN : N[i]? = some n) (hl : lclB sc n = true) (hn : nmB n = true) (a : Addr) (oe : Obj) (cls : Value) (d : Option Addr) (pn : List (Addr × Obj)) (hz : Zc cls d oe) (hf : ∃ vs, oe.data = .fields vs) :
    PSs (X.suite a ((a, oe) :: pn)) [b] (tSuG G i h.word (G.nm h.fld) a cls d) := by
  obtain ⟨n1, n2, _⟩ := nmB_ok hn
  have pn' : ∀ (p : Pos), PE (X.suite a ((a, oe) :: pn)) (.Name n p) (tVar i) := fun p => pe_var (by show X.N[i]? = _; rw [c.e.c.cN]; exact hN) (by show Vis X.env.scope n; rw [c.e.c.csc]; exact .inl (lclB_ok hl)) n1 n2
  have at_ : ∀ (C : Addr) (p pos : Pos), XfC G.K C → PySem.W.findIn G.K (.ref C) (G.nm h.fld) = some none → PE (X.suite a ((a, oe) :: pn)) (.Attribute (.Name n p) (G.nm h.fld) pos) (tXf a cls d C (G.nm h.fld) (tVar i)) := fun C p pos h1 h2 =>
    pe_xf (by rw [c.e.c.cK]; exact h1) (by rw [c.e.c.cK]; exact h2) hz hf (pn' p) rfl
  unfold suB at hb
  cases hw : h.word with
  | none =>
    rw [hw] at hb
    dsimp only at hb
    split at hb
    · simp only [Bool.and_eq_true, decide_eq_true_eq] at hb
      have e1 := eq_of_beq hb.1
      subst e1
      have e2 := x.fl _ _ hb.2
      subst e2
      refine pss_cons (t := tSuG G i none (G.nm h.fld) a cls d) (u := tNext) ⟨fun pins s σ H De I hh => ?_⟩ pss_nil |>.imp fun De σ H q => q
      obtain ⟨q1, C, dd, fs, v, q2, q3, q4, q5, q6, q7, q8⟩ := hh
      exact (ps_ret (at_ C _ _ q2 q3)).run pins s σ H De I ⟨.ref a, q1, rfl, q4, dd, fs, v, q5, q6, q7, q8⟩
    · cases hb
  | some w =>
    rw [hw] at hb
    dsimp only at hb
    split at hb
    · simp only [Bool.and_eq_true, decide_eq_true_eq] at hb
      have e1 := eq_of_beq hb.1.2
      subst e1
      have e2 := x.fl _ _ hb.2
      subst e2
      have e3 := hb.1.1.1
      subst e3
      refine pss_cons (t := tSuG G i (some w) (G.nm h.fld) a cls d) (u := tNext) ⟨fun pins s σ H De I hh => ?_⟩ pss_nil |>.imp fun De σ H q => q
      obtain ⟨q1, C, dd, fs, v, q2, q3, q4, q5, q6, q7, q8⟩ := hh
      refine (ps_ret (pe_tup (pa_cons (pe_str (x := sV w)) (pa_cons (at_ C _ _ q2 q3) pa_nil)))).run pins s σ H De I ?_
      exact ⟨.ref a, q1, rfl, q4, dd, fs, v, q5, q6, q7, by rw [sizeLine_eq]; show (2 : Nat) ≤ 16777216; decide, q8⟩
    · cases hb
/-- the suites of the clauses -/
def suites (G : Gd) (N : List Str) : List Hd → List ExceptHandler → List Suite
  | h :: hs, e :: es => (match e with
    | .ExceptHandler _ (some n) _ _ => (.ref (G.cA h.cls), N.idxOf n, tSuG G (N.idxOf n) h.word (G.nm h.fld))
    | _ => (.none, 0, fun _ _ _ _ _ _ => False)) :: suites G N hs es
  | _, _ => []
theorem chH_ok (x : XOk G T) (c : StX G (kc + 1) Wx N sc fl X) : ∀ (hs : List Hd) (es : List ExceptHandler), chH T N sc hs es = true → HdsN X es (suites G N hs es)
  | [], [], _ => .nil
  | [], _ :: _, h => by simp [chH] at h
  | _ :: _, [], h => by simp [chH] at h
  | h :: hs, e :: es, hh => by
    simp only [chH, Bool.and_eq_true] at hh
    obtain ⟨h1, h2⟩ := hh
    have ih := chH_ok x c hs es h2
    split at h1
    · rename_i y _ n b _
      simp only [Bool.and_eq_true, decide_eq_true_eq] at h1
      obtain ⟨⟨⟨⟨⟨⟨⟨k1, k0⟩, k2⟩, k3⟩, k4⟩, k5⟩, k6⟩, k7⟩ := h1
      simp only [suites]
      refine .cons ⟨glB_ok c.e k2, (nmB_ok k3).1, .inl (by rw [c.e.c.cmg]; exact x.cm _ _ k1)⟩ (by rw [c.e.c.cN]; exact k6) (by show X.env.scope.names.lookup n = _; rw [c.e.c.csc]; exact lclB_ok k4) (fun a oe cls d pn hz hf => su_ok x c k7 k6 k4 k5 a oe cls d pn hz hf) ih
    · cases h1
theorem words_ok : ∀ {hs : List Hd} {es : List ExceptHandler}, chH T N sc hs es = true → ∀ h ∈ hs, ∀ w, h.word = some w → sOk w
  | h :: hs, e :: es, hh, h', hm, w, hw => by
    simp only [chH, Bool.and_eq_true] at hh
    rcases List.mem_cons.mp hm with rfl | hm
    · have h1 := hh.1
      split at h1
      · simp only [Bool.and_eq_true] at h1
        have h7 := h1.2
        unfold suB at h7
        rw [hw] at h7
        dsimp only at h7
        split at h7
        · simp only [Bool.and_eq_true, List.all_eq_true, decide_eq_true_eq] at h7
          exact h7.1.1.2
        · cases h7
      · cases h1
    · exact words_ok hh.2 h' hm w hw
theorem named_ok (x : XOk G T) {De : Ends} {W : Wd} {H : Hp} {c : Nat} {v : D} {S1 : Sto} {C : ClI} {f : Nat} (hC : G.M.cls c = some C) (hf : C.exf = some f) : ∀ (hs : List Hd) (es : List ExceptHandler), chH T N sc hs es = true → (∀ h ∈ hs, ∀ w, h.word = some w → sOk w) → Post G W H Wx (ROut G) (triR G.M hs (.exc c v S1)) (ends De) →
    ∀ W' H' u σ dd, Stp W H W' H' → Sim G W' S1 H' → RepV G W' v u → H' dd = some (.xd [(G.nm f, u)]) → wNamed G.K Wx De N.length (suites G N hs es) (.ref (G.cA c)) (some dd) σ H'
  | [], [], _, _, po, W', H', u, σ, dd, t, s, r, hd => po W' H' u f σ dd t s r (by rw [hC]; exact hf) hd
  | [], _ :: _, h, _, _, _, _, _, _, _, _, _, _, _ => by simp [chH] at h
  | _ :: _, [], h, _, _, _, _, _, _, _, _, _, _, _ => by simp [chH] at h
  | h :: hs, e :: es, hh, hw, po, W', H', u, σ, dd, t, s, r, hd => by
    simp only [chH, Bool.and_eq_true] at hh
    obtain ⟨h1, h2⟩ := hh
    split at h1
    · rename_i y _ n b _
      simp only [Bool.and_eq_true, decide_eq_true_eq] at h1
      obtain ⟨⟨⟨⟨⟨⟨⟨k1, k0⟩, k2⟩, k3⟩, k4⟩, k5⟩, k6⟩, k7⟩ := h1
      simp only [suites, wNamed]
      refine ⟨_, x.exm c C f h.cls _ hC hf k1 k0, fun hb hl a ha => ?_, fun hb => ?_⟩
      · have hlt : N.idxOf n < σ.length := by rw [hl]; exact (List.getElem?_eq_some_iff.mp k6).1
        refine ⟨by rw [List.getElem?_set_self hlt], G.cA c, dd, _, u, (x.xf c C f hC hf).1, ?_, rfl, rfl, hd, ?_, ?_⟩
        · have e : f = h.fld := by
            unfold triR at po
            dsimp only at po
            unfold hdOf at po
            rw [if_pos hb] at po
            dsimp only at po
            split at po
            · rename_i q; rw [hC] at q; simp only [Option.bind_some, hf, Option.some.injEq] at q; exact q
            · exact False.elim po
          rw [← e]; exact (x.xf c C f hC hf).2
        · have e : f = h.fld := by
            unfold triR at po
            dsimp only at po
            unfold hdOf at po
            rw [if_pos hb] at po
            dsimp only at po
            split at po
            · rename_i q; rw [hC] at q; simp only [Option.bind_some, hf, Option.some.injEq] at q; exact q
            · exact False.elim po
          rw [e]; simp
        · unfold triR at po
          dsimp only at po
          unfold hdOf at po
          rw [if_pos hb] at po
          dsimp only at po
          split at po
          · split at po
            · rename_i w hw'
              rw [hw']
              dsimp only
              intro p hp
              have st := Stp.lay s (o := .tup [.str (sV w), u]) hp
              refine po _ _ (.inr (.ref p)) (t.trans st) (s.lay hp) ?_
              simp only [ROut, RepV]
              exact ⟨p, _, rfl, by show upd W'.F p _ p = _; rw [upd_same], (RepVs.one (st.rep r)).cons (by simp only [RepV]; exact ⟨trivial, hw h (by simp) w hw'⟩)⟩
            · rename_i hw'
              rw [hw']
              exact po W' H' (.inr u) t s r
          · exact False.elim po
      · refine named_ok x hC hf hs es h2 (fun h' hm => hw h' (by simp [hm])) ?_ W' H' u σ dd t s r hd
        have e : triR G.M (h :: hs) (.exc c v S1) = triR G.M hs (.exc c v S1) := by
          unfold triR
          simp only [hdOf]
          rw [if_neg (by rw [hb]; simp)]
        rw [← e]; exact po
    · cases h1
/-- within a try -/
theorem StX.tr (c : StX G (kc + 1) Wx N sc fl X) {W' : WX} {pn : List (Addr × Obj)} {xe : Value → Shared → Prop} (tk : Takes (X.tr pn xe) W') (hp : PassesOwn (model X.prog X.w) X.A X.env xe) : StX G (kc + 1) W' N sc fl (X.tr pn xe) :=
  ⟨⟨⟨c.e.c.cP, c.e.c.cw, c.e.c.cK, c.e.c.cmg, c.e.c.cb, c.e.c.cN, c.e.c.cnd, c.e.c.csc, c.e.c.calm, c.e.c.room, tk⟩, c.e.fn⟩, c.kd, hp, c.hs, c.hf⟩
theorem st_tri (x : XOk G T) (c : StX G (kc + 1) Wx N sc fl X) {body : List Stmt} {g : Env → Sto → Res Out} {hs : List Hd} {h0 : ExceptHandler} {es : List ExceptHandler} {pos : Pos} (hb : ∀ W' X', StX G (kc + 1) W' N sc fl X' → PSs X' body (rdS G W' g)) (hh : chH T N sc hs (h0 :: es) = true) :
    PS X (.Try body (h0 :: es) [] [] pos) (rdS G Wx fun e S => triR G.M hs (g e S)) := by
  have base := ps_try_named (pos := pos) (tb := fun W' => rdS G W' g) (by rw [c.e.c.cN]; exact c.e.c.cnd) c.hs c.hf c.e.c.tk (fun W' pn xe tk hp => hb W' _ (c.tr tk hp)) (chH_ok x c hs _ hh)
  refine base.imp fun De σ H ⟨W, S, e, si, sl, po⟩ => ⟨W, S, e, si, sl, ?_⟩
  dsimp only at po
  cases hg : g e S with
  | ok o S1 => rw [hg] at po; exact po
  | stuck => rw [hg] at po; exact po
  | exc cc v S1 =>
    rw [hg] at po
    intro W' H' u f σ' dd t s r ef hd
    obtain ⟨C, hC, hf⟩ := Option.bind_eq_some_iff.mp ef
    rw [c.e.c.cK, c.e.c.cN]
    exact named_ok x hC hf hs _ hh (words_ok hh) po W' H' u σ' dd t s r hd
end
end Mi
end
section
set_option Elab.async false
set_option linter.all false
set_option maxRecDepth 100000
set_option maxHeartbeats 4000000
/-! the checker of statements is right -/
namespace Mi
open PySem L2 PyProof.Rows RZ
theorem swap_lc {elt : PySem.Expr} {gs : List Comprehension} {scope : Scope} {cpos py : Pos} {y : Str} {l : Nat} {env : PySem.Env} (hk : env.scope.kind = .function) : swapsWith (.ListComp elt gs scope cpos) (some (.Name y py)) l env = pure (env.kindOf y == some .local && py.line == cpos.line && !(scope.names.any fun (n, k) => n == y && (k == .local || k == .cell))) := by
  have hb : env.blockKind = .function := by unfold Env.blockKind; rw [hk]; rfl
  unfold swapsWith
  simp only [hb, Expr.pos]
  rfl
def isLC : PySem.Expr → Bool
  | .ListComp _ _ _ _ => true
  | .DictComp _ _ _ _ _ => true
  | _ => false
def constT : PySem.Expr → Bool
  | .Tuple vs _ _ => vs.all (foldedForSure 8)
  | _ => false
def notFrz : Ex → Bool
  | .frz _ => false
  | .comp2 _ _ _ _ _ _ _ _ => false
  | _ => true
def hasExf (M : Pg) (c : Nat) : Bool := match M.cls c with
  | some C => C.exf.isSome
  | none => false
mutual
def chS (T : Ck) (N : List Str) (sc : Scope) (fl : Str → Bool) : St → Stmt → Bool
  | .ex x, s => match s with
    | .Expr e _ => chE T N x sc fl e && noComp e
    | _ => false
  | .set i x, s => match s with
    | .Assign [.Name y _] e _ => decide (N[i]? = some y) && locB sc y && (fl y || lclB sc y) && chE T N x sc fl e && (noComp e || isLC e) && notFrz x
    | _ => false
  | .sett t x, s => match s with
    | .Assign [tg] e _ => isTupE tg && chT N sc fl t tg && chE T N x sc fl e && (notTup e || cellT sc tg || constT e)
    | _ => false
  | .par is xs, s => match is, s with
    | [i, j], .Assign [.Tuple [.Name y p1, .Name z p2] _ _] (.Tuple [a, b] _ _) _ => decide (N[i]? = some y) && decide (N[j]? = some z) && decide (i ≠ j) && decide (y ≠ z) && lclB sc y && lclB sc z && (p2.line == p1.line) && chEs T N xs sc fl [a, b] && !([a, b].all (foldedForSure 8)) && !([a, b].all (constantsAlone 8))
    | [i, j, l], .Assign [.Tuple [.Name y p1, .Name z p2, .Name w p3] _ _] (.Tuple [a, b, d] _ _) _ => decide (N[i]? = some y) && decide (N[j]? = some z) && decide (N[l]? = some w) && decide (i ≠ j) && decide (i ≠ l) && decide (j ≠ l) && decide (y ≠ z) && decide (y ≠ w) && decide (z ≠ w) && lclB sc y && lclB sc z && lclB sc w && (p2.line == p1.line) && (p3.line == p1.line) && chEs T N xs sc fl [a, b, d] && !([a, b, d].all (foldedForSure 8)) && !([a, b, d].all (constantsAlone 8))
    | _, _ => false
  | .satt a f x, s => match s with
    | .Assign [.Attribute e1 n _] e _ => chE T N a sc fl e1 && decide (T.flds[f]? = some n) && chE T N x sc fl e
    | _ => false
  | .satt2 _ _ _ _ _, _ => false
  | .sidx a i x, s => match s with
    | .Assign [.Subscript e1 e2 _] e _ => chE T N a sc fl e1 && chE T N i sc fl e2 && plainIx e2 && chE T N x sc fl e
    | _ => false
  | .sidx2 a i b j x, s => match s with
    | .Assign [.Tuple [.Subscript e1 e2 _, .Subscript e3 e4 _] _ _] e _ => chE T N a sc fl e1 && chE T N i sc fl e2 && chE T N b sc fl e3 && chE T N j sc fl e4 && plainIx e2 && plainIx e4 && chE T N x sc fl e
    | _ => false
  | .aug i o x, s => match s with
    | .AugAssign (.Name y _) op e _ => opB o op && iopB o && decide (N[i]? = some y) && locB sc y && (fl y || lclB sc y) && chE T N x sc fl e
    | _ => false
  | .augi a i o x, s => match s with
    | .AugAssign (.Subscript e1 e2 _) op e _ => opB o op && iopB o && chE T N a sc fl e1 && chE T N i sc fl e2 && plainIx e2 && chE T N x sc fl e
    | _ => false
  | .cond c a b, s => match s with
    | .If e x y _ => chE T N c sc fl e && chSs T N sc fl a x && chSs T N sc fl b y
    | _ => false
  | .whil c b, s => match s with
    | .While e x [] _ => chE T N c sc fl e && chSs T N sc fl b x
    | _ => false
  | .fo t it b, s => match s with
    | .For tg iter x [] _ => chT N sc fl t tg && chI T N it false sc fl tg iter && noSet iter && chSs T N sc fl b x
    | _ => false
  | .ret x, s => match s with
    | .Return (some e) _ => chE T N x sc fl e
    | _ => false
  | .retn, s => match s with
    | .Return none _ => true
    | _ => false
  | .rais c x, s => match s with
    | .Raise (some (.Call (.Name y _) [e] [] _)) none _ => decide (T.cls[c]? = some y) && glB sc y && nmB y && hasExf T.M c && chE T N x sc fl e && noStar e
    | _ => false
  | .tri b hs, s => match s with
    | .Try body (h0 :: es) [] [] _ => chSs T N sc fl b body && chH T N sc hs (h0 :: es)
    | _ => false
  | .pas, s => match s with
    | .Pass _ => true
    | _ => false
def chSs (T : Ck) (N : List Str) (sc : Scope) (fl : Str → Bool) : Sts → List Stmt → Bool
  | .nil, ss => ss.isEmpty
  | .cons x xs, ss => match ss with
    | s :: ss => chS T N sc fl x s && chSs T N sc fl xs ss
    | [] => false
end
/-- an error that is made -/
structure RsOk (G : Gd) (T : Ck) (kc : Nat) : Prop where
  rs : ∀ c x C fld, T.cls[c]? = some x → G.M.cls c = some C → C.exf = some fld → ∀ (Wx : WX) (N : List Str) (sc : Scope) (fl : Str → Bool) (X : Cx), CxE G (kc + 1) Wx N sc fl X → ∀ (e : PySem.Expr) (te : TE) (p pos : Pos), noStar e = true → Gl X x → nmB x = true → PE X e te →
    PMk X (.Call (.Name x p) [e] [] pos) (fun σ H Q => te σ H fun y H1 => ∀ dd, H1 dd = none → Q (.ref (G.cA c)) (some dd) (upd H1 dd (.xd [(G.nm fld, y)])))
section
variable {G : Gd} {T : Ck} {kc : Nat} {N : List Str} {sc : Scope} {fl : Str → Bool} {call : Nat → List D → Sto → Res D}
theorem st_rais {Wx : WX} {X : Cx} (t : TOk G T call kc) (r : RsOk G T kc) (c : StX G (kc + 1) Wx N sc fl X) {ci : Nat} {C : ClI} {fld : Nat} {x : Str} {e : PySem.Expr} {f : Env → Sto → Res D} {p pos pos' : Pos} (h1 : T.cls[ci]? = some x) (hC : G.M.cls ci = some C) (hf : C.exf = some fld) (hs : noStar e = true) (hg : Gl X x) (hn : nmB x = true) (h : PE X e (rdE G Wx f)) :
    PS X (.Raise (some (.Call (.Name x p) [e] [] pos)) none pos') (rdS G Wx fun e S => (f e S).bind fun d S1 => .exc ci d S1) := by
  refine (ps_raise c.e.c.calm c.e.c.tk (r.rs ci x C fld h1 hC hf Wx N sc fl X c.e e _ p pos hs hg hn h)).imp fun De σ H q => rd_then (g := fun d e S1 => .exc ci d S1) q fun W S e d v H1 si sl r po => ?_
  intro dd hdd
  exact po W (upd H1 dd (.xd [(G.nm fld, v)])) v fld σ dd (Stp.other hdd) (si.other hdd) r (by rw [hC]; exact hf) upd_same
mutual
theorem chS_ok (t : TOk G T call kc) (x : XOk G T) (r : RsOk G T kc) : ∀ (st : St) (s : Stmt) (Wx : WX) (X : Cx), chS T N sc fl st s = true → StX G (kc + 1) Wx N sc fl X → PS X s (rdS G Wx (ex1 G.M call st))
  | .ex y, s, Wx, X, h, c => by
    simp only [chS] at h
    split at h
    · simp only [Bool.and_eq_true] at h
      exact st_ex c (chE_ok t y sc fl _ Wx X h.1 c.e).pe h.2
    · cases h
  | .set i y, s, Wx, X, h, c => by
    simp only [chS] at h
    split at h
    · rename_i z py e pos
      simp only [Bool.and_eq_true, decide_eq_true_eq, Bool.or_eq_true] at h
      obtain ⟨⟨⟨⟨⟨h1, h2⟩, h3⟩, h4⟩, h5⟩, h6⟩ := h
      have hf : X.fn z = true ∨ sc.names.lookup z = some .local := h3.elim (fun q => .inl (c.e.fn _ q)) fun q => .inr (lclB_ok q)
      have plain := fun (hsw : swapsWith e (some (.Name z py)) pos.line X.env = pure false) => st_set (pos := pos) (py := py) c (chE_ok t y sc fl _ Wx X h4 c.e).pe h1 (locB_ok h2) hf hsw
      rcases h5 with h5 | h5
      · exact plain (swap_no h5 _ _ _)
      · cases e with
        | ListComp elt gs scope cpos =>
          have hk : X.env.scope.kind = .function := by rw [c.e.c.csc]; exact c.kd
          have sw := swap_lc (elt := elt) (gs := gs) (scope := scope) (cpos := cpos) (py := py) (y := z) (l := pos.line) hk
          cases hb : (X.env.kindOf z == some .local && py.line == cpos.line && !(scope.names.any fun (n, k) => n == z && (k == .local || k == .cell))) with
          | false => rw [hb] at sw; exact plain sw
          | true =>
            simp only [Bool.and_eq_true, Bool.not_eq_true'] at hb
            obtain ⟨⟨b1, b2⟩, b3⟩ := hb
            have hz : sc.names.lookup z = some .local := by
              have : X.env.scope.names.lookup z = some .local := eq_of_beq b1
              rw [c.e.c.csc] at this; exact this
            cases y with
            | comp m xx tg it cs =>
              simp only [chE] at h4
              split at h4
              · rename_i _ tge iter ifs _ _ heq
                cases heq
                simp only [Bool.and_eq_true] at h4
                obtain ⟨⟨⟨⟨⟨k1, k2⟩, k3⟩, k4⟩, k5⟩, k6⟩ := h4
                have inner := fun X' c' => (⟨chT_ok c' tg _ k2, chC_ok t cs _ _ _ W0 X' k4 c', (chE_ok t xx _ _ _ W0 X' k1 c').pe⟩ : PG X' _ _ ∧ PTs X' _ _ ∧ PE X' _ _)
                have nd : (∀ a, it ≠ .dic a) → chI T N it false sc fl tge iter = true := fun hn => by
                  cases it with
                  | dic a => exact absurd rfl (hn a)
                  | _ => exact k3
                by_cases hd : ∃ a, it = .dic a
                · obtain ⟨a, rfl⟩ := hd
                  simp only [chI, Bool.and_eq_true] at k3
                  exact st_setLcD c k3.1.2 (chE_ok t a sc fl _ Wx X k3.2 c.e).pe k5 inner k6 h1 hz b2 b3
                · obtain ⟨i1, i2⟩ := chI_ok t it sc fl _ _ Wx X (nd fun a e => hd ⟨a, e⟩) c.e
                  exact st_setLc c i1 k5 inner k6 (fun e S w S1 q => walk_ck it e S w S1 i2 q) h1 hz b2 b3
              · cases h4
            | frz _ => simp [notFrz] at h6
            | comp2 _ _ _ _ _ _ _ _ => simp [notFrz] at h6
            | blt b m es =>
              cases b with
              | maxd => cases es with
                | nil => simp [chE] at h4
                | cons a es => cases es <;> simp [chE] at h4
              | dict => simp [chE] at h4
              | listzip => simp [chE] at h4
              | _ => simp [chE, callArgs] at h4
            | dct k ks vs => cases ks <;> cases vs <;> simp [chE] at h4
            | _ => simp [chE] at h4
        | DictComp ke ve gs scope cpos =>
          have hk : X.env.scope.kind = .function := by rw [c.e.c.csc]; exact c.kd
          have sw := sw_dq (ke := ke) (ve := ve) (gs := gs) (scp := scope) (cpos := cpos) (py := py) (y := z) (l := pos.line) hk
          cases hb : (X.env.kindOf z == some .local && py.line == cpos.line && !(scope.names.any fun (n, k) => n == z && (k == .local || k == .cell))) with
          | false => rw [hb] at sw; exact plain sw
          | true =>
            rw [hb] at sw
            simp only [Bool.and_eq_true, Bool.not_eq_true'] at hb
            obtain ⟨⟨b1, b2⟩, b3⟩ := hb
            have hz : sc.names.lookup z = some .local := by
              have : X.env.scope.names.lookup z = some .local := eq_of_beq b1
              rw [c.e.c.csc] at this; exact this
            cases y with
            | dcomp k xx yy tg it cs =>
              simp only [chE] at h4
              split at h4
              · rename_i _ _ tge iter ifs _ _ heq
                cases heq
                simp only [Bool.and_eq_true] at h4
                obtain ⟨⟨⟨⟨⟨⟨k1, k1b⟩, k2⟩, k3⟩, k4⟩, k5⟩, k6⟩ := h4
                obtain ⟨i1, i2⟩ := chI_ok t it sc fl _ _ Wx X k3 c.e
                exact st_setDq c i1 k5 (fun X' c' => ⟨chT_ok c' tg _ k2, chC_ok t cs _ _ _ W0 X' k4 c', (chE_ok t xx _ _ _ W0 X' k1 c').pe, (chE_ok t yy _ _ _ W0 X' k1b c').pe⟩) k6 (fun e S w S1 q => walk_ck it e S w S1 i2 q) h1 hz sw
              · cases h4
            | frz _ => simp [notFrz] at h6
            | blt b m es =>
              cases b with
              | maxd => cases es with
                | nil => simp [chE] at h4
                | cons a es => cases es <;> simp [chE] at h4
              | dict => simp [chE] at h4
              | listzip => simp [chE] at h4
              | _ => simp [chE, callArgs] at h4
            | dct k ks vs => cases ks <;> cases vs <;> simp [chE] at h4
            | _ => simp [chE] at h4
        | _ => simp [isLC] at h5
    · cases h
  | .sett tg y, s, Wx, X, h, c => by
    simp only [chS] at h
    split at h
    · simp only [Bool.and_eq_true] at h
      obtain ⟨⟨⟨h1, h2⟩, h3⟩, h4⟩ := h
      rename_i te e pos
      have hh : noNm te = true ∧ noStar te = true := by cases te <;> simp_all [isTupE, noNm, noStar]
      exact st_sett c (chE_ok t y sc fl _ Wx X h3 c.e).pe (chT_ok c.e tg _ h2) hh.1 hh.2 (by
        rw [Bool.or_eq_true, Bool.or_eq_true] at h4
        rcases h4 with (h4 | h4) | h4
        · exact swst_no h4 _ _
        · exact swst_cell (by rw [c.e.c.csc]; exact h4)
        · cases e with
          | Tuple vs k2 p2 =>
            cases te with
            | Tuple ts kt pt => exact swst_const h4
            | _ => simp [isTupE] at h1
          | _ => simp [constT] at h4)
    · cases h
  | .par is xs, s, Wx, X, h, c => by
    simp only [chS] at h
    split at h
    · simp only [Bool.and_eq_true, decide_eq_true_eq, Bool.not_eq_true'] at h
      obtain ⟨⟨⟨⟨⟨⟨⟨⟨⟨h1, h2⟩, h3⟩, h4⟩, h5⟩, h6⟩, h7⟩, h8⟩, h9⟩, h10⟩ := h
      obtain ⟨pa, ns, _⟩ := chEs_ok t xs sc fl _ Wx X h8 c.e
      simp only [List.all_cons, List.all_nil, Bool.and_true, Bool.and_eq_true] at ns
      exact st_par c pa h1 h2 h3 h4 (lclB_ok h5) (lclB_ok h6) h7 ns.1 ns.2 h9 h10
    · simp only [Bool.and_eq_true, decide_eq_true_eq, Bool.not_eq_true'] at h
      obtain ⟨⟨⟨⟨⟨⟨⟨⟨⟨⟨⟨⟨⟨⟨⟨⟨h1, h2⟩, h3⟩, h4⟩, h5⟩, h6⟩, h7⟩, h8⟩, h9⟩, h10⟩, h11⟩, h12⟩, h13⟩, h14⟩, h15⟩, h16⟩, h17⟩ := h
      obtain ⟨pa, ns, _⟩ := chEs_ok t xs sc fl _ Wx X h15 c.e
      exact st_par3 c pa h1 h2 h3 h4 h5 h6 h7 h8 h9 (lclB_ok h10) (lclB_ok h11) (lclB_ok h12) h13 h14 ns h16 h17
    · cases h
  | .satt a f y, s, Wx, X, h, c => by
    simp only [chS] at h
    split at h
    · simp only [Bool.and_eq_true, decide_eq_true_eq] at h
      exact st_satt c t.ko (t.fl _ _ h.1.2) (chE_ok t a sc fl _ Wx X h.1.1 c.e).pe (chE_ok t y sc fl _ Wx X h.2 c.e).pe
    · cases h
  | .satt2 _ _ _ _ _, s, Wx, X, h, c => by simp [chS] at h
  | .sidx a i y, s, Wx, X, h, c => by
    simp only [chS] at h
    split at h
    · simp only [Bool.and_eq_true] at h
      exact st_sidx c h.1.2 (chE_ok t y sc fl _ Wx X h.2 c.e).pe (chE_ok t a sc fl _ Wx X h.1.1.1 c.e).pe (chE_ok t i sc fl _ Wx X h.1.1.2 c.e).pe
    · cases h
  | .sidx2 a i b j y, s, Wx, X, h, c => by
    simp only [chS] at h
    split at h
    · simp only [Bool.and_eq_true] at h
      obtain ⟨⟨⟨⟨⟨⟨h1, h2⟩, h3⟩, h4⟩, h5⟩, h6⟩, h7⟩ := h
      exact st_sidx2 c h5 h6 (chE_ok t y sc fl _ Wx X h7 c.e).pe (chE_ok t a sc fl _ Wx X h1 c.e).pe (chE_ok t i sc fl _ Wx X h2 c.e).pe (chE_ok t b sc fl _ Wx X h3 c.e).pe (chE_ok t j sc fl _ Wx X h4 c.e).pe
    · cases h
  | .aug i o y, s, Wx, X, h, c => by
    simp only [chS] at h
    split at h
    · simp only [Bool.and_eq_true, decide_eq_true_eq, Bool.or_eq_true] at h
      obtain ⟨⟨⟨⟨⟨h1, h2⟩, h3⟩, h4⟩, h5⟩, h6⟩ := h
      rw [opB_ok h1]
      exact st_aug c (chE_ok t y sc fl _ Wx X h6 c.e).pe h3 (locB_ok h4) (h5.elim (fun q => .inl (c.e.fn _ q)) fun q => .inr (lclB_ok q)) h2
    · cases h
  | .augi a i o y, s, Wx, X, h, c => by
    simp only [chS] at h
    split at h
    · simp only [Bool.and_eq_true] at h
      obtain ⟨⟨⟨⟨⟨h1, h2⟩, h3⟩, h4⟩, h5⟩, h6⟩ := h
      rw [opB_ok h1]
      exact st_augi c (chE_ok t a sc fl _ Wx X h3 c.e).pe (chE_ok t i sc fl _ Wx X h4 c.e).pe (chE_ok t y sc fl _ Wx X h6 c.e).pe h2 h5
    · cases h
  | .cond k a b, s, Wx, X, h, c => by
    simp only [chS] at h
    split at h
    · simp only [Bool.and_eq_true] at h
      exact st_if (chE_ok t k sc fl _ Wx X h.1.1 c.e).pt (chSs_ok t x r a _ Wx X h.1.2 c) (chSs_ok t x r b _ Wx X h.2 c)
    · cases h
  | .whil k b, s, Wx, X, h, c => by
    simp only [chS] at h
    split at h
    · simp only [Bool.and_eq_true] at h
      exact st_while c (chE_ok t k sc fl _ Wx X h.1 c.e).pt (chSs_ok t x r b _ Wx X h.2 c)
    · cases h
  | .fo tg it b, s, Wx, X, h, c => by
    simp only [chS] at h
    split at h
    · simp only [Bool.and_eq_true] at h
      obtain ⟨⟨⟨h1, h2⟩, h3⟩, h4⟩ := h
      obtain ⟨i1, i2⟩ := chI_ok t it sc fl _ _ Wx X h2 c.e
      exact st_for c i1 (chT_ok c.e tg _ h1) (chSs_ok t x r b _ Wx X h4 c) h3 (fun e S w S1 q => walk_ck it e S w S1 i2 q)
    · cases h
  | .ret y, s, Wx, X, h, c => by
    simp only [chS] at h
    split at h
    · exact st_ret (chE_ok t y sc fl _ Wx X h c.e).pe
    · cases h
  | .retn, s, Wx, X, h, c => by
    simp only [chS] at h
    split at h
    · exact st_retn
    · cases h
  | .rais ci y, s, Wx, X, h, c => by
    simp only [chS] at h
    split at h
    · simp only [Bool.and_eq_true, decide_eq_true_eq] at h
      obtain ⟨⟨⟨⟨⟨h1, h2⟩, h3⟩, h4⟩, h5⟩, h6⟩ := h
      rw [t.M] at h4
      unfold hasExf at h4
      split at h4
      · rename_i C hC
        obtain ⟨fld, hf⟩ := Option.isSome_iff_exists.mp h4
        exact st_rais t r c h1 hC hf h6 (glB_ok c.e h2) h3 (chE_ok t y sc fl _ Wx X h5 c.e).pe
      · cases h4
    · cases h
  | .tri b hs, s, Wx, X, h, c => by
    simp only [chS] at h
    split at h
    · simp only [Bool.and_eq_true] at h
      exact st_tri x c (fun W' X' c' => chSs_ok t x r b _ W' X' h.1 c') h.2
    · cases h
  | .pas, s, Wx, X, h, c => by
    simp only [chS] at h
    split at h
    · exact st_pas
    · cases h
theorem chSs_ok (t : TOk G T call kc) (x : XOk G T) (r : RsOk G T kc) : ∀ (st : Sts) (s : List Stmt) (Wx : WX) (X : Cx), chSs T N sc fl st s = true → StX G (kc + 1) Wx N sc fl X → PSs X s (rdS G Wx (exs G.M call st))
  | .nil, s, Wx, X, h, c => by
    simp only [chSs, List.isEmpty_iff] at h
    subst h
    exact st_nil
  | .cons y ys, s, Wx, X, h, c => by
    simp only [chSs] at h
    split at h
    · simp only [Bool.and_eq_true] at h
      exact st_cons (chS_ok t x r y _ Wx X h.1 c) (chSs_ok t x r ys _ Wx X h.2 c)
    · cases h
end
end
end Mi
end
section
set_option Elab.async false
set_option linter.all false
set_option maxRecDepth 100000
set_option maxHeartbeats 2000000
/-! the defs of a program, by their calls' depth -/
namespace Mi
open PySem L2 PyProof.Rows RZ
/-- a def as it stands in the program -/
structure DefOk (G : Gd) (T : Ck) (F : FnI) (fa : Addr) (fd : FuncData) (ps : List Str) : Prop where
  ex : ∃ x qual st N, Fun G.K x qual st fa fd ∧ FnScope N ps (defScope st) ∧ ps.length = F.np ∧ N.length = F.nn ∧ chSs T N (defScope st) (fun _ => true) F.body (defBody st) = true
/-- what stands still of a program -/
structure POk (G : Gd) (T : Ck) : Prop where
  M : T.M = G.M
  ko : KOk G
  xo : XOk G T
  gl : ∀ g x, T.globs[g]? = some x → ∃ v u d, G.mg x = some u ∧ G.M.glob g = some d ∧ RelV v u ∧ ∀ W, RepV G W d v
  bl : ∀ x ∈ bltNames, G.mg x = none
  df : ∀ i F, G.M.fns i = some F → ∃ fa fd ps, Binds G.K fd ps [] ∧ DefOk G T F fa fd ps ∧ (∀ x, T.fns[i]? = some x → G.mg x = some (.ref fa)) ∧ PySem.W.keepIn G.K (.ref fa) = true ∧
    (∀ c C, G.M.cls c = some C → C.init = some i → Mk G.K (G.cA c) fa) ∧ (∀ c C, G.M.cls c = some C → C.eq = some i → PySem.W.findIn G.K (.ref (G.cA c)) "__eq__" = some (some (.ref fa)) ∧ PySem.W.isFn G.K (.ref fa) = true ∧ PySem.W.notFirst G.K (G.cA c) (.type "tuple") = true)
  fns : ∀ i x, T.fns[i]? = some x → ∃ F, G.M.fns i = some F
  ini : ∀ c C f, G.M.cls c = some C → C.init = some f → ∃ F, G.M.fns f = some F
  eqs : ∀ c C f, G.M.cls c = some C → C.eq = some f → C.init.isSome = true ∧ ∃ F, G.M.fns f = some F ∧ F.np = 2
  mts : ∀ c C m f, G.M.cls c = some C → C.meths.lookup m = some f → c < T.cls.length ∧ ∃ F fa fd ps, G.M.fns f = some F ∧ Binds G.K fd ps [] ∧ DefOk G T F fa fd ps ∧ Meth G.K (G.cA c) (G.nm m) fa
section
variable {G : Gd} {T : Ck} {W : Wd} {S : Sto} {H : Hp} {Wx : WX}
theorem post_fin {r : Res Out} {Q : VK} (si : Sim G W S H) (po : Post G W H Wx (fun W' d v => RepV G W' d v) (fin S r) Q) : Post G W H Wx (ROut G) r (ends { nx := fun _ H' => Q .non H', rt := Q }) := by
  cases r with
  | stuck => exact po
  | ok o S' =>
    cases o with
    | nx e =>
      intro W' H' b t s rb
      obtain ⟨W'', z1, z2, z3⟩ := trunc_ok (d := .non) (v := .non) si t s (by simp [RepV])
      cases b with
      | inl σ => exact po W'' H' .non z1 z2 z3
      | inr v => exact False.elim rb
    | rt d =>
      intro W' H' b t s rb
      cases b with
      | inl σ => exact False.elim rb
      | inr v =>
        obtain ⟨W'', z1, z2, z3⟩ := trunc_ok si t s rb
        exact po W'' H' v z1 z2 z3
  | exc c v S' =>
    intro W' H' u f σ dd t s rv hf hd
    obtain ⟨W'', z1, z2, z3⟩ := trunc_ok si t s rv
    exact po W'' H' u f σ dd z1 z2 z3 hf hd
theorem start_slots {N ps : List Str} {ds : List D} {vs : List V} (r : RepVs G W ds vs) (hp : N.take ps.length = ps) (hl : vs.length = ps.length) : Slots G W (ds.map some ++ List.replicate (N.length - ps.length) none) (L2.start N vs) := by
  have hle : ps.length ≤ N.length := by have := congrArg List.length hp; rw [List.length_take] at this; omega
  have l1 := r.len
  unfold L2.start
  refine ⟨by simp only [List.length_append, List.length_map, List.length_replicate]; omega, fun i d h => ?_⟩
  by_cases hi : i < ds.length
  · rw [List.getElem?_append_left (by simpa using hi), List.getElem?_map] at h
    obtain ⟨d', h1, h2⟩ := Option.map_eq_some_iff.mp h
    cases h2
    obtain ⟨v, q1, q2⟩ := r.get h1
    refine ⟨v, ?_, q2⟩
    rw [List.getElem?_append_left (by rw [List.length_map, ← l1]; exact hi), List.getElem?_map, q1]; rfl
  · rw [List.getElem?_append_right (by simpa using hi)] at h
    have := List.mem_of_getElem? h
    simp at this
theorem fn_zero (P : Pg) {i : Nat} {fa : Addr} {fd : FuncData} {ps : List Str} : FnF G (callF P 0) 0 i fa fd ps := by
  refine ⟨fun vs H Q E h => h.1, fun A outer s H args us vs Q E _ _ _ _ h => ?_⟩
  obtain ⟨_, W, S, ds, _, _, po⟩ := h
  exact False.elim po
theorem fn_succ {k : Nat} (p : POk G T) (t : TOk G T (callF G.M k) (2 * k)) (r : RsOk G T (2 * k)) {i : Nat} {F : FnI} {fa : Addr} {fd : FuncData} {ps : List Str} (hF : G.M.fns i = some F) (d : DefOk G T F fa fd ps) : FnF G (callF G.M (k + 1)) (2 * (k + 1)) i fa fd ps := by
  obtain ⟨x, qual, st, N, h1, h2, h3, h4, h5⟩ := d.ex
  refine h1.okX (k := 2 * k + 1) h2 (fun vs H Q E h => h.1) fun cdv A outer s H vs Q E hr h => ?_
  obtain ⟨hl, W, S, ds, si, rv, po⟩ := h
  refine ⟨_, chSs_ok t p.xo r F.body _ (fun cls d _ H => E cls d H) _ h5 ⟨⟨⟨rfl, rfl, rfl, rfl, rfl, rfl, h2.nd, rfl, rfl, hr, takes_of rfl rfl rfl rfl⟩, fun _ _ => rfl⟩, h2.kind, passes_of rfl, rfl, rfl⟩, ?_⟩
  have hlen : ds.length = F.np := by rw [rv.len, hl, h3]
  simp only [callF, hF] at po
  rw [if_pos hlen] at po
  refine ⟨W, S, _, si, ?_, post_fin si po⟩
  rw [← h3, ← h4]
  exact start_slots rv h2.pre hl
theorem eq_ok {kc : Nat} {call : Nat → List D → Sto → Res D} (p : POk G T) (ih : ∀ i F fa fd ps, G.M.fns i = some F → DefOk G T F fa fd ps → FnF G call kc i fa fd ps) {Wx : WX} {N : List Str} {sc : Scope} {X : Cx} (c : CxOk G (kc + 1) Wx N sc X) : EqOk G Wx X call := by
  intro ci f d ks ds hCf hd pins s σ H x y v u Q I rx ry ⟨W, S, si, r1, r2, po⟩
  obtain ⟨C, hC, hf⟩ := Option.bind_eq_some_iff.mp hCf
  obtain ⟨hin, F, hF, h2⟩ := p.eqs ci C f hC hf
  obtain ⟨fa, fd, ps, hb, hd', hm, hk, _, he⟩ := p.df f F hF
  obtain ⟨e1, e2, e3⟩ := he ci C hC hf
  have Fn := (ih f F fa fd ps hF hd').cx c
  have r1' := r1
  simp only [RepV] at r1'
  obtain ⟨a, dx, vs, rfl, hFa, t1, l1, fo⟩ := r1'
  cases rx
  have ha := si.sub _ _ hFa
  obtain ⟨mA, J, _⟩ := ins_get I.hok ha
  obtain ⟨od, J, _⟩ := J.look
  obtain ⟨m, hFr⟩ := I.fr
  have np : ps.length = 2 ∨ True := .inr trivial
  have go : ∀ (b : Value), RelV y b → wpAny (model X.prog X.w) X.A (PySem.call (.ref fa) [.ref a, b]) (fun w s' => ∃ k : Bool, w = .bool k ∧ EP X pins σ Q (.bool k) s') X.xe s := by
    intro b rb
    have sp : spF G call ps.length f [.ref a, y] H (fun w H' => ∃ k : Bool, w = V.bl k ∧ Q (V.bl k) H') (WE Wx σ) := by
      refine ⟨?_, W, S, [.ins ci ks ds, d], si, (RepVs.one r2).cons r1, ?_⟩
      · obtain ⟨_, _, _, _, _, _, h3, _⟩ := hd'.ex
        rw [h3, h2]; rfl
      · have po2 := (Post.bind (R := fun W' d v => RepV G W' d v) po).mono fun w H' ⟨W1, S1, d1, t1, s1, r1, _, po1⟩ => (by
          cases d1 with
          | bl k => simp only [RepV] at r1; exact ⟨k, r1, po1.ok s1 (by simp [RepV])⟩
          | _ => exact False.elim po1 : ∃ k : Bool, w = V.bl k ∧ Q (V.bl k) H')
        exact postE (σ := σ) po2
    refine wpAny_mono (run_fnS (us := [.ref a, b]) (vs := [.ref a, y]) Fn (c.room.mono (Nat.le_succ _)) (by rw [c.cK]; exact hb) (E := WE Wx) (passAt c.tk σ) I (.cons rfl (.cons rb .nil)) sp) (fun w s' ⟨v, H', I', rv, k, ek, q⟩ => ?_) fun _ _ z => z
    subst ek
    cases rv
    exact ⟨k, rfl, .bl k, H', I', rfl, q⟩
  show wpAny (model X.prog X.w) X.A (richCompare .Eq (.ref a) u) (EP X pins σ Q) X.xe s
  have fin : ∀ (tb : Value), PySem.W.Looks (model X.prog X.w) s.heap (typeOf u) tb → PySem.W.notFirst X.K (G.cA ci) tb = true → wpAny (model X.prog X.w) X.A (richCompare .Eq (.ref a) u) (EP X pins σ Q) X.xe s := by
    intro tb hl hn
    refine PySem.W.cmp_K (op := .Eq) (tb := tb) c.room.units0 hFr I.ok.mod.kin J hl hn (by rw [c.cK]; exact e1) (by rw [c.cK]; exact e2) (wpAny_mono (go u ry) (fun w s' ⟨k, ek, q⟩ => ?_) fun _ _ z => z)
    subst ek
    exact q
  rcases hd with ⟨ks', ds', rfl⟩ | ⟨xs, rfl⟩
  · simp only [RepV] at r2
    obtain ⟨b, dy, us, rfl, hFb, t2, l2, fo2⟩ := r2
    cases ry
    obtain ⟨mB, J', _⟩ := ins_get I.hok (si.sub _ _ hFb)
    obtain ⟨od', J', _⟩ := J'.look
    exact fin _ J'.type (by simp [PySem.W.notFirst])
  · simp only [RepV] at r2
    obtain ⟨b, us, rfl, hFb, t2⟩ := r2
    cases ry
    obtain ⟨_, its, rr, o, h1, h2, n, h3⟩ := (show ObjOk X.prog X.w H s.heap b (.tup us) from I.hok b _ (si.sub _ _ hFb))
    exact fin (.type "tuple") (fun A Q E s' k q => wpAny_typeOf_ref (k _ _ h1) (by rw [h2]; exact q)) (by rw [c.cK]; exact e3)
theorem tok_of {kc : Nat} {call : Nat → List D → Sto → Res D} (p : POk G T) (ih : ∀ i F fa fd ps, G.M.fns i = some F → DefOk G T F fa fd ps → FnF G call kc i fa fd ps) : TOk G T call kc := by
  have np : ∀ {i F}, G.M.fns i = some F → npOf G.M i = F.np := fun {i F} h => by unfold npOf; rw [h]
  refine ⟨p.M, fun i x h => ?_, fun c x C f h hC hf => ?_, fun c C m f hC hm => ?_, p.gl, p.xo.fl, p.bl, p.ko, fun Wx N sc X c => eq_ok p ih c⟩
  · obtain ⟨F, hF⟩ := p.fns i x h
    obtain ⟨fa, fd, ps, hb, hd, hm, hk, _, _⟩ := p.df i F hF
    obtain ⟨_, _, _, _, _, _, h3, _⟩ := id hd.ex
    exact ⟨fa, fd, ps, hm x h, hk, hb, by rw [np hF, h3], ih i F fa fd ps hF hd⟩
  · obtain ⟨F, hF⟩ := p.ini c C f hC hf
    obtain ⟨fa, fd, ps, hb, hd, hm, hk, hmk, _⟩ := p.df f F hF
    obtain ⟨_, _, _, _, _, _, h3, _⟩ := id hd.ex
    exact ⟨p.xo.cm c x h, fa, fd, ps, hmk c C hC hf, hb, by rw [np hF, h3], ih f F fa fd ps hF hd⟩
  · obtain ⟨lt, F, fa, fd, ps, hF, hb, hd, hmt⟩ := p.mts c C m f hC hm
    obtain ⟨_, _, _, _, _, _, h3, _⟩ := id hd.ex
    exact ⟨lt, fa, fd, ps, hmt, hb, by rw [np hF, h3], ih f F fa fd ps hF hd⟩
theorem all_ok (p : POk G T) (r : ∀ k, RsOk G T k) : ∀ (k : Nat) (i : Nat) (F : FnI) (fa : Addr) (fd : FuncData) (ps : List Str), G.M.fns i = some F → DefOk G T F fa fd ps → FnF G (callF G.M k) (2 * k) i fa fd ps
  | 0, i, F, fa, fd, ps, _, _ => fn_zero _
  | k + 1, i, F, fa, fd, ps, h, d => fn_succ p (tok_of p (all_ok p r k)) (r _) h d
end
end Mi
end
section
set_option Elab.async false
set_option linter.all false
set_option maxRecDepth 100000
set_option maxHeartbeats 2000000
/-! an own error's __init__: super().__init__(text), then a field -/
namespace Mi
open PySem L2 PyProof.Rows RZ
theorem mc_eq (o : PySem.Expr) (nm : Str) (p2 p3 pc : Pos) (txt : Str) (n : Nat) (env : PySem.Env) (h : (p2.endLine == p3.line) = true) : eval (.Call (.Attribute o nm p2) [.Constant (.str txt) n pc] [] p3) env = (do
      let ov ← attributeBase o nm env (eval o env)
      standAt p2.atName
      let (f, first) ← holding [ov] (getMethod ov nm (do return (← importBound o env).getD true))
      callWith p3 f first (backTo p3 (starEach [.Constant (.str txt) n pc] env)) []) := by
  have e : ∀ few, methodCallPos few o env p2 p3 = pure p3 := by
    intro few
    unfold methodCallPos
    rw [h, Bool.or_true, if_pos rfl]
  have e2 : ∀ (x : Sem (Value × List Value)), (do let (f, first) ← x; let cp ← methodCallPos true o env p2 p3; callWith cp f first (backTo p3 (starEach [.Constant (.str txt) n pc] env)) []) = (do let (f, first) ← x; callWith p3 f first (backTo p3 (starEach [.Constant (.str txt) n pc] env)) []) := by
    intro x
    rw [e]
    rfl
  conv => lhs; unfold eval
  show (do
    let ov ← attributeBase o nm env (eval o env)
    standAt p2.atName
    let (f, first) ← holding [ov] (calleeOf true o env ov nm)
    let cp ← methodCallPos true o env p2 p3
    callWith cp f first (backTo p3 (starEach [.Constant (.str txt) n pc] env)) []) = _
  simp only [e2]
  rfl
/-- the body of such an __init__ -/
def exiBody (txt fld : Str) (n : Nat) (p0 p1 p2 p3 p4 pc q0 q1 q2 q3 : Pos) : List Stmt :=
  [.Expr (.Call (.Attribute (.Call (.Name "super" p0) [] [] p1) "__init__" p2) [.Constant (.str txt) n pc] [] p3) p4, .Assign [.Attribute (.Name "self" q0) fld q1] (.Name "value" q2) q3]
/-- what stands written of it -/
structure ExI (P : Program) (K : PySem.W.Frag) (mg : Str → Option Value) (C fa : Addr) (fld : Str) (fd : FuncData) : Prop where
  ex : ∃ name qual params txt n p0 p1 p2 p3 p4 pc q0 q1 q2 q3 scope dV kV doc pm an cda ct cc oc od osl, fd = PySem.W.ksFn name qual params (exiBody txt fld n p0 p1 p2 p3 p4 pc q0 q1 q2 q3) scope dV kV doc pm an (.ref cda) ct cc ∧
    K.lookup fa = some ⟨oc, od, .func fd, osl⟩ ∧ PySem.W.codeIn K (.ref cda) qual = true ∧
    (∃ ccl cdd vs ccs file tf, K.lookup cda = some ⟨ccl, cdd, .fields vs, ccs⟩ ∧ vs[2]? = some (.str file tf) ∧ ((P.main.file : Str) == file) = true) ∧
    (∃ cl cld csl, K.lookup cc = some ⟨cl, cld, .cell (some (.ref C)), csl⟩) ∧
    (∃ ar, (params.posonlyargs ++ params.args).head? = some ar ∧ ar.arg = "self") ∧
    scope.names = [(PySem.Str.ofString "self", NameKind.local), (PySem.Str.ofString "value", NameKind.local), (PySem.Str.ofString "__class__", NameKind.free), (PySem.Str.ofString "super", NameKind.globalImplicit)] ∧ scope.kind = .function ∧ scope.isCoroutine = false ∧ scope.isGenerator = false ∧ (p2.endLine == p3.line) = true
  cD : ∃ cd, PySem.W.clsIn K C = some cd
  mC : PySem.W.mroIn K C (.ref C) = some true
  top : (P.main.scope.names.lookup ("super" : Str)).isSome = false
  mg : mg "super" = none
  su : PySem.W.ks_superIn K C C "__init__" = some (some (.builtin "ValueError.__init__"))
  sub : PySem.W.subIn K (.ref C) (.type "ValueError") = some true
  opq : PySem.W.nsIn K cStatics "thirdparty.any" = some none
  oex : OexC K C
  fno : PySem.W.findIn K (.ref C) fld = some none
/-- what it promises -/
def spXI (C : Addr) (fld : Str) : Sp := fun vs H Q _ => ∃ (a : Addr) (v : V), vs = [.ref a, v] ∧ H a = some (exo a C none) ∧ ∀ dx, H dx = none → dx ≠ a → Q .non (upd (upd H dx (exd dx [(fld, v)])) a (exo a C (some dx)))
/-- the context of its body -/
def cxK (CX : CXT) (P : Program) (w : World) (K : PySem.W.Frag) (mg : Str → Option Value) (base : Heap) (N : List Str) (qual : Str) (scope : Scope) (f : Addr) (cd : Value) (cc : Addr) (A : Around) (outer : List PySem.Env) (s : Shared) (H : Hp) (E : XK) : Cx where
  prog := P
  w := w
  K := K
  mg := mg
  base := base
  A := A.deeper (PySem.W.ksEnv qual scope s.heap.objs.size f cd cc)
  N := N
  s_0 := s
  H_0 := H
  env := PySem.W.ksEnv qual scope s.heap.objs.size f cd cc
  outer := outer
  stack := PySem.W.ksEnv qual scope s.heap.objs.size f cd cc :: outer
  ex := []
  calm := true
  fn := fun x => x != ("__class__" : Str)
  pn := []
  xe := fun e s' => wpAny (model P w) (A.deeper (PySem.W.ksEnv qual scope s.heap.objs.size f cd cc)) (leaving (PySem.W.ksEnv qual scope s.heap.objs.size f cd cc) e) (fun _ s'' => CX outer H s E e s'') (fun e' s'' => CX outer H s E e' s'') s'
section
variable {CX : CXT} {P : Program} {w : World} {K : PySem.W.Frag} {mg : Str → Option Value} {base : Heap} {N : List Str} {qual : Str} {scope : Scope} {f cc : Addr} {cd : Value} {A : Around} {outer : List PySem.Env} {s : Shared} {H : Hp} {E : XK} {h1 : Heap} {tk : Nat} {v1 v2 : V} {u1 u2 : Value}
theorem inv_ks (hn : scope.names = [(PySem.Str.ofString "self", NameKind.local), (PySem.Str.ofString "value", NameKind.local), (PySem.Str.ofString "__class__", NameKind.free), (PySem.Str.ofString "super", NameKind.globalImplicit)]) (hk : scope.kind = .function) (hd : A.handled = none) (e0 : Env0 P w K mg base A outer s H)
    (r1 : RelV v1 u1) (r2 : RelV v2 u2) (hc : ∃ o, base.get? cc = some o ∧ ∃ v, o.data = .cell v) (hns : h1.Ns s.heap.objs.size (fun x => ((["self", "value"] : List Str).zip [u1, u2]).reverse.lookup x)) (k : ∀ b o, s.heap.get? b = some o → h1.get? b = some o) :
    Inv (cxK CX P w K mg base ["self", "value"] qual scope f cd cc A outer s H E) [] (start ["self", "value"] [v1, v2]) H { s with heap := h1, toks := tk } := by
  obtain ⟨oc, hcb, cv, hcv⟩ := hc
  have cell1 : ∀ {x : Str} {c : Addr}, ([((PySem.Str.ofString "__class__", cc) : Str × Addr)]).lookup x = some c → x = PySem.Str.ofString "__class__" ∧ c = cc := by
    intro x c h
    simp only [List.lookup] at h
    split at h
    · rename_i e
      exact ⟨by simpa using e, by cases h; rfl⟩
    · cases h
  have noA : ∀ b : Addr, b ∉ (cxK CX P w K mg base ["self", "value"] qual scope f cd cc A outer s H E).ex := fun b z => absurd (show b ∈ ([] : List Addr) from z) (by simp)
  refine ⟨⟨e0.mod, hk, rfl, rfl, Nat.le_refl _, fun x y c h1 h2 => ?_, fun y hy => ?_, fun y c hf h => ?_, fun _ => hd, Around.frames_deeper e0.frames, .inr ⟨rfl, rfl⟩, fun b z => absurd z (noA b), e0.bs, e0.bsz, fun b _ _ => noA b, fun b z => absurd z (noA b), e0.funs, e0.frf⟩,
    rfl, e0.bare, Un.kept k, ⟨_, hns, fun i y v h1 h2 h3 => ?_⟩, fun y c h => ?_, e0.hok.fresh (Nat.le_refl _), fun y c h => ?_, fun p hp => absurd (show p ∈ ([] : List (Addr × Obj)) from hp) (by simp), e0.hok.kept k, rfl⟩
  · rw [(cell1 h1).1, (cell1 h2).1]
  · have hy : scope.names.lookup y = some .cell ∨ scope.names.lookup y = some .free := hy
    rw [hn] at hy
    refine ⟨cc, ?_⟩
    by_cases e : y = PySem.Str.ofString "__class__"
    · subst e
      show ([((PySem.Str.ofString "__class__", cc) : Str × Addr)]).lookup _ = some cc
      simp [List.lookup]
    · exfalso
      rcases hy with hy | hy <;> (have hm := PySem.mem_of_lookup hy; simp at hm; try exact e hm)
  · have := (cell1 h).1
    subst this
    exact absurd hf (by show ¬ ((PySem.Str.ofString "__class__" != ("__class__" : Str)) = true); decide)
  · match i, h1, h2 with
    | 0, h1, h2 =>
      cases h1; cases h2
      refine ⟨u1, r1, .inl ⟨?_, ?_⟩⟩
      · show scope.names.lookup _ = _
        rw [hn]; rfl
      · simp only [List.zip, List.zipWith, List.reverse, List.reverseAux, List.lookup]
        rfl
    | 1, h1, h2 =>
      cases h1; cases h2
      refine ⟨u2, r2, .inl ⟨?_, ?_⟩⟩
      · show scope.names.lookup _ = _
        rw [hn]; rfl
      · simp only [List.zip, List.zipWith, List.reverse, List.reverseAux, List.lookup]
        rfl
    | i + 2, h1, h2 => cases h1
  · rw [(cell1 h).2]
    exact ⟨cv, oc, k _ _ (e0.bs _ _ hcb).1, hcv⟩
  · rw [(cell1 h).2]
    exact (e0.bs _ _ hcb).2
theorem exi_ok {fa C : Addr} {fd : FuncData} {fld : Str} {kk : Nat} (h : ExI P K mg C fa fld fd) : FnOk P w K mg base CX kk fa fd ["self", "value"] (spXI C fld) := by
  refine ⟨fun vs H Q E h => by obtain ⟨a, v, rfl, _⟩ := h; rfl, fun A outer s H args us vs Q E hr e0 hb r hsp => ?_⟩
  obtain ⟨a, v, rfl, ha, hq⟩ := hsp
  obtain ⟨name, qual, params, txt, n, p0, p1, p2, p3, p4, pc, q0, q1, q2, q3, scope, dV, kV, doc, pm, an, cda, ct, cc, oc, od, osl, rfl, lk, hcd, ⟨ccl, cdd, cvs, ccs, file, tf, hcda, hvs, hfile⟩, ⟨cl, cld, csl, hcc⟩, ⟨ar, hp, har⟩, hn, hk, hco, hgen, hpos⟩ := h.ex
  cases r with
  | @cons _ u1 _ ur r1 rr =>
  cases rr with
  | @cons _ u2 _ ur2 r2 rr2 =>
  cases rr2
  obtain rfl : u1 = Value.ref a := r1
  have KX : K.In s.heap := e0.mod.kin.keeps fun b o e => (e0.bs b o e).1
  have lim : s.heap.NoLimit := e0.mod.nolimit.keeps fun b o e => (e0.bs b o e).1
  refine PySem.ks_codeAny_call_defAt (fd := PySem.W.ksFn name qual params (exiBody txt fld n p0 p1 p2 p3 p4 pc q0 q1 q2 q3) scope dV kV doc pm an (.ref cda) ct cc) (body := exiBody txt fld n p0 p1 p2 p3 p4 pc q0 q1 q2 q3) hr.depth (KX _ _ lk) rfl lim (PySem.W.codeRec_of KX hcd) rfl hb ?_ ?_ (fun h1 hns k => ?_) hco hgen hk
  · show ∀ x ∈ scope.names, _
    rw [hn]; intro x hx; simp at hx; rcases hx with rfl | rfl | rfl | rfl <;> simp
  · intro x hx
    show scope.names.lookup x.1 = _
    rw [hn]; simp at hx; rcases hx with rfl | rfl <;> rfl
  have I := inv_ks (CX := CX) (E := E) (tk := s.toks + 2) (f := fa) (cd := .ref cda) (qual := qual) hn hk hr.hd e0 (v1 := .ref a) (u1 := .ref a) rfl r2 ⟨_, e0.mod.kin _ _ hcc, _, rfl⟩ hns k
  have rest : ∀ s', Inv (cxK CX P w K mg base ["self", "value"] qual scope fa (.ref cda) cc A outer s H E) [] (start ["self", "value"] [.ref a, v]) H s' → wpAny (model P w) (A.deeper (PySem.W.ksEnv qual scope s.heap.objs.size fa (.ref cda) cc))
      (execs [.Assign [.Attribute (.Name "self" q0) fld q1] (.Name "value" q2) q3] (PySem.W.ksEnv qual scope s.heap.objs.size fa (.ref cda) cc)) (fun f s' => CR CX outer P w H s Q E (.ok (.ret (match f with | .ret v => v | _ => .none))) s')
      (fun e s' => wpAny (model P w) (A.deeper (PySem.W.ksEnv qual scope s.heap.objs.size fa (.ref cda) cc)) (leaving (PySem.W.ksEnv qual scope s.heap.objs.size fa (.ref cda) cc) e) (fun _ s'' => CR CX outer P w H s Q E (.error e) s'') (fun e' s'' => CR CX outer P w H s Q E (.error e') s'') s') s' := fun s' J => by
    have ps : PSs (cxK CX P w K mg base ["self", "value"] qual scope fa (.ref cda) cc A outer s H E) [.Assign [.Attribute (.Name "self" q0) fld q1] (.Name "value" q2) q3] (tOst K fld (tVar 0) (tVar 1)) :=
      pss_one (ps_ost (X := cxK CX P w K mg base ["self", "value"] qual scope fa (.ref cda) cc A outer s H E) (pe_var rfl (.inl (by show scope.names.lookup _ = _; rw [hn]; rfl))) (pe_var rfl (.inl (by show scope.names.lookup _ = _; rw [hn]; rfl))))
    refine wpAny_mono (ps.run [] s' _ H { nx := fun _ H' => Q .non H', rt := Q } J ⟨v, rfl, .ref a, rfl, a, C, rfl, h.oex, h.fno, .inl ⟨ha, fun dx n ne => hq dx n ne⟩⟩) (fun fl s2 hs => ?_) fun e s2 hs => hs
    cases fl with
    | ret u => 
      obtain ⟨v', σ', H', J', rv, q⟩ := hs
      exact ⟨v', H', J'.os, J'.bare, J'.base, J'.hok, rv, q⟩
    | next => 
      obtain ⟨σ', H', J', q⟩ := hs
      exact ⟨.non, H', J'.os, J'.bare, J'.base, J'.hok, rfl, q⟩
    | brk => obtain ⟨_, _, _, q⟩ := hs; exact False.elim q
    | cont => obtain ⟨_, _, _, q⟩ := hs; exact False.elim q
  obtain ⟨cD, hD⟩ := h.cD
  obtain ⟨t0, hx⟩ := exo_at I.hok ha
  have hks : scope.names.lookup ("super" : Str) = some .globalImplicit := by rw [hn]; rfl
  have hkc : scope.names.lookup ("__class__" : Str) = some .free := by rw [hn]; rfl
  have hka : scope.names.lookup ("self" : Str) = some .local := by rw [hn]; rfl
  have K1 : K.In h1 := I.kIn
  refine PySem.ks_wpAt_execs_cons (PySem.ks_wpAt_Expr_any (PySem.ks_wpAt_MethodCall (PySem.ks_wpAt_super_base hks hkc rfl rfl (K1 _ _ lk) rfl hp rfl (K1 _ _ hcda) rfl hvs hfile h.top ?_) (mc_eq _ _ _ _ _ _ _ _ hpos)) I.quiet)
  obtain ⟨mb, hb1, hb2⟩ := I.mod.blt
  refine PySem.W.ks_loadName_global hk hks (Calls.loadGlobal_builtin (I.mod.glob.keeps I.bk) h.mg (hb1.keeps I.bk) ((hb2 "super" (by decide)).trans (by decide +kernel : bootBuiltins "super" = some (.type "super"))) ⟨rfl, ?_⟩)
  refine wpAny_loadName_free hk hkc rfl ⟨_, K1 _ _ hcc, rfl⟩ ?_
  rw [har]
  refine wpAny_loadName_local hk hka hns rfl ?_
  obtain ⟨oD, hD1, hD2⟩ : ∃ oD, h1.get? C = some oD ∧ oD.data = .cls cD := by
    unfold PySem.W.clsIn at hD
    split at hD
    · rename_i c d cd' sl ho
      cases hD
      exact ⟨_, K1 _ _ ho, rfl⟩
    · cases hD
  refine PySem.ks_wpAny_isType_cls hD1 hD2 ⟨rfl, ?_⟩
  refine PySem.ks_wpAny_call_super hD1 hD2 hx rfl (fun c e => by cases e) (PySem.W.looks_mroIn K1 h.mC) (fun h2 e2 k2 => ?_)
  have hC1 : PySem.W.Looks (model P w) h2 (mroOf (.ref C)) cD.mro := fun A Q E s k q => wpAny_bind ((PySem.W.looks_clsIn (K1.keeps k2) hD) A _ E s k (wpAny_pure q))
  have hsu : PySem.W.alongIn K "__init__" ((cD.mro.dropWhile (· != .ref C)).drop 1) = some (some (.builtin "ValueError.__init__")) := by
    have q := h.su
    unfold PySem.W.ks_superIn at q
    rw [hD] at q
    exact q
  have Ii : PySem.W.InstAt h2 a { cls := .ref C, dict := none, data := .fields #[.ref t0, .none, .none, .none, .bool false, .none] } C none := ⟨k2 _ _ hx, rfl, rfl, trivial⟩
  refine PySem.W.kxs_getMethod PySem.W.kxs_ValueError e2 (PySem.W.looks_opaque (K1.keeps k2) h.opq) hC1 rfl (K1.keeps k2) hsu (Ii.type.andThen (PySem.W.looks_subIn (K1.keeps k2) h.sub)) (PySem.W.ks_ne (K1.keeps k2) Ii hD) rfl ?_
  refine PySem.W.kxs_callWith (i := "ValueError.__init__") (x := a) rfl (Calls.evalArgs_plain (Calls.spliced_cons (Calls.Constant_str (k := n) (pos := pc) (Calls.spliced_nil ⟨?_, ?_⟩))))
  · exact Heap.get?_push_size _ rfl
  have hpu : (h2.push (PySem.W.kxs_mw "ValueError.__init__" a)).get? h2.objs.size = some (PySem.W.kxs_mw "ValueError.__init__" a) := Heap.get?_push_size _ rfl
  have kp : ∀ b o, h1.get? b = some o → (h2.push (PySem.W.kxs_mw "ValueError.__init__" a)).get? b = some o := fun b u q => Heap.get?_push_of_some _ (k2 _ _ q)
  have KC : ∀ Y : String, ∃ x : Unit, True := fun _ => ⟨(), trivial⟩
  obtain ⟨nm, qq, N', bs, bm, sn, sb, ab, col, dd, k0, k1, k2', k3, k5, hCl, hbm⟩ := h.oex.cls
  have hCh := kp _ _ (K1 _ _ hCl)
  have hxh := kp _ _ hx
  refine wpAny_call (codeAny_of_tree ?_)
  show wpAny _ (A.deeper _).in1 (callAny (.ref h2.objs.size) ⟨[.str txt _], []⟩) _ _ _
  simp only [callAny]
  refine wpAny_bind (wpAny_load hpu ?_)
  simp only [PySem.W.kxs_mw, show (Value.type "method-wrapper" == Value.type "method" || Value.type "method-wrapper" == Value.type "builtin_function_or_method" || Value.type "method-wrapper" == Value.type "method-wrapper") = true by decide, if_true]
  refine PySem.W.KFB.if_so (by decide) ?_
  refine wpAny_bind (PySem.W.check_bound_init F.excBase_ValueError.toExcCallFacts hCh hxh rfl ?_)
  refine wpAny_bind (wpAny_pure (wpAny_pure ?_))
  refine ⟨plainId_quiet F.excBase_ValueError.init.plain _, codeAny_builtin F.excBase_ValueError.initEntry ?_⟩
  refine PySem.W.exc_init_tree (cls := .ref C) (t0 := t0) (dv := none) (c2 := .none) (c3 := .none) (b4 := .bool false) hxh (by rw [sizeLine_eq]; exact Nat.le_of_ble_eq_true rfl) fun h' kk' e' t' => ?_
  have I2 := I.kept (h' := h2.push (PySem.W.kxs_mw "ValueError.__init__" a)) (t' := s.toks + 2 + 1 + 1) kp
  have J := I2.write (t' := s.toks + 2 + 1 + 1) (x := a) (e := a) (o := exo a C none) (by rw [ha]; exact True.intro) (.inl rfl) kk' ⟨_, e'⟩ (exo_ok e')
  have eu : upd H a (exo a C none) = H := by
    funext b
    by_cases hb : b = a
    · rw [hb, upd_same, ha]
    · rw [upd_ne hb]
  rw [eu] at J
  exact wpAt_of_wpAny (rest _ J)
end
end Mi
end
section
set_option Elab.async false
set_option linter.all false
set_option maxRecDepth 100000
set_option maxHeartbeats 2000000
/-! raising own errors -/
namespace Mi
open PySem L2 PyProof.Rows RZ
structure ErOk (G : Gd) : Prop where
  er : ∀ c C f, G.M.cls c = some C → C.exf = some f → ∃ fa fd, ExI G.prog G.K G.mg (G.cA c) fa (G.nm f) fd ∧ PySem.W.findIn G.K (.ref (G.cA c)) "__init__" = some (some (.ref fa)) ∧ PySem.W.typeIn G.K (.ref fa) = some (.type "function") ∧ Binds G.K fd ["self", "value"] []
/-- a reading, weakened -/
def tWk (te : TE) : TE := fun σ H Q => ∃ Q', te σ H Q' ∧ ∀ v H1, Q' v H1 → Q v H1
theorem pe_wk {X : Cx} {e : PySem.Expr} {te : TE} (h : PE X e te) : PE X e (tWk te) := by
  refine ⟨fun pins s σ H Q I ⟨Q', q, m⟩ => thn (h.run pins s σ H Q' I q) fun u s1 ⟨v, H1, I1, r, q1⟩ => ⟨v, H1, I1, r, m v H1 q1⟩⟩
theorem rs_ok {G : Gd} {T : Ck} (x : XOk G T) (er : ErOk G) (k : Nat) : RsOk G T k := by
  refine ⟨fun c x' C fld h1 hC hf Wx N sc fl X ce e te p pos hs hg hn he => ?_⟩
  obtain ⟨fa, fd, ex, h2, h3, h4⟩ := er.er c C fld hC hf
  obtain ⟨n1, n2, n3⟩ := nmB_ok hn
  have c' := ce.c
  have F := exi_ok (w := G.w) (base := G.base) (CX := CX0) (kk := k) ex
  have pm := pmk_oex (X := X) (CX := CX0) (k := k) (C := G.cA c) (fI := fa) (x := x') (ps := ["self", "value"]) (ds := []) (dvs := []) (e := e) (es := []) (ta := tCons (tWk te) tNil) (p := p) (pos := pos) (by rw [c'.cK]; exact ex.oex) (by rw [c'.cK]; exact h2) (by rw [c'.cK]; exact h3)
    (by rw [c'.cP, c'.cw, c'.cK, c'.cmg, c'.cb]; exact F) c'.room (by rw [c'.cK]; exact h4) .nil pass0 hg (by rw [c'.cmg]; exact x.cm c x' h1) (pa_cons (pe_wk he) pa_nil (star_cons hs _ _)) n1 (star_cons hs _ _)
  intro pins s σ H Q I h
  refine pm pins s σ H Q I ?_
  show tWk te σ H _
  refine ⟨_, h, fun y H1 q => ⟨by simp, fun a ha => ⟨a, y, rfl, upd_same, fun dx hdx ne => ⟨rfl, dx, [(G.nm fld, y)], upd_same, ?_, ?_, ?_⟩⟩⟩⟩
  · rw [upd_ne ne, upd_same]
  · rw [upd_ne ne] at hdx; exact hdx
  · rw [upd_ne ne] at hdx
    have e2 : upd (del (upd (upd (upd H1 a (exo a (G.cA c) none)) dx (exd dx [(G.nm fld, y)])) a (exo a (G.cA c) (some dx))) a) dx (.xd [(G.nm fld, y)]) = upd H1 dx (.xd [(G.nm fld, y)]) := by
      funext b
      by_cases hb : b = dx
      · subst hb; rw [upd_same, upd_same]
      · rw [upd_ne hb, upd_ne hb]
        by_cases hb2 : b = a
        · subst hb2; rw [del_same, ha]
        · rw [del_ne hb2, upd_ne hb2, upd_ne hb, upd_ne hb2]
    rw [e2]
    exact q dx hdx
end Mi
end
section
set_option Elab.async false
set_option linter.all false
set_option maxRecDepth 100000
set_option maxHeartbeats 2000000
/-! what a head tells of a program: facts as Bools -/
namespace Mi
open PySem L2 PyProof.Rows RZ
/-- a def as the text has it: where it stands, its names, its parameters, its slots -/
structure DI where
  at_ : Str × Option Str
  x : Str
  qual : Str
  st : Stmt
  ps : List Str
  N : List Str
def DI.dd (d : DI) : He.DefD := ⟨d.at_, d.x, d.qual, defArgs d.st, defBody d.st, defScope d.st, [], []⟩
/-- the text's own side of a def: no heap in it -/
structure DTxt (T : Ck) (d : DI) (F : FnI) : Prop where
  sc : FnScope d.N d.ps (defScope d.st)
  np : d.ps.length = F.np
  nn : d.N.length = F.nn
  ch : chSs T d.N (defScope d.st) (fun _ => true) F.body (defBody d.st) = true
  bd : ∀ (kV doc pm : Value) (an : Option Addr) (cdv ct : Value) (us : List Value), us.length = d.ps.length → bindArgs (PySem.W.fnOf d.x d.qual (defArgs d.st) (defBody d.st) (defScope d.st) .none kV doc pm an cdv ct) ⟨us, []⟩ = pure (d.ps.zip us)
def scopeB (N ps : List Str) (sc : Scope) : Bool := decide (sc.kind = .function) && (!sc.isCoroutine && (!sc.isGenerator && (decide N.Nodup && (decide (N.take ps.length = ps) && ((ps.all fun x => decide (sc.names.lookup x = some .local) || decide (sc.names.lookup x = some .cell)) && sc.names.all fun y => decide (y.2 ≠ .free))))))
theorem scopeB_ok {N ps : List Str} {sc : Scope} (h : scopeB N ps sc = true) : FnScope N ps sc := by
  unfold scopeB at h
  simp only [Bool.and_eq_true, Bool.not_eq_true', decide_eq_true_eq, List.all_eq_true, Bool.or_eq_true] at h
  obtain ⟨h1, h2, h3, h4, h5, h6, h7⟩ := h
  exact ⟨h1, h2, h3, h4, h5, h6, h7⟩
def dTxtB (T : Ck) (d : DI) (F : FnI) : Bool := scopeB d.N d.ps (defScope d.st) && (decide (d.ps.length = F.np) && (decide (d.N.length = F.nn) && chSs T d.N (defScope d.st) (fun _ => true) F.body (defBody d.st)))
theorem dTxt_of {T : Ck} {d : DI} {F : FnI} (h : dTxtB T d F = true)
    (bd : ∀ (kV doc pm : Value) (an : Option Addr) (cdv ct : Value) (us : List Value), us.length = d.ps.length → bindArgs (PySem.W.fnOf d.x d.qual (defArgs d.st) (defBody d.st) (defScope d.st) .none kV doc pm an cdv ct) ⟨us, []⟩ = pure (d.ps.zip us)) : DTxt T d F := by
  unfold dTxtB at h
  simp only [Bool.and_eq_true, decide_eq_true_eq] at h
  exact ⟨scopeB_ok h.1, h.2.1, h.2.2.1, h.2.2.2, bd⟩
theorem fun_of {K : PySem.W.Frag} {d : DI} {f : Addr} {fd : FuncData} (F : FunD K d.x d.qual (defArgs d.st) (defBody d.st) (defScope d.st) [] [] f fd) : Fun K d.x d.qual d.st f fd := by
  obtain ⟨oc, od, dV, kV, doc, pm, an, cdv, ct, osl, e, lk, hc, hD, _⟩ := F.ex
  rcases hD with ⟨_, rfl⟩ | ⟨n, _⟩
  · exact ⟨⟨oc, od, kV, doc, pm, an, cdv, ct, osl, e, lk, hc⟩, F.kp⟩
  · exact absurd rfl n
/-! ### an own error's facts -/
def exiB (P : Program) (K : PySem.W.Frag) (C fa : Addr) (fld : Str) : Bool := match K.lookup fa with
  | some ⟨_, _, .func ⟨_, qual, ⟨[], [⟨a1, _, _⟩, ⟨a2, _, _⟩], none, [], [], none, []⟩, .stmts [.Expr (.Call (.Attribute (.Call (.Name s _) [] [] _) i p2) [.Constant (.str _) _ _] [] p3) _, .Assign [.Attribute (.Name s1 _) f1 _] (.Name v1 _) _], scope, gl, [(c1, cc)], .none, _, _, _, _, .ref cda, _, bi⟩, _⟩ =>
    decide (a1 = "self") && (decide (a2 = "value") && (decide (s = "super") && (decide (i = "__init__") && (decide (s1 = "self") && (decide (f1 = fld) && (decide (v1 = "value") && (decide (gl = mainGlobals) && (decide (bi = builtinsNs) && (decide (c1 = "__class__") && ((p2.endLine == p3.line) &&
    (PySem.W.codeIn K (.ref cda) qual && ((match K.lookup cda with
      | some ⟨_, _, .fields vs, _⟩ => (match (vs[2]? : Option Value) with
        | some (Value.str file _) => (P.main.file : Str) == file
        | _ => false)
      | _ => false) && ((match K.lookup cc with
      | some ⟨_, _, .cell (some (.ref D)), _⟩ => D == C
      | _ => false) && (decide (scope.names = [(PySem.Str.ofString "self", NameKind.local), (PySem.Str.ofString "value", NameKind.local), (PySem.Str.ofString "__class__", NameKind.free), (PySem.Str.ofString "super", NameKind.globalImplicit)]) &&
      (decide (scope.kind = .function) && (!scope.isCoroutine && !scope.isGenerator))))))))))))))))
  | _ => false
def oexB (K : PySem.W.Frag) (C : Addr) : Bool := match K.lookup C with
  | some ⟨.type "type", _, .cls ⟨_, _, .ref C1 :: bm, _, _, true, _, _, _, _, false⟩, ⟨[_, _, _, _, some (.builtin "ValueError.__new__"), _]⟩⟩ => C1 == C && PySem.HandSPX.refsVE bm
  | _ => false
theorem exi_bind (qual : Str) (a1 a2 : Option PySem.Expr) (q1 q2 : Pos) (body : List Stmt) (scope : Scope) (kV doc pm : Value) (an : Option Addr) (cdv ct : Value) (cc : Addr) (us : List Value) (hl : us.length = 2) (x : Str) :
    bindArgs (PySem.W.ksFn x qual { posonlyargs := [], args := [⟨"self", a1, q1⟩, ⟨"value", a2, q2⟩], vararg := none, kwonlyargs := [], kw_defaults := [], kwarg := none, defaults := [] } body scope .none kV doc pm an cdv ct cc) ⟨us, []⟩ = pure ((["self", "value"] : List Str).zip us) :=
  match us, hl with
  | [_, _], _ => rfl
structure ExJ (P : Program) (K : PySem.W.Frag) (C fa : Addr) (fld : Str) (fd : FuncData) : Prop where
  ex : ∃ name qual params txt n p0 p1 p2 p3 p4 pc q0 q1 q2 q3 scope dV kV doc pm an cda ct cc oc od osl, fd = PySem.W.ksFn name qual params (exiBody txt fld n p0 p1 p2 p3 p4 pc q0 q1 q2 q3) scope dV kV doc pm an (.ref cda) ct cc ∧
    K.lookup fa = some ⟨oc, od, .func fd, osl⟩ ∧ PySem.W.codeIn K (.ref cda) qual = true ∧
    (∃ ccl cdd vs ccs file tf, K.lookup cda = some ⟨ccl, cdd, .fields vs, ccs⟩ ∧ vs[2]? = some (.str file tf) ∧ ((P.main.file : Str) == file) = true) ∧
    (∃ cl cld csl, K.lookup cc = some ⟨cl, cld, .cell (some (.ref C)), csl⟩) ∧
    (∃ ar, (params.posonlyargs ++ params.args).head? = some ar ∧ ar.arg = "self") ∧
    scope.names = [(PySem.Str.ofString "self", NameKind.local), (PySem.Str.ofString "value", NameKind.local), (PySem.Str.ofString "__class__", NameKind.free), (PySem.Str.ofString "super", NameKind.globalImplicit)] ∧ scope.kind = .function ∧ scope.isCoroutine = false ∧ scope.isGenerator = false ∧ (p2.endLine == p3.line) = true
  bd : Binds K fd ["self", "value"] []
theorem exiB_ok {P : Program} {K : PySem.W.Frag} {C fa : Addr} {fld : Str} (h : exiB P K C fa fld = true) : ∃ fd, ExJ P K C fa fld fd := by
  unfold exiB at h
  split at h
  · rename_i lk
    simp only [Bool.and_eq_true, decide_eq_true_eq, Bool.not_eq_true'] at h
    obtain ⟨e1, e2, e3, e4, e5, e6, e7, e8, e9, e10, e11, e12, e13, e14, e15, e16, e17, e18⟩ := h
    subst e1 e2 e3 e4 e5 e6 e7 e8 e9 e10
    split at e13
    · rename_i lc
      split at e13
      · rename_i lf
        split at e14
        · rename_i ld
          have eD := beq_iff_eq.mp e14
          subst eD
          exact ⟨_, ⟨_, _, _, _, _, _, _, _, _, _, _, _, _, _, _, _, _, _, _, _, _, _, _, _, _, _, _, rfl, lk, e12, ⟨_, _, _, _, _, _, lc, lf, e13⟩, ⟨_, _, _, ld⟩, ⟨_, rfl, rfl⟩, e15, e16, e17, e18, e11⟩, .all fun us hl => exi_bind _ _ _ _ _ _ _ _ _ _ _ _ _ _ us hl _⟩
        · cases e14
      · cases e13
    · cases e13
  · cases h
theorem oexB_ok {K : PySem.W.Frag} {C : Addr} (h : oexB K C = true) : ∃ nm q N bs bm sn sub ab col dd k0 k1 k2 k3 k5, K.lookup C = some (excClassObj nm q C N bs bm true sn sub ab col dd k0 k1 k2 k3 k5 "ValueError.__new__") ∧ PySem.HandSPX.refsVE bm = true := by
  unfold oexB at h
  split at h
  · rename_i lk
    simp only [Bool.and_eq_true, beq_iff_eq] at h
    obtain ⟨rfl, h2⟩ := h
    exact ⟨_, _, _, _, _, _, _, _, _, _, _, _, _, _, _, lk, h2⟩
  · cases h
def fB (K : PySem.W.Frag) (C : Addr) (x : Str) (v : Option Value) : Bool := decide (PySem.W.findIn K (.ref C) x = some v)
/-- an own error at C, its __init__ at fa -/
def errB (P : Program) (K : PySem.W.Frag) (C fa : Addr) (fld : Str) : Bool :=
  exiB P K C fa fld && (oexB K C && ((PySem.W.clsIn K C).isSome && (decide (PySem.W.mroIn K C (.ref C) = some true) && (decide (PySem.W.ks_superIn K C C "__init__" = some (some (.builtin "ValueError.__init__"))) &&
  (decide (PySem.W.subIn K (.ref C) (.type "ValueError") = some true) && (fB K C "__setattr__" (some (.builtin "object.__setattr__")) && (decide (PySem.W.subIn K (.ref C) (.type "BaseException") = some true) &&
  (decide (PySem.W.typeIn K (.ref C) = some (.type "type")) && (PySem.W.keepIn K (.ref C) && (fB K C fld none && (fB K C "__init__" (some (.ref fa)) && (decide (PySem.W.typeIn K (.ref fa) = some (.type "function")) && xfB K C))))))))))))
theorem errB_ok {P : Program} {K : PySem.W.Frag} {mg : Str → Option Value} {C fa : Addr} {fld : Str} (h : errB P K C fa fld = true) (top : (P.main.scope.names.lookup ("super" : Str)).isSome = false) (hm : mg "super" = none) (ho : PySem.W.nsIn K cStatics "thirdparty.any" = some none) :
    (∃ fd, ExI P K mg C fa fld fd ∧ Binds K fd ["self", "value"] []) ∧ PySem.W.findIn K (.ref C) "__init__" = some (some (.ref fa)) ∧ PySem.W.typeIn K (.ref fa) = some (.type "function") ∧ XfC K C ∧ PySem.W.findIn K (.ref C) fld = some none := by
  unfold errB fB at h
  simp only [Bool.and_eq_true, decide_eq_true_eq] at h
  obtain ⟨h1, h2, h3, h4, h5, h6, h7, h8, h9, h10, h11, h12, h13, h14⟩ := h
  obtain ⟨fd, j⟩ := exiB_ok h1
  exact ⟨⟨fd, ⟨j.ex, Option.isSome_iff_exists.mp h3, h4, top, hm, h5, h6, ho, ⟨oexB_ok h2, h7, h8, h9, h10⟩, h11⟩, j.bd⟩, h12, h13, xfB_ok h14, h11⟩
/-! ### an own class's facts -/
def tyTs : List Ty := [.int, .bool, .tuple, .str, .list]
def clsB (K : PySem.W.Frag) (nm : Nat → Str) (nn : Nat) (a : Addr) (fl : List Nat) : Bool :=
  PySem.W.plainGet K a Str.empty && (PySem.W.hasDictIn K a && (PySem.W.plainOver K a && (fB K a "__setattr__" (some (.builtin "object.__setattr__")) && (fB K a "__class__" (some (.builtin "object.__class__")) && (decide (PySem.W.mroIn K a (.type "object") = some true) &&
  ((fl.all fun f => fB K a (nm f) none && decide (f < nn)) && ((tyTs.all fun t => decide (PySem.W.kitOne K (.ref a) (.type (tyNm t)) = some false)) &&
  ((["NoneType", "bool", "int", "str", "tuple", "list"] : List String).all fun t => decide (PySem.W.kitOne K (.type t) (.ref a) = some false)))))))))
def mkB (K : PySem.W.Frag) (a fa : Addr) : Bool := PySem.W.makesIn K a && (fB K a "__init__" (some (.ref fa)) && (PySem.W.isFn K (.ref fa) && PySem.W.keepIn K (.ref a)))
def eqB (K : PySem.W.Frag) (a fa : Addr) : Bool := fB K a "__eq__" (some (.ref fa)) && (PySem.W.isFn K (.ref fa) && PySem.W.notFirst K a (.type "tuple"))
theorem mkB_ok {K : PySem.W.Frag} {a fa : Addr} (h : mkB K a fa = true) : Mk K a fa := by
  unfold mkB fB at h
  simp only [Bool.and_eq_true, decide_eq_true_eq] at h
  exact ⟨h.1, h.2.1, h.2.2.1, h.2.2.2⟩
theorem eqB_ok {K : PySem.W.Frag} {a fa : Addr} (h : eqB K a fa = true) : PySem.W.findIn K (.ref a) "__eq__" = some (some (.ref fa)) ∧ PySem.W.isFn K (.ref fa) = true ∧ PySem.W.notFirst K a (.type "tuple") = true := by
  unfold eqB fB at h
  simp only [Bool.and_eq_true, decide_eq_true_eq] at h
  exact ⟨h.1, h.2.1, h.2.2⟩
/-! ### a program's facts -/
/-- a program as printed: its names, its defs, its classes' tables -/
structure Pj where
  T : Ck
  ds : List DI
  F : List FnI
  C : List ClI
  sub : List (List Nat)
  gl : List (Option D)
def Pj.cA (p : Pj) (K : PySem.W.Frag) (c : Nat) : Addr := He.ga K (p.T.cls.getD c "")
def Pj.nm (p : Pj) (i : Nat) : Str := p.T.flds.getD i ""
def Pj.fA (p : Pj) (K : PySem.W.Frag) (i : Nat) : Addr := match p.ds[i]? with
  | some d => He.fAd K d.at_
  | none => 0
def Pj.gd (p : Pj) (prog : Program) (w : World) (K : PySem.W.Frag) (mg : Str → Option Value) (base : Heap) : Gd where
  prog := prog
  w := w
  K := K
  mg := mg
  base := base
  cA := p.cA K
  nm := p.nm
  nn := p.T.flds.length
  M := p.T.M
def glB1 (K : PySem.W.Frag) (x : Str) (d : Option D) : Bool := match PySem.W.nsIn K mainGlobals x, d with
  | some (some (.int i _)), some (.int j) => decide (i = j)
  | some (some (.str y _)), some (.str s) => decide (y = sV s) && s.all fun c => decide (c < 1114112)
  | _, _ => false
def cB (p : Pj) (P : Program) (K : PySem.W.Frag) (c : Nat) : Bool := match p.C[c]? with
  | some C => decide (PySem.W.nsIn K mainGlobals (p.T.cls.getD c "") = some (some (.ref (p.cA K c)))) && ((match C.init with
    | some f => clsB K p.nm p.T.flds.length (p.cA K c) C.flds && (mkB K (p.cA K c) (p.fA K f) && (List.range p.C.length).all fun c' => match p.C[c']? with
      | some C' => !C'.init.isSome || decide (PySem.W.kitOne K (.ref (p.cA K c)) (.ref (p.cA K c')) = some (decide (c = c')))
      | none => true)
    | none => true) && ((match C.eq with
    | some f => eqB K (p.cA K c) (p.fA K f)
    | none => true) && (match C.exf with
    | some f => errB P K (p.cA K c) (He.ma K (p.cA K c) "__init__") (p.nm f) && (List.range p.T.cls.length).all fun c' => !errC p.T c' || decide (PySem.W.exmOne K (.ref (p.cA K c)) (.ref (p.cA K c')) = some ((p.T.M.sub c).contains c'))
    | none => true)))
  | none => false
def Pj.exB0 (p : Pj) (P : Program) (K : PySem.W.Frag) : Bool :=
  (List.range p.C.length).all (cB p P K) && (bltNames.all (fun x => decide (PySem.W.nsIn K mainGlobals x = some none)) && (decide (PySem.W.nsIn K mainGlobals "super" = some none) && (decide (PySem.W.nsIn K cStatics "thirdparty.any" = some none) &&
  ((p.T.globs.zip p.gl).all (fun q => glB1 K q.1 q.2) && ((List.range p.T.fns.length).all (fun i => decide (PySem.W.nsIn K mainGlobals (p.T.fns.getD i "") = some (some (.ref (p.fA K i))))) &&
  (decide (PySem.W.specialIn K (.builtin "object.__class__") "__get__" = some (some (.builtin "getset_descriptor.__get__"))) && decide (PySem.W.takesIn K (.builtin "object.__class__") = some true)))))))
/-- a class's methods -/
def Pj.mtB (p : Pj) (K : PySem.W.Frag) : Bool := (List.range p.C.length).all fun c => match p.C[c]? with
  | some C => C.meths.all fun q => fB K (p.cA K c) (p.nm q.1) (some (.ref (p.fA K q.2))) && (PySem.W.isFn K (.ref (p.fA K q.2)) && PySem.W.keepIn K (.ref (p.fA K q.2)))
  | none => true
def Pj.exB (p : Pj) (P : Program) (K : PySem.W.Frag) : Bool := p.exB0 P K && p.mtB K
theorem exB_0 {p : Pj} {P : Program} {K : PySem.W.Frag} (h : p.exB P K = true) : p.exB0 P K = true := by
  unfold Pj.exB at h
  rw [Bool.and_eq_true] at h; exact h.1
theorem lk_in {m f : Nat} : ∀ {l : List (Nat × Nat)}, l.lookup m = some f → (m, f) ∈ l
  | [], h => nomatch h
  | (a, b) :: r, h => by
    simp only [List.lookup] at h
    split at h
    · rename_i e
      cases h
      rw [beq_iff_eq.mp e]
      exact List.mem_cons_self
    · exact List.mem_cons_of_mem _ (lk_in h)
theorem mtB_ok {p : Pj} {P : Program} {K : PySem.W.Frag} (h : p.exB P K = true) {c : Nat} {C : ClI} {m f : Nat} (hC : p.C[c]? = some C) (hm : C.meths.lookup m = some f) : Meth K (p.cA K c) (p.nm m) (p.fA K f) := by
  unfold Pj.exB at h
  rw [Bool.and_eq_true] at h
  have z := List.all_eq_true.mp h.2 c (List.mem_range.mpr (List.getElem?_eq_some_iff.mp hC).1)
  rw [hC] at z
  have y := List.all_eq_true.mp z (m, f) (lk_in hm)
  unfold fB at y
  simp only [Bool.and_eq_true, decide_eq_true_eq] at y
  exact ⟨y.1, y.2.1, y.2.2⟩
/-- what the printed tables say of themselves -/
structure PjOk (p : Pj) (P : Program) : Prop where
  MF : ∀ i, p.T.M.fns i = p.F[i]?
  MC : ∀ c, p.T.M.cls c = p.C[c]?
  MG : ∀ g, p.T.M.glob g = (p.gl[g]?).join
  lc : p.T.cls.length = p.C.length
  lg : p.T.globs.length = p.gl.length
  lf : p.T.fns.length ≤ p.F.length
  ld : p.ds.length = p.F.length
  tx : ∀ (i : Nat) (d : DI) (F : FnI), p.ds[i]? = some d → p.F[i]? = some F → DTxt p.T d F
  nd : p.T.flds.Nodup
  ini : ∀ (c : Nat) (C : ClI) (f : Nat), p.C[c]? = some C → C.init = some f → ∃ F, p.F[f]? = some F
  eqs : ∀ (c : Nat) (C : ClI) (f : Nat), p.C[c]? = some C → C.eq = some f → C.init.isSome = true ∧ ∃ F, p.F[f]? = some F ∧ F.np = 2
  top : (P.main.scope.names.lookup ("super" : Str)).isSome = false
  mts : ∀ (c : Nat) (C : ClI) (m f : Nat), p.C[c]? = some C → C.meths.lookup m = some f → ∃ F, p.F[f]? = some F
theorem getD_of {α : Type} {l : List α} {i : Nat} {x d : α} (h : l[i]? = some x) : l.getD i d = x := by
  rw [List.getD_eq_getElem?_getD, h]; rfl
section
variable {p : Pj} {P : Program} {w : World} {K : PySem.W.Frag} {mg : Str → Option Value} {base : Heap} {h : Heap}
theorem cls_facts (q : PjOk p P) (X : K.In h) (G : h.Ns mainGlobals mg) (e : p.exB0 P K = true) {c : Nat} {C : ClI} (hC : p.C[c]? = some C) :
    (∀ x, p.T.cls[c]? = some x → mg x = some (.ref (p.cA K c))) ∧
    (∀ f, C.init = some f → clsB K p.nm p.T.flds.length (p.cA K c) C.flds = true ∧ Mk K (p.cA K c) (p.fA K f) ∧ ∀ c' C', p.C[c']? = some C' → C'.init.isSome = true → PySem.W.kitOne K (.ref (p.cA K c)) (.ref (p.cA K c')) = some (decide (c = c'))) ∧
    (∀ f, C.eq = some f → PySem.W.findIn K (.ref (p.cA K c)) "__eq__" = some (some (.ref (p.fA K f))) ∧ PySem.W.isFn K (.ref (p.fA K f)) = true ∧ PySem.W.notFirst K (p.cA K c) (.type "tuple") = true) ∧
    ∀ f, C.exf = some f → errB P K (p.cA K c) (He.ma K (p.cA K c) "__init__") (p.nm f) = true ∧ ∀ c' x', p.T.cls[c']? = some x' → errC p.T c' = true → PySem.W.exmOne K (.ref (p.cA K c)) (.ref (p.cA K c')) = some ((p.T.M.sub c).contains c') := by
  have hlt : c < p.C.length := (List.getElem?_eq_some_iff.mp hC).1
  have e1 : cB p P K c = true := by
    unfold Pj.exB0 at e
    simp only [Bool.and_eq_true] at e
    exact List.all_eq_true.mp e.1 c (List.mem_range.mpr hlt)
  unfold cB at e1
  rw [hC] at e1
  simp only [Bool.and_eq_true, decide_eq_true_eq] at e1
  obtain ⟨a1, a2, a3, a4⟩ := e1
  refine ⟨fun x hx => ?_, fun f hf => ?_, fun f hf => ?_, fun f hf => ?_⟩
  · rw [getD_of hx] at a1
    exact PySem.W.mg_of X G a1
  · rw [hf] at a2
    simp only [Bool.and_eq_true] at a2
    refine ⟨a2.1, mkB_ok a2.2.1, fun c' C' h1 h2 => ?_⟩
    have := List.all_eq_true.mp a2.2.2 c' (List.mem_range.mpr (List.getElem?_eq_some_iff.mp h1).1)
    rw [h1] at this
    simpa [h2] using this
  · rw [hf] at a3
    exact eqB_ok a3
  · rw [hf] at a4
    simp only [Bool.and_eq_true] at a4
    refine ⟨a4.1, fun c' x' hx he => ?_⟩
    have z := List.all_eq_true.mp a4.2 c' (List.mem_range.mpr (List.getElem?_eq_some_iff.mp hx).1)
    rw [he] at z
    simpa using z
end
end Mi
end
section
set_option Elab.async false
set_option linter.all false
set_option maxRecDepth 100000
set_option maxHeartbeats 2000000
/-! from the facts to the program's word -/
namespace Mi
open PySem L2 PyProof.Rows RZ
section
variable {p : Pj} {P : Program} {w : World} {K : PySem.W.Frag} {mg : Str → Option Value} {base : Heap} {h : Heap}
theorem clsB_ok {nm : Nat → Str} {nn : Nat} {a : Addr} {fl : List Nat} (h : clsB K nm nn a fl = true) : Cls K a ∧ PySem.W.findIn K (.ref a) "__class__" = some (some (.builtin "object.__class__")) ∧ PySem.W.mroIn K a (.type "object") = some true ∧
    (∀ f ∈ fl, NoAttr K a (nm f) ∧ f < nn) ∧ (∀ t ∈ tyTs, PySem.W.kitOne K (.ref a) (.type (tyNm t)) = some false) ∧ ∀ t ∈ (["NoneType", "bool", "int", "str", "tuple", "list"] : List String), PySem.W.kitOne K (.type t) (.ref a) = some false := by
  unfold clsB fB at h
  simp only [Bool.and_eq_true, decide_eq_true_eq, List.all_eq_true] at h
  obtain ⟨h1, h2, h3, h4, h5, h6, h7, h8, h9⟩ := h
  exact ⟨⟨h1, h2, h3, h4⟩, h5, h6, fun f hf => h7 f hf, h8, h9⟩
theorem kok (q : PjOk p P) (X : K.In h) (G : h.Ns mainGlobals mg) (e : p.exB0 P K = true) : KOk (p.gd P w K mg base) := by
  have cl := fun (c : Nat) (C : ClI) (hC : (p.gd P w K mg base).M.cls c = some C) => cls_facts q X G e ((q.MC c).symm.trans hC)
  have ci : ∀ (c : Nat) (C : ClI), (p.gd P w K mg base).M.cls c = some C → C.init.isSome = true → clsB K p.nm p.T.flds.length (p.cA K c) C.flds = true ∧ True ∧ ∀ (c' : Nat) (C' : ClI), p.C[c']? = some C' → C'.init.isSome = true → PySem.W.kitOne K (.ref (p.cA K c)) (.ref (p.cA K c')) = some (decide (c = c')) := fun c C hC hi => by
    obtain ⟨f, hf⟩ := Option.isSome_iff_exists.mp hi
    have z := (cl c C hC).2.1 f hf
    exact ⟨z.1, trivial, z.2.2⟩
  have e2 := e
  unfold Pj.exB0 at e2
  simp only [Bool.and_eq_true, decide_eq_true_eq] at e2
  refine ⟨fun c C hC hi => ?_, ⟨e2.2.2.2.2.2.2.1, e2.2.2.2.2.2.2.2⟩, fun c C hC hi f hf => ?_, fun i j hi hj hij => ?_, fun c C c' C' hC hi hC' hi' => ?_, fun c C hC hi t ht => ?_, fun c C hC hi t ht => ?_⟩
  · have z := clsB_ok (ci c C hC hi).1
    exact ⟨z.1, z.2.1, z.2.2.1⟩
  · exact (clsB_ok (ci c C hC hi).1).2.2.2.1 f hf
  · have hi' : i < p.T.flds.length := hi
    have hj' : j < p.T.flds.length := hj
    have h1 : p.T.flds[i] = p.T.flds[j] := by
      have : p.T.flds.getD i "" = p.T.flds.getD j "" := hij
      rw [List.getD_eq_getElem?_getD, List.getD_eq_getElem?_getD, List.getElem?_eq_getElem hi', List.getElem?_eq_getElem hj'] at this
      exact this
    exact (List.getElem_inj q.nd).mp h1
  · exact (ci c C hC hi).2.2 c' C' ((q.MC c').symm.trans hC') hi'
  · cases t with
    | cls d => exact absurd rfl (ht d)
    | _ => exact (clsB_ok (ci c C hC hi).1).2.2.2.2.1 _ (by simp [tyTs])
  · exact (clsB_ok (ci c C hC hi).1).2.2.2.2.2 t ht
theorem errs (q : PjOk p P) (X : K.In h) (G : h.Ns mainGlobals mg) (e : p.exB0 P K = true) {c : Nat} {C : ClI} {f : Nat} (hC : p.C[c]? = some C) (hf : C.exf = some f) :
    (∃ fd, ExI P K mg (p.cA K c) (He.ma K (p.cA K c) "__init__") (p.nm f) fd ∧ Binds K fd ["self", "value"] []) ∧ PySem.W.findIn K (.ref (p.cA K c)) "__init__" = some (some (.ref (He.ma K (p.cA K c) "__init__"))) ∧
      PySem.W.typeIn K (.ref (He.ma K (p.cA K c) "__init__")) = some (.type "function") ∧ XfC K (p.cA K c) ∧ PySem.W.findIn K (.ref (p.cA K c)) (p.nm f) = some none := by
  have e2 := e
  unfold Pj.exB0 at e2
  simp only [Bool.and_eq_true, decide_eq_true_eq] at e2
  exact errB_ok ((cls_facts q X G e hC).2.2.2 f hf).1 q.top (PySem.W.mg_none_of X G e2.2.2.1) e2.2.2.2.1
theorem erok (q : PjOk p P) (X : K.In h) (G : h.Ns mainGlobals mg) (e : p.exB0 P K = true) : ErOk (p.gd P w K mg base) := by
  refine ⟨fun c C f hC hf => ?_⟩
  obtain ⟨⟨fd, h1, h2⟩, h3, h4, _, _⟩ := errs q X G e ((q.MC c).symm.trans hC) hf
  exact ⟨_, fd, h1, h3, h4, h2⟩
theorem xok (q : PjOk p P) (X : K.In h) (G : h.Ns mainGlobals mg) (e : p.exB0 P K = true) : XOk (p.gd P w K mg base) p.T := by
  refine ⟨fun c x hx => ?_, fun c C f hC hf => ?_, fun c C f c' x' hC hf hx he => ?_, fun i x hx => getD_of hx⟩
  · have hlt : c < p.C.length := by rw [← q.lc]; exact (List.getElem?_eq_some_iff.mp hx).1
    exact (cls_facts q X G e (List.getElem?_eq_getElem hlt)).1 x hx
  · obtain ⟨_, _, _, h4, h5⟩ := errs q X G e ((q.MC c).symm.trans hC) hf
    exact ⟨h4, h5⟩
  · exact ((cls_facts q X G e ((q.MC c).symm.trans hC)).2.2.2 f hf).2 c' x' hx he
theorem pok (q : PjOk p P) (X : K.In h) (G : h.Ns mainGlobals mg) (e : p.exB P K = true) (hd : ∀ d ∈ p.ds, ∃ fd, FunD K d.x d.qual (defArgs d.st) (defBody d.st) (defScope d.st) [] [] (He.fAd K d.at_) fd) : POk (p.gd P w K mg base) p.T := by
  have e0 := e
  replace e := exB_0 e
  have e2 := e
  unfold Pj.exB0 at e2
  simp only [Bool.and_eq_true, decide_eq_true_eq, List.all_eq_true] at e2
  refine ⟨rfl, kok q X G e, xok q X G e, fun g x hx => ?_, fun x hx => PySem.W.mg_none_of X G (e2.2.1 x hx), fun i F hF => ?_, fun i x hx => ?_, fun c C f hC hf => ?_, fun c C f hC hf => ?_, fun c C m f hC hm => ?_⟩
  · have hlt : g < p.gl.length := by rw [← q.lg]; exact (List.getElem?_eq_some_iff.mp hx).1
    have hz : (p.T.globs.zip p.gl)[g]? = some (x, p.gl[g]) := by
      rw [List.getElem?_zip_eq_some]
      exact ⟨hx, List.getElem?_eq_getElem hlt⟩
    have hb := e2.2.2.2.2.1 _ (List.mem_of_getElem? hz)
    unfold glB1 at hb
    split at hb
    · rename_i i t j h1 h2
      have := of_decide_eq_true hb
      subst this
      refine ⟨.int i, .int i t, .int i, PySem.W.mg_of X G h1, ?_, ⟨_, rfl⟩, fun W => by simp [RepV]⟩
      show p.T.M.glob g = _
      rw [q.MG, List.getElem?_eq_getElem hlt, show p.gl[g] = some (.int i) from h2]
      rfl
    · rename_i y t s h1 h2
      rw [Bool.and_eq_true, decide_eq_true_eq, List.all_eq_true] at hb
      obtain ⟨rfl, hb⟩ := hb
      refine ⟨.str (sV s), .str (sV s) t, .str s, PySem.W.mg_of X G h1, ?_, ⟨_, rfl⟩, fun W => ?_⟩
      · show p.T.M.glob g = _
        rw [q.MG, List.getElem?_eq_getElem hlt, show p.gl[g] = some (.str s) from h2]
        rfl
      · simp only [RepV]
        exact ⟨trivial, fun c hc => by have := hb c hc; simpa using this⟩
    · cases hb
  · have hF' : p.F[i]? = some F := (q.MF i).symm.trans hF
    have hlt : i < p.ds.length := by rw [q.ld]; exact (List.getElem?_eq_some_iff.mp hF').1
    have hdi : p.ds[i]? = some p.ds[i] := List.getElem?_eq_getElem hlt
    obtain ⟨fd, FD⟩ := hd _ (List.getElem_mem hlt)
    have t := q.tx i _ F hdi hF'
    have ea : p.fA K i = He.fAd K p.ds[i].at_ := by unfold Pj.fA; rw [hdi]
    refine ⟨p.fA K i, fd, p.ds[i].ps, FD.bindsN t.bd, ⟨_, _, _, _, by rw [ea]; exact fun_of FD, t.sc, t.np, t.nn, t.ch⟩, fun x hx => ?_, by rw [ea]; exact FD.kp, fun c C hC hi => ?_, fun c C hC he => ?_⟩
    · have z := e2.2.2.2.2.2.1 i (List.mem_range.mpr (List.getElem?_eq_some_iff.mp hx).1)
      rw [getD_of hx] at z
      exact PySem.W.mg_of X G z
    · exact ((cls_facts q X G e ((q.MC c).symm.trans hC)).2.1 i hi).2.1
    · exact (cls_facts q X G e ((q.MC c).symm.trans hC)).2.2.1 i he
  · have hlt : i < p.F.length := Nat.lt_of_lt_of_le (List.getElem?_eq_some_iff.mp hx).1 q.lf
    exact ⟨p.F[i], (q.MF i).trans (List.getElem?_eq_getElem hlt)⟩
  · obtain ⟨F, hF⟩ := q.ini c C f ((q.MC c).symm.trans hC) hf
    exact ⟨F, (q.MF f).trans hF⟩
  · obtain ⟨h1, F, hF, h2⟩ := q.eqs c C f ((q.MC c).symm.trans hC) hf
    exact ⟨h1, F, (q.MF f).trans hF, h2⟩
  · have hC' : p.C[c]? = some C := (q.MC c).symm.trans hC
    obtain ⟨F, hF'⟩ := q.mts c C m f hC' hm
    have hlt : f < p.ds.length := by rw [q.ld]; exact (List.getElem?_eq_some_iff.mp hF').1
    have hdi : p.ds[f]? = some p.ds[f] := List.getElem?_eq_getElem hlt
    obtain ⟨fd, FD⟩ := hd _ (List.getElem_mem hlt)
    have t := q.tx f _ F hdi hF'
    have ea : p.fA K f = He.fAd K p.ds[f].at_ := by unfold Pj.fA; rw [hdi]
    refine ⟨?_, F, p.fA K f, fd, p.ds[f].ps, (q.MF f).trans hF', FD.bindsN t.bd, ⟨_, _, _, _, by rw [ea]; exact fun_of FD, t.sc, t.np, t.nn, t.ch⟩, mtB_ok e0 hC' hm⟩
    rw [q.lc]; exact (List.getElem?_eq_some_iff.mp hC').1
end
end Mi
end
section
set_option Elab.async false
set_option linter.all false
set_option maxRecDepth 100000
set_option maxHeartbeats 2000000
/-! the head's hook, a law's end -/
namespace Mi
open PySem L2 PyProof.Rows RZ
/-- what is looked at: from the module's names and the statics, n rounds on -/
def asM (g : Addr → Option Obj) : Nat → List Addr
  | 0 => [mainGlobals, cStatics]
  | n + 1 => He.growD g (asM g n)
/-- nothing written is a list (but for those of the library's own) -/
def noLst (K : PySem.W.Frag) : Bool := K.all fun q => match q.2 with
  | ⟨.type c, none, .seq _ _, _⟩ => decide (c ≠ "list")
  | _ => true
def obM (n : Nat) (p : Pj) (P : Program) (g : Addr → Option Obj) : He.AlD := (p.exB P (He.frG g (asM g n)) && (noLst (He.frG g (asM g n)) && p.ds.all fun d => d.dd.ok (He.frG g (asM g n))), p.ds.map fun d => He.fnW (He.frG g (asM g n)) d.at_)
structure Told (p : Pj) (P : Program) (K : PySem.W.Frag) : Prop where
  ex : p.exB P K = true
  nl : noLst K = true
  dd : ∀ d ∈ p.ds, d.dd.ok K = true
  fw : ∀ d ∈ p.ds, He.fnW K d.at_ = d.dd.val
def vaM (p : Pj) : He.AlD := (true, p.ds.map fun d => d.dd.val)
theorem map_eq_mem {α β : Type} {f g : α → β} : ∀ {l : List α}, l.map f = l.map g → ∀ x ∈ l, f x = g x
  | [], _, _, h => nomatch h
  | a :: l, e, x, h => by
    simp only [List.map_cons, List.cons.injEq] at e
    rcases List.mem_cons.mp h with rfl | h
    · exact e.1
    · exact map_eq_mem e.2 x h
theorem told_of {n : Nat} {p : Pj} {P : Program} {g : Addr → Option Obj} (e : obM n p P g = vaM p) : Told p P (He.frG g (asM g n)) := by
  have e1 : (p.exB P (He.frG g (asM g n)) && (noLst (He.frG g (asM g n)) && p.ds.all fun d => d.dd.ok (He.frG g (asM g n)))) = true := congrArg (fun z : He.AlD => z.1) e
  have e2 : (p.ds.map fun d => He.fnW (He.frG g (asM g n)) d.at_) = p.ds.map fun d => d.dd.val := congrArg (fun z : He.AlD => z.2) e
  simp only [Bool.and_eq_true, List.all_eq_true] at e1
  exact ⟨e1.1, e1.2.1, e1.2.2, map_eq_mem e2⟩
def hkM (n : Nat) (p : Pj) (P : Program) : PySem.W.Hook where
  α := He.AlD
  obs := fun s => obM n p P s.heap.get?
  val := fun _ => vaM p
  says := fun _ h => ∃ K : PySem.W.Frag, K.In h ∧ Told p P K
  of := fun _ _ e => ⟨_, He.frG_in, told_of e⟩
  keeps := fun _ _ _ ⟨K, hK, c⟩ k => ⟨K, PySem.W.Frag.In.keeps hK k, c⟩
theorem obM_eq {n : Nat} {p : Pj} {P : Program} {g : Addr → Option Obj} {s : Shared} (h : ∀ a, g a = s.heap.get? a) : obM n p P g = (hkM n p P).obs s := by
  have e : g = s.heap.get? := funext h
  rw [e] <;> rfl
theorem Told.fd {p : Pj} {P : Program} {K : PySem.W.Frag} (t : Told p P K) : ∀ d ∈ p.ds, ∃ fd, FunD K d.x d.qual (defArgs d.st) (defBody d.st) (defScope d.st) [] [] (He.fAd K d.at_) fd := fun d hd =>
  He.DefD.funD (d := d.dd) (t.fw d hd) (t.dd d hd)
theorem lk_mem {a : Addr} {o : Obj} : ∀ {l : PySem.W.Frag}, l.lookup a = some o → (a, o) ∈ l
  | [], h => nomatch h
  | (b, u) :: r, h => by
    simp only [List.lookup] at h
    split at h
    · rename_i e
      cases h
      rw [beq_iff_eq.mp e]
      exact List.mem_cons_self
    · exact List.mem_cons_of_mem _ (lk_mem h)
theorem nolst_ok {K : PySem.W.Frag} (h : noLst K = true) {a : Addr} {o : Obj} (e : K.lookup a = some o) (h1 : o.cls = .type "list") (h2 : o.dict = none) {its : Array Value} {n : Nat} (h3 : o.data = .seq its n) : False := by
  have hm := lk_mem e
  have z := List.all_eq_true.mp h _ hm
  obtain ⟨oc, od, dt, sl⟩ := o
  dsimp only at h1 h2 h3
  subst h1 h2 h3
  simp at z
/-- the script, as the law gets it -/
theorem script_rep {G : Gd} {H : Hp} {a : Addr} {ns : List Int} (hO : Only H) (h : Rd H a (.lst (ns.map V.int))) : ∃ W, Sim G W [] H ∧ RepVs G W [.lst (ns.map D.int)] [.ref a] := by
  refine ⟨⟨H, []⟩, ⟨fun _ _ h => h, rfl, List.nodup_nil, fun a h => (nomatch h), fun n a o h => by cases h⟩, ?_⟩
  have key : ∀ l : List Int, RepVs G ⟨H, []⟩ (l.map D.int) (l.map V.int) := by
    intro l
    induction l with
    | nil => simp [RepVs]
    | cons x l ih => simp only [List.map_cons, RepVs]; exact ⟨_, _, rfl, by simp [RepV], ih⟩
  simp only [RepVs]
  exact ⟨_, _, rfl, by simp only [RepV]; exact ⟨a, _, rfl, h, key ns⟩, rfl⟩
/-- a law's end -/
theorem law_end {l : PySem.W.OpenLaw} {q : Program} {loose : List Str} {XP : (Str → Option Value) → Heap → Prop} {n : Nat} {d : DefRec} {p : Pj} {k li : Nat} {di : DI} (qk : PjOk p l.prog) (hn : l.most = some 63) (hdf : d.params.defaults = []) (hr : Room (2 * k) callerA)
    (hD : p.ds[li]? = some di) (hps : di.ps = [("script" : Str)]) (hF : p.T.fns[li]? = some d.name)
    (math : ∀ ns : List Int, ns.length ≤ 63 → (∀ z ∈ ns, Builtin.Int.intBits z ≤ 1048576) → ∃ S, callF p.T.M k li [.lst (ns.map D.int)] [] = .ok (.bl true) S) :
    PySem.W.WalkO q loose XP (hkM n p l.prog).says l.row.toRowW d [] (fun f vs => PySem.call f vs) := by
  refine Att.attach_callB hn hdf fun w s₀ s₁ mg mb fa o pm cd doc a vs ns G Y ho hd hcd hmg hobj hints hlen hbits hg => ?_
  obtain ⟨K, KX, t⟩ := Y
  have pk := fun base => pok (w := w) (base := base) qk KX G.T.g t.ex t.fd
  have hlt : li < p.F.length := Nat.lt_of_lt_of_le (List.getElem?_eq_some_iff.mp hF).1 qk.lf
  have hFi : p.T.M.fns li = some p.F[li] := (qk.MF li).trans (List.getElem?_eq_getElem hlt)
  obtain ⟨FD, hFD⟩ := t.fd di (List.mem_of_getElem? hD)
  have tx := qk.tx li di _ hD (List.getElem?_eq_getElem hlt)
  have ea : p.fA K li = He.fAd K di.at_ := by unfold Pj.fA; rw [hD]
  have efa : fa = He.fAd K di.at_ := by
    have e2 := exB_0 t.ex
    unfold Pj.exB0 at e2
    simp only [Bool.and_eq_true, decide_eq_true_eq, List.all_eq_true] at e2
    have z := e2.2.2.2.2.2.1 li (List.mem_range.mpr (List.getElem?_eq_some_iff.mp hF).1)
    rw [getD_of hF] at z
    have := PySem.W.mg_of KX G.T.g z
    rw [hmg] at this
    cases this
    exact ea
  subst efa
  have fn := fun base : Heap => all_ok (pk base) (rs_ok (pk base).xo (erok qk KX G.T.g (exB_0 t.ex))) k li _ (He.fAd K di.at_) FD di.ps hFi ⟨_, _, _, _, fun_of hFD, tx.sc, tx.np, tx.nn, tx.ch⟩
  refine L2.law_call (x := "script") (fd := FD) (sp := fun vs H Q E => ∀ base, spF (p.gd l.prog w K mg base) (callF p.T.M k) 1 li vs H Q E) KX G.T.g G.T.b G.T.builtins G.T.nolimit hg hobj hints (Nat.le_trans hlen (by rw [sizeLine_eq]; decide)) hr (fun base _ _ => ?_) (fun s u => ?_) (fun H hO hS => ?_) (CX := L2.CX l.prog w) (k := 2 * k) fun H e s' h => ?_
  · have z := fn base
    rw [hps] at z
    exact FnOk.imp z fun vs H Q E h => h base
  · have z := hFD.bindsA (ps := di.ps) tx.bd s [u] (by rw [hps]; rfl)
    rw [hps] at z
    exact z
  · intro base
    rcases hS with hS | ⟨o', its, n', h1, h2, h3, h4, _⟩
    · obtain ⟨W, h1, h2⟩ := script_rep (G := p.gd l.prog w K mg base) hO hS
      obtain ⟨S, hm⟩ := math ns hlen hbits
      refine ⟨rfl, W, [], _, h1, h2, ?_⟩
      rw [hm]
      intro W' H' v _ _ r
      simpa [RepV] using r
    · exact (nolst_ok t.nl h1 h2 h3 h4).elim
  · obtain ⟨_, _, _, _, _, _, _, _, _, _, _, _, z⟩ := h
    exact z
/-- four looks at one end -/
theorem join4 {σ α β γ δ : Type} {x : Option σ} {f : σ → α} {g : σ → β} {h : σ → γ × δ} {a : α} {b : β} {c : γ × δ} (h1 : x.map f = some a) (h2 : x.map g = some b) (h3 : x.map (fun s => (h s).1) = some c.1) (h4 : x.map (fun s => (h s).2) = some c.2) : x.map (fun s => (f s, g s, h s)) = some (a, b, c) := by
  cases x with
  | none => cases h1
  | some s =>
    simp only [Option.map_some, Option.some.injEq] at h1 h2 h3 h4 ⊢
    rw [h1, h2, Prod.ext h3 h4]
/-! ### small checks of the tables -/
def inCls (st : Stmt) (j : Nat) : Stmt := match st with
  | .ClassDef _ _ _ b _ _ _ _ _ _ _ => b.getD j (.Pass ⟨0, 0, 0, 0⟩)
  | _ => .Pass ⟨0, 0, 0, 0⟩
def iniB (p : Pj) : Bool := p.C.all fun C => match C.init with
  | some f => decide (f < p.F.length)
  | none => true
def eqsB (p : Pj) : Bool := p.C.all fun C => match C.eq with
  | some f => C.init.isSome && (match p.F[f]? with
    | some F => decide (F.np = 2)
    | none => false)
  | none => true
theorem pj_ini {p : Pj} (h : iniB p = true) : ∀ (c : Nat) (C : ClI) (f : Nat), p.C[c]? = some C → C.init = some f → ∃ F, p.F[f]? = some F := fun c C f hC hf => by
  have z := List.all_eq_true.mp h C (List.mem_of_getElem? hC)
  rw [hf] at z
  exact ⟨_, List.getElem?_eq_getElem (of_decide_eq_true z)⟩
def mtsB (p : Pj) : Bool := p.C.all fun C => C.meths.all fun q => decide (q.2 < p.F.length)
theorem pj_mts {p : Pj} (h : mtsB p = true) : ∀ (c : Nat) (C : ClI) (m f : Nat), p.C[c]? = some C → C.meths.lookup m = some f → ∃ F, p.F[f]? = some F := fun c C m f hC hf => by
  have z := List.all_eq_true.mp (List.all_eq_true.mp h C (List.mem_of_getElem? hC)) (m, f) (lk_in hf)
  exact ⟨_, List.getElem?_eq_getElem (of_decide_eq_true z)⟩
theorem pj_eqs {p : Pj} (h : eqsB p = true) : ∀ (c : Nat) (C : ClI) (f : Nat), p.C[c]? = some C → C.eq = some f → C.init.isSome = true ∧ ∃ F, p.F[f]? = some F ∧ F.np = 2 := fun c C f hC hf => by
  have z := List.all_eq_true.mp h C (List.mem_of_getElem? hC)
  rw [hf] at z
  simp only [Bool.and_eq_true] at z
  refine ⟨z.1, ?_⟩
  cases e : p.F[f]? with
  | none => rw [e] at z; cases z.2
  | some F => rw [e] at z; exact ⟨F, rfl, of_decide_eq_true z.2⟩
end Mi
end
section
set_option maxRecDepth 100000
/-! the program of a law, printed by gen.py -/
namespace Ck10
open Mi
/-- is_integer -/
def b0 : Sts := (.cons (.ret (.andE (.isi (.var 0) .int) (.notE (.isi (.var 0) .bool)))) .nil)
def f0 : FnI := ⟨1, 1, b0⟩
/-- is_below -/
def b1 : Sts := (.cons (.ret (.andE (.call 0 (.cons (.var 0) .nil)) (.chn .le .lt (.cst (.int 0)) (.var 0) (.var 1)))) .nil)
def f1 : FnI := ⟨2, 2, b1⟩
/-- is_ascending -/
def x2_0 : Ex := (.cmp .lt (.idx (.var 0) (.var 1)) (.idx (.var 0) (.bin .add false (.var 1) (.cst (.int 1)))))
def b2 : Sts := (.cons (.ret (.blt .all false (.cons (.comp false x2_0 (.var 1) (.rng1 (.bin .sub false (.blt .len false (.cons (.var 0) .nil)) (.cst (.int 1)))) .nil) .nil))) .nil)
def f2 : FnI := ⟨1, 2, b2⟩
/-- is_rising_pair -/
def b3 : Sts := (.cons (.cond (.orE (.notE (.isi (.var 0) .tuple)) (.cmp .ne (.blt .len false (.cons (.var 0) .nil)) (.cst (.int 2)))) (.cons (.ret (.cst (.bl false))) .nil) .nil) (.cons (.ret (.andE (.call 1 (.cons (.idx (.var 0) (.cst (.int 0))) (.cons (.var 1) .nil))) (.andE (.call 1 (.cons (.idx (.var 0) (.cst (.int 1))) (.cons (.var 1) .nil))) (.cmp .lt (.idx (.var 0) (.cst (.int 0))) (.idx (.var 0) (.cst (.int 1))))))) .nil))
def f3 : FnI := ⟨2, 2, b3⟩
/-- are_rising_pairs -/
def x4_0 : Ex := (.call 3 (.cons (.var 2) (.cons (.var 1) .nil)))
def b4 : Sts := (.cons (.cond (.orE (.notE (.isi (.var 0) .tuple)) (.notE (.blt .all false (.cons (.comp false x4_0 (.var 2) (.seq (.var 0)) .nil) .nil)))) (.cons (.ret (.cst (.bl false))) .nil) .nil) (.cons (.ret (.call 2 (.cons (.var 0) .nil))) .nil))
def f4 : FnI := ⟨2, 3, b4⟩
/-- is_shape -/
def x5_0 : Ex := (.call 6 (.cons (.var 0) (.cons (.var 1) (.cons (.var 3) .nil))))
def b5 : Sts := (.cons (.cond (.orE (.notE (.isi (.var 2) .tuple)) (.orE (.cmp .ne (.blt .len false (.cons (.var 2) .nil)) (.cst (.int 2))) (.orE (.notE (.call 0 (.cons (.idx (.var 2) (.cst (.int 0))) .nil))) (.cmp .ne (.idx (.var 2) (.cst (.int 0))) (.var 1))))) (.cons (.ret (.cst (.bl false))) .nil) .nil) (.cons (.ret (.andE (.isi (.idx (.var 2) (.cst (.int 1))) .tuple) (.blt .all false (.cons (.comp false x5_0 (.var 3) (.seq (.idx (.var 2) (.cst (.int 1)))) .nil) .nil)))) .nil))
def f5 : FnI := ⟨3, 4, b5⟩
/-- is_part -/
def b6 : Sts := (.cons (.cond (.call 0 (.cons (.var 2) .nil)) (.cons (.ret (.chn .le .le (.cst (.int 1)) (.var 2) (.glob 2))) .nil) .nil) (.cons (.cond (.orE (.notE (.isi (.var 2) .tuple)) (.orE (.cmp .ne (.blt .len false (.cons (.var 2) .nil)) (.cst (.int 2))) (.notE (.call 0 (.cons (.idx (.var 2) (.cst (.int 0))) .nil))))) (.cons (.ret (.cst (.bl false))) .nil) .nil) (.cons (.ret (.andE (.cmp .isin (.tup (.cons (.var 1) (.cons (.idx (.var 2) (.cst (.int 0))) .nil))) (.att (.var 0) 0)) (.call 5 (.cons (.var 0) (.cons (.idx (.var 2) (.cst (.int 0))) (.cons (.var 2) .nil)))))) .nil)))
def f6 : FnI := ⟨3, 3, b6⟩
/-- is_whole_run -/
def x7_0 : Ex := (.blt .len false (.cons (.idx (.var 3) (.cst (.int 1))) .nil))
def b7 : Sts := (.cons (.cond (.notE (.call 5 (.cons (.var 0) (.cons (.cst (.int 0)) (.cons (.var 1) .nil))))) (.cons (.ret (.cst (.bl false))) .nil) .nil) (.cons (.set 2 (.call 8 (.cons (.var 1) .nil))) (.cons (.cond (.orE (.cmp .gt (.blt .len false (.cons (.var 2) .nil)) (.glob 0)) (.cmp .gt (.blt .sum false (.cons (.comp false x7_0 (.var 3) (.seq (.var 2)) .nil) .nil)) (.glob 1))) (.cons (.ret (.cst (.bl false))) .nil) .nil) (.cons (.ret (.cmp .le (.call 9 (.cons (.var 1) .nil)) (.glob 2))) .nil))))
def f7 : FnI := ⟨2, 4, b7⟩
/-- runs_within -/
def q8_0 : Sts := (.cons (.cond (.isi (.var 2) .tuple) (.cons (.ex (.bm .extend (.var 1) (.cons (.call 8 (.cons (.var 2) .nil)) .nil))) .nil) .nil) .nil)
def b8 : Sts := (.cons (.set 1 (.lst true (.cons (.var 0) .nil))) (.cons (.fo (.var 2) (.seq (.idx (.var 0) (.cst (.int 1)))) q8_0) (.cons (.ret (.frz (.var 1))) .nil)))
def f8 : FnI := ⟨1, 3, b8⟩
/-- ticks_of -/
def x9_0 : Ex := (.var 2)
def y9_1 : Exs := (.cons (.call 0 (.cons (.var 2) .nil)) .nil)
def b9 : Sts := (.cons (.ret (.blt .sum false (.cons (.comp2 false x9_0 (.var 1) (.seq (.call 8 (.cons (.var 0) .nil))) .nil (.var 2) (.seq (.idx (.var 1) (.cst (.int 1)))) y9_1) .nil))) .nil)
def f9 : FnI := ⟨1, 3, b9⟩
/-- is_run -/
def b10 : Sts := (.cons (.ret (.call 7 (.cons (.var 0) (.cons (.var 1) .nil)))) .nil)
def f10 : FnI := ⟨2, 2, b10⟩
/-- need_run -/
def b11 : Sts := (.cons (.cond (.notE (.call 10 (.cons (.var 0) (.cons (.var 1) .nil)))) (.cons (.rais 3 (.var 1)) .nil) .nil) .nil)
def f11 : FnI := ⟨2, 2, b11⟩
/-- events_of -/
def q12_0 : Sts := (.cons (.cond (.isi (.var 2) .tuple) (.cons (.ex (.bm .extend (.var 1) (.cons (.call 12 (.cons (.var 2) .nil)) .nil))) .nil) (.cons (.ex (.bm .append (.var 1) (.cons (.var 2) .nil))) .nil)) .nil)
def b12 : Sts := (.cons (.set 1 (.lst true (.cons (.tup (.cons (.glob 3) (.cons (.idx (.var 0) (.cst (.int 0))) .nil))) .nil))) (.cons (.fo (.var 2) (.seq (.idx (.var 0) (.cst (.int 1)))) q12_0) (.cons (.ex (.bm .append (.var 1) (.cons (.tup (.cons (.glob 4) (.cons (.idx (.var 0) (.cst (.int 0))) .nil))) .nil))) (.cons (.ret (.frz (.var 1))) .nil))))
def f12 : FnI := ⟨1, 3, b12⟩
/-- trace_of -/
def b13 : Sts := (.cons (.ex (.call 11 (.cons (.var 0) (.cons (.var 1) .nil)))) (.cons (.ret (.blt .tuple false (.cons (.call 12 (.cons (.var 1) .nil)) .nil))) .nil))
def f13 : FnI := ⟨2, 2, b13⟩
/-- is_event -/
def b14 : Sts := (.cons (.cond (.orE (.notE (.isi (.var 0) .tuple)) (.orE (.cmp .ne (.blt .len false (.cons (.var 0) .nil)) (.cst (.int 2))) (.notE (.isi (.idx (.var 0) (.cst (.int 0))) .str)))) (.cons (.ret (.cst (.bl false))) .nil) .nil) (.cons (.ret (.andE (.cmp .eq (.idx (.var 0) (.cst (.int 0))) (.var 1)) (.call 0 (.cons (.idx (.var 0) (.cst (.int 1))) .nil)))) .nil))
def f14 : FnI := ⟨2, 2, b14⟩
/-- told_by -/
def q15_0 : Sts := (.cons (.cond (.cmp .isnot (.var 3) (.cst .non)) (.cons (.ret (.cst .non)) .nil) .nil) (.cons (.cond (.call 14 (.cons (.var 4) (.cons (.glob 3) .nil))) (.cons (.ex (.bm .append (.var 2) (.cons (.idx (.var 4) (.cst (.int 1))) .nil))) (.cons (.ex (.bm .append (.var 1) (.cons (.lst true .nil) .nil))) .nil)) (.cons (.cond (.cmp .eq (.blt .len false (.cons (.var 1) .nil)) (.cst (.int 0))) (.cons (.ret (.cst .non)) .nil) (.cons (.cond (.call 14 (.cons (.var 4) (.cons (.glob 4) .nil))) (.cons (.set 5 (.tup (.cons (.bm .pop (.var 2) .nil) (.cons (.blt .tuple false (.cons (.bm .pop (.var 1) .nil) .nil)) .nil)))) (.cons (.cond (.cmp .ne (.idx (.var 5) (.cst (.int 0))) (.idx (.var 4) (.cst (.int 1)))) (.cons (.ret (.cst .non)) .nil) .nil) (.cons (.cond (.cmp .eq (.blt .len false (.cons (.var 1) .nil)) (.cst (.int 0))) (.cons (.set 3 (.var 5)) .nil) (.cons (.ex (.bm .append (.idx (.var 1) (.neg (.cst (.int 1)))) (.cons (.var 5) .nil))) .nil)) .nil))) (.cons (.cond (.call 0 (.cons (.var 4) .nil)) (.cons (.ex (.bm .append (.idx (.var 1) (.neg (.cst (.int 1)))) (.cons (.var 4) .nil))) .nil) (.cons (.ret (.cst .non)) .nil)) .nil)) .nil)) .nil)) .nil))
def b15 : Sts := (.cons (.set 1 (.lst true .nil)) (.cons (.set 2 (.lst true .nil)) (.cons (.set 3 (.cst .non)) (.cons (.fo (.var 4) (.seq (.var 0)) q15_0) (.cons (.ret (.var 3)) .nil)))))
def f15 : FnI := ⟨1, 6, b15⟩
/-- run_of -/
def b16 : Sts := (.cons (.set 2 (.ite (.isi (.var 1) .tuple) (.call 15 (.cons (.var 1) .nil)) (.cst .non))) (.cons (.cond (.notE (.call 10 (.cons (.var 0) (.cons (.var 2) .nil)))) (.cons (.rais 4 (.var 1)) .nil) .nil) (.cons (.ret (.var 2)) .nil)))
def f16 : FnI := ⟨2, 3, b16⟩
/-- _law_box -/
def b17 : Sts := (.cons (.set 2 (.bin .add false (.bin .mul false (.cst (.int 7919)) (.var 1)) (.cst (.int 101)))) (.cons (.cond (.cmp .lt (.var 1) (.blt .len false (.cons (.var 0) .nil))) (.cons (.set 2 (.blt .abs false (.cons (.idx (.var 0) (.var 1)) .nil))) .nil) (.cons (.cond (.cmp .gt (.blt .len false (.cons (.var 0) .nil)) (.cst (.int 0))) (.cons (.set 2 (.bin .add false (.bin .mul false (.bin .mod false (.blt .int false (.cons (.blt .abs false (.cons (.idx (.var 0) (.bin .mod false (.blt .int false (.cons (.var 1) .nil)) (.blt .len false (.cons (.var 0) .nil)))) .nil)) .nil)) (.cst (.int 1000000007))) (.cst (.int 31))) (.bin .mul false (.cst (.int 7919)) (.var 1)))) .nil) .nil) .nil)) (.cons (.set 3 (.idx (.lst false (.cons (.cst (.int 0)) (.cons (.var 2) .nil))) (.blt .int false (.cons (.cmp .ge (.var 2) (.bin .pow false (.cst (.int 10)) (.cst (.int 18)))) .nil)))) (.cons (.ret (.lst true (.cons (.var 3) (.cons (.bin .add false (.bin .mod false (.blt .int false (.cons (.bin .add false (.bin .mul false (.bin .mod false (.blt .int false (.cons (.var 2) .nil)) (.cst (.int 1000000007))) (.cst (.int 48271))) (.bin .mul false (.cst (.int 613)) (.var 1))) .nil)) (.cst (.int 2147483647))) (.cst (.int 1))) .nil)))) .nil))))
def f17 : FnI := ⟨2, 4, b17⟩
/-- _law_take -/
def b18 : Sts := (.cons (.cond (.cmp .gt (.idx (.var 0) (.cst (.int 0))) (.cst (.int 0))) (.cons (.set 2 (.bin .mod false (.blt .int false (.cons (.idx (.var 0) (.cst (.int 0))) .nil)) (.var 1))) (.cons (.sidx (.var 0) (.cst (.int 0)) (.bin .fdiv false (.idx (.var 0) (.cst (.int 0))) (.var 1))) (.cons (.ret (.var 2)) .nil))) .nil) (.cons (.sidx (.var 0) (.cst (.int 1)) (.bin .mod false (.blt .int false (.cons (.bin .add false (.bin .mul false (.idx (.var 0) (.cst (.int 1))) (.cst (.int 39373))) (.cst (.int 69621))) .nil)) (.cst (.int 2147483647)))) (.cons (.ret (.bin .mod false (.blt .int false (.cons (.bin .fdiv false (.idx (.var 0) (.cst (.int 1))) (.cst (.int 8191))) .nil)) (.var 1))) .nil)))
def f18 : FnI := ⟨2, 3, b18⟩
/-- _law_pick -/
def b19 : Sts := (.cons (.ret (.idx (.var 1) (.call 18 (.cons (.var 0) (.cons (.blt .len false (.cons (.var 1) .nil)) .nil))))) .nil)
def f19 : FnI := ⟨2, 2, b19⟩
/-- _law_whole -/
def b20 : Sts := (.cons (.ret (.andE (.isi (.var 0) .int) (.notE (.isi (.var 0) .bool)))) .nil)
def f20 : FnI := ⟨1, 1, b20⟩
/-- _law_spoilt -/
def b21 : Sts := (.cons (.cond (.isi (.var 1) .tuple) (.cons (.set 3 (.call 18 (.cons (.var 0) (.cons (.bin .add false (.blt .len false (.cons (.var 1) .nil)) (.cst (.int 1))) .nil)))) (.cons (.cond (.andE (.cmp .ne (.var 1) (.tup .nil)) (.andE (.cmp .gt (.var 2) (.cst (.int 0))) (.cmp .gt (.call 18 (.cons (.var 0) (.cons (.cst (.int 5)) .nil))) (.cst (.int 0))))) (.cons (.set 3 (.bin .mod false (.blt .int false (.cons (.var 3) .nil)) (.blt .len false (.cons (.var 1) .nil)))) (.cons (.ret (.bin .add false (.bin .add false (.sl (.var 1) .nul (.one (.var 3))) (.tup (.cons (.call 21 (.cons (.var 0) (.cons (.idx (.var 1) (.var 3)) (.cons (.bin .sub false (.var 2) (.cst (.int 1))) .nil)))) .nil))) (.sl (.var 1) (.one (.bin .add false (.var 3) (.cst (.int 1)))) .nul))) .nil)) .nil) (.cons (.set 4 (.call 18 (.cons (.var 0) (.cons (.cst (.int 8)) .nil)))) (.cons (.cond (.cmp .eq (.var 4) (.cst (.int 0))) (.cons (.ret (.blt .list false (.cons (.var 1) .nil))) .nil) .nil) (.cons (.cond (.cmp .eq (.var 4) (.cst (.int 1))) (.cons (.ret (.bin .add false (.sl (.var 1) .nul (.one (.var 3))) (.sl (.var 1) (.one (.bin .add false (.var 3) (.cst (.int 1)))) .nul))) .nil) .nil) (.cons (.cond (.cmp .eq (.var 4) (.cst (.int 2))) (.cons (.ret (.bin .add false (.bin .add false (.sl (.var 1) .nul (.one (.var 3))) (.sl (.var 1) (.one (.var 3)) (.one (.bin .add false (.var 3) (.cst (.int 1)))))) (.sl (.var 1) (.one (.var 3)) .nul))) .nil) .nil) (.cons (.cond (.cmp .eq (.var 4) (.cst (.int 3))) (.cons (.ret (.bin .add false (.sl (.var 1) (.one (.var 3)) .nul) (.sl (.var 1) .nul (.one (.var 3))))) .nil) .nil) (.cons (.cond (.cmp .eq (.var 4) (.cst (.int 4))) (.cons (.ret (.bin .add false (.var 1) (.tup (.cons (.tup .nil) .nil)))) .nil) .nil) (.cons (.cond (.cmp .eq (.var 4) (.cst (.int 5))) (.cons (.ret (.bin .add false (.bin .add false (.sl (.var 1) .nul (.one (.var 3))) (.tup (.cons (.cst (.int 0)) .nil))) (.sl (.var 1) (.one (.var 3)) .nul))) .nil) .nil) (.cons (.cond (.cmp .eq (.var 4) (.cst (.int 6))) (.cons (.ret (.bin .add false (.sl (.var 1) .nul (.one (.neg (.cst (.int 1))))) (.sl (.var 1) .nul (.one (.cst (.int 1)))))) .nil) .nil) (.cons (.ret (.cst .non)) .nil))))))))))) .nil) (.cons (.cond (.isi (.var 1) .str) (.cons (.ret (.call 19 (.cons (.var 0) (.cons (.lst false (.cons (.bin .add false (.var 1) (.cst (.str [98]))) (.cons (.cst (.str [])) (.cons (.sl (.var 1) (.one (.cst (.int 1))) .nul) (.cons (.bin .add false (.cst (.str [97])) (.var 1)) (.cons (.cst (.int 0)) .nil)))))) .nil)))) .nil) .nil) (.cons (.cond (.call 20 (.cons (.var 1) .nil)) (.cons (.ret (.call 19 (.cons (.var 0) (.cons (.lst false (.cons (.bin .add false (.var 1) (.cst (.int 1))) (.cons (.bin .sub false (.var 1) (.cst (.int 1))) (.cons (.cmp .gt (.var 1) (.cst (.int 0))) (.cons (.bin .sub false (.neg (.cst (.int 1))) (.var 1)) (.cons (.tup (.cons (.var 1) .nil)) (.cons (.cst .non) (.cons (.blt .str false (.cons (.var 1) .nil)) (.cons (.bin .add false (.var 1) (.cst (.int 16))) .nil))))))))) .nil)))) .nil) .nil) (.cons (.ret (.call 19 (.cons (.var 0) (.cons (.lst false (.cons (.cst (.int 0)) (.cons (.tup .nil) (.cons (.cst (.str [110, 111, 110, 101])) .nil)))) .nil)))) .nil))))
def f21 : FnI := ⟨3, 5, b21⟩
/-- _law_all_edges -/
def x22_0 : Ex := (.tup (.cons (.var 2) (.cons (.var 3) .nil)))
def q22_1 : Sts := (.cons (.set 1 (.bin .add false (.var 1) (.comp false x22_0 (.var 3) (.rng2 (.bin .add false (.var 2) (.cst (.int 1))) (.var 0)) .nil))) .nil)
def b22 : Sts := (.cons (.set 1 (.lst false .nil)) (.cons (.fo (.var 2) (.rng1 (.var 0)) q22_1) (.cons (.ret (.var 1)) .nil)))
def f22 : FnI := ⟨1, 4, b22⟩
/-- _law_calls -/
def x23_0 : Ex := (.var 4)
def y23_1 : Exs := (.cons (.cmp .gt (.call 18 (.cons (.var 1) (.cons (.bin .add false (.var 3) (.cst (.int 1))) .nil))) (.cst (.int 0))) .nil)
def b23 : Sts := (.cons (.set 1 (.call 17 (.cons (.var 0) (.cons (.cst (.int 0)) .nil)))) (.cons (.set 2 (.call 19 (.cons (.var 1) (.cons (.lst false (.cons (.cst (.int 1)) (.cons (.cst (.int 2)) (.cons (.cst (.int 3)) (.cons (.cst (.int 4)) (.cons (.cst (.int 4)) (.cons (.cst (.int 5)) (.cons (.cst (.int 5)) (.cons (.cst (.int 5)) .nil))))))))) .nil)))) (.cons (.set 3 (.call 19 (.cons (.var 1) (.cons (.lst false (.cons (.cst (.int 1)) (.cons (.cst (.int 2)) (.cons (.cst (.int 4)) (.cons (.cst (.int 9)) .nil))))) .nil)))) (.cons (.ret (.tup (.cons (.var 2) (.cons (.blt .tuple false (.cons (.comp false x23_0 (.var 4) (.seq (.call 22 (.cons (.var 2) .nil))) y23_1) .nil)) .nil)))) .nil))))
def f23 : FnI := ⟨1, 5, b23⟩
/-- _law_drawn_run -/
def q24_0 : Sts := (.cons (.cond (.andE (.cmp .ne (.var 7) (.lst false .nil)) (.andE (.cmp .gt (.var 6) (.cst (.int 0))) (.cmp .gt (.call 18 (.cons (.var 0) (.cons (.cst (.int 3)) .nil))) (.cst (.int 0))))) (.cons (.set 11 (.call 24 (.cons (.var 0) (.cons (.var 1) (.cons (.call 19 (.cons (.var 0) (.cons (.var 7) .nil))) (.cons (.bin .add false (.cst (.int 1)) (.call 18 (.cons (.var 0) (.cons (.var 6) .nil)))) (.cons (.var 4) .nil))))))) (.cons (.set 6 (.bin .sub false (.var 6) (.call 25 (.cons (.var 11) .nil)))) (.cons (.set 5 (.bin .add false (.var 5) (.tup (.cons (.var 11) .nil)))) .nil))) (.cons (.set 5 (.bin .add false (.var 5) (.tup (.cons (.bin .add false (.cst (.int 1)) (.call 18 (.cons (.var 0) (.cons (.var 4) .nil)))) .nil)))) .nil)) .nil)
def x24_1 : Ex := (.var 9)
def y24_2 : Exs := (.cons (.cmp .eq (.var 8) (.var 2)) .nil)
def b24 : Sts := (.cons (.set 5 (.tup .nil)) (.cons (.set 6 (.bin .sub false (.var 3) (.cst (.int 1)))) (.cons (.set 7 (.comp false x24_1 (.tup (.cons (.var 8) (.cons (.var 9) .nil))) (.seq (.idx (.var 1) (.cst (.int 1)))) y24_2)) (.cons (.fo (.var 10) (.rng1 (.call 18 (.cons (.var 0) (.cons (.cst (.int 5)) .nil)))) q24_0) (.cons (.ret (.tup (.cons (.var 2) (.cons (.var 5) .nil)))) .nil)))))
def f24 : FnI := ⟨5, 12, b24⟩
/-- _law_runs_in -/
def x25_0 : Ex := (.call 25 (.cons (.var 1) .nil))
def y25_1 : Exs := (.cons (.isi (.var 1) .tuple) .nil)
def b25 : Sts := (.cons (.ret (.bin .add false (.cst (.int 1)) (.blt .sum false (.cons (.comp false x25_0 (.var 1) (.seq (.idx (.var 0) (.cst (.int 1)))) y25_1) .nil)))) .nil)
def f25 : FnI := ⟨1, 2, b25⟩
/-- _law_is_run -/
def q26_0 : Sts := (.cons (.cond (.isi (.var 9) .tuple) (.cons (.cond (.orE (.cmp .eq (.var 9) (.tup .nil)) (.orE (.notE (.call 20 (.cons (.idx (.var 9) (.cst (.int 0))) .nil))) (.cmp .notin (.tup (.cons (.var 8) (.cons (.idx (.var 9) (.cst (.int 0))) .nil))) (.idx (.var 0) (.cst (.int 1)))))) (.cons (.ret (.cst (.bl false))) .nil) .nil) (.cons (.ex (.bm .append (.var 2) (.cons (.tup (.cons (.var 9) (.cons (.idx (.var 9) (.cst (.int 0))) .nil))) .nil))) .nil)) (.cons (.cond (.orE (.notE (.call 20 (.cons (.var 9) .nil))) (.orE (.cmp .lt (.var 9) (.cst (.int 1))) (.cmp .gt (.var 9) (.cst (.int 999999))))) (.cons (.ret (.cst (.bl false))) .nil) (.cons (.set 4 (.bin .add false (.var 4) (.var 9))) .nil)) .nil)) .nil)
def q26_1 : Sts := (.cons (.cond (.cmp .eq (.var 2) (.lst false .nil)) (.cons (.ret (.andE (.cmp .le (.var 4) (.cst (.int 999999))) (.cmp .le (.var 5) (.cst (.int 400))))) .nil) .nil) (.cons (.sett (.tup (.cons (.var 7) (.cons (.var 8) .nil))) (.bm .pop (.var 2) .nil)) (.cons (.set 3 (.bin .add false (.var 3) (.cst (.int 1)))) (.cons (.cond (.orE (.cmp .gt (.var 3) (.cst (.int 200))) (.orE (.notE (.isi (.var 7) .tuple)) (.orE (.cmp .ne (.blt .len false (.cons (.var 7) .nil)) (.cst (.int 2))) (.orE (.notE (.call 20 (.cons (.idx (.var 7) (.cst (.int 0))) .nil))) (.orE (.cmp .ne (.idx (.var 7) (.cst (.int 0))) (.var 8)) (.notE (.isi (.idx (.var 7) (.cst (.int 1))) .tuple))))))) (.cons (.ret (.cst (.bl false))) .nil) .nil) (.cons (.set 5 (.bin .add false (.var 5) (.blt .len false (.cons (.idx (.var 7) (.cst (.int 1))) .nil)))) (.cons (.fo (.var 9) (.seq (.idx (.var 7) (.cst (.int 1)))) q26_0) .nil))))))
def b26 : Sts := (.cons (.set 2 (.lst true (.cons (.tup (.cons (.var 1) (.cons (.cst (.int 0)) .nil))) .nil))) (.cons (.sett (.tup (.cons (.var 3) (.cons (.var 4) (.cons (.var 5) .nil)))) (.tup (.cons (.cst (.int 0)) (.cons (.cst (.int 0)) (.cons (.cst (.int 0)) .nil))))) (.cons (.fo (.var 6) (.rng1 (.cst (.int 201))) q26_1) (.cons (.ret (.cst (.bl false))) .nil))))
def f26 : FnI := ⟨2, 10, b26⟩
/-- _law_made -/
def b27 : Sts := (.cons (.ret (.new 5 true (.cons (.idx (.var 0) (.cst (.int 0))) (.cons (.idx (.var 0) (.cst (.int 1))) .nil)))) .nil)
def f27 : FnI := ⟨1, 1, b27⟩
/-- _law_trace -/
def q28_0 : Sts := (.cons (.set 1 (.bin .add false (.var 1) (.ite (.isi (.var 2) .tuple) (.call 28 (.cons (.var 2) .nil)) (.tup (.cons (.var 2) .nil))))) .nil)
def b28 : Sts := (.cons (.set 1 (.tup (.cons (.tup (.cons (.cst (.str [105, 110])) (.cons (.idx (.var 0) (.cst (.int 0))) .nil))) .nil))) (.cons (.fo (.var 2) (.seq (.idx (.var 0) (.cst (.int 1)))) q28_0) (.cons (.ret (.bin .add false (.var 1) (.tup (.cons (.tup (.cons (.cst (.str [111, 117, 116])) (.cons (.idx (.var 0) (.cst (.int 0))) .nil))) .nil)))) .nil)))
def f28 : FnI := ⟨1, 3, b28⟩
/-- _law_run_values -/
def b29 : Sts := (.cons (.set 1 (.lst false (.cons (.tup .nil) (.cons (.tup (.cons (.cst (.int 0)) .nil)) (.cons (.tup (.cons (.cst (.int 0)) (.cons (.tup .nil) .nil))) (.cons (.tup (.cons (.cst (.int 0)) (.cons (.tup (.cons (.cst (.int 1)) .nil)) .nil))) (.cons (.tup (.cons (.cst (.int 0)) (.cons (.tup (.cons (.cst (.int 0)) .nil)) .nil))) (.cons (.tup (.cons (.cst (.int 0)) (.cons (.tup (.cons (.neg (.cst (.int 1))) .nil)) .nil))) (.cons (.tup (.cons (.cst (.int 0)) (.cons (.tup (.cons (.cst (.bl true)) .nil)) .nil))) (.cons (.tup (.cons (.cst (.int 0)) (.cons (.tup (.cons (.cst .non) .nil)) .nil))) (.cons (.lst false (.cons (.cst (.int 0)) (.cons (.tup .nil) .nil))) (.cons (.tup (.cons (.cst (.int 0)) (.cons (.lst false (.cons (.cst (.int 1)) .nil)) .nil))) (.cons (.tup (.cons (.cst (.int 1)) (.cons (.tup .nil) .nil))) (.cons (.cst .non) (.cons (.cst (.int 0)) .nil))))))))))))))) (.cons (.set 1 (.bin .add false (.var 1) (.lst false (.cons (.tup (.cons (.cst (.int 0)) (.cons (.tup (.cons (.tup (.cons (.cst (.int 0)) (.cons (.tup .nil) .nil))) .nil)) .nil))) (.cons (.tup (.cons (.cst (.int 0)) (.cons (.tup (.cons (.tup (.cons (.idx (.var 0) (.cst (.int 0))) (.cons (.tup .nil) .nil))) .nil)) .nil))) (.cons (.tup (.cons (.cst (.bl true)) (.cons (.tup .nil) .nil))) (.cons (.tup (.cons (.cst (.int 0)) (.cons (.tup (.cons (.tup .nil) .nil)) .nil))) (.cons (.tup (.cons (.cst (.int 0)) (.cons (.tup (.cons (.cst (.str [49])) .nil)) .nil))) (.cons (.tup (.cons (.cst (.int 0)) (.cons (.bin .mul false (.tup (.cons (.cst (.int 1)) .nil)) (.cst (.int 400))) .nil))) (.cons (.tup (.cons (.cst (.int 0)) (.cons (.bin .mul false (.tup (.cons (.cst (.int 1)) .nil)) (.cst (.int 401))) .nil))) .nil)))))))))) (.cons (.set 1 (.bin .add false (.var 1) (.lst false (.cons (.tup (.cons (.cst (.int 0)) (.cons (.tup (.cons (.cst (.int 999999)) .nil)) .nil))) (.cons (.tup (.cons (.cst (.int 0)) (.cons (.tup (.cons (.cst (.int 1000000)) .nil)) .nil))) (.cons (.tup (.cons (.cst (.int 0)) (.cons (.tup (.cons (.cst (.int 999998)) (.cons (.cst (.int 1)) .nil))) .nil))) (.cons (.tup (.cons (.cst (.int 0)) (.cons (.tup (.cons (.cst (.int 999999)) (.cons (.cst (.int 1)) .nil))) .nil))) (.cons (.tup (.cons (.cst (.int 0)) (.cons (.tup (.cons (.cst (.int 500000)) (.cons (.cst (.int 500000)) .nil))) .nil))) .nil)))))))) (.cons (.cond (.cmp .isin (.tup (.cons (.cst (.int 0)) (.cons (.cst (.int 1)) .nil))) (.idx (.var 0) (.cst (.int 1)))) (.cons (.set 1 (.bin .add false (.var 1) (.lst false (.cons (.tup (.cons (.cst (.int 0)) (.cons (.bin .mul false (.tup (.cons (.tup (.cons (.cst (.int 1)) (.cons (.tup .nil) .nil))) .nil)) (.cst (.int 199))) .nil))) (.cons (.tup (.cons (.cst (.int 0)) (.cons (.bin .mul false (.tup (.cons (.tup (.cons (.cst (.int 1)) (.cons (.tup .nil) .nil))) .nil)) (.cst (.int 200))) .nil))) (.cons (.tup (.cons (.cst (.int 0)) (.cons (.bin .add false (.bin .mul false (.tup (.cons (.tup (.cons (.cst (.int 1)) (.cons (.tup (.cons (.cst (.int 5000)) .nil)) .nil))) .nil)) (.cst (.int 199))) (.tup (.cons (.cst (.int 4999)) .nil))) .nil))) (.cons (.tup (.cons (.cst (.int 0)) (.cons (.bin .add false (.bin .mul false (.tup (.cons (.tup (.cons (.cst (.int 1)) (.cons (.tup (.cons (.cst (.int 5000)) .nil)) .nil))) .nil)) (.cst (.int 199))) (.tup (.cons (.cst (.int 5000)) .nil))) .nil))) .nil))))))) (.cons (.set 1 (.bin .add false (.var 1) (.lst false (.cons (.tup (.cons (.cst (.int 0)) (.cons (.tup (.cons (.tup (.cons (.cst (.int 1)) (.cons (.tup (.cons (.cst (.int 500000)) .nil)) .nil))) (.cons (.tup (.cons (.cst (.int 1)) (.cons (.tup (.cons (.cst (.int 499999)) .nil)) .nil))) .nil))) .nil))) (.cons (.tup (.cons (.cst (.int 0)) (.cons (.tup (.cons (.tup (.cons (.cst (.int 1)) (.cons (.tup (.cons (.cst (.int 500000)) .nil)) .nil))) (.cons (.tup (.cons (.cst (.int 1)) (.cons (.tup (.cons (.cst (.int 500000)) .nil)) .nil))) .nil))) .nil))) .nil))))) .nil)) .nil) (.cons (.cond (.andE (.cmp .isin (.tup (.cons (.cst (.int 0)) (.cons (.cst (.int 1)) .nil))) (.idx (.var 0) (.cst (.int 1)))) (.cmp .isin (.tup (.cons (.cst (.int 1)) (.cons (.cst (.int 2)) .nil))) (.idx (.var 0) (.cst (.int 1))))) (.cons (.set 1 (.bin .add false (.var 1) (.lst false (.cons (.tup (.cons (.cst (.int 0)) (.cons (.tup (.cons (.tup (.cons (.cst (.int 1)) (.cons (.bin .mul false (.tup (.cons (.tup (.cons (.cst (.int 2)) (.cons (.tup .nil) .nil))) .nil)) (.cst (.int 198))) .nil))) .nil)) .nil))) (.cons (.tup (.cons (.cst (.int 0)) (.cons (.tup (.cons (.tup (.cons (.cst (.int 1)) (.cons (.bin .mul false (.tup (.cons (.tup (.cons (.cst (.int 2)) (.cons (.tup .nil) .nil))) .nil)) (.cst (.int 199))) .nil))) .nil)) .nil))) (.cons (.tup (.cons (.cst (.int 0)) (.cons (.tup (.cons (.tup (.cons (.cst (.int 1)) (.cons (.tup (.cons (.tup (.cons (.cst (.int 2)) (.cons (.tup (.cons (.cst (.int 900000)) .nil)) .nil))) (.cons (.cst (.int 99999)) .nil))) .nil))) .nil)) .nil))) (.cons (.tup (.cons (.cst (.int 0)) (.cons (.tup (.cons (.tup (.cons (.cst (.int 1)) (.cons (.tup (.cons (.tup (.cons (.cst (.int 2)) (.cons (.tup (.cons (.cst (.int 900000)) .nil)) .nil))) (.cons (.cst (.int 100000)) .nil))) .nil))) .nil)) .nil))) .nil))))))) .nil) .nil) (.cons (.ret (.var 1)) .nil))))))
def f29 : FnI := ⟨1, 2, b29⟩
/-- _law_told -/
def q30_0 : Sts := (.cons (.ret (.tup (.cons (.cst (.str [116, 111, 108, 100])) (.cons (.ite (.cmp .eq (.var 0) (.cst (.int 0))) (.call 13 (.cons (.var 1) (.cons (.var 2) .nil))) (.call 16 (.cons (.var 1) (.cons (.var 2) .nil)))) .nil)))) .nil)
def b30 : Sts := (.cons (.tri q30_0 [⟨3, some [114, 117, 110], 1⟩, ⟨4, some [116, 114, 97, 99, 101], 1⟩]) .nil)
def f30 : FnI := ⟨3, 4, b30⟩
/-- _law_read -/
def q31_0 : Sts := (.cons (.cond (.cmp .isnot (.var 3) (.cst .non)) (.cons (.ret (.cst .non)) .nil) .nil) (.cons (.cond (.isi (.var 4) .tuple) (.cons (.cond (.orE (.cmp .ne (.blt .len false (.cons (.var 4) .nil)) (.cst (.int 2))) (.orE (.notE (.isi (.idx (.var 4) (.cst (.int 0))) .str)) (.notE (.call 20 (.cons (.idx (.var 4) (.cst (.int 1))) .nil))))) (.cons (.ret (.cst .non)) .nil) .nil) (.cons (.cond (.cmp .eq (.idx (.var 4) (.cst (.int 0))) (.cst (.str [105, 110]))) (.cons (.ex (.bm .append (.var 2) (.cons (.lst true (.cons (.idx (.var 4) (.cst (.int 1))) (.cons (.tup .nil) .nil))) .nil))) .nil) (.cons (.cond (.orE (.cmp .ne (.idx (.var 4) (.cst (.int 0))) (.cst (.str [111, 117, 116]))) (.orE (.cmp .eq (.var 2) (.lst false .nil)) (.cmp .ne (.idx (.idx (.var 2) (.neg (.cst (.int 1)))) (.cst (.int 0))) (.idx (.var 4) (.cst (.int 1)))))) (.cons (.ret (.cst .non)) .nil) (.cons (.set 5 (.bm .pop (.var 2) .nil)) (.cons (.cond (.cmp .eq (.var 2) (.lst false .nil)) (.cons (.set 3 (.tup (.cons (.idx (.var 5) (.cst (.int 0))) (.cons (.idx (.var 5) (.cst (.int 1))) .nil)))) .nil) (.cons (.sidx (.idx (.var 2) (.neg (.cst (.int 1)))) (.cst (.int 1)) (.bin .add false (.idx (.idx (.var 2) (.neg (.cst (.int 1)))) (.cst (.int 1))) (.tup (.cons (.tup (.cons (.idx (.var 5) (.cst (.int 0))) (.cons (.idx (.var 5) (.cst (.int 1))) .nil))) .nil)))) .nil)) .nil))) .nil)) .nil)) (.cons (.cond (.orE (.cmp .eq (.var 2) (.lst false .nil)) (.notE (.call 20 (.cons (.var 4) .nil)))) (.cons (.ret (.cst .non)) .nil) (.cons (.sidx (.idx (.var 2) (.neg (.cst (.int 1)))) (.cst (.int 1)) (.bin .add false (.idx (.idx (.var 2) (.neg (.cst (.int 1)))) (.cst (.int 1))) (.tup (.cons (.var 4) .nil)))) .nil)) .nil)) .nil))
def b31 : Sts := (.cons (.cond (.orE (.notE (.isi (.var 1) .tuple)) (.cmp .eq (.var 1) (.tup .nil))) (.cons (.ret (.cst .non)) .nil) .nil) (.cons (.set 2 (.lst true .nil)) (.cons (.set 3 (.cst .non)) (.cons (.fo (.var 4) (.seq (.var 1)) q31_0) (.cons (.ret (.ite (.andE (.cmp .isnot (.var 3) (.cst .non)) (.call 26 (.cons (.var 0) (.cons (.var 3) .nil)))) (.var 3) (.cst .non))) .nil)))))
def f31 : FnI := ⟨2, 6, b31⟩
/-- _law_is_shaped -/
def x32_0 : Ex := (.var 1)
def y32_1 : Exs := (.cons (.andE (.isi (.var 1) .tuple) (.notE (.call 32 (.cons (.var 1) .nil)))) .nil)
def b32 : Sts := (.cons (.cond (.orE (.notE (.isi (.var 0) .tuple)) (.orE (.cmp .ne (.blt .len false (.cons (.var 0) .nil)) (.cst (.int 2))) (.notE (.isi (.idx (.var 0) (.cst (.int 1))) .tuple)))) (.cons (.ret (.cst (.bl false))) .nil) .nil) (.cons (.ret (.cmp .eq (.comp false x32_0 (.var 1) (.seq (.idx (.var 0) (.cst (.int 1)))) y32_1) (.lst false .nil))) .nil))
def f32 : FnI := ⟨1, 2, b32⟩
/-- law -/
def q33_0 : Sts := (.cons (.set 12 (.call 26 (.cons (.var 1) (.cons (.var 11) .nil)))) (.cons (.cond (.cmp .ne (.call 30 (.cons (.cst (.int 0)) (.cons (.var 3) (.cons (.var 11) .nil)))) (.ite (.var 12) (.tup (.cons (.cst (.str [116, 111, 108, 100])) (.cons (.call 28 (.cons (.var 11) .nil)) .nil))) (.tup (.cons (.cst (.str [114, 117, 110])) (.cons (.var 11) .nil))))) (.cons (.ret (.cst (.bl false))) .nil) .nil) (.cons (.cond (.andE (.isi (.var 11) .tuple) (.andE (.cmp .eq (.blt .len false (.cons (.var 11) .nil)) (.cst (.int 2))) (.isi (.idx (.var 11) (.cst (.int 1))) .tuple))) (.cons (.set 13 (.ite (.orE (.var 12) (.call 32 (.cons (.var 11) .nil))) (.call 28 (.cons (.var 11) .nil)) (.tup .nil))) (.cons (.cond (.cmp .ne (.call 30 (.cons (.cst (.int 1)) (.cons (.var 3) (.cons (.var 13) .nil)))) (.ite (.var 12) (.tup (.cons (.cst (.str [116, 111, 108, 100])) (.cons (.var 11) .nil))) (.tup (.cons (.cst (.str [116, 114, 97, 99, 101])) (.cons (.var 13) .nil))))) (.cons (.ret (.cst (.bl false))) .nil) .nil) .nil)) .nil) .nil)))
def q33_1 : Sts := (.cons (.set 6 (.call 31 (.cons (.var 1) (.cons (.var 11) .nil)))) (.cons (.cond (.cmp .ne (.call 30 (.cons (.cst (.int 1)) (.cons (.var 3) (.cons (.var 11) .nil)))) (.ite (.cmp .is (.var 6) (.cst .non)) (.tup (.cons (.cst (.str [116, 114, 97, 99, 101])) (.cons (.var 11) .nil))) (.tup (.cons (.cst (.str [116, 111, 108, 100])) (.cons (.var 6) .nil))))) (.cons (.ret (.cst (.bl false))) .nil) .nil) .nil))
def q33_2 : Sts := (.cons (.set 6 (.call 24 (.cons (.var 2) (.cons (.var 1) (.cons (.cst (.int 0)) (.cons (.cst (.int 12)) (.cons (.call 19 (.cons (.var 2) (.cons (.lst false (.cons (.cst (.int 3)) (.cons (.cst (.int 90)) .nil))) .nil))) .nil))))))) (.cons (.set 7 (.call 28 (.cons (.var 6) .nil))) (.cons (.cond (.orE (.cmp .ne (.call 30 (.cons (.cst (.int 0)) (.cons (.var 3) (.cons (.var 6) .nil)))) (.tup (.cons (.cst (.str [116, 111, 108, 100])) (.cons (.var 7) .nil)))) (.cmp .ne (.call 30 (.cons (.cst (.int 1)) (.cons (.var 3) (.cons (.var 7) .nil)))) (.tup (.cons (.cst (.str [116, 111, 108, 100])) (.cons (.var 6) .nil))))) (.cons (.ret (.cst (.bl false))) .nil) .nil) (.cons (.par [8, 9] (.cons (.call 18 (.cons (.var 2) (.cons (.blt .len false (.cons (.var 7) .nil)) .nil))) (.cons (.call 18 (.cons (.var 2) (.cons (.blt .len false (.cons (.var 7) .nil)) .nil))) .nil))) (.cons (.set 10 (.blt .list true (.cons (.var 7) .nil))) (.cons (.sidx2 (.var 10) (.var 8) (.var 10) (.var 9) (.tup (.cons (.idx (.var 7) (.var 9)) (.cons (.idx (.var 7) (.var 8)) .nil)))) (.cons (.set 4 (.bin .add false (.var 4) (.lst false (.cons (.bin .add false (.sl (.var 7) .nul (.one (.var 8))) (.sl (.var 7) (.one (.bin .add false (.var 8) (.cst (.int 1)))) .nul)) (.cons (.bin .add false (.bin .add false (.sl (.var 7) .nul (.one (.var 8))) (.sl (.var 7) (.one (.var 8)) (.one (.bin .add false (.var 8) (.cst (.int 1)))))) (.sl (.var 7) (.one (.var 8)) .nul)) (.cons (.blt .tuple false (.cons (.var 10) .nil)) (.cons (.sl (.var 7) .nul (.one (.neg (.cst (.int 1))))) (.cons (.bin .add false (.var 7) (.var 7)) (.cons (.rev (.var 7)) .nil))))))))) (.cons (.set 4 (.bin .add false (.var 4) (.lst false (.cons (.call 21 (.cons (.var 2) (.cons (.var 7) (.cons (.cst (.int 2)) .nil)))) (.cons (.bin .add false (.bin .add false (.sl (.var 7) .nul (.one (.var 8))) (.tup (.cons (.cst (.int 1)) .nil))) (.sl (.var 7) (.one (.var 8)) .nul)) .nil))))) .nil))))))))
def b33 : Sts := (.cons (.set 1 (.call 23 (.cons (.var 0) .nil))) (.cons (.set 2 (.call 17 (.cons (.var 0) (.cons (.cst (.int 4)) .nil)))) (.cons (.set 3 (.call 27 (.cons (.var 1) .nil))) (.cons (.set 4 (.lst false (.cons (.tup .nil) (.cons (.cst .non) (.cons (.cst (.int 0)) (.cons (.tup (.cons (.tup (.cons (.cst (.str [105, 110])) (.cons (.cst (.int 0)) .nil))) .nil)) (.cons (.tup (.cons (.tup (.cons (.cst (.str [105, 110])) (.cons (.cst (.int 0)) .nil))) (.cons (.tup (.cons (.cst (.str [111, 117, 116])) (.cons (.cst (.int 0)) .nil))) .nil))) (.cons (.tup (.cons (.tup (.cons (.cst (.str [105, 110])) (.cons (.cst (.int 0)) .nil))) (.cons (.cst (.int 0)) (.cons (.tup (.cons (.cst (.str [111, 117, 116])) (.cons (.cst (.int 0)) .nil))) .nil)))) (.cons (.tup (.cons (.tup (.cons (.cst (.str [105, 110])) (.cons (.cst (.int 0)) .nil))) (.cons (.cst (.int 1)) (.cons (.tup (.cons (.cst (.str [111, 117, 116])) (.cons (.cst (.int 0)) .nil))) .nil)))) .nil))))))))) (.cons (.set 4 (.bin .add false (.var 4) (.lst false (.cons (.tup (.cons (.tup (.cons (.cst (.str [105, 110])) (.cons (.cst (.int 0)) .nil))) (.cons (.tup (.cons (.cst (.str [111, 117, 116])) (.cons (.cst (.int 1)) .nil))) .nil))) (.cons (.tup (.cons (.tup (.cons (.cst (.str [111, 117, 116])) (.cons (.cst (.int 0)) .nil))) (.cons (.tup (.cons (.cst (.str [105, 110])) (.cons (.cst (.int 0)) .nil))) .nil))) (.cons (.tup (.cons (.cst (.int 1)) .nil)) (.cons (.tup (.cons (.tup (.cons (.cst (.str [105, 110])) (.cons (.cst (.int 1)) .nil))) (.cons (.tup (.cons (.cst (.str [111, 117, 116])) (.cons (.cst (.int 1)) .nil))) .nil))) .nil))))))) (.cons (.set 4 (.bin .add false (.var 4) (.lst false (.cons (.tup (.cons (.tup (.cons (.cst (.str [105, 110])) (.cons (.cst (.bl true)) .nil))) (.cons (.tup (.cons (.cst (.str [111, 117, 116])) (.cons (.cst (.bl true)) .nil))) .nil))) (.cons (.tup (.cons (.tup (.cons (.cst (.str [105, 110])) (.cons (.cst (.int 0)) .nil))) (.cons (.tup (.cons (.cst (.str [111, 117, 116])) (.cons (.cst (.int 0)) .nil))) (.cons (.cst (.int 1)) .nil)))) (.cons (.bin .mul false (.tup (.cons (.tup (.cons (.cst (.str [105, 110])) (.cons (.cst (.int 0)) .nil))) (.cons (.tup (.cons (.cst (.str [111, 117, 116])) (.cons (.cst (.int 0)) .nil))) .nil))) (.cst (.int 2))) (.cons (.lst false (.cons (.tup (.cons (.cst (.str [105, 110])) (.cons (.cst (.int 0)) .nil))) (.cons (.tup (.cons (.cst (.str [111, 117, 116])) (.cons (.cst (.int 0)) .nil))) .nil))) .nil))))))) (.cons (.set 4 (.bin .add false (.var 4) (.lst false (.cons (.tup (.cons (.lst false (.cons (.cst (.str [105, 110])) (.cons (.cst (.int 0)) .nil))) (.cons (.tup (.cons (.cst (.str [111, 117, 116])) (.cons (.cst (.int 0)) .nil))) .nil))) (.cons (.tup (.cons (.tup (.cons (.cst (.str [105, 110])) (.cons (.cst (.int 0)) .nil))) (.cons (.tup (.cons (.cst (.str [105, 110])) (.cons (.cst (.int 0)) .nil))) (.cons (.tup (.cons (.cst (.str [111, 117, 116])) (.cons (.cst (.int 0)) .nil))) (.cons (.tup (.cons (.cst (.str [111, 117, 116])) (.cons (.cst (.int 0)) .nil))) .nil))))) (.cons (.tup (.cons (.tup (.cons (.cst (.str [105, 110])) (.cons (.cst (.int 0)) (.cons (.cst (.int 0)) .nil)))) (.cons (.tup (.cons (.cst (.str [111, 117, 116])) (.cons (.cst (.int 0)) .nil))) .nil))) .nil)))))) (.cons (.fo (.var 5) (.rng1 (.cst (.int 4))) q33_2) (.cons (.fo (.var 11) (.seq (.var 4)) q33_1) (.cons (.fo (.var 11) (.seq (.call 29 (.cons (.var 1) .nil))) q33_0) (.cons (.ret (.cst (.bl true))) .nil)))))))))))
def f33 : FnI := ⟨1, 14, b33⟩
/-- Calls.__init__ -/
def b34 : Sts := (.cons (.cond (.orE (.notE (.call 0 (.cons (.var 1) .nil))) (.notE (.chn .le .le (.cst (.int 1)) (.var 1) (.glob 5)))) (.cons (.rais 1 (.var 1)) .nil) .nil) (.cons (.cond (.notE (.call 4 (.cons (.var 2) (.cons (.var 1) .nil)))) (.cons (.rais 2 (.var 2)) .nil) .nil) (.cons (.satt (.var 0) 2 (.var 1)) (.cons (.satt (.var 0) 0 (.var 2)) .nil))))
def f34 : FnI := ⟨3, 3, b34⟩
/-- Calls.__eq__ -/
def b35 : Sts := (.cons (.ret (.andE (.isi (.var 1) (.cls 5)) (.cmp .eq (.tup (.cons (.att (.var 0) 2) (.cons (.att (.var 0) 0) .nil))) (.tup (.cons (.att (.var 1) 2) (.cons (.att (.var 1) 0) .nil)))))) .nil)
def f35 : FnI := ⟨2, 2, b35⟩
def fns : List FnI := [f0, f1, f2, f3, f4, f5, f6, f7, f8, f9, f10, f11, f12, f13, f14, f15, f16, f17, f18, f19, f20, f21, f22, f23, f24, f25, f26, f27, f28, f29, f30, f31, f32, f33, f34, f35]
def cls : List ClI := [{ exf := none }, { exf := some 1 }, { exf := some 1 }, { exf := some 1 }, { exf := some 1 }, { init := some 34, eq := some 35, meths := [], flds := [2, 0] }]
def sub : List (List Nat) := [[0], [1, 0], [2, 0], [3, 0], [4, 0], [5]]
def glob : List (Option D) := [some (.int 200), some (.int 400), some (.int 999999), some (.str [105, 110]), some (.str [111, 117, 116]), some (.int 5)]
def P : Pg := { fns := fun n => fns[n]?, cls := fun n => cls[n]?, sub := fun n => sub.getD n [], glob := fun n => (glob[n]?).join }
-- fields: 0=edges 1=value 2=functions
-- classes: 0=TickError 1=InvalidNumber 2=InvalidEdges 3=InvalidRun 4=InvalidTrace 5=Calls
-- f0 is_integer: 0=value
-- f1 is_below: 0=value 1=most
-- f2 is_ascending: 0=row 1=at
-- f3 is_rising_pair: 0=value 1=many
-- f4 are_rising_pairs: 0=value 1=many 2=one
-- f5 is_shape: 0=calls 1=g 2=value 3=part
-- f6 is_part: 0=calls 1=g 2=value
-- f7 is_whole_run: 0=calls 1=value 2=runs 3=one
-- f8 runs_within: 0=run 1=found 2=part
-- f9 ticks_of: 0=run 1=one 2=part
-- f10 is_run: 0=calls 1=value
-- f11 need_run: 0=calls 1=run
-- f12 events_of: 0=run 1=found 2=part
-- f13 trace_of: 0=calls 1=run
-- f14 is_event: 0=value 1=word
-- f15 told_by: 0=trace 1=rows 2=functions 3=last 4=event 5=part
-- f16 run_of: 0=calls 1=trace 2=found
-- f17 _law_box: 0=script 1=k 2=cell 3=great
-- f18 _law_take: 0=box 1=many 2=got
-- f19 _law_pick: 0=box 1=some
-- f20 _law_whole: 0=value
-- f21 _law_spoilt: 0=box 1=value 2=deep 3=at 4=how
-- f22 _law_all_edges: 0=n 1=found 2=g 3=f
-- f23 _law_calls: 0=script 1=box 2=n 3=most 4=edge
-- f24 _law_drawn_run: 0=box 1=calls 2=function 3=room 4=wide 5=parts 6=left 7=some 8=g 9=f 10=k 11=one
-- f25 _law_runs_in: 0=run 1=part
-- f26 _law_is_run: 0=calls 1=value 2=todo 3=number 4=ticks 5=parts 6=turn 7=one 8=want 9=part
-- f27 _law_made: 0=calls
-- f28 _law_trace: 0=run 1=found 2=part
-- f29 _law_run_values: 0=calls 1=values
-- f30 _law_told: 0=kind 1=made 2=value 3=e
-- f31 _law_read: 0=calls 1=value 2=open_runs 3=done 4=event 5=last
-- f32 _law_is_shaped: 0=value 1=part
-- f33 law: 0=script 1=calls 2=box 3=made 4=values 5=k 6=run 7=due 8=at 9=spot 10=swapped 11=value 12=good 13=events
-- f34 Calls.__init__: 0=self 1=functions 2=edges
-- f35 Calls.__eq__: 0=self 1=other
end Ck10
end
section
set_option maxRecDepth 100000
set_option maxHeartbeats 4000000
namespace Ck10
open PySem L2 Mi PyProof.Rows
def prog : Program := PySem.Challenge.pw_sureticks_k10_whole_traces
def top (i : Nat) : Stmt := PySem.Challenge.pw_sureticks_k10_whole_traces.main.body.getD i (.Pass ⟨0, 0, 0, 0⟩)
def fnms0 : List Str := ["is_integer", "is_below", "is_ascending", "is_rising_pair", "are_rising_pairs", "is_shape", "is_part", "is_whole_run", "runs_within", "ticks_of", "is_run", "need_run", "events_of", "trace_of", "is_event", "told_by", "run_of", "_law_box", "_law_take", "_law_pick", "_law_whole", "_law_spoilt", "_law_all_edges", "_law_calls", "_law_drawn_run", "_law_runs_in", "_law_is_run", "_law_made", "_law_trace", "_law_run_values"]
def fnms1 : List Str := ["_law_told", "_law_read", "_law_is_shaped", "law"]
def ckT : Ck := { M := P, fns := fnms0 ++ fnms1, cls := ["TickError", "InvalidNumber", "InvalidEdges", "InvalidRun", "InvalidTrace", "Calls"], globs := ["MOST_RUNS", "MOST_PARTS", "MOST_TICKS", "BEGIN", "END", "MOST_FUNCTIONS"], flds := ["edges", "value", "functions"] }
def d0 : DI := ⟨("is_integer", none), "is_integer", "is_integer", top 1, ["value"], ["value"]⟩
def d1 : DI := ⟨("is_below", none), "is_below", "is_below", top 2, ["value", "most"], ["value", "most"]⟩
def d2 : DI := ⟨("is_ascending", none), "is_ascending", "is_ascending", top 3, ["row"], ["row", "at"]⟩
def d3 : DI := ⟨("is_rising_pair", none), "is_rising_pair", "is_rising_pair", top 4, ["value", "many"], ["value", "many"]⟩
def d4 : DI := ⟨("are_rising_pairs", none), "are_rising_pairs", "are_rising_pairs", top 5, ["value", "many"], ["value", "many", "one"]⟩
def d5 : DI := ⟨("is_shape", none), "is_shape", "is_shape", top 10, ["calls", "g", "value"], ["calls", "g", "value", "part"]⟩
def d6 : DI := ⟨("is_part", none), "is_part", "is_part", top 11, ["calls", "g", "value"], ["calls", "g", "value"]⟩
def d7 : DI := ⟨("is_whole_run", none), "is_whole_run", "is_whole_run", top 12, ["calls", "value"], ["calls", "value", "runs", "one"]⟩
def d8 : DI := ⟨("runs_within", none), "runs_within", "runs_within", top 13, ["run"], ["run", "found", "part"]⟩
def d9 : DI := ⟨("ticks_of", none), "ticks_of", "ticks_of", top 14, ["run"], ["run", "one", "part"]⟩
def d10 : DI := ⟨("is_run", none), "is_run", "is_run", top 24, ["calls", "value"], ["calls", "value"]⟩
def d11 : DI := ⟨("need_run", none), "need_run", "need_run", top 25, ["calls", "run"], ["calls", "run"]⟩
def d12 : DI := ⟨("events_of", none), "events_of", "events_of", top 26, ["run"], ["run", "found", "part"]⟩
def d13 : DI := ⟨("trace_of", none), "trace_of", "trace_of", top 27, ["calls", "run"], ["calls", "run"]⟩
def d14 : DI := ⟨("is_event", none), "is_event", "is_event", top 28, ["value", "word"], ["value", "word"]⟩
def d15 : DI := ⟨("told_by", none), "told_by", "told_by", top 29, ["trace"], ["trace", "rows", "functions", "last", "event", "part"]⟩
def d16 : DI := ⟨("run_of", none), "run_of", "run_of", top 30, ["calls", "trace"], ["calls", "trace", "found"]⟩
def d17 : DI := ⟨("_law_box", none), "_law_box", "_law_box", top 35, ["script", "k"], ["script", "k", "cell", "great"]⟩
def d18 : DI := ⟨("_law_take", none), "_law_take", "_law_take", top 36, ["box", "many"], ["box", "many", "got"]⟩
def d19 : DI := ⟨("_law_pick", none), "_law_pick", "_law_pick", top 37, ["box", "some"], ["box", "some"]⟩
def d20 : DI := ⟨("_law_whole", none), "_law_whole", "_law_whole", top 38, ["value"], ["value"]⟩
def d21 : DI := ⟨("_law_spoilt", none), "_law_spoilt", "_law_spoilt", top 39, ["box", "value", "deep"], ["box", "value", "deep", "at", "how"]⟩
def d22 : DI := ⟨("_law_all_edges", none), "_law_all_edges", "_law_all_edges", top 40, ["n"], ["n", "found", "g", "f"]⟩
def d23 : DI := ⟨("_law_calls", none), "_law_calls", "_law_calls", top 41, ["script"], ["script", "box", "n", "most", "edge"]⟩
def d24 : DI := ⟨("_law_drawn_run", none), "_law_drawn_run", "_law_drawn_run", top 42, ["box", "calls", "function", "room", "wide"], ["box", "calls", "function", "room", "wide", "parts", "left", "some", "g", "f", "k", "one"]⟩
def d25 : DI := ⟨("_law_runs_in", none), "_law_runs_in", "_law_runs_in", top 43, ["run"], ["run", "part"]⟩
def d26 : DI := ⟨("_law_is_run", none), "_law_is_run", "_law_is_run", top 44, ["calls", "value"], ["calls", "value", "todo", "number", "ticks", "parts", "turn", "one", "want", "part"]⟩
def d27 : DI := ⟨("_law_made", none), "_law_made", "_law_made", top 45, ["calls"], ["calls"]⟩
def d28 : DI := ⟨("_law_trace", none), "_law_trace", "_law_trace", top 46, ["run"], ["run", "found", "part"]⟩
def d29 : DI := ⟨("_law_run_values", none), "_law_run_values", "_law_run_values", top 47, ["calls"], ["calls", "values"]⟩
def d30 : DI := ⟨("_law_told", none), "_law_told", "_law_told", top 48, ["kind", "made", "value"], ["kind", "made", "value", "e"]⟩
def d31 : DI := ⟨("_law_read", none), "_law_read", "_law_read", top 49, ["calls", "value"], ["calls", "value", "open_runs", "done", "event", "last"]⟩
def d32 : DI := ⟨("_law_is_shaped", none), "_law_is_shaped", "_law_is_shaped", top 50, ["value"], ["value", "part"]⟩
def d33 : DI := ⟨("law", none), "law", "law", top 51, ["script"], ["script", "calls", "box", "made", "values", "k", "run", "due", "at", "spot", "swapped", "value", "good", "events"]⟩
def d34 : DI := ⟨("Calls", some "__init__"), "__init__", "Calls.__init__", inCls (top 33) 0, ["self", "functions", "edges"], ["self", "functions", "edges"]⟩
def d35 : DI := ⟨("Calls", some "__eq__"), "__eq__", "Calls.__eq__", inCls (top 33) 1, ["self", "other"], ["self", "other"]⟩
def ds : List DI := [d0, d1, d2, d3, d4, d5, d6, d7, d8, d9, d10, d11, d12, d13, d14, d15, d16, d17, d18, d19, d20, d21, d22, d23, d24, d25, d26, d27, d28, d29, d30, d31, d32, d33, d34, d35]
def pj : Pj := { T := ckT, ds := ds, F := fns, C := cls, sub := sub, gl := glob }
theorem t0 : DTxt ckT d0 f0 := dTxt_of (by decide +kernel) (fun _ _ _ _ _ _ us hl => match us, hl with | [_], _ => rfl)
theorem t1 : DTxt ckT d1 f1 := dTxt_of (by decide +kernel) (fun _ _ _ _ _ _ us hl => match us, hl with | [_, _], _ => rfl)
theorem t2 : DTxt ckT d2 f2 := dTxt_of (by decide +kernel) (fun _ _ _ _ _ _ us hl => match us, hl with | [_], _ => rfl)
theorem t3 : DTxt ckT d3 f3 := dTxt_of (by decide +kernel) (fun _ _ _ _ _ _ us hl => match us, hl with | [_, _], _ => rfl)
theorem t4 : DTxt ckT d4 f4 := dTxt_of (by decide +kernel) (fun _ _ _ _ _ _ us hl => match us, hl with | [_, _], _ => rfl)
theorem t5 : DTxt ckT d5 f5 := dTxt_of (by decide +kernel) (fun _ _ _ _ _ _ us hl => match us, hl with | [_, _, _], _ => rfl)
theorem t6 : DTxt ckT d6 f6 := dTxt_of (by decide +kernel) (fun _ _ _ _ _ _ us hl => match us, hl with | [_, _, _], _ => rfl)
theorem t7 : DTxt ckT d7 f7 := dTxt_of (by decide +kernel) (fun _ _ _ _ _ _ us hl => match us, hl with | [_, _], _ => rfl)
theorem t8 : DTxt ckT d8 f8 := dTxt_of (by decide +kernel) (fun _ _ _ _ _ _ us hl => match us, hl with | [_], _ => rfl)
theorem t9 : DTxt ckT d9 f9 := dTxt_of (by decide +kernel) (fun _ _ _ _ _ _ us hl => match us, hl with | [_], _ => rfl)
theorem t10 : DTxt ckT d10 f10 := dTxt_of (by decide +kernel) (fun _ _ _ _ _ _ us hl => match us, hl with | [_, _], _ => rfl)
theorem t11 : DTxt ckT d11 f11 := dTxt_of (by decide +kernel) (fun _ _ _ _ _ _ us hl => match us, hl with | [_, _], _ => rfl)
theorem t12 : DTxt ckT d12 f12 := dTxt_of (by decide +kernel) (fun _ _ _ _ _ _ us hl => match us, hl with | [_], _ => rfl)
theorem t13 : DTxt ckT d13 f13 := dTxt_of (by decide +kernel) (fun _ _ _ _ _ _ us hl => match us, hl with | [_, _], _ => rfl)
theorem t14 : DTxt ckT d14 f14 := dTxt_of (by decide +kernel) (fun _ _ _ _ _ _ us hl => match us, hl with | [_, _], _ => rfl)
theorem t15 : DTxt ckT d15 f15 := dTxt_of (by decide +kernel) (fun _ _ _ _ _ _ us hl => match us, hl with | [_], _ => rfl)
theorem t16 : DTxt ckT d16 f16 := dTxt_of (by decide +kernel) (fun _ _ _ _ _ _ us hl => match us, hl with | [_, _], _ => rfl)
theorem t17 : DTxt ckT d17 f17 := dTxt_of (by decide +kernel) (fun _ _ _ _ _ _ us hl => match us, hl with | [_, _], _ => rfl)
theorem t18 : DTxt ckT d18 f18 := dTxt_of (by decide +kernel) (fun _ _ _ _ _ _ us hl => match us, hl with | [_, _], _ => rfl)
theorem t19 : DTxt ckT d19 f19 := dTxt_of (by decide +kernel) (fun _ _ _ _ _ _ us hl => match us, hl with | [_, _], _ => rfl)
theorem t20 : DTxt ckT d20 f20 := dTxt_of (by decide +kernel) (fun _ _ _ _ _ _ us hl => match us, hl with | [_], _ => rfl)
theorem t21 : DTxt ckT d21 f21 := dTxt_of (by decide +kernel) (fun _ _ _ _ _ _ us hl => match us, hl with | [_, _, _], _ => rfl)
theorem t22 : DTxt ckT d22 f22 := dTxt_of (by decide +kernel) (fun _ _ _ _ _ _ us hl => match us, hl with | [_], _ => rfl)
theorem t23 : DTxt ckT d23 f23 := dTxt_of (by decide +kernel) (fun _ _ _ _ _ _ us hl => match us, hl with | [_], _ => rfl)
theorem t24 : DTxt ckT d24 f24 := dTxt_of (by decide +kernel) (fun _ _ _ _ _ _ us hl => match us, hl with | [_, _, _, _, _], _ => rfl)
theorem t25 : DTxt ckT d25 f25 := dTxt_of (by decide +kernel) (fun _ _ _ _ _ _ us hl => match us, hl with | [_], _ => rfl)
theorem t26 : DTxt ckT d26 f26 := dTxt_of (by decide +kernel) (fun _ _ _ _ _ _ us hl => match us, hl with | [_, _], _ => rfl)
theorem t27 : DTxt ckT d27 f27 := dTxt_of (by decide +kernel) (fun _ _ _ _ _ _ us hl => match us, hl with | [_], _ => rfl)
theorem t28 : DTxt ckT d28 f28 := dTxt_of (by decide +kernel) (fun _ _ _ _ _ _ us hl => match us, hl with | [_], _ => rfl)
theorem t29 : DTxt ckT d29 f29 := dTxt_of (by decide +kernel) (fun _ _ _ _ _ _ us hl => match us, hl with | [_], _ => rfl)
theorem t30 : DTxt ckT d30 f30 := dTxt_of (by decide +kernel) (fun _ _ _ _ _ _ us hl => match us, hl with | [_, _, _], _ => rfl)
theorem t31 : DTxt ckT d31 f31 := dTxt_of (by decide +kernel) (fun _ _ _ _ _ _ us hl => match us, hl with | [_, _], _ => rfl)
theorem t32 : DTxt ckT d32 f32 := dTxt_of (by decide +kernel) (fun _ _ _ _ _ _ us hl => match us, hl with | [_], _ => rfl)
theorem t33 : DTxt ckT d33 f33 := dTxt_of (by decide +kernel) (fun _ _ _ _ _ _ us hl => match us, hl with | [_], _ => rfl)
theorem t34 : DTxt ckT d34 f34 := dTxt_of (by decide +kernel) (fun _ _ _ _ _ _ us hl => match us, hl with | [_, _, _], _ => rfl)
theorem t35 : DTxt ckT d35 f35 := dTxt_of (by decide +kernel) (fun _ _ _ _ _ _ us hl => match us, hl with | [_, _], _ => rfl)
theorem pjok : PjOk pj prog where
  MF := fun _ => rfl
  MC := fun _ => rfl
  MG := fun _ => rfl
  lc := rfl
  lg := rfl
  ld := rfl
  lf := by decide
  tx := fun i d F h1 h2 => by
    have hi := (List.getElem?_eq_some_iff.mp h1).1
    match i, h1, h2, hi with
    | 0, h1, h2, _ => cases h1; cases h2; exact t0
    | 1, h1, h2, _ => cases h1; cases h2; exact t1
    | 2, h1, h2, _ => cases h1; cases h2; exact t2
    | 3, h1, h2, _ => cases h1; cases h2; exact t3
    | 4, h1, h2, _ => cases h1; cases h2; exact t4
    | 5, h1, h2, _ => cases h1; cases h2; exact t5
    | 6, h1, h2, _ => cases h1; cases h2; exact t6
    | 7, h1, h2, _ => cases h1; cases h2; exact t7
    | 8, h1, h2, _ => cases h1; cases h2; exact t8
    | 9, h1, h2, _ => cases h1; cases h2; exact t9
    | 10, h1, h2, _ => cases h1; cases h2; exact t10
    | 11, h1, h2, _ => cases h1; cases h2; exact t11
    | 12, h1, h2, _ => cases h1; cases h2; exact t12
    | 13, h1, h2, _ => cases h1; cases h2; exact t13
    | 14, h1, h2, _ => cases h1; cases h2; exact t14
    | 15, h1, h2, _ => cases h1; cases h2; exact t15
    | 16, h1, h2, _ => cases h1; cases h2; exact t16
    | 17, h1, h2, _ => cases h1; cases h2; exact t17
    | 18, h1, h2, _ => cases h1; cases h2; exact t18
    | 19, h1, h2, _ => cases h1; cases h2; exact t19
    | 20, h1, h2, _ => cases h1; cases h2; exact t20
    | 21, h1, h2, _ => cases h1; cases h2; exact t21
    | 22, h1, h2, _ => cases h1; cases h2; exact t22
    | 23, h1, h2, _ => cases h1; cases h2; exact t23
    | 24, h1, h2, _ => cases h1; cases h2; exact t24
    | 25, h1, h2, _ => cases h1; cases h2; exact t25
    | 26, h1, h2, _ => cases h1; cases h2; exact t26
    | 27, h1, h2, _ => cases h1; cases h2; exact t27
    | 28, h1, h2, _ => cases h1; cases h2; exact t28
    | 29, h1, h2, _ => cases h1; cases h2; exact t29
    | 30, h1, h2, _ => cases h1; cases h2; exact t30
    | 31, h1, h2, _ => cases h1; cases h2; exact t31
    | 32, h1, h2, _ => cases h1; cases h2; exact t32
    | 33, h1, h2, _ => cases h1; cases h2; exact t33
    | 34, h1, h2, _ => cases h1; cases h2; exact t34
    | 35, h1, h2, _ => cases h1; cases h2; exact t35
    | i + 36, h1, h2, hi => exact absurd hi (by show ¬ i + 36 < 36; omega)
  nd := by decide +kernel
  ini := pj_ini (by decide +kernel)
  eqs := pj_eqs (by decide +kernel)
  top := by decide +kernel
  mts := pj_mts (by decide +kernel)
def loose0 : List Str := ["is_integer", "is_below", "is_ascending", "is_rising_pair", "are_rising_pairs", "is_shape", "is_part", "is_whole_run", "runs_within", "ticks_of", "is_run", "need_run", "events_of", "trace_of", "is_event", "told_by", "run_of", "_law_box", "_law_take", "_law_pick", "_law_whole", "_law_spoilt", "_law_all_edges", "_law_calls", "_law_drawn_run", "_law_runs_in", "_law_is_run", "_law_made", "_law_trace", "_law_run_values"]
def loose1 : List Str := ["_law_told", "_law_read", "_law_is_shaped", "TickError", "InvalidNumber", "InvalidEdges", "InvalidRun", "InvalidTrace", "Calls", "MOST_RUNS", "MOST_PARTS", "MOST_TICKS", "BEGIN", "END", "MOST_FUNCTIONS"]
def loose : List Str := loose0 ++ loose1
abbrev R : PySem.W.OpenRow := PySem.W.OpenLaw.row PySem.Challenge.rw_sureticks_k10_whole_traces
def ob (s : PySem.W.SharedT) : He.AlD := obM 5 pj prog (HandSHeadRun.getT s)
theorem ob_eq (s : PySem.W.SharedT) : ob s = (hkM 5 pj prog).obs s.abs := obM_eq (HandSHeadRun.getT_eq s)
section
open PySem PySem.W PySem.Calls PyProof.Rows HandSHeadRun
abbrev vw : Program := PySem.W.view R.prog [51]
noncomputable def tst {α : Type} (w : World) (os : OsState) (f : PySem.W.SharedT → α) : Option α := (endF (stepQ (denQ tabQ) R.prog w) 20000 R.prog w os).map f
theorem r1 (w : World) (os : OsState) : tst w os (fun s => looksF R.prog (boot_heap w.params) s.abs) = some true := by kernel_rfl
theorem r2 (w : World) (os : OsState) : tst w os (fun s => seenQ vw loose (importedModules R.prog.main.body) (fun s => xlAt vw [] s && recOk R.toRowW.records s) s.abs) = some (openGood vw loose) := by kernel_rfl
theorem r3 (w : World) (os : OsState) : tst w os (fun s => (ob s).1) = some (vaM pj).1 := by kernel_rfl
def fr (s : SharedT) : PySem.W.Frag := He.frG (HandSHeadRun.getT s) (asM (HandSHeadRun.getT s) 5)
theorem r4 (w : World) (os : OsState) : tst w os (fun s => pj.ds.map fun d => He.fnW (fr s) d.at_) = some (pj.ds.map fun d => d.dd.val) := by kernel_rfl
theorem run (w : World) : HandSHeadRun.RunEq R (PySem.W.view R.prog [51]) (hkM 5 pj prog) ob 20000 loose w := by
  intro os
  exact join4 (r1 w os) (r2 w os) (r3 w os) (r4 w os)
end
end Ck10
open PySem PySem.W PySem.Calls PyProof.Rows
theorem Ck10_of (math : ∀ ns : List Int, ns.length ≤ 63 → (∀ z ∈ ns, Builtin.Int.intBits z ≤ 1048576) → ∃ S, Mi.callF Ck10.P 100 33 [.lst (ns.map Mi.D.int)] [] = .ok (.bl true) S) : PySem.Challenge.rw_sureticks_k10_whole_traces.Holds := by
  w_on; o_law
  refine HandSHeadRun.head_any (r := Ck10.R) (q := view Ck10.R.prog [51]) (H := Mi.hkM 5 Ck10.pj Ck10.prog) (ob := Ck10.ob) (M := 20000) (loose := Ck10.loose) (d := HandSHeadRun.topDef Ck10.R.prog 51) (kwd := []) Ck10.ob_eq
    (by kernel_rfl) (fun s => by kernel_rfl) Ck10.run (by kernel_rfl) (by kernel_rfl) (by kernel_rfl) (by rfl) (by decide +kernel) (by decide +kernel) ⟨rfl, rfl, rfl, rfl, rfl, by decide +kernel⟩ ?hw ?hc
  case hw => w_witness2
  case hc => exact Mi.law_end (l := PySem.Challenge.rw_sureticks_k10_whole_traces) (p := Ck10.pj) (k := 100) (li := 33) (di := Ck10.d33) Ck10.pjok rfl (by kernel_rfl) ⟨rfl, by decide, by decide⟩ rfl rfl (by kernel_rfl) math
end
section
set_option linter.all false
set_option maxRecDepth 100000
/-! rules for what the evaluator gives: calls, stores, ints' lists -/
namespace Mi
@[simp] theorem res_ok {α β : Type} (a : α) (S : Sto) (k : α → Sto → Res β) : (Res.ok a S).bind k = k a S := rfl
@[simp] theorem res_exc {α β : Type} (c : Nat) (v : D) (S : Sto) (k : α → Sto → Res β) : (Res.exc c v S : Res α).bind k = .exc c v S := rfl
@[simp] theorem lift_some {α : Type} (a : α) (S : Sto) : lift (some a) S = .ok a S := rfl
@[simp] theorem trunc_self (S : Sto) (d : D) : trunc S d S = S := by
  unfold trunc
  split
  · exact List.take_length ..
  · rfl
theorem keeps_app (n : Nat) : ∀ (S X : Sto), keeps n S (S ++ X) = true
  | [], _ => rfl
  | o :: r, X => by simp [keeps, keeps_app n r X]
theorem trunc_app (S X : Sto) (d : D) (h : d.bel S.length = true) : trunc S d (S ++ X) = S := by
  unfold trunc
  simp [h, keeps_app]
theorem trunc_len {S S' : Sto} {d : D} (h : S'.length = S.length) : trunc S d S' = S' := by
  unfold trunc
  split
  · rw [← h]; exact List.take_length ..
  · rfl
@[simp] theorem trunc_set (S : Sto) (n : Nat) (o : O) (d : D) : trunc S d (S.set n o) = S.set n o := trunc_len (by simp)
theorem callF_eq {P : Pg} {k f : Nat} {args : List D} {S : Sto} {F : FnI} (hF : P.fns f = some F) (hl : args.length = F.np) :
    callF P (k + 1) f args S = fin S (exs P (callF P k) F.body (args.map some ++ List.replicate (F.nn - F.np) none) S) := by
  unfold callF
  rw [hF]
  simp [hl]
section
variable (m : Bool) (S : Sto) (i j : Int)
@[simp] theorem bin_add : binD .add m S (.int i) (.int j) = .ok (.int (i + j)) S := rfl
@[simp] theorem bin_sub : binD .sub m S (.int i) (.int j) = .ok (.int (i - j)) S := rfl
@[simp] theorem bin_mod : binD .mod m S (.int i) (.int j) = if 0 < j then .ok (.int (i % j)) S else .stuck := rfl
@[simp] theorem bin_div : binD .fdiv m S (.int i) (.int j) = if 0 < j ∧ j < 1073741824 then .ok (.int (i / j)) S else .stuck := rfl
@[simp] theorem bin_mul : binD .mul m S (.int i) (.int j) = if (-(2 ^ 64) < i ∧ i < 2 ^ 64) ∨ (-(2 ^ 64) < j ∧ j < 2 ^ 64) then .ok (.int (i * j)) S else .stuck := rfl
@[simp] theorem bin_pow : binD .pow m S (.int i) (.int j) = if 0 ≤ j ∧ j ≤ 1000000 ∧ i.natAbs < 2 ^ 64 then .ok (.int (i ^ j.toNat)) S else .stuck := rfl
end
/-- is it an int, and no bool -/
def isI : D → Bool
  | .int _ => true
  | _ => false
/-- no reference at the top -/
def PL (d : D) : Prop := ∀ n, d ≠ .ref n
@[simp] theorem PL_non : PL .non := by simp [PL]
@[simp] theorem PL_bl (b : Bool) : PL (.bl b) := by simp [PL]
@[simp] theorem PL_int (b : Int) : PL (.int b) := by simp [PL]
@[simp] theorem PL_str (b : List Nat) : PL (.str b) := by simp [PL]
@[simp] theorem PL_tup (b : List D) : PL (.tup b) := by simp [PL]
@[simp] theorem PL_lst (b : List D) : PL (.lst b) := by simp [PL]
@[simp] theorem PL_ins (a : Nat) (b : List Nat) (c : List D) : PL (.ins a b c) := by simp [PL]
theorem PL_ref {n : Nat} (h : PL (.ref n)) : False := h n rfl
/-! ### loops -/
/-- a comprehension that takes from the store: J is kept, each item is of Q -/
theorem mapR_take {g : D → Sto → Res (Option D)} {ck : Sto → Bool} (J : Sto → Prop) (Q : D → Option D → Prop) : ∀ (xs : List D) (S : Sto), (∀ d ∈ xs, ∀ S, J S → ∃ y S', g d S = .ok y S' ∧ ck S' = true ∧ J S' ∧ Q d y) → J S →
    ∃ (os : List (Option D)) (S' : Sto), mapR g ck xs S = .ok (os.filterMap id) S' ∧ J S' ∧ os.length = xs.length ∧ ∀ p ∈ xs.zip os, Q p.1 p.2
  | [], S, _, j => ⟨[], S, rfl, j, rfl, by simp⟩
  | d :: r, S, h, j => by
    obtain ⟨y, S1, h1, h2, h3, h4⟩ := h d List.mem_cons_self S j
    obtain ⟨os, S2, h5, h6, h7, h8⟩ := mapR_take J Q r S1 (fun x hx => h x (List.mem_cons_of_mem _ hx)) h3
    refine ⟨y :: os, S2, ?_, h6, by simp [h7], fun p hp => ?_⟩
    · simp only [mapR, h1, res_ok, h2, if_true, h5]
      cases y <;> rfl
    · simp only [List.zip_cons_cons, List.mem_cons] at hp
      rcases hp with rfl | hp
      · exact h4
      · exact h8 p hp
end Mi
end
section
set_option linter.all false
set_option maxRecDepth 100000
/-! what the evaluator's words give, no program in sight -/
namespace Mi
theorem mapR_map {α : Type} (a : α → D) (f : α → Option D) {g : D → Sto → Res (Option D)} {ck : Sto → Bool} {S : Sto} (hk : ck S = true) (xs : List α) (h : ∀ x ∈ xs, g (a x) S = .ok (f x) S) : mapR g ck (xs.map a) S = .ok (xs.filterMap f) S := by
  induction xs with
  | nil => rfl
  | cons x r ih =>
    have ih := ih fun y hy => h y (List.mem_cons_of_mem _ hy)
    simp only [List.map_cons, mapR, h x List.mem_cons_self, res_ok, hk, if_true, ih, List.filterMap_cons]
    cases f x <;> rfl
theorem mapR_id (f : D → Option D) {g : D → Sto → Res (Option D)} {ck : Sto → Bool} {S : Sto} (hk : ck S = true) (xs : List D) (h : ∀ x ∈ xs, g x S = .ok (f x) S) : mapR g ck xs S = .ok (xs.filterMap f) S := by
  have := mapR_map (fun x : D => x) f hk xs h
  rwa [List.map_id'] at this
theorem boolsOf_map {α : Type} (f : α → Bool) : ∀ xs : List α, boolsOf (xs.map fun x => D.bl (f x)) = some (xs.map f)
  | [] => rfl
  | x :: r => by simp [boolsOf, boolsOf_map f r]
theorem intsOf_map : ∀ xs : List Int, intsOf (xs.map D.int) = some xs
  | [] => rfl
  | x :: r => by simp [intsOf, intsOf_map r]
theorem rangeD_map (n : Nat) : rangeD 0 n = (List.range n).map fun i : Nat => D.int i := by simp [rangeD]
theorem nox_ok {α : Type} (a : α) (S : Sto) : (Res.ok a S).nox = .ok a S := rfl
@[simp] theorem at0 {α : Type} (a : α) (r : List α) : atI (a :: r) 0 = some a := by
  have : (0 : Int) < (r.length : Int) + 1 := by omega
  simp [atI, ixN, this]
@[simp] theorem at1 {α : Type} (a b : α) (r : List α) : atI (a :: b :: r) 1 = some b := by
  have : (1 : Int) < (r.length : Int) + 1 + 1 := by omega
  simp [atI, ixN, this]
@[simp] theorem at2 {α : Type} (a b c : α) (r : List α) : atI (a :: b :: c :: r) 2 = some c := by
  have : (2 : Int) < (r.length : Int) + 1 + 1 + 1 := by omega
  simp [atI, ixN, this]
def rngW1 (x : D) (S : Sto) : Res Wk := match x with
  | .int j => if -(2 ^ 62) ≤ j ∧ j < 2 ^ 62 then .ok ⟨fun _ => true, rangeD 0 j.toNat, none⟩ S else .stuck
  | _ => .stuck
theorem walk_rng1 (P : Pg) (call : Nat → List D → Sto → Res D) (a : Ex) (e : Env) (S : Sto) : walk P call (.rng1 a) e S = (ev P call a e S).bind rngW1 := by
  simp only [walk]
  rfl
theorem rngW1_nat (n : Nat) (h : n ≤ 1000) (S : Sto) : rngW1 (.int n) S = .ok ⟨fun _ => true, rangeD 0 n, none⟩ S := by
  have : -(2 ^ 62) ≤ (n : Int) ∧ (n : Int) < 2 ^ 62 := by omega
  simp only [rngW1, this, and_self, if_true, Int.toNat_natCast]
theorem rngW1_int (z : Int) (h : -1000 ≤ z ∧ z ≤ 1000) (S : Sto) : rngW1 (.int z) S = .ok ⟨fun _ => true, rangeD 0 z.toNat, none⟩ S := by
  have : -(2 ^ 62) ≤ z ∧ z < 2 ^ 62 := by omega
  simp only [rngW1, this, and_self, if_true]
def rngW2 (x y : D) (S : Sto) : Res Wk := match x, y with
  | .int i, .int j => if -(2 ^ 62) ≤ i ∧ i < 2 ^ 62 ∧ -(2 ^ 62) ≤ j ∧ j < 2 ^ 62 then .ok ⟨fun _ => true, rangeD i (j - i).toNat, none⟩ S else .stuck
  | _, _ => .stuck
theorem walk_rng2 (P : Pg) (call : Nat → List D → Sto → Res D) (a b : Ex) (e : Env) (S : Sto) : walk P call (.rng2 a b) e S = (ev P call a e S).bind fun x S1 => (ev P call b e S1).bind fun y S2 => rngW2 x y S2 := by
  simp only [walk]
  rfl
theorem walk_sq (P : Pg) (call : Nat → List D → Sto → Res D) (a : Ex) (e : Env) (S : Sto) : walk P call (.seq a) e S = (ev P call a e S).bind fun x S1 => lift ((seqOf S1 x).map fun xs => ⟨still S1 x, xs, none⟩) S1 := by
  simp only [walk]
theorem still_lst (S : Sto) (xs : List D) : still S (.lst xs) = fun _ => true := rfl
theorem still_tup (S : Sto) (xs : List D) : still S (.tup xs) = fun _ => true := rfl
section
variable (i j : Int) (P : Pg) (call : Nat → List D → Sto → Res D) (S : Sto)
theorem eqI : cmpD P call .eq S (.int i) (.int j) = .ok (.bl (i == j)) S := by simp [cmpD, eqD, res, D.data, D.dep, DEEP, D.eqv]
theorem neI : cmpD P call .ne S (.int i) (.int j) = .ok (.bl (!(i == j))) S := by simp [cmpD, eqD, res, D.data, D.dep, DEEP, D.eqv]
theorem gtI : cmpD P call .gt S (.int i) (.int j) = .ok (.bl (decide (j < i))) S := rfl
theorem leI : cmpD P call .le S (.int i) (.int j) = .ok (.bl (decide (i ≤ j))) S := rfl
theorem ltI : cmpD P call .lt S (.int i) (.int j) = .ok (.bl (decide (i < j))) S := by simp [cmpD, ltD, D.cok, D.dep, DEEP, D.ltv]
theorem geI : cmpD P call .ge S (.int i) (.int j) = .ok (.bl (!decide (i < j))) S := by simp [cmpD, ltD, D.cok, D.dep, DEEP, D.ltv]
end
theorem LT {n : Nat} (h : n ≤ 1000) : n ≤ LINE := by unfold LINE; omega
theorem ln0 : 0 ≤ LINE := by decide
theorem ln1 : 1 ≤ LINE := by decide
theorem ln2 : 2 ≤ LINE := by decide
theorem ln3 : 3 ≤ LINE := by decide
theorem ln4 : 4 ≤ LINE := by decide
theorem ln5 : 5 ≤ LINE := by decide
theorem ln8 : 8 ≤ LINE := by decide
theorem add_tup (m : Bool) (S : Sto) (x y : List D) (h : x.length + y.length ≤ 1000) : binD .add m S (.tup x) (.tup y) = .ok (.tup (x ++ y)) S := by
  unfold binD
  have : x.length + y.length ≤ LINE := LT h
  simp [this]
theorem add_lst (S : Sto) (x y : List D) (h : x.length + y.length ≤ 1000) : binD .add false S (.lst x) (.lst y) = .ok (.lst (x ++ y)) S := by
  have : x.length + y.length ≤ LINE := LT h
  simp [binD, seqOf, newL, this]
theorem mul_tup (m : Bool) (S : Sto) (x : D) (n : Nat) (h : n ≤ 1000) : binD .mul m S (.tup [x]) (.int n) = .ok (.tup (List.replicate n x)) S := by
  have : (List.replicate n [x]).flatten = List.replicate n x := by
    induction n with
    | zero => rfl
    | succ n ih => rw [List.replicate_succ, List.replicate_succ, List.flatten_cons, ih (by omega)]; rfl
  have h1 : (n : Int) ≤ 1000 := by omega
  simp [binD, h1, this]
theorem cut_mem (xs : List D) (lo hi : Option Int) : (∀ x ∈ cut xs lo hi, x ∈ xs) ∧ (cut xs lo hi).length ≤ xs.length := by
  unfold cut
  refine ⟨fun x hx => List.mem_of_mem_drop (List.mem_of_mem_take hx), ?_⟩
  simp only [List.length_take, List.length_drop]
  omega
theorem allD_map {α : Type} (f : α → Bool) (xs : List α) (S : Sto) : allD S (.lst (xs.map fun x => D.bl (f x))) = .ok (.bl (xs.all f)) S := by
  simp only [allD, lsq, seqOf, Option.bind_some, boolsOf_map]
  simp [List.all_map]
mutual
theorem eqv_refl : ∀ a : D, a.data = true → D.eqv a a = true
  | .non, _ | .bl _, _ | .int _, _ | .str _, _ => by simp [D.eqv]
  | .tup xs, h => by
    rw [D.data] at h
    rw [D.eqv]
    exact eqvs_refl xs h
  | .lst xs, h => by
    rw [D.data] at h
    rw [D.eqv]
    exact eqvs_refl xs h
  | .ins _ _ _, h => by simp [D.data] at h
  | .ref _, h => by simp [D.data] at h
theorem eqvs_refl : ∀ xs : List D, D.datas xs = true → D.eqvs xs xs = true
  | [], _ => by simp [D.eqvs]
  | x :: xs, h => by
    simp only [D.datas, Bool.and_eq_true] at h
    simp [D.eqvs, eqv_refl x h.1, eqvs_refl xs h.2]
end
theorem ne_self (P : Pg) (call : Nat → List D → Sto → Res D) (S : Sto) (xs : List D) (h : D.datas xs = true) (hd : D.deps xs ≤ 99) : cmpD P call .ne S (.tup xs) (.tup xs) = .ok (.bl false) S := by
  have := eqvs_refl xs h
  simp [cmpD, res, eqD, D.data, h, D.dep, DEEP, hd, D.eqv, this]
theorem ne_nil (P : Pg) (call : Nat → List D → Sto → Res D) (S : Sto) (ys : List D) (h : D.datas ys = true) : cmpD P call .ne S (.lst ys) (.lst []) = .ok (.bl (!ys.isEmpty)) S := by
  cases ys <;> simp_all [cmpD, res, eqD, D.data, D.datas, D.dep, D.deps, DEEP, D.eqv, D.eqvs]
theorem datas_mm : ∀ {xs : List D}, D.datas xs = true → ∀ x ∈ xs, x.data = true
  | _ :: _, h, x, hx => by
    simp only [D.datas, Bool.and_eq_true] at h
    rcases List.mem_cons.mp hx with rfl | hx
    · exact h.1
    · exact datas_mm h.2 x hx
theorem datas_of : ∀ {xs : List D}, (∀ x ∈ xs, x.data = true) → D.datas xs = true
  | [], _ => rfl
  | x :: r, h => by
    simp only [D.datas, Bool.and_eq_true]
    exact ⟨h x List.mem_cons_self, datas_of fun y hy => h y (List.mem_cons_of_mem _ hy)⟩
theorem data_pl {d : D} (h : d.data = true) : PL d := by
  cases d <;> simp [D.data] at h ⊢
/-! ### values that are looked at: data, not deep, not wide -/
mutual
def D.wd : D → Nat
  | .non | .bl _ | .int _ | .ins _ _ _ | .ref _ => 0
  | .str _ => 0
  | .tup xs => max xs.length (D.wds xs)
  | .lst xs => max xs.length (D.wds xs)
def D.wds : List D → Nat
  | [] => 0
  | x :: xs => max (D.wd x) (D.wds xs)
end
/-- nice: data, at most n deep, at most 200 wide -/
def Nc (n : Nat) (d : D) : Prop := d.data = true ∧ d.dep ≤ n ∧ d.wd ≤ 200
theorem deps_le {n : Nat} : ∀ {xs : List D}, (∀ x ∈ xs, x.dep ≤ n) → D.deps xs ≤ n
  | [], _ => by simp [D.deps]
  | x :: r, h => by
    have h1 := h x List.mem_cons_self
    have h2 := deps_le (xs := r) fun y hy => h y (List.mem_cons_of_mem _ hy)
    simp only [D.deps]; omega
theorem wds_le {n : Nat} : ∀ {xs : List D}, (∀ x ∈ xs, x.wd ≤ n) → D.wds xs ≤ n
  | [], _ => by simp [D.wds]
  | x :: r, h => by
    have h1 := h x List.mem_cons_self
    have h2 := wds_le (xs := r) fun y hy => h y (List.mem_cons_of_mem _ hy)
    simp only [D.wds]; omega
theorem dep_mm : ∀ {xs : List D} {x : D}, x ∈ xs → x.dep ≤ D.deps xs
  | _ :: _, x, h => by
    simp only [D.deps]
    rcases List.mem_cons.mp h with rfl | h
    · omega
    · have := dep_mm h; omega
theorem wd_mem : ∀ {xs : List D} {x : D}, x ∈ xs → x.wd ≤ D.wds xs
  | _ :: _, x, h => by
    simp only [D.wds]
    rcases List.mem_cons.mp h with rfl | h
    · omega
    · have := wd_mem h; omega
theorem Nc.tup {n : Nat} {xs : List D} (h : ∀ x ∈ xs, Nc n x) (hl : xs.length ≤ 200) : Nc (n + 1) (.tup xs) := by
  refine ⟨datas_of fun x hx => (h x hx).1, ?_, ?_⟩
  · have := deps_le fun x hx => (h x hx).2.1
    simp only [D.dep]; omega
  · have := wds_le fun x hx => (h x hx).2.2
    simp only [D.wd]; omega
theorem Nc.lst {n : Nat} {xs : List D} (h : ∀ x ∈ xs, Nc n x) (hl : xs.length ≤ 200) : Nc (n + 1) (.lst xs) := by
  refine ⟨datas_of fun x hx => (h x hx).1, ?_, ?_⟩
  · have := deps_le fun x hx => (h x hx).2.1
    simp only [D.dep]; omega
  · have := wds_le fun x hx => (h x hx).2.2
    simp only [D.wd]; omega
theorem Nc.mem {n : Nat} {xs : List D} (h : Nc n (.tup xs)) : (∀ x ∈ xs, Nc n x) ∧ xs.length ≤ 200 := by
  obtain ⟨h1, h2, h3⟩ := h
  simp only [D.dep] at h2
  simp only [D.wd] at h3
  refine ⟨fun x hx => ⟨datas_mm h1 x hx, ?_, ?_⟩, by omega⟩
  · have := dep_mm hx; omega
  · have := wd_mem hx; omega
theorem Nc.up {n m : Nat} {d : D} (h : Nc n d) (hm : n ≤ m) : Nc m d := ⟨h.1, Nat.le_trans h.2.1 hm, h.2.2⟩
theorem Nc.pl {n : Nat} {d : D} (h : Nc n d) : PL d := data_pl h.1
@[simp] theorem Nc_int (n : Nat) (i : Int) : Nc n (.int i) := by simp [Nc, D.data, D.dep, D.wd]
@[simp] theorem Nc_bl (n : Nat) (i : Bool) : Nc n (.bl i) := by simp [Nc, D.data, D.dep, D.wd]
@[simp] theorem Nc_non (n : Nat) : Nc n .non := by simp [Nc, D.data, D.dep, D.wd]
theorem Nc.ints {n : Nat} (ls : List Int) (h : ls.length ≤ 200) : Nc (n + 1) (.tup (ls.map D.int)) := Nc.tup (fun x hx => by
  obtain ⟨y, _, rfl⟩ := List.mem_map.mp hx
  simp) (by simpa using h)
/-- items that may be joined -/
def It1 (n : Nat) (xs : List D) (k : Nat) : Prop := (∀ x ∈ xs, Nc n x) ∧ xs.length ≤ k
theorem It1.add {n : Nat} {xs ys : List D} {k l : Nat} (h : It1 n xs k) (g : It1 n ys l) : It1 n (xs ++ ys) (k + l) := by
  refine ⟨fun x hx => ?_, by have := h.2; have := g.2; simp; omega⟩
  rcases List.mem_append.mp hx with hx | hx
  · exact h.1 x hx
  · exact g.1 x hx
theorem It1.cut {n : Nat} {xs : List D} {k : Nat} (h : It1 n xs k) (lo hi : Option Int) : It1 n (cut xs lo hi) k := by
  obtain ⟨h1, h2⟩ := cut_mem xs lo hi
  exact ⟨fun x hx => h.1 x (h1 x hx), Nat.le_trans h2 h.2⟩
theorem It1.one {n : Nat} {d : D} (h : Nc n d) : It1 n [d] 1 := ⟨fun x hx => by simp at hx; subst hx; exact h, by simp⟩
theorem It1.tup {n : Nat} {xs : List D} {k : Nat} (h : It1 n xs k) (hk : k ≤ 200) : Nc (n + 1) (.tup xs) := Nc.tup h.1 (Nat.le_trans h.2 hk)
end Mi
end
section
set_option linter.all false
set_option maxRecDepth 100000
namespace Ck10
open Mi
theorem c0 (k : Nat) (d : D) (S : Sto) (h : PL d) : callF P (k + 1) 0 [d] S = .ok (.bl (isI d)) S := by
  rw [callF_eq (F := f0) rfl rfl]
  cases d
  all_goals try exact (PL_ref h).elim
  all_goals simp [f0, b0, exs, ex1, ev, isOf, truR, truth, fin, res, isI]
def belI (d : D) (m : Int) : Bool := match d with
  | .int i => decide (0 ≤ i) && decide (i < m)
  | _ => false
theorem c1 (k : Nat) (d : D) (m : Int) (S : Sto) (h : PL d) : callF P (k + 2) 1 [d, .int m] S = .ok (.bl (belI d m)) S := by
  rw [callF_eq (F := f1) rfl rfl]
  cases d
  all_goals try exact (PL_ref h).elim
  all_goals simp [f1, b1, exs, ex1, ev, evs, c0, isI, truth, fin, belI]
  rename_i i
  by_cases h0 : 0 ≤ i <;> simp [cmpD, ltD, D.cok, D.dep, D.ltv, h0, DEEP]
/-- a box: two numbers that are not negative -/
def Bx (S : Sto) (n : Nat) : Prop := ∃ g s : Int, 0 ≤ g ∧ 0 ≤ s ∧ S[n]? = some (.lst [.int g, .int s])
theorem c15 (k n : Nat) (m : Int) (S : Sto) (h : Bx S n) (h0 : 0 < m) (h1 : m < 1073741824) : ∃ t g s : Int, 0 ≤ t ∧ t < m ∧ 0 ≤ g ∧ 0 ≤ s ∧ callF P (k + 1) 18 [.ref n, .int m] S = .ok (.int t) (S.set n (.lst [.int g, .int s])) := by
  obtain ⟨g, s, hg, hs, hS⟩ := h
  have hn : n < S.length := (List.getElem?_eq_some_iff.mp hS).1
  have hset : ∀ o : O, (S.set n o)[n]? = some o := fun o => List.getElem?_set_self hn
  by_cases hp : 0 < g
  · refine ⟨g % m, g / m, s, Int.emod_nonneg _ (by omega), Int.emod_lt_of_pos _ h0, Int.ediv_nonneg hg (by omega), hs, ?_⟩
    rw [callF_eq (F := f18) rfl rfl]
    simp [f18, b18, exs, ex1, ev, evs, getI, hS, atI, ixN, cmpD, truR, truth, hp, bltD, one, intD, h0, h1, setI, fin, hset]
  · refine ⟨(s * 39373 + 69621) % 2147483647 / 8191 % m, g, (s * 39373 + 69621) % 2147483647, Int.emod_nonneg _ (by omega), Int.emod_lt_of_pos _ h0, hg, Int.emod_nonneg _ (by omega), ?_⟩
    rw [callF_eq (F := f18) rfl rfl]
    simp [f18, b18, exs, ex1, ev, evs, getI, hS, atI, ixN, cmpD, truR, truth, hp, bltD, one, intD, h0, h1, setI, fin, hset]
theorem at_int (ns : List Int) (S : Sto) (j : Int) (h0 : 0 ≤ j) (h1 : j < ns.length) : ∃ z : Int, lift (atI (ns.map D.int) j) S = .ok (.int z) S := by
  have h : j.toNat < ns.length := by omega
  refine ⟨ns[j.toNat], ?_⟩
  simp [atI, ixN, h0, h1, h]
def b14r : Sts := match b17 with
  | .cons _ (.cons _ r) => r
  | _ => .nil
theorem c14r (call : Nat → List D → Sto → Res D) (v : D) (kk cell : Int) (S : Sto) (h0 : 0 ≤ kk) (hc : 0 ≤ cell) : ∃ g s : Int, 0 ≤ g ∧ 0 ≤ s ∧ exs P call b14r [some v, some (.int kk), some (.int cell), none] S = .ok (.rt (.ref S.length)) (S ++ [.lst [.int g, .int s]]) := by
  by_cases hb : cell < 10 ^ 18
  · have hb' : ¬ (1000000000000000000 ≤ cell) := by omega
    refine ⟨0, (cell % 1000000007 * 48271 + 613 * kk) % 2147483647 + 1, by omega, by omega, ?_⟩
    simp [b14r, b17, exs, ex1, ev, evs, newL, LINE, bltD, one, intD, cmpD, ltD, D.cok, D.dep, DEEP, D.ltv, hb', getI, atI, ixN]
  · have hb' : 1000000000000000000 ≤ cell := by omega
    refine ⟨cell, (cell % 1000000007 * 48271 + 613 * kk) % 2147483647 + 1, by omega, by omega, ?_⟩
    simp [b14r, b17, exs, ex1, ev, evs, newL, LINE, bltD, one, intD, cmpD, ltD, D.cok, D.dep, DEEP, D.ltv, hb', getI, atI, ixN]
def b14s : St := match b17 with
  | .cons _ (.cons s _) => s
  | _ => .pas
theorem c14s (call : Nat → List D → Sto → Res D) (ns : List Int) (kk cell : Int) (S : Sto) (hl : ns.length ≤ 63) (h0 : 0 ≤ kk) (hc : 0 ≤ cell) : ∃ c' : Int, 0 ≤ c' ∧ ex1 P call b14s [some (.lst (ns.map D.int)), some (.int kk), some (.int cell), none] S = .ok (.nx [some (.lst (ns.map D.int)), some (.int kk), some (.int c'), none]) S := by
  by_cases h1 : kk < ns.length
  · obtain ⟨z, hz⟩ := at_int ns S kk h0 h1
    refine ⟨if z < 0 then -z else z, by split <;> omega, ?_⟩
    simp [b14s, b17, exs, ex1, ev, evs, bltD, one, lenD, dctOf, seqOf, cmpD, ltD, D.cok, D.dep, DEEP, D.ltv, h1, getI, truR, truth, hz, absD]
  · by_cases h2 : 0 < ns.length
    · obtain ⟨z, hz⟩ := at_int ns S (kk % ns.length) (Int.emod_nonneg _ (by omega)) (Int.emod_lt_of_pos _ (by omega))
      have h2' : (0 : Int) < ns.length := by omega
      refine ⟨(if z < 0 then -z else z) % 1000000007 * 31 + 7919 * kk, by split <;> omega, ?_⟩
      simp [b14s, b17, exs, ex1, ev, evs, bltD, one, lenD, dctOf, seqOf, cmpD, ltD, D.cok, D.dep, DEEP, D.ltv, h1, h2, h2', getI, truR, truth, hz, absD, intD]
    · refine ⟨cell, hc, ?_⟩
      have h2' : ns = [] := by cases ns <;> simp_all
      subst h2'
      have h3 : ¬ kk < 0 := by omega
      simp [h3, b14s, b17, exs, ex1, ev, evs, bltD, one, lenD, dctOf, seqOf, cmpD, ltD, D.cok, D.dep, DEEP, D.ltv, getI, truR, truth, absD, intD]
theorem c14 (k : Nat) (ns : List Int) (kk : Int) (S : Sto) (hl : ns.length ≤ 63) (h0 : 0 ≤ kk) : ∃ g s : Int, 0 ≤ g ∧ 0 ≤ s ∧ callF P (k + 1) 17 [.lst (ns.map D.int), .int kk] S = .ok (.ref S.length) (S ++ [.lst [.int g, .int s]]) := by
  rw [callF_eq (F := f17) rfl rfl]
  obtain ⟨c', hc', e1⟩ := c14s (callF P k) ns kk (7919 * kk + 101) S hl h0 (by omega)
  obtain ⟨g, s, hg, hs, e2⟩ := c14r (callF P k) (.lst (ns.map D.int)) kk c' S h0 hc'
  refine ⟨g, s, hg, hs, ?_⟩
  have e0 : exs P (callF P k) b17 [some (.lst (ns.map D.int)), some (.int kk), none, none] S = exs P (callF P k) (.cons b14s b14r) [some (.lst (ns.map D.int)), some (.int kk), some (.int (7919 * kk + 101)), none] S := by
    show exs P (callF P k) (.cons _ (.cons b14s b14r)) _ S = _
    rw [exs]
    simp [ex1, ev]
  show fin S (exs P (callF P k) b17 [some (.lst (ns.map D.int)), some (.int kk), none, none] S) = _
  rw [e0, exs, e1]
  show fin S (exs P (callF P k) b14r [some (.lst (ns.map D.int)), some (.int kk), some (.int c'), none] S) = _
  rw [e2]
  show Res.ok _ (trunc S (.ref S.length) (S ++ [.lst [.int g, .int s]])) = _
  rw [show trunc S (.ref S.length) (S ++ [O.lst [.int g, .int s]]) = S ++ [.lst [.int g, .int s]] from by simp [trunc, D.bel]]
theorem at_mem (ns : List Int) (S : Sto) (j : Int) (h0 : 0 ≤ j) (h1 : j < ns.length) : ∃ z ∈ ns, lift (atI (ns.map D.int) j) S = .ok (.int z) S := by
  have h : j.toNat < ns.length := by omega
  refine ⟨ns[j.toNat], List.getElem_mem h, ?_⟩
  simp [atI, ixN, h0, h1, h]
theorem Bx.set {S : Sto} {n : Nat} (h : Bx S n) {g s : Int} (hg : 0 ≤ g) (hs : 0 ≤ s) : Bx (S.set n (.lst [.int g, .int s])) n := by
  obtain ⟨_, _, _, _, hS⟩ := h
  exact ⟨g, s, hg, hs, List.getElem?_set_self (List.getElem?_eq_some_iff.mp hS).1⟩
theorem c16 (k n : Nat) (ns : List Int) (S : Sto) (h : Bx S n) (h0 : 0 < ns.length) (h1 : ns.length < 1000) : ∃ z ∈ ns, ∃ g s : Int, 0 ≤ g ∧ 0 ≤ s ∧ callF P (k + 2) 19 [.ref n, .lst (ns.map D.int)] S = .ok (.int z) (S.set n (.lst [.int g, .int s])) := by
  obtain ⟨t, g, s, a1, a2, a3, a4, e⟩ := c15 k n ns.length S h (by omega) (by omega)
  obtain ⟨z, hz, ez⟩ := at_mem ns (S.set n (.lst [.int g, .int s])) t a1 a2
  refine ⟨z, hz, g, s, a3, a4, ?_⟩
  rw [callF_eq (F := f19) rfl rfl]
  simp [f19, b19, exs, ex1, ev, evs, bltD, one, lenD, dctOf, seqOf, e, getI, ez, fin]
theorem c17 (k : Nat) (d : D) (S : Sto) (h : PL d) : callF P (k + 1) 20 [d] S = .ok (.bl (isI d)) S := by
  rw [callF_eq (F := f20) rfl rfl]
  cases d
  all_goals try exact (PL_ref h).elim
  all_goals simp [f20, b20, exs, ex1, ev, isOf, truR, truth, fin, res, isI]
def pr (e : Nat × Nat) : D := .tup [.int e.1, .int e.2]
/-- all pairs that rise -/
def edges (n : Nat) : List (Nat × Nat) := (List.range n).flatMap fun g => (List.range (n - (g + 1))).map fun f => (g, g + 1 + f)
theorem c18e (call : Nat → List D → Sto → Res D) (S : Sto) : ∀ n : Nat, n ≤ 8 → exs P call b22 [some (.int n), none, none, none] S = .ok (.rt (.lst ((edges n).map pr))) S
  | 0, _ | 1, _ | 2, _ | 3, _ | 4, _ | 5, _ | 6, _ | 7, _ | 8, _ => rfl
  | n + 9, h => absurd h (by omega)
theorem c18 (k n : Nat) (S : Sto) (h : n ≤ 8) : callF P (k + 1) 22 [.int n] S = .ok (.lst ((edges n).map pr)) S := by
  rw [callF_eq (F := f22) rfl rfl]
  show fin S (exs P (callF P k) b22 [some (.int n), none, none, none] S) = _
  rw [c18e _ _ n h]
  simp [fin]
/-- a store with a box on top -/
def Bo (S : Sto) (g s : Int) : Sto := S ++ [.lst [.int g, .int s]]
def IsBo (S T : Sto) : Prop := ∃ g s : Int, 0 ≤ g ∧ 0 ≤ s ∧ T = Bo S g s
theorem IsBo.bx {S T : Sto} (h : IsBo S T) : Bx T S.length := by
  obtain ⟨g, s, hg, hs, rfl⟩ := h
  exact ⟨g, s, hg, hs, by simp [Bo]⟩
theorem IsBo.set {S T : Sto} (h : IsBo S T) {g s : Int} (hg : 0 ≤ g) (hs : 0 ≤ s) : IsBo S (T.set S.length (.lst [.int g, .int s])) := by
  obtain ⟨g', s', hg', hs', rfl⟩ := h
  exact ⟨g, s, hg, hs, by simp [Bo]⟩
theorem IsBo.trunc {S T : Sto} (h : IsBo S T) {d : D} (hd : d.bel S.length = true) : trunc S d T = S := by
  obtain ⟨g', s', hg', hs', rfl⟩ := h
  exact trunc_app S _ d hd
theorem e15 (k : Nat) (m : Int) {S T : Sto} (h : IsBo S T) (h0 : 0 < m) (h1 : m < 1073741824) : ∃ t T', 0 ≤ t ∧ t < m ∧ IsBo S T' ∧ callF P (k + 1) 18 [.ref S.length, .int m] T = .ok (.int t) T' := by
  obtain ⟨t, g, s, a1, a2, a3, a4, e⟩ := c15 k S.length m T h.bx h0 h1
  exact ⟨t, _, a1, a2, h.set a3 a4, e⟩
theorem e16 (k : Nat) (ns : List Int) {S T : Sto} (h : IsBo S T) (h0 : 0 < ns.length) (h1 : ns.length < 1000) : ∃ z ∈ ns, ∃ T', IsBo S T' ∧ callF P (k + 2) 19 [.ref S.length, .lst (ns.map D.int)] T = .ok (.int z) T' := by
  obtain ⟨z, hz, g, s, a3, a4, e⟩ := c16 k S.length ns T h.bx h0 h1
  exact ⟨z, hz, _, h.set a3 a4, e⟩
theorem e14 (k : Nat) (ns : List Int) (kk : Int) (S : Sto) (hl : ns.length ≤ 63) (h0 : 0 ≤ kk) : ∃ T, IsBo S T ∧ callF P (k + 1) 17 [.lst (ns.map D.int), .int kk] S = .ok (.ref S.length) T := by
  obtain ⟨g, s, hg, hs, e⟩ := c14 k ns kk S hl h0
  exact ⟨_, ⟨g, s, hg, hs, rfl⟩, e⟩
theorem subl_take : ∀ (es : List (Nat × Nat)) (os : List (Option D)), os.length = (es.map pr).length → (∀ p ∈ (es.map pr).zip os, p.2 = some p.1 ∨ p.2 = none) → ∃ ws : List (Nat × Nat), os.filterMap id = ws.map pr ∧ ws.Sublist es
  | [], [], _, _ => ⟨[], rfl, .slnil⟩
  | x :: xs, o :: os, hl, h => by
    obtain ⟨ws, h1, h2⟩ := subl_take xs os (by simpa using hl) fun p hp => h p (by simp [hp])
    rcases h (pr x, o) (by simp) with h3 | h3
    · dsimp only at h3; subst h3
      exact ⟨x :: ws, by simp [h1], h2.cons_cons x⟩
    · dsimp only at h3; subst h3
      exact ⟨ws, by simp [h1], h2.cons x⟩
  | [], _ :: _, hl, _ => by simp at hl
  | _ :: _, [], hl, _ => by simp at hl
end Ck10
end
section
set_option linter.all false
set_option maxRecDepth 100000
set_option maxHeartbeats 4000000
namespace Ck10
open Mi
def lt2 (a b : Nat × Nat) : Prop := a.1 < b.1 ∨ (a.1 = b.1 ∧ a.2 < b.2)
instance (a b : Nat × Nat) : Decidable (lt2 a b) := by unfold lt2; infer_instance
theorem ltD_pr (a b : Nat × Nat) : ltD (pr a) (pr b) = some (decide (lt2 a b)) := by
  obtain ⟨a1, a2⟩ := a
  obtain ⟨b1, b2⟩ := b
  simp only [ltD, pr, D.cok, D.coks, D.dep, D.deps, DEEP, D.ltv, D.ltvs, D.data, D.eqv]
  by_cases h1 : a1 = b1
  · subst h1
    by_cases h2 : a2 = b2
    · subst h2; simp [lt2]
    · have h3 : ¬ (a2 : Int) = b2 := by omega
      by_cases h4 : a2 < b2
      · simp [lt2, h3, h4]
      · simp [lt2, h3, h4]
  · have h3 : ¬ (a1 : Int) = b1 := by omega
    by_cases h4 : a1 < b1
    · simp [lt2, h3, h4]
    · simp [lt2, h1, h3, h4]
def eg (es : List (Nat × Nat)) (i : Nat) : Nat × Nat := es.getD i (0, 0)
theorem at_eg (es : List (Nat × Nat)) (i : Nat) (h : i < es.length) : atI (es.map pr) (i : Int) = some (pr (eg es i)) := by
  simp [atI, ixN, h, eg]
/-- one behind the other -/
def asB (es : List (Nat × Nat)) : Bool := (List.range (es.length - 1)).all fun i => decide (lt2 (eg es i) (eg es (i + 1)))
theorem c2g (k : Nat) (es : List (Nat × Nat)) (S : Sto) (hl : es.length ≤ 200) : callF P (k + 1) 2 [.tup (es.map pr)] S = .ok (.bl (asB es)) S := by
  rw [callF_eq (F := f2) rfl rfl]
  have hr := rngW1_int ((es.length : Int) - 1) (by omega)
  have ht : ((es.length : Int) - 1).toNat = es.length - 1 := by omega
  rw [ht] at hr
  have hm : mapR (lcStep (.var 1) [1] [some (.tup (es.map pr)), none] (evc P (callF P k) .nil) (ev P (callF P k) x2_0)) (fun _ => true) (rangeD 0 (es.length - 1)) S = .ok ((List.range (es.length - 1)).map fun i => .bl (decide (lt2 (eg es i) (eg es (i + 1))))) S := by
    rw [rangeD_map, mapR_map _ (fun i => some (.bl (decide (lt2 (eg es i) (eg es (i + 1)))))) rfl]
    · simp
    · intro x hx
      have hx : x + 1 < es.length := by simp at hx; omega
      have h1 := at_eg es x (by omega)
      have h2 := at_eg es (x + 1) hx
      rw [show ((x + 1 : Nat) : Int) = (x : Int) + 1 by omega] at h2
      simp -implicitDefEqProofs [lcStep, asT, wipe, evc, x2_0, ev, getI, h1, h2, cmpD, ltD_pr]
  have ha := fun S => allD_map (fun i => decide (lt2 (eg es i) (eg es (i + 1)))) (List.range (es.length - 1)) S
  have hL : es.length - 1 ≤ LINE := LT (by omega)
  simp -implicitDefEqProofs [f2, b2, exs, ex1, ev, evs, walk_rng1, bltD, one, lenD, dctOf, seqOf, lockO, Tg.own, hr, hm, nox_ok, newL, hL, ha]
  simp -implicitDefEqProofs [fin, asB]
/-- a pair that rises -/
def rpB (d : D) (n : Int) : Bool := match d with
  | .tup [.int a, .int b] => decide (0 ≤ a) && decide (a < n) && (decide (0 ≤ b) && decide (b < n)) && decide (a < b)
  | _ => false
theorem r5 (k : Nat) (d : D) (n : Int) (S : Sto) (h : d.data = true) : callF P (k + 3) 3 [d, .int n] S = .ok (.bl (rpB d n)) S := by
  rw [callF_eq (F := f3) rfl rfl]
  cases d with
  | tup xs =>
    match xs, h with
    | [], h => simp -implicitDefEqProofs [f3, b3, exs, ex1, ev, evs, isOf, res, truR, truth, bltD, one, lenD, dctOf, seqOf, neI, rpB, fin]
    | [a], h => simp -implicitDefEqProofs [f3, b3, exs, ex1, ev, evs, isOf, res, truR, truth, bltD, one, lenD, dctOf, seqOf, neI, rpB, fin]
    | [a, b], h =>
      simp only [D.data, D.datas, Bool.and_eq_true, and_true] at h
      have e1 := c1 k a n S (data_pl h.1)
      have e2 := c1 k b n S (data_pl h.2)
      simp -implicitDefEqProofs [f3, b3, exs, ex1, ev, evs, isOf, res, truR, truth, bltD, one, lenD, dctOf, seqOf, neI, getI, e1]
      cases ha : belI a n with
      | false =>
        have : rpB (.tup [a, b]) n = false := by
          cases a <;> simp_all [rpB, belI]
          cases b <;> simp_all
          intros; omega
        simp -implicitDefEqProofs [this, fin]
      | true =>
        cases hb : belI b n with
        | false =>
          have : rpB (.tup [a, b]) n = false := by
            cases a <;> simp_all [rpB, belI]
            cases b <;> simp_all [belI]
            intros; omega
          simp -implicitDefEqProofs [this, e2, hb, fin]
        | true =>
          cases a with
          | int i =>
            cases b with
            | int j =>
              have : rpB (.tup [.int i, .int j]) n = decide (i < j) := by
                simp only [belI, Bool.and_eq_true, decide_eq_true_eq] at ha hb
                simp [rpB, ha.1, ha.2, hb.1, hb.2]
              simp -implicitDefEqProofs [this, e2, hb, ltI, fin]
            | _ => simp [belI] at hb
          | _ => simp [belI] at ha
    | a :: b :: c :: r, h =>
      have hn : ((r.length : Int) + 1 + 1 + 1 == 2) = false := by simp; omega
      simp -implicitDefEqProofs [f3, b3, exs, ex1, ev, evs, isOf, res, truR, truth, bltD, one, lenD, dctOf, seqOf, neI, hn, rpB, fin]
  | ref n => simp [D.data] at h
  | _ => simp -implicitDefEqProofs [f3, b3, exs, ex1, ev, evs, isOf, res, truR, truth, rpB, fin]
theorem pr_nc (m : Nat) (e : Nat × Nat) : Nc (m + 1) (pr e) := Nc.tup (by simp) (by simp)
theorem r6t (k : Nat) (es : List (Nat × Nat)) (n : Int) (S : Sto) (hl : es.length ≤ 200) (hr : ∀ e ∈ es, e.1 < e.2 ∧ (e.2 : Int) < n) : callF P (k + 4) 4 [.tup (es.map pr), .int n] S = .ok (.bl (asB es)) S := by
  rw [callF_eq (F := f4) rfl rfl]
  have hm : mapR (lcStep (.var 2) [2] [some (.tup (es.map pr)), some (.int n), none] (evc P (callF P (k + 3)) .nil) (ev P (callF P (k + 3)) x4_0)) (fun _ => true) (es.map pr) S = .ok (es.map fun x => .bl true) S := by
    rw [mapR_map _ (fun x => some (.bl true)) rfl es fun e he => by
      have h1 := hr e he
      have : rpB (pr e) n = true := by
        have a1 : (e.1 : Int) < n := by omega
        have a2 : (e.1 : Int) < e.2 := by omega
        simp only [rpB, pr, Bool.and_eq_true, decide_eq_true_eq]
        omega
      simp -implicitDefEqProofs [lcStep, asT, wipe, evc, x4_0, ev, evs, r5 k (pr e) n S (pr_nc 0 e).1, this]]
    simp
  have ha := fun S => allD_map (fun _ => true) es S
  have hL : es.length ≤ LINE := LT (by omega)
  have e2 := c2g (k + 2) es S hl
  have ht : (es.all fun _ => true) = true := by simp
  rw [ht] at ha
  simp -implicitDefEqProofs [f4, b4, exs, ex1, ev, evs, isOf, res, truR, truth, walk_sq, bltD, one, seqOf, lockO, Tg.own, still_tup, hm, nox_ok, newL, hL, ha, e2, fin]
end Ck10
end
section
set_option linter.all false
set_option maxRecDepth 100000
set_option maxHeartbeats 4000000
namespace Ck10
open Mi
/-- pairs that rise, in order -/
def GP (d : D) (n : Int) (es : List (Nat × Nat)) : Prop := d = .tup (es.map pr) ∧ es.length ≤ 200 ∧ (∀ e ∈ es, e.1 < e.2 ∧ (e.2 : Int) < n) ∧ asB es = true
theorem gp_true (k : Nat) {d : D} {n : Int} {es} (h : GP d n es) (S : Sto) : callF P (k + 4) 4 [d, .int n] S = .ok (.bl true) S := by
  obtain ⟨rfl, h1, h2, h3⟩ := h
  rw [r6t k es n S h1 h2, h3]
/-! ### ticks -/
/-- ticks of n functions -/
def Tk (ls : List Int) (n : Nat) : Prop := ls.length = n ∧ ∀ y ∈ ls, 0 ≤ y ∧ y < 1000000
/-! ### what is made -/
mutual
theorem data_bel (n : Nat) : ∀ d : D, d.data = true → d.bel n = true
  | .non, _ | .bl _, _ | .int _, _ | .str _, _ => by simp [D.bel]
  | .tup xs, h => by rw [D.data] at h; rw [D.bel]; exact datas_bel n xs h
  | .lst xs, h => by rw [D.data] at h; rw [D.bel]; exact datas_bel n xs h
  | .ins _ _ _, h => by simp [D.data] at h
  | .ref _, h => by simp [D.data] at h
theorem datas_bel (n : Nat) : ∀ xs : List D, D.datas xs = true → D.bels n xs = true
  | [], _ => by simp [D.bels]
  | x :: xs, h => by
    simp only [D.datas, Bool.and_eq_true] at h
    simp [D.bels, data_bel n x h.1, datas_bel n xs h.2]
end
@[simp] theorem P_g0 : P.glob 5 = some (.int 5) := rfl
@[simp] theorem P_g1 : P.glob 2 = some (.int 999999) := rfl
@[simp] theorem P_c4 : P.cls 5 = some { init := some 34, eq := some 35, meths := [], flds := [2, 0] } := rfl
/-- a number of functions -/
def Fn (d : D) (n : Int) : Prop := d = .int n ∧ 1 ≤ n ∧ n ≤ 5
def cD (n : Int) (d : D) : D := .ins 5 [2, 0] [.int n, d]
theorem i26o (k : Nat) {n : Int} {d : D} {es} (h1 : 1 ≤ n) (h5 : n ≤ 5) (h : GP d n es) (S : Sto) : callF P (k + 5) 34 [.ref S.length, .int n, d] (S ++ [.ins 5 [] []]) = .ok .non (S ++ [.ins 5 [2, 0] [.int n, d]]) := by
  rw [callF_eq (F := f34) rfl rfl]
  have e0 : callF P (k + 4) 0 _ (S ++ [.ins 5 [] []]) = _ := c0 (k + 3) (.int n) _ (by simp)
  have e6 := gp_true k h (S ++ [.ins 5 [] []])
  simp -implicitDefEqProofs [f34, b34, exs, ex1, ev, evs, e0, isI, truR, truth, leI, h1, h5, e6, setA, look, fin]
  exact trunc_len (by simp)
theorem newO (call : Nat → List D → Sto → Res D) (c f : Nat) (C : ClI) (args : List D) (ks : List Nat) (ds : List D) (S : Sto) (hc : P.cls c = some C) (hi : C.init = some f) (e : call f (.ref S.length :: args) (S ++ [.ins c [] []]) = .ok .non (S ++ [.ins c ks ds])) (hb : D.bels S.length ds = true) : newC P call c true args S = .ok (.ins c ks ds) S := by
  simp [newC, hc, hi, e]
  exact trunc_app _ _ _ (by simpa [D.bel] using hb)
theorem new7 (k : Nat) {n : Int} {d : D} {es} (h1 : 1 ≤ n) (h5 : n ≤ 5) (h : GP d n es) (S : Sto) : newC P (callF P (k + 5)) 5 true [.int n, d] S = .ok (cD n d) S :=
  newO _ 5 34 _ _ _ _ S rfl rfl (i26o k h1 h5 h S) (by
    have : d.data = true := by
      obtain ⟨rfl, _⟩ := h
      exact datas_of fun x hx => by
        obtain ⟨e, _, rfl⟩ := List.mem_map.mp hx
        exact (pr_nc 0 e).1
    simp [D.bels, D.bel, data_bel _ d this])
end Ck10
end
section
set_option linter.all false
set_option maxRecDepth 100000
set_option maxHeartbeats 4000000
namespace Ck10
open Mi
/-! ### drawn calls -/
theorem IsBo.len {S T : Sto} (h : IsBo S T) : T.length = S.length + 1 := by
  obtain ⟨g, s, _, _, rfl⟩ := h
  simp [Bo]
theorem IsBo.same {S T T' : Sto} (h : IsBo S T) (h' : IsBo S T') (d : D) : Mi.trunc T d T' = T' := trunc_len (by rw [h.len, h'.len])
/-- drawn calls: a number of functions, some of the edges that rise -/
structure Cal (n : Nat) (es : List (Nat × Nat)) : Prop where
  n1 : 1 ≤ n
  n5 : n ≤ 5
  sb : es.Sublist (edges n)
theorem edges_len : ∀ n : Nat, n ≤ 8 → (edges n).length ≤ 100
  | 0, _ | 1, _ | 2, _ | 3, _ | 4, _ | 5, _ | 6, _ | 7, _ | 8, _ => by decide
  | n + 9, h => absurd h (by omega)
theorem edges_lt2 : ∀ n : Nat, n ≤ 8 → (edges n).Pairwise lt2
  | 0, _ | 1, _ | 2, _ | 3, _ | 4, _ | 5, _ | 6, _ | 7, _ | 8, _ => by decide
  | n + 9, h => absurd h (by omega)
theorem edges_ri : ∀ n : Nat, n ≤ 8 → ∀ e ∈ edges n, e.1 < e.2 ∧ e.2 < n
  | 0, _ | 1, _ | 2, _ | 3, _ | 4, _ | 5, _ | 6, _ | 7, _ | 8, _ => by decide
  | n + 9, h => absurd h (by omega)
theorem asB_of {es : List (Nat × Nat)} (h : es.Pairwise lt2) : asB es = true := by
  unfold asB
  rw [List.all_eq_true]
  intro i hi
  have hi : i + 1 < es.length := by simp at hi; omega
  have := List.pairwise_iff_getElem.mp h i (i + 1) (by omega) hi (by omega)
  have h0 : i < es.length := by omega
  simpa [eg, hi, h0] using this
theorem gp_sub {n : Nat} {es : List (Nat × Nat)} (hn : n ≤ 8) (h : es.Sublist (edges n)) : GP (.tup (es.map pr)) n es :=
  ⟨rfl, Nat.le_trans h.length_le (Nat.le_trans (edges_len n hn) (by omega)), fun e he => by have := edges_ri n hn e (h.subset he); omega, asB_of ((edges_lt2 n hn).sublist h)⟩
theorem Cal.gp {n es} (h : Cal n es) : GP (.tup (es.map pr)) n es := gp_sub (by have := h.n5; omega) h.sb
theorem Cal.len {n es} (h : Cal n es) : es.length ≤ 100 := Nat.le_trans h.sb.length_le (edges_len _ (by have := h.n5; omega))
theorem nc_prs {es : List (Nat × Nat)} (m : Nat) (h : es.length ≤ 200) : Nc (m + 2) (.tup (es.map pr)) := Nc.tup (fun x hx => by
  obtain ⟨e, _, rfl⟩ := List.mem_map.mp hx
  exact pr_nc m e) (by simpa using h)
def kD (n : Nat) (es : List (Nat × Nat)) : D := .tup [.int n, .tup (es.map pr)]
/-- pairs drawn from the box -/
theorem draw_es (kf : Nat) {S T : Sto} (hT : IsBo S T) (n : Nat) (g : D → Sto → Res (Option D)) (hg : ∀ d T, IsBo S T → ∃ T', IsBo S T' ∧ (g d T = .ok (some d) T' ∨ g d T = .ok none T')) (ck : Sto → Bool) (hk : ∀ T, ck T = true) :
    ∃ (T' : Sto) (es : List (Nat × Nat)), IsBo S T' ∧ es.Sublist (edges n) ∧ mapR g ck ((edges n).map pr) T = .ok (es.map pr) T' := by
  obtain ⟨os, T', m1, m2, m3, m4⟩ := mapR_take (g := g) (ck := ck) (IsBo S) (fun d y => y = some d ∨ y = none) ((edges n).map pr) T (fun d hd T hT => by
    obtain ⟨T', h1, h2⟩ := hg d T hT
    rcases h2 with h2 | h2
    · exact ⟨_, T', h2, hk _, h1, .inl rfl⟩
    · exact ⟨_, T', h2, hk _, h1, .inr rfl⟩) hT
  obtain ⟨es, l1, l2⟩ := subl_take _ os m3 m4
  exact ⟨T', es, m2, l2, by rw [← l1]; exact m1⟩
theorem c16' (k : Nat) (ns : List Int) (S : Sto) (hl : ns.length ≤ 63) : ∃ n es, Cal n es ∧ callF P (k + 3) 23 [.lst (ns.map D.int)] S = .ok (kD n es) S := by
  obtain ⟨T1, h1, e1⟩ := e14 (k + 1) ns 0 S hl (by omega)
  obtain ⟨w, hw, T2, h2, e2⟩ := e16 k [1, 2, 3, 4, 4, 5, 5, 5] h1 (by simp) (by simp)
  have hw' : 1 ≤ w ∧ w ≤ 5 := by simp at hw; omega
  obtain ⟨n, rfl⟩ : ∃ n : Nat, w = n := ⟨w.toNat, by omega⟩
  obtain ⟨mo, hmo, T3, h3, e3⟩ := e16 k [1, 2, 4, 9] h2 (by simp) (by simp)
  have hmo' : 1 ≤ mo ∧ mo ≤ 9 := by simp at hmo; omega
  have e18 := c18 (k + 1) n T3 (by omega)
  obtain ⟨T4, es, h4, hs, e4⟩ := draw_es k h3 n (lcStep (.var 4) [4] [some (.lst (ns.map D.int)), some (.ref S.length), some (.int n), some (.int mo), none] (evc P (callF P (k + 2)) y23_1) (ev P (callF P (k + 2)) x23_0)) (fun d T hT => by
    obtain ⟨t, T', q1, q2, q3, q4⟩ := e15 (k + 1) (mo + 1) hT (by omega) (by omega)
    refine ⟨T', q3, ?_⟩
    by_cases ht : 0 < t
    · left
      simp -implicitDefEqProofs [lcStep, asT, wipe, y23_1, x23_0, evc, ev, evs, q4, gtI, ht, truR, truth]
    · right
      simp -implicitDefEqProofs [lcStep, asT, wipe, y23_1, x23_0, evc, ev, evs, q4, gtI, ht, truR, truth]) (fun _ => true) (fun _ => rfl)
  have hlen : es.length ≤ LINE := LT (Nat.le_trans hs.length_le (Nat.le_trans (edges_len n (by omega)) (by omega)))
  refine ⟨n, es, ⟨by omega, by omega, hs⟩, ?_⟩
  rw [callF_eq (F := f23) rfl rfl]
  simp only [List.map_cons, List.map_nil] at e2 e3
  simp -implicitDefEqProofs [f23, b23, exs, ex1, ev, evs, e1, newL, ln8, ln4, e2, e3, walk_sq, e18, seqOf, still_lst, lockO, Tg.own, e4, nox_ok, hlen, bltD, one, tupleD, newT, ln2, fin, kD]
  refine h4.trunc ?_
  have : (D.tup (es.map pr)).data = true := (nc_prs 0 (Nat.le_trans hs.length_le (Nat.le_trans (edges_len n (by omega)) (by omega)))).1
  simp [D.bel, D.bels]
  simpa [D.bel] using data_bel S.length _ this
theorem c17' (k : Nat) {n es} (h : Cal n es) (S : Sto) : callF P (k + 6) 27 [kD n es] S = .ok (cD n (.tup (es.map pr))) S := by
  rw [callF_eq (F := f27) rfl rfl]
  have e := new7 k (n := (n : Int)) (by have := h.n1; omega) (by have := h.n5; omega) h.gp S
  have g0 : ∀ S, getI S (kD n es) (.int 0) = .ok (.int n) S := fun S => by simp [kD, getI]
  have g1 : ∀ S, getI S (kD n es) (.int 1) = .ok (.tup (es.map pr)) S := fun S => by simp [kD, getI]
  simp -implicitDefEqProofs [f27, b27, exs, ex1, ev, evs, g0, g1, e, fin]
end Ck10
end
section
set_option linter.all false
set_option maxRecDepth 100000
/-! running the evaluator, step by step -/
namespace Mi
/-- r ends well, with what is of Q -/
@[irreducible] def Run {α : Type} (r : Res α) (Q : α → Sto → Prop) : Prop := match r with
  | .ok a S => Q a S
  | _ => False
section
variable {α β : Type} {r r' : Res α} {k : α → Sto → Res β} {Q Q' : α → Sto → Prop} {S : Sto}
theorem run_ok (a : α) : Run (.ok a S) Q = Q a S := by unfold Run; try rfl
theorem run_exc {c : Nat} {v : D} : Run (.exc c v S) Q = False := by unfold Run; try rfl
theorem run_stuck : Run .stuck Q = False := by unfold Run; try rfl
theorem run_bind {R : β → Sto → Prop} : Run (r.bind k) R = Run r fun a S => Run (k a S) R := by
  cases r with
  | ok a S => rw [run_ok]; try rfl
  | exc c v S => rw [run_exc]; show Run (.exc c v S) R = _; rw [run_exc]
  | stuck => rw [run_stuck]; show Run .stuck R = _; rw [run_stuck]
theorem run_cg (h : r = r') (q : Run r' Q) : Run r Q := by rw [h]; exact q
theorem run_id (q : Run r Q) : Run r Q := q
theorem run_q (h : ∀ a S, Q a S = Q' a S) : Run r Q = Run r Q' := by
  cases r with
  | ok a S => rw [run_ok, run_ok]; exact h _ _
  | exc c v S => rw [run_exc, run_exc]
  | stuck => rw [run_stuck, run_stuck]
theorem Run.imp (h : Run r Q) (k : ∀ a S, Q a S → Q' a S) : Run r Q' := by
  cases r with
  | ok a S => rw [run_ok] at h ⊢; exact k a S h
  | exc c v S => rw [run_exc] at h; exact h.elim
  | stuck => rw [run_stuck] at h; exact h.elim
theorem Run.get (h : Run r Q) : ∃ a S, r = .ok a S ∧ Q a S := by
  cases r with
  | ok a S => rw [run_ok] at h; exact ⟨a, S, rfl, h⟩
  | exc c v S => rw [run_exc] at h; exact h.elim
  | stuck => rw [run_stuck] at h; exact h.elim
theorem run_nox : Run r.nox Q = Run r Q := by
  cases r with
  | exc c v S => rw [run_exc]; exact run_stuck
  | _ => rfl
theorem run_lift (a : α) : Run (lift (some a) S) Q = Q a S := run_ok a
/-- one result -/
theorem run_is {a : α} : Run r (fun b T => b = a ∧ T = S) ↔ r = .ok a S := by
  cases r with
  | ok a S => rw [run_ok]; simp
  | exc c v S => rw [run_exc]; simp
  | stuck => rw [run_stuck]; simp
end
section
variable (P : Pg) (call : Nat → List D → Sto → Res D)
/-- a loop: J of the items that are left -/
theorem run_forR {g : D → Env → Sto → Res Out} {ck : Sto → Bool} {Q : Out → Sto → Prop} (J : List D → Env → Sto → Prop) (step : ∀ d r e S, J (d :: r) e S → Run (g d e S) fun o S' => ∃ e', o = .nx e' ∧ ck S' = true ∧ J r e' S') (fin : ∀ e S, J [] e S → Q (.nx e) S) : ∀ (xs : List D) (e : Env) (S : Sto), J xs e S → Run (forR g ck xs e S) Q
  | [], e, S, h => by show Run (.ok _ _) _; rw [run_ok]; exact fin e S h
  | d :: r, e, S, h => by
    obtain ⟨o, S', h1, e', rfl, h2, h3⟩ := (step d r e S h).get
    simp only [forR, h1, res_ok, h2, if_true]
    exact run_forR J step fin r e' S' h3
/-- a loop: every item is of G, J is kept -/
theorem run_forA {g : D → Env → Sto → Res Out} {ck : Sto → Bool} {Q : Out → Sto → Prop} (G : D → Prop) (J : Env → Sto → Prop) {xs : List D} {e : Env} {S : Sto} (hx : ∀ d ∈ xs, G d) (hj : J e S) (step : ∀ d e S, G d → J e S → Run (g d e S) fun o S' => ∃ e', o = .nx e' ∧ ck S' = true ∧ J e' S') (fin : ∀ e S, J e S → Q (.nx e) S) : Run (forR g ck xs e S) Q := by
  refine run_forR (fun xs e S => (∀ d ∈ xs, G d) ∧ J e S) (fun d r e S h => ?_) (fun e S h => fin e S h.2) xs e S ⟨hx, hj⟩
  refine (step d e S (h.1 d List.mem_cons_self) h.2).imp fun o S' ⟨e', a, b, c⟩ => ⟨e', a, b, fun d hd => h.1 d (List.mem_cons_of_mem _ hd), c⟩
/-- a loop that may return -/
theorem run_forE {g : D → Env → Sto → Res Out} {ck : Sto → Bool} {Q : Out → Sto → Prop} (J : List D → Env → Sto → Prop) (step : ∀ d r e S, J (d :: r) e S → Run (g d e S) fun o S' => (∃ e', o = .nx e' ∧ ck S' = true ∧ J r e' S') ∨ ∃ v, o = .rt v ∧ Q (.rt v) S') (fin : ∀ e S, J [] e S → Q (.nx e) S) : ∀ (xs : List D) (e : Env) (S : Sto), J xs e S → Run (forR g ck xs e S) Q
  | [], e, S, h => by show Run (.ok _ _) _; rw [run_ok]; exact fin e S h
  | d :: r, e, S, h => by
    obtain ⟨o, S', h1, h2⟩ := (step d r e S h).get
    rcases h2 with ⟨e', rfl, h2, h3⟩ | ⟨v, rfl, h2⟩
    · simp only [forR, h1, res_ok, h2, if_true]
      exact run_forE J step fin r e' S' h3
    · simp only [forR, h1, res_ok]
      rw [run_ok]; exact h2
/-- a comprehension that keeps the store -/
theorem ev_comp {x : Ex} {t : Tg} {it : It} {cs : Exs} {e : Env} {S : Sto} {ck : Sto → Bool} {xs : List D} (hw : walk P call it e S = .ok ⟨ck, xs, none⟩ S) (hk : ck S = true) (f : D → Option D) (h : ∀ d ∈ xs, lcStep t t.own e (evc P call cs) (ev P call x) d S = .ok (f d) S) (hl : (xs.filterMap f).length ≤ LINE) : ev P call (.comp false x t it cs) e S = .ok (.lst (xs.filterMap f)) S := by
  simp only [ev, hw, res_ok, lockO]
  rw [mapR_id f hk xs h]
  simp only [nox_ok, res_ok, newL, hl, if_true, Bool.false_eq_true, if_false]
/-- .. of items that are told by a -/
theorem ev_compM {α : Type} {x : Ex} {t : Tg} {it : It} {cs : Exs} {e : Env} {S : Sto} {ck : Sto → Bool} {xs : List α} (a : α → D) (hw : walk P call it e S = .ok ⟨ck, xs.map a, none⟩ S) (hk : ck S = true) (f : α → Option D) (h : ∀ d ∈ xs, lcStep t t.own e (evc P call cs) (ev P call x) (a d) S = .ok (f d) S) (hl : (xs.filterMap f).length ≤ LINE) : ev P call (.comp false x t it cs) e S = .ok (.lst (xs.filterMap f)) S := by
  simp only [ev, hw, res_ok, lockO]
  rw [mapR_map a f hk xs h]
  simp only [nox_ok, res_ok, newL, hl, if_true, Bool.false_eq_true, if_false]
/-- .. all of them -/
theorem ev_compG {α : Type} {x : Ex} {t : Tg} {it : It} {cs : Exs} {e : Env} {S : Sto} {ck : Sto → Bool} {xs : List α} (a g : α → D) (hw : walk P call it e S = .ok ⟨ck, xs.map a, none⟩ S) (hk : ck S = true) (h : ∀ d ∈ xs, lcStep t t.own e (evc P call cs) (ev P call x) (a d) S = .ok (some (g d)) S) (hl : xs.length ≤ 4000) : ev P call (.comp false x t it cs) e S = .ok (.lst (xs.map g)) S := by
  have := ev_compM P call a hw hk (fun x => some (g x)) h (by unfold LINE; simp; omega)
  simpa using this
end
section
variable (P : Pg) (call : Nat → List D → Sto → Res D)
/-! one lemma for each form, but for comprehensions -/
theorem ev_frz (a : Ex) (e : Env) (S : Sto) : ev P call (.frz a) e S = (ev P call a e S).bind fun x S1 => frzD S1 x := by simp only [ev]
end
section
variable {P : Pg} {call : Nat → List D → Sto → Res D} {e : Env} {S : Sto} {Q : D → Sto → Prop} {QL : List D → Sto → Prop} {QO : Out → Sto → Prop} {QB : Bool → Sto → Prop} {QI : Option Int → Sto → Prop} {QW : Wk → Sto → Prop} {QU : Unit → Sto → Prop}
/-! what is to be run first -/
theorem rn_cst (d : D) : Run (ev P call (.cst d) e S) Q = Q d S := run_ok d
theorem rn_var (i : Nat) : Run (ev P call (.var i) e S) Q = Run (match e[i]? with
    | some (some d) => .ok d S
    | _ => .stuck) Q := by rw [ev.eq_1]; try rfl
theorem rn_glob (g : Nat) : Run (ev P call (.glob g) e S) Q = Run (lift (P.glob g) S) Q := by rw [ev.eq_3]
theorem rn_bin (o : BOp) (m : Bool) (a b : Ex) : Run (ev P call (.bin o m a b) e S) Q = Run (ev P call a e S) fun x S1 => Run (ev P call b e S1) fun y S2 => Run (binD o m S2 x y) Q := by rw [ev.eq_4, run_bind]; repeat (first | rfl | exact run_ok _ | rw [run_bind] | refine run_q fun _ _ => ?_)
theorem rn_neg (a : Ex) : Run (ev P call (.neg a) e S) Q = Run (ev P call a e S) fun x S1 => Run (match x with
    | .int i => .ok (.int (-i)) S1
    | _ => .stuck) Q := by rw [ev.eq_5, run_bind]; try rfl
theorem rn_cmp (o : COp) (a b : Ex) : Run (ev P call (.cmp o a b) e S) Q = Run (ev P call a e S) fun x S1 => Run (ev P call b e S1) fun y S2 => Run (cmpD P call o S2 x y) Q := by rw [ev.eq_6, run_bind]; repeat (first | rfl | exact run_ok _ | rw [run_bind] | refine run_q fun _ _ => ?_)
theorem rn_chn (o o' : COp) (a b c : Ex) : Run (ev P call (.chn o o' a b c) e S) Q = Run (ev P call a e S) fun x S1 => Run (ev P call b e S1) fun y S2 => Run (cmpD P call o S2 x y) fun k S3 => Run (match k with
    | .bl true => (ev P call c e S3).bind fun z S4 => cmpD P call o' S4 y z
    | .bl false => .ok (.bl false) S3
    | _ => .stuck) Q := by rw [ev.eq_7, run_bind]; repeat (first | rfl | exact run_ok _ | rw [run_bind] | refine run_q fun _ _ => ?_)
theorem rn_and (a b : Ex) : Run (ev P call (.andE a b) e S) Q = Run (ev P call a e S) fun x S1 => Run (lift (truth S1 x) S1) fun k S2 => Run (if k then ev P call b e S1 else .ok x S1) Q := by
  rw [ev.eq_8, run_bind]
  congr 1
  funext x S1
  cases truth S1 x with
  | none =>
    have e1 : (Run (lift (none : Option Bool) S1) fun k S2 => Run (if k then ev P call b e S1 else .ok x S1) Q) = False := run_stuck
    have e2 : (Run (lift (none : Option Bool) S1) fun k S2 => Run (if k then .ok x S1 else ev P call b e S1) Q) = False := run_stuck
    first | exact Eq.trans run_stuck e1.symm | exact Eq.trans run_stuck e2.symm
  | some b => cases b <;> (rw [run_lift]; rfl)
theorem rn_or (a b : Ex) : Run (ev P call (.orE a b) e S) Q = Run (ev P call a e S) fun x S1 => Run (lift (truth S1 x) S1) fun k S2 => Run (if k then .ok x S1 else ev P call b e S1) Q := by
  rw [ev.eq_9, run_bind]
  congr 1
  funext x S1
  cases truth S1 x with
  | none =>
    have e1 : (Run (lift (none : Option Bool) S1) fun k S2 => Run (if k then ev P call b e S1 else .ok x S1) Q) = False := run_stuck
    have e2 : (Run (lift (none : Option Bool) S1) fun k S2 => Run (if k then .ok x S1 else ev P call b e S1) Q) = False := run_stuck
    first | exact Eq.trans run_stuck e1.symm | exact Eq.trans run_stuck e2.symm
  | some b => cases b <;> (rw [run_lift]; rfl)
theorem rn_not (a : Ex) : Run (ev P call (.notE a) e S) Q = Run (ev P call a e S) fun x S1 => Run (lift (truth S1 x) S1) fun k S2 => Q (.bl (!k)) S2 := by rw [ev.eq_10, run_bind]; unfold truR; rw [run_bind]; repeat (first | rfl | exact run_ok _ | rw [run_bind] | refine run_q fun _ _ => ?_)
theorem rn_ite (c a b : Ex) : Run (ev P call (.ite c a b) e S) Q = Run (ev P call c e S) fun x S1 => Run (lift (truth S1 x) S1) fun k S2 => Run (if k then ev P call a e S2 else ev P call b e S2) Q := by rw [ev.eq_11, run_bind]; unfold truR; rw [run_bind]
theorem rn_tup (es : Exs) : Run (ev P call (.tup es) e S) Q = Run (evs P call es e S) fun xs S1 => Run (newT xs S1) Q := by rw [ev.eq_12, run_bind]
theorem rn_lst (m : Bool) (es : Exs) : Run (ev P call (.lst m es) e S) Q = Run (evs P call es e S) fun xs S1 => Run (newL m xs S1) Q := by rw [ev.eq_13, run_bind]
theorem rn_idx (a i : Ex) : Run (ev P call (.idx a i) e S) Q = Run (ev P call a e S) fun x S1 => Run (ev P call i e S1) fun y S2 => Run (getI S2 x y) Q := by rw [ev.eq_14, run_bind]; repeat (first | rfl | exact run_ok _ | rw [run_bind] | refine run_q fun _ _ => ?_)
theorem rn_sl (a : Ex) (lo hi : Ox) : Run (ev P call (.sl a lo hi) e S) Q = Run (ev P call a e S) fun x S1 => Run (evo P call lo e S1) fun l S2 => Run (evo P call hi e S2) fun h S3 => Run (cutD S3 x l h) Q := by rw [ev.eq_15, run_bind]; repeat (first | rfl | exact run_ok _ | rw [run_bind] | refine run_q fun _ _ => ?_)
theorem rn_rev (a : Ex) : Run (ev P call (.rev a) e S) Q = Run (ev P call a e S) fun x S1 => Run (revD S1 x) Q := by rw [ev.eq_16, run_bind]
theorem rn_att (a : Ex) (f : Nat) : Run (ev P call (.att a f) e S) Q = Run (ev P call a e S) fun x S1 => Run (lift (getA S1 x f) S1) Q := by rw [ev.eq_17, run_bind]
theorem rn_call (f : Nat) (es : Exs) : Run (ev P call (.call f es) e S) Q = Run (evs P call es e S) fun xs S1 => Run (call f xs S1) Q := by rw [ev.eq_18, run_bind]
theorem rn_meth (a : Ex) (m : Nat) (es : Exs) : Run (ev P call (.meth a m es) e S) Q = Run (ev P call a e S) fun x S1 => Run (match (clsOf S1 x).bind P.cls with
    | some C => match C.meths.lookup m with
      | some f => (evs P call es e S1).bind fun xs S2 => call f (x :: xs) S2
      | none => .stuck
    | none => .stuck) Q := by rw [ev.eq_20, run_bind]; try rfl
theorem rn_new (c : Nat) (fz : Bool) (es : Exs) : Run (ev P call (.new c fz es) e S) Q = Run (evs P call es e S) fun xs S1 => Run (newC P call c fz xs S1) Q := by rw [ev.eq_21, run_bind]
theorem rn_blt (b : Blt) (m : Bool) (es : Exs) : Run (ev P call (.blt b m es) e S) Q = Run (evs P call es e S) fun xs S1 => Run (bltD b m S1 xs) Q := by rw [ev.eq_22, run_bind]
theorem rn_isi (a : Ex) (t : Ty) : Run (ev P call (.isi a t) e S) Q = Run (ev P call a e S) fun x S1 => Run (lift ((isOf (res S1 x) t).map .bl) S1) Q := by rw [ev.eq_23, run_bind]
theorem rn_bm (m : BM) (a : Ex) (es : Exs) : Run (ev P call (.bm m a es) e S) Q = Run (ev P call a e S) fun x S1 => Run (if bmPre m S1 x then (evs P call es e S1).bind fun xs S2 => bmD m S2 x xs else .stuck) Q := by rw [ev.eq_24, run_bind]
theorem rn_frz (a : Ex) : Run (ev P call (.frz a) e S) Q = Run (ev P call a e S) fun x S1 => Run (frzD S1 x) Q := by rw [ev_frz, run_bind]
theorem rn_nil : Run (evs P call .nil e S) QL = QL [] S := run_ok _
theorem rn_cons (x : Ex) (xs : Exs) : Run (evs P call (.cons x xs) e S) QL = Run (ev P call x e S) fun d S1 => Run (evs P call xs e S1) fun ds S2 => QL (d :: ds) S2 := by
  rw [show evs P call (.cons x xs) e S = (ev P call x e S).bind fun d S1 => (evs P call xs e S1).bind fun ds S2 => .ok (d :: ds) S2 by simp only [evs], run_bind]
  repeat (first | rfl | exact run_ok _ | rw [run_bind] | refine run_q fun _ _ => ?_)
theorem rn_nul : Run (evo P call .nul e S) QI = QI none S := run_ok _
theorem rn_one (x : Ex) : Run (evo P call (.one x) e S) QI = Run (ev P call x e S) fun d S1 => Run (match d with
    | .int i => .ok (some i) S1
    | _ => .stuck) QI := by simp only [evo, run_bind]; repeat (first | rfl | exact run_ok _ | rw [run_bind] | refine run_q fun _ _ => ?_)
theorem rn_seq (a : Ex) : Run (walk P call (.seq a) e S) QW = Run (ev P call a e S) fun x S1 => Run (lift ((seqOf S1 x).map fun xs => ⟨still S1 x, xs, none⟩) S1) QW := by simp only [walk, run_bind]; repeat (first | rfl | exact run_ok _ | rw [run_bind] | refine run_q fun _ _ => ?_)
theorem rn_rng1 (a : Ex) : Run (walk P call (.rng1 a) e S) QW = Run (ev P call a e S) fun x S1 => Run (rngW1 x S1) QW := by rw [walk_rng1, run_bind]
theorem rn_rng2 (a b : Ex) : Run (walk P call (.rng2 a b) e S) QW = Run (ev P call a e S) fun x S1 => Run (ev P call b e S1) fun y S2 => Run (rngW2 x y S2) QW := by rw [walk_rng2, run_bind]; repeat (first | rfl | exact run_ok _ | rw [run_bind] | refine run_q fun _ _ => ?_)
theorem rn_dic (a : Ex) : Run (walk P call (.dic a) e S) QW = Run (ev P call a e S) fun x S1 => Run (dicW x S1) QW := by simp only [walk, run_bind]; repeat (first | rfl | exact run_ok _ | rw [run_bind] | refine run_q fun _ _ => ?_)
/-! statements -/
theorem rn_end : Run (exs P call .nil e S) QO = QO (.nx e) S := run_ok _
theorem rn_st (s : St) (ss : Sts) : Run (exs P call (.cons s ss) e S) QO = Run (ex1 P call s e S) fun o S1 => Run (match o with
    | .nx e1 => exs P call ss e1 S1
    | .rt d => .ok (.rt d) S1) QO := by simp only [exs, run_bind]; try rfl
theorem rn_ex (x : Ex) : Run (ex1 P call (.ex x) e S) QO = Run (ev P call x e S) fun _ S1 => QO (.nx e) S1 := by simp only [ex1, run_bind]; repeat (first | rfl | exact run_ok _ | rw [run_bind] | refine run_q fun _ _ => ?_)
theorem rn_set (i : Nat) (x : Ex) : Run (ex1 P call (.set i x) e S) QO = Run (ev P call x e S) fun d S1 => Run (if i < e.length then .ok (.nx (e.set i (some d))) S1 else .stuck) QO := by simp only [ex1, run_bind]; repeat (first | rfl | exact run_ok _ | rw [run_bind] | refine run_q fun _ _ => ?_)
theorem rn_sett (t : Tg) (x : Ex) : Run (ex1 P call (.sett t x) e S) QO = Run (ev P call x e S) fun d S1 => Run (lift ((asT t d e).map .nx) S1) QO := by simp only [ex1, run_bind]; repeat (first | rfl | exact run_ok _ | rw [run_bind] | refine run_q fun _ _ => ?_)
theorem rn_par (is : List Nat) (xs : Exs) : Run (ex1 P call (.par is xs) e S) QO = Run (evs P call xs e S) fun ds S1 => Run (if ds.length = is.length ∧ is.all (· < e.length) then .ok (.nx ((is.zip ds).foldl (fun e p => e.set p.1 (some p.2)) e)) S1 else .stuck) QO := by simp only [ex1, run_bind]; repeat (first | rfl | exact run_ok _ | rw [run_bind] | refine run_q fun _ _ => ?_)
theorem rn_satt (a : Ex) (f : Nat) (x : Ex) : Run (ex1 P call (.satt a f x) e S) QO = Run (ev P call x e S) fun d S1 => Run (ev P call a e S1) fun o S2 => Run (setA P S2 o f d) fun _ S3 => QO (.nx e) S3 := by simp only [ex1, run_bind]; repeat (first | rfl | exact run_ok _ | rw [run_bind] | refine run_q fun _ _ => ?_)
theorem rn_sidx (a i x : Ex) : Run (ex1 P call (.sidx a i x) e S) QO = Run (ev P call x e S) fun d S1 => Run (ev P call a e S1) fun o S2 => Run (ev P call i e S2) fun j S3 => Run (setI S3 o j d) fun _ S4 => QO (.nx e) S4 := by simp only [ex1, run_bind]; repeat (first | rfl | exact run_ok _ | rw [run_bind] | refine run_q fun _ _ => ?_)
theorem rn_sidx2 (a i b j x : Ex) : Run (ex1 P call (.sidx2 a i b j x) e S) QO = Run (ev P call x e S) fun d S1 => Run (set2R d fun u v => (ev P call a e S1).bind fun o S2 => (ev P call i e S2).bind fun k S3 => (setI S3 o k u).bind fun _ S4 => (ev P call b e S4).bind fun o' S5 => (ev P call j e S5).bind fun l S6 => (setI S6 o' l v).bind fun _ S7 => .ok (.nx e) S7) QO := by simp only [ex1, run_bind]; try rfl
theorem rn_aug (i : Nat) (o : BOp) (x : Ex) : Run (ex1 P call (.aug i o x) e S) QO = Run (match e[i]? with
    | some (some u) => (ev P call x e S).bind fun d S1 => match u, d with
      | .int _, .int _ => (binD o false S1 u d).bind fun r S2 => .ok (.nx (e.set i (some r))) S2
      | _, _ => .stuck
    | _ => .stuck) QO := by simp only [ex1]; try rfl
theorem rn_augi (a i : Ex) (o : BOp) (x : Ex) : Run (ex1 P call (.augi a i o x) e S) QO = Run (ev P call a e S) fun p S1 => Run (ev P call i e S1) fun j S2 => Run (getI S2 p j) fun u S3 => Run (ev P call x e S3) fun d S4 => Run (match u, d with
    | .int _, .int _ => (binD o false S4 u d).bind fun r S5 => (setI S5 p j r).bind fun _ S6 => .ok (.nx e) S6
    | _, _ => .stuck) QO := by simp only [ex1, run_bind]; repeat (first | rfl | exact run_ok _ | rw [run_bind] | refine run_q fun _ _ => ?_)
theorem rn_cond (c : Ex) (a b : Sts) : Run (ex1 P call (.cond c a b) e S) QO = Run (ev P call c e S) fun x S1 => Run (lift (truth S1 x) S1) fun k S2 => Run (if k then exs P call a e S2 else exs P call b e S2) QO := by simp only [ex1, truR, run_bind]; repeat (first | rfl | exact run_ok _ | rw [run_bind] | refine run_q fun _ _ => ?_)
theorem rn_fo (t : Tg) (it : It) (b : Sts) : Run (ex1 P call (.fo t it b) e S) QO = Run (walk P call it e S) fun w S1 => Run (if w.lk.isSome then .stuck else forR (foStep t (exs P call b)) w.ck w.xs e S1) QO := by simp only [ex1, run_bind]; repeat (first | rfl | exact run_ok _ | rw [run_bind] | refine run_q fun _ _ => ?_)
theorem rn_whil (c : Ex) (b : Sts) : Run (ex1 P call (.whil c b) e S) QO = Run (whileR (fun e S => truR (ev P call c e S)) (exs P call b) TURNS e S) QO := by simp only [ex1]
theorem rn_ret (x : Ex) : Run (ex1 P call (.ret x) e S) QO = Run (ev P call x e S) fun d S1 => QO (.rt d) S1 := by simp only [ex1, run_bind]; repeat (first | rfl | exact run_ok _ | rw [run_bind] | refine run_q fun _ _ => ?_)
theorem rn_retn : Run (ex1 P call .retn e S) QO = QO (.rt .non) S := run_ok _
theorem rn_pas : Run (ex1 P call .pas e S) QO = QO (.nx e) S := run_ok _
theorem rn_tri (b : Sts) (hs : List Hd) : Run (ex1 P call (.tri b hs) e S) QO = Run (triR P hs (exs P call b e S)) QO := by simp only [ex1]
theorem rn_fin (r : Res Out) : Run (fin S r) Q = Run r fun o S' => match o with
    | .nx _ => Q .non (trunc S .non S')
    | .rt d => Q d (trunc S d S') := by
  cases r with
  | ok o S' => cases o <;> (rw [run_ok]; exact run_ok _)
  | exc c v S' => rw [run_exc]; exact run_exc
  | stuck => rw [run_stuck]; exact run_stuck
theorem rn_evc0 : Run (evc P call .nil e S) QB = QB true S := run_ok _
theorem rn_evc1 (x : Ex) : Run (evc P call (.cons x .nil) e S) QB = Run (ev P call x e S) fun d S1 => Run (lift (truth S1 d) S1) QB := by simp only [evc, truR, run_bind]; repeat (first | rfl | exact run_ok _ | rw [run_bind] | refine run_q fun _ _ => ?_)
theorem tr_bl (b : Bool) : truth S (.bl b) = some b := rfl
theorem tr_int (i : Int) : truth S (.int i) = some (i != 0) := rfl
theorem tr_non : truth S .non = some false := rfl
theorem tr_tup (xs : List D) : truth S (.tup xs) = some (!xs.isEmpty) := rfl
theorem tr_lst (xs : List D) : truth S (.lst xs) = some (!xs.isEmpty) := rfl
theorem rs_tup (xs : List D) : res S (.tup xs) = .tup xs := rfl
theorem rs_lst (xs : List D) : res S (.lst xs) = .lst xs := rfl
theorem rs_int (i : Int) : res S (.int i) = .int i := rfl
theorem rs_bl (i : Bool) : res S (.bl i) = .bl i := rfl
theorem rs_str (s : List Nat) : res S (.str s) = .str s := rfl
theorem rs_non : res S .non = .non := rfl
theorem rs_ins (c : Nat) (ks : List Nat) (ds : List D) : res S (.ins c ks ds) = .ins c ks ds := rfl
theorem sq_tup (xs : List D) : seqOf S (.tup xs) = some xs := rfl
theorem sq_lst (xs : List D) : seqOf S (.lst xs) = some xs := rfl
theorem gi_tup (xs : List D) (j : Int) : getI S (.tup xs) (.int j) = lift (atI xs j) S := rfl
theorem gi_lst (xs : List D) (j : Int) : getI S (.lst xs) (.int j) = lift (atI xs j) S := rfl
theorem ln_tup (xs : List D) : lenD S (.tup xs) = .ok (.int xs.length) S := rfl
theorem ln_lst (xs : List D) : lenD S (.lst xs) = .ok (.int xs.length) S := rfl
theorem b_len (m : Bool) (a : D) : bltD .len m S [a] = lenD S a := rfl
theorem b_sum (m : Bool) (a : D) : bltD .sum m S [a] = sumD S a := rfl
theorem b_tuple (m : Bool) (a : D) : bltD .tuple m S [a] = tupleD S a := rfl
theorem b_list (m : Bool) (a : D) : bltD .list m S [a] = listD m S a := rfl
theorem b_all (m : Bool) (a : D) : bltD .all m S [a] = allD S a := rfl
theorem b_any (m : Bool) (a : D) : bltD .any m S [a] = anyD S a := rfl
theorem b_int (m : Bool) (a : D) : bltD .int m S [a] = intD S a := rfl
theorem b_max (m : Bool) (a : D) : bltD .max m S [a] = maxB S a := rfl
theorem b_min (m : Bool) (a : D) : bltD .min m S [a] = minB S a := rfl
theorem b_sorted (m : Bool) (a : D) : bltD .sorted m S [a] = sortB S a := rfl
theorem b_min2 (m : Bool) (a b : D) : bltD .min2 m S [a, b] = min2D S a b := rfl
theorem b_max2 (m : Bool) (a b : D) : bltD .max2 m S [a, b] = max2D S a b := rfl
theorem tp_tup (xs : List D) : tupleD S (.tup xs) = .ok (.tup xs) S := rfl
theorem tp_lst (xs : List D) : tupleD S (.lst xs) = .ok (.tup xs) S := rfl
theorem nt_0 : newT [] S = .ok (.tup []) S := rfl
theorem nt_1 (a : D) : newT [a] S = .ok (.tup [a]) S := by simp [newT, ln1]
theorem nt_2 (a b : D) : newT [a, b] S = .ok (.tup [a, b]) S := by simp [newT, ln2]
theorem nt_3 (a b c : D) : newT [a, b, c] S = .ok (.tup [a, b, c]) S := by simp [newT, ln3]
theorem nt_4 (a b c d : D) : newT [a, b, c, d] S = .ok (.tup [a, b, c, d]) S := by simp [newT, ln4]
theorem nl_f (xs : List D) (h : xs.length ≤ 1000) : newL false xs S = .ok (.lst xs) S := by simp [newL, LT h]
theorem nl_t (xs : List D) (h : xs.length ≤ 1000) : newL true xs S = .ok (.ref S.length) (S ++ [.lst xs]) := by simp [newL, LT h]
end
section
variable {P : Pg} {call : Nat → List D → Sto → Res D} {e : Env} {S : Sto} {Q : D → Sto → Prop} {QL : List D → Sto → Prop} {QO : Out → Sto → Prop} {QB : Bool → Sto → Prop} {QI : Option Int → Sto → Prop} {QW : Wk → Sto → Prop}
/-- no step -/
inductive NoStep : Prop
/-- what is to be run first, and then -/
def wpE (P : Pg) (call : Nat → List D → Sto → Res D) (e : Env) (S : Sto) (Q : D → Sto → Prop) : Ex → Prop
  | .cst d => Run (.ok d S) Q
  | .var i => Run (match e[i]? with
    | some (some d) => .ok d S
    | _ => .stuck) Q
  | .glob g => Run (lift (P.glob g) S) Q
  | .bin o m a b => Run (ev P call a e S) fun x S1 => Run (ev P call b e S1) fun y S2 => Run (binD o m S2 x y) Q
  | .neg a => Run (ev P call a e S) fun x S1 => Run (match x with
    | .int i => .ok (.int (-i)) S1
    | _ => .stuck) Q
  | .cmp o a b => Run (ev P call a e S) fun x S1 => Run (ev P call b e S1) fun y S2 => Run (cmpD P call o S2 x y) Q
  | .chn o o' a b c => Run (ev P call a e S) fun x S1 => Run (ev P call b e S1) fun y S2 => Run (cmpD P call o S2 x y) fun k S3 => Run (match k with
    | .bl true => (ev P call c e S3).bind fun z S4 => cmpD P call o' S4 y z
    | .bl false => .ok (.bl false) S3
    | _ => .stuck) Q
  | .andE a b => Run (ev P call a e S) fun x S1 => Run (lift (truth S1 x) S1) fun k S2 => Run (if k then ev P call b e S1 else .ok x S1) Q
  | .orE a b => Run (ev P call a e S) fun x S1 => Run (lift (truth S1 x) S1) fun k S2 => Run (if k then .ok x S1 else ev P call b e S1) Q
  | .notE a => Run (ev P call a e S) fun x S1 => Run (lift (truth S1 x) S1) fun k S2 => Run (.ok (.bl (!k)) S2) Q
  | .ite c a b => Run (ev P call c e S) fun x S1 => Run (lift (truth S1 x) S1) fun k S2 => Run (if k then ev P call a e S2 else ev P call b e S2) Q
  | .tup es => Run (evs P call es e S) fun xs S1 => Run (newT xs S1) Q
  | .lst m es => Run (evs P call es e S) fun xs S1 => Run (newL m xs S1) Q
  | .idx a i => Run (ev P call a e S) fun x S1 => Run (ev P call i e S1) fun y S2 => Run (getI S2 x y) Q
  | .sl a lo hi => Run (ev P call a e S) fun x S1 => Run (evo P call lo e S1) fun l S2 => Run (evo P call hi e S2) fun h S3 => Run (cutD S3 x l h) Q
  | .rev a => Run (ev P call a e S) fun x S1 => Run (revD S1 x) Q
  | .att a f => Run (ev P call a e S) fun x S1 => Run (lift (getA S1 x f) S1) Q
  | .call f es => Run (evs P call es e S) fun xs S1 => Run (call f xs S1) Q
  | .meth a m es => Run (ev P call a e S) fun x S1 => Run (match (clsOf S1 x).bind P.cls with
    | some C => match C.meths.lookup m with
      | some f => (evs P call es e S1).bind fun xs S2 => call f (x :: xs) S2
      | none => .stuck
    | none => .stuck) Q
  | .new c fz es => Run (evs P call es e S) fun xs S1 => Run (newC P call c fz xs S1) Q
  | .blt b m es => Run (evs P call es e S) fun xs S1 => Run (bltD b m S1 xs) Q
  | .isi a t => Run (ev P call a e S) fun x S1 => Run (lift ((isOf (res S1 x) t).map .bl) S1) Q
  | .bm m a es => Run (ev P call a e S) fun x S1 => Run (if bmPre m S1 x then (evs P call es e S1).bind fun xs S2 => bmD m S2 x xs else .stuck) Q
  | .frz a => Run (ev P call a e S) fun x S1 => Run (frzD S1 x) Q
  | _ => NoStep
theorem sp_ev {a : Ex} (h : wpE P call e S Q a) : Run (ev P call a e S) Q := by
  cases a with
  | cst d => rw [rn_cst]; exact (run_ok (Q := Q) d).mp h
  | var i => rw [rn_var]; exact h
  | glob g => rw [rn_glob]; exact h
  | bin o m a b => rw [rn_bin]; exact h
  | neg a => rw [rn_neg]; exact h
  | cmp o a b => rw [rn_cmp]; exact h
  | chn o o' a b c => rw [rn_chn]; exact h
  | andE a b => rw [rn_and]; exact h
  | orE a b => rw [rn_or]; exact h
  | notE a => rw [rn_not]; simp only [wpE, run_ok] at h; exact h
  | ite c a b => rw [rn_ite]; exact h
  | tup es => rw [rn_tup]; exact h
  | lst m es => rw [rn_lst]; exact h
  | idx a i => rw [rn_idx]; exact h
  | sl a lo hi => rw [rn_sl]; exact h
  | rev a => rw [rn_rev]; exact h
  | att a f => rw [rn_att]; exact h
  | call f es => rw [rn_call]; exact h
  | meth a m es => rw [rn_meth]; exact h
  | new c fz es => rw [rn_new]; exact h
  | blt b m es => rw [rn_blt]; exact h
  | isi a t => rw [rn_isi]; exact h
  | bm m a es => rw [rn_bm]; exact h
  | frz a => rw [rn_frz]; exact h
  | callk _ _ _ _ => exact nomatch h
  | comp _ _ _ _ _ => exact nomatch h
  | comp2 _ _ _ _ _ _ _ _ => exact nomatch h
  | dcomp _ _ _ _ _ _ => exact nomatch h
  | dct _ _ _ => exact nomatch h
def wpEs (P : Pg) (call : Nat → List D → Sto → Res D) (e : Env) (S : Sto) (QL : List D → Sto → Prop) : Exs → Prop
  | .nil => Run (.ok [] S) QL
  | .cons x xs => Run (ev P call x e S) fun d S1 => Run (evs P call xs e S1) fun ds S2 => Run (.ok (d :: ds) S2) QL
theorem sp_evs {a : Exs} (h : wpEs P call e S QL a) : Run (evs P call a e S) QL := by
  cases a with
  | nil => rw [rn_nil]; exact (run_ok (Q := QL) _).mp h
  | cons x xs =>
    rw [rn_cons]
    refine Run.imp h fun d S1 q => Run.imp q fun ds S2 q => ?_
    rw [run_ok] at q; exact q
def wpO (P : Pg) (call : Nat → List D → Sto → Res D) (e : Env) (S : Sto) (QI : Option Int → Sto → Prop) : Ox → Prop
  | .nul => Run (.ok none S) QI
  | .one x => Run (ev P call x e S) fun d S1 => Run (match d with
    | .int i => .ok (some i) S1
    | _ => .stuck) QI
theorem sp_evo {a : Ox} (h : wpO P call e S QI a) : Run (evo P call a e S) QI := by
  cases a with
  | nul => rw [rn_nul]; exact (run_ok (Q := QI) _).mp h
  | one x => rw [rn_one]; exact h
def wpC (P : Pg) (call : Nat → List D → Sto → Res D) (e : Env) (S : Sto) (QB : Bool → Sto → Prop) : Exs → Prop
  | .nil => Run (.ok true S) QB
  | .cons x .nil => Run (ev P call x e S) fun d S1 => Run (lift (truth S1 d) S1) QB
  | _ => NoStep
theorem sp_evc {a : Exs} (h : wpC P call e S QB a) : Run (evc P call a e S) QB := by
  match a, h with
  | .nil, h => rw [rn_evc0]; exact (run_ok (Q := QB) _).mp h
  | .cons x .nil, h => rw [rn_evc1]; exact h
  | .cons _ (.cons _ _), h => exact nomatch h
def wpW (P : Pg) (call : Nat → List D → Sto → Res D) (e : Env) (S : Sto) (QW : Wk → Sto → Prop) : It → Prop
  | .seq a => Run (ev P call a e S) fun x S1 => Run (lift ((seqOf S1 x).map fun xs => ⟨still S1 x, xs, none⟩) S1) QW
  | .rng1 a => Run (ev P call a e S) fun x S1 => Run (rngW1 x S1) QW
  | .rng2 a b => Run (ev P call a e S) fun x S1 => Run (ev P call b e S1) fun y S2 => Run (rngW2 x y S2) QW
  | .dic a => Run (ev P call a e S) fun x S1 => Run (dicW x S1) QW
  | _ => NoStep
theorem sp_walk {a : It} (h : wpW P call e S QW a) : Run (walk P call a e S) QW := by
  cases a with
  | seq a => rw [rn_seq]; exact h
  | rng1 a => rw [rn_rng1]; exact h
  | rng2 a b => rw [rn_rng2]; exact h
  | dic a => rw [rn_dic]; exact h
  | rng3 _ _ _ => exact nomatch h
  | zip _ _ => exact nomatch h
  | enum _ => exact nomatch h
  | comb _ _ => exact nomatch h
def wpS (P : Pg) (call : Nat → List D → Sto → Res D) (e : Env) (S : Sto) (QO : Out → Sto → Prop) : St → Prop
  | .ex x => Run (ev P call x e S) fun _ S1 => Run (.ok (.nx e) S1) QO
  | .set i x => Run (ev P call x e S) fun d S1 => Run (if i < e.length then .ok (.nx (e.set i (some d))) S1 else .stuck) QO
  | .sett t x => Run (ev P call x e S) fun d S1 => Run (lift ((asT t d e).map .nx) S1) QO
  | .par is xs => Run (evs P call xs e S) fun ds S1 => Run (if ds.length = is.length ∧ is.all (· < e.length) then .ok (.nx ((is.zip ds).foldl (fun e p => e.set p.1 (some p.2)) e)) S1 else .stuck) QO
  | .satt a f x => Run (ev P call x e S) fun d S1 => Run (ev P call a e S1) fun o S2 => Run (setA P S2 o f d) fun _ S3 => Run (.ok (.nx e) S3) QO
  | .sidx a i x => Run (ev P call x e S) fun d S1 => Run (ev P call a e S1) fun o S2 => Run (ev P call i e S2) fun j S3 => Run (setI S3 o j d) fun _ S4 => Run (.ok (.nx e) S4) QO
  | .sidx2 a i b j x => Run (ev P call x e S) fun d S1 => Run (set2R d fun u v => (ev P call a e S1).bind fun o S2 => (ev P call i e S2).bind fun k S3 => (setI S3 o k u).bind fun _ S4 => (ev P call b e S4).bind fun o' S5 => (ev P call j e S5).bind fun l S6 => (setI S6 o' l v).bind fun _ S7 => .ok (.nx e) S7) QO
  | .aug i o x => Run (match e[i]? with
    | some (some u) => (ev P call x e S).bind fun d S1 => match u, d with
      | .int _, .int _ => (binD o false S1 u d).bind fun r S2 => .ok (.nx (e.set i (some r))) S2
      | _, _ => .stuck
    | _ => .stuck) QO
  | .augi a i o x => Run (ev P call a e S) fun p S1 => Run (ev P call i e S1) fun j S2 => Run (getI S2 p j) fun u S3 => Run (ev P call x e S3) fun d S4 => Run (match u, d with
    | .int _, .int _ => (binD o false S4 u d).bind fun r S5 => (setI S5 p j r).bind fun _ S6 => .ok (.nx e) S6
    | _, _ => .stuck) QO
  | .cond c a b => Run (ev P call c e S) fun x S1 => Run (lift (truth S1 x) S1) fun k S2 => Run (if k then exs P call a e S2 else exs P call b e S2) QO
  | .fo t it b => Run (walk P call it e S) fun w S1 => Run (if w.lk.isSome then .stuck else forR (foStep t (exs P call b)) w.ck w.xs e S1) QO
  | .whil c b => Run (whileR (fun e S => truR (ev P call c e S)) (exs P call b) TURNS e S) QO
  | .ret x => Run (ev P call x e S) fun d S1 => Run (.ok (.rt d) S1) QO
  | .retn => Run (.ok (.rt .non) S) QO
  | .pas => Run (.ok (.nx e) S) QO
  | .tri b hs => Run (triR P hs (exs P call b e S)) QO
  | _ => NoStep
theorem sp_st {a : St} (h : wpS P call e S QO a) : Run (ex1 P call a e S) QO := by
  cases a with
  | ex x => rw [rn_ex]; simp only [wpS, run_ok] at h; exact h
  | set i x => rw [rn_set]; exact h
  | sett t x => rw [rn_sett]; exact h
  | par is xs => rw [rn_par]; exact h
  | satt a f x => rw [rn_satt]; simp only [wpS, run_ok] at h; exact h
  | sidx a i x => rw [rn_sidx]; simp only [wpS, run_ok] at h; exact h
  | aug i o x => rw [rn_aug]; exact h
  | augi a i o x => rw [rn_augi]; exact h
  | cond c a b => rw [rn_cond]; exact h
  | fo t it b => rw [rn_fo]; exact h
  | whil c b => rw [rn_whil]; exact h
  | ret x => rw [rn_ret]; simp only [wpS, run_ok] at h; exact h
  | retn => rw [rn_retn]; exact (run_ok (Q := QO) _).mp h
  | pas => rw [rn_pas]; exact (run_ok (Q := QO) _).mp h
  | tri b hs => rw [rn_tri]; exact h
  | satt2 _ _ _ _ _ => exact nomatch h
  | sidx2 a i b j x => rw [rn_sidx2]; exact h
  | rais _ _ => exact nomatch h
def nextO (P : Pg) (call : Nat → List D → Sto → Res D) (ss : Sts) : Out → Sto → Res Out
  | .nx e, S => exs P call ss e S
  | .rt d, S => .ok (.rt d) S
theorem nextO_nx (ss : Sts) : nextO P call ss (.nx e) S = exs P call ss e S := rfl
theorem nextO_rt (ss : Sts) (d : D) : nextO P call ss (.rt d) S = .ok (.rt d) S := rfl
def wpSs (P : Pg) (call : Nat → List D → Sto → Res D) (e : Env) (S : Sto) (QO : Out → Sto → Prop) : Sts → Prop
  | .nil => Run (.ok (.nx e) S) QO
  | .cons s ss => Run (ex1 P call s e S) fun o S1 => Run (nextO P call ss o S1) QO
theorem sp_exs {a : Sts} (h : wpSs P call e S QO a) : Run (exs P call a e S) QO := by
  cases a with
  | nil => rw [rn_end]; exact (run_ok (Q := QO) _).mp h
  | cons s ss =>
    rw [rn_st]
    refine Run.imp h fun o S1 q => ?_
    cases o <;> exact q
theorem sp_fin {r : Res Out} (h : Run r (fun o S' => Run (match o with
    | .nx _ => .ok .non (trunc S .non S')
    | .rt d => .ok d (trunc S d S')) Q)) : Run (fin S r) Q := by
  rw [rn_fin]
  refine Run.imp h fun o S1 q => ?_
  cases o <;> exact (run_ok (Q := Q) _).mp q
theorem sp_bind {α β : Type} {r : Res α} {k : α → Sto → Res β} {R : β → Sto → Prop} (h : Run r fun a S => Run (k a S) R) : Run (r.bind k) R := by rw [run_bind]; exact h
theorem sp_nox {α : Type} {r : Res α} {R : α → Sto → Prop} (h : Run r R) : Run r.nox R := by rw [run_nox]; exact h
theorem sp_ok {α : Type} {a : α} {R : α → Sto → Prop} (h : R a S) : Run (.ok a S) R := by rw [run_ok]; exact h
theorem sp_foS {t : Tg} {fb : Env → Sto → Res Out} {d : D} (h : Run (match asT t d e with
    | none => .stuck
    | some e1 => fb e1 S) QO) : Run (foStep t fb d e S) QO := h
theorem sp_lc {t : Tg} {own : List Nat} {fc : Env → Sto → Res Bool} {fx : Env → Sto → Res D} {d : D} {QQ : Option D → Sto → Prop} (h : Run (match asT t d (wipe e own) with
    | none => .stuck
    | some e1 => (fc e1 S).bind fun k S' => if k then (fx e1 S').bind fun y S'' => .ok (some y) S'' else .ok none S') QQ) : Run (lcStep t own e fc fx d S) QQ := h
end
end Mi
end
section
set_option linter.all false
set_option maxRecDepth 100000
/-! runs as trees, no program in sight -/
namespace Mi
inductive T where
  | tk (i : Int)
  | rn (g : Nat) (ps : List T)
  deriving Inhabited
mutual
def toD : T → D
  | .tk i => .int i
  | .rn g ps => .tup [.int g, .tup (toDs ps)]
def toDs : List T → List D
  | [] => []
  | t :: r => toD t :: toDs r
end
theorem toDs_map : ∀ ps : List T, toDs ps = ps.map toD
  | [] => rfl
  | t :: r => by simp [toDs, toDs_map r]
mutual
/-- a part of a run of g -/
def okp (es : List (Nat × Nat)) : Nat → T → Prop
  | _, .tk i => 1 ≤ i ∧ i ≤ 999999
  | g, .rn f ps => (g, f) ∈ es ∧ okps es f ps
def okps (es : List (Nat × Nat)) : Nat → List T → Prop
  | _, [] => True
  | g, t :: r => okp es g t ∧ okps es g r
end
theorem okps_mem {es : List (Nat × Nat)} {g : Nat} : ∀ {ps : List T}, okps es g ps → ∀ t ∈ ps, okp es g t
  | t :: r, h, x, hx => by
    simp only [okps] at h
    rcases List.mem_cons.mp hx with rfl | hx
    · exact h.1
    · exact okps_mem h.2 x hx
theorem okps_of {es : List (Nat × Nat)} {g : Nat} : ∀ {ps : List T}, (∀ t ∈ ps, okp es g t) → okps es g ps
  | [], _ => trivial
  | t :: r, h => ⟨h t (by simp), okps_of fun x hx => h x (by simp [hx])⟩
mutual
/-- the runs within, itself first -/
def subs : T → List T
  | .tk _ => []
  | .rn g ps => .rn g ps :: subsL ps
def subsL : List T → List T
  | [] => []
  | t :: r => subs t ++ subsL r
end
/-- ticks that stand there -/
def dir : List T → Int
  | [] => 0
  | .tk i :: r => i + dir r
  | .rn _ _ :: r => dir r
mutual
def tks : T → Int
  | .tk i => i
  | .rn _ ps => tksL ps
def tksL : List T → Int
  | [] => 0
  | t :: r => tks t + tksL r
end
/-- a run's function, its parts -/
def rg : T → Nat
  | .rn g _ => g
  | .tk _ => 0
def rp : T → List T
  | .rn _ ps => ps
  | .tk _ => []
mutual
def ownT (g : Nat) : T → Int
  | .tk _ => 0
  | .rn f ps => (if f = g then dir ps else 0) + ownL g ps
def ownL (g : Nat) : List T → Int
  | [] => 0
  | t :: r => ownT g t + ownL g r
end
mutual
/-- how many runs, how many parts -/
def nru : T → Nat
  | .tk _ => 0
  | .rn _ ps => 1 + nruL ps
def nruL : List T → Nat
  | [] => 0
  | t :: r => nru t + nruL r
end
mutual
def npa : T → Nat
  | .tk _ => 0
  | .rn _ ps => ps.length + npaL ps
def npaL : List T → Nat
  | [] => 0
  | t :: r => npa t + npaL r
end
mutual
def dpT : T → Nat
  | .tk _ => 0
  | .rn _ ps => 1 + dpL ps
def dpL : List T → Nat
  | [] => 0
  | t :: r => max (dpT t) (dpL r)
end
theorem dpL_mem : ∀ {ps : List T} {t : T}, t ∈ ps → dpT t ≤ dpL ps
  | x :: r, t, h => by
    simp only [dpL]
    rcases List.mem_cons.mp h with rfl | h
    · omega
    · have := dpL_mem h; omega
/-! ### values that are runs -/
mutual
def decP (es : List (Nat × Nat)) : Nat → D → Option T
  | _, .int i => if 1 ≤ i ∧ i ≤ 999999 then some (.tk i) else none
  | g, .tup l => dec2 es g l
  | _, .non => none
  | _, .bl _ => none
  | _, .str _ => none
  | _, .lst _ => none
  | _, .ins _ _ _ => none
  | _, .ref _ => none
def dec2 (es : List (Nat × Nat)) : Nat → List D → Option T
  | g, [.int f, .tup xs] => if 0 ≤ f ∧ (g, f.toNat) ∈ es then (decPs es f.toNat xs).map (.rn f.toNat) else none
  | _, _ => none
def decPs (es : List (Nat × Nat)) : Nat → List D → Option (List T)
  | _, [] => some []
  | g, x :: r => match decP es g x, decPs es g r with
    | some t, some ts => some (t :: ts)
    | _, _ => none
end
/-- a run of g -/
def decR (es : List (Nat × Nat)) (g : Nat) (d : D) : Option T := match d with
  | .tup [.int f, .tup xs] => if f = g then (decPs es g xs).map (.rn g) else none
  | _ => none
mutual
theorem decP_ok (es : List (Nat × Nat)) : ∀ (g : Nat) (d : D) (t : T), decP es g d = some t → toD t = d ∧ okp es g t
  | g, .int i, t, h => by
    simp only [decP] at h
    split at h
    · rename_i hi
      cases h
      exact ⟨rfl, hi⟩
    · cases h
  | g, .tup l, t, h => by
    simp only [decP] at h
    exact dec2_ok es g l t h
  | _, .non, _, h => by simp [decP] at h
  | _, .bl _, _, h => by simp [decP] at h
  | _, .str _, _, h => by simp [decP] at h
  | _, .lst _, _, h => by simp [decP] at h
  | _, .ins _ _ _, _, h => by simp [decP] at h
  | _, .ref _, _, h => by simp [decP] at h
theorem dec2_ok (es : List (Nat × Nat)) : ∀ (g : Nat) (l : List D) (t : T), dec2 es g l = some t → toD t = .tup l ∧ okp es g t
  | g, [.int f, .tup xs], t, h => by
    simp only [dec2] at h
    split at h
    · rename_i hi
      obtain ⟨ts, h1, rfl⟩ := Option.map_eq_some_iff.mp h
      obtain ⟨q1, q2⟩ := decPs_ok es f.toNat xs ts h1
      refine ⟨?_, hi.2, q2⟩
      have : ((f.toNat : Nat) : Int) = f := by omega
      simp only [toD, q1, this]
    · cases h
  | g, [], t, h => nomatch (show (none : Option T) = some t from h)
  | g, [x], t, h => nomatch ((show dec2 es g [x] = none by cases x <;> rfl).symm.trans h)
  | g, x :: y :: z :: r, t, h => nomatch ((show dec2 es g (x :: y :: z :: r) = none by cases x <;> cases y <;> rfl).symm.trans h)
  | g, [.int f, .int _], t, h => nomatch (show (none : Option T) = some t from h)
  | g, [.int f, .non], t, h => nomatch (show (none : Option T) = some t from h)
  | g, [.int f, .bl _], t, h => nomatch (show (none : Option T) = some t from h)
  | g, [.int f, .str _], t, h => nomatch (show (none : Option T) = some t from h)
  | g, [.int f, .lst _], t, h => nomatch (show (none : Option T) = some t from h)
  | g, [.int f, .ins _ _ _], t, h => nomatch (show (none : Option T) = some t from h)
  | g, [.int f, .ref _], t, h => nomatch (show (none : Option T) = some t from h)
  | g, [.non, _], t, h => nomatch (show (none : Option T) = some t from h)
  | g, [.bl _, _], t, h => nomatch (show (none : Option T) = some t from h)
  | g, [.str _, _], t, h => nomatch (show (none : Option T) = some t from h)
  | g, [.tup _, _], t, h => nomatch (show (none : Option T) = some t from h)
  | g, [.lst _, _], t, h => nomatch (show (none : Option T) = some t from h)
  | g, [.ins _ _ _, _], t, h => nomatch (show (none : Option T) = some t from h)
  | g, [.ref _, _], t, h => nomatch (show (none : Option T) = some t from h)
theorem decPs_ok (es : List (Nat × Nat)) : ∀ (g : Nat) (l : List D) (ts : List T), decPs es g l = some ts → toDs ts = l ∧ okps es g ts
  | _, [], ts, h => by simp only [decPs, Option.some.injEq] at h; subst h; exact ⟨rfl, trivial⟩
  | g, x :: r, ts, h => by
    simp only [decPs] at h
    split at h
    · rename_i t us h1 h2
      cases h
      obtain ⟨a1, a2⟩ := decP_ok es g x t h1
      obtain ⟨b1, b2⟩ := decPs_ok es g r us h2
      exact ⟨by simp [toDs, a1, b1], a2, b2⟩
    · cases h
end
theorem decR_ok {es : List (Nat × Nat)} {g : Nat} {d : D} {t : T} (h : decR es g d = some t) : ∃ ps, t = .rn g ps ∧ toD t = d ∧ okps es g ps := by
  unfold decR at h
  split at h
  · split at h
    · rename_i f xs e
      obtain ⟨ts, h1, rfl⟩ := Option.map_eq_some_iff.mp h
      obtain ⟨q1, q2⟩ := decPs_ok es g xs ts h1
      exact ⟨ts, rfl, by simp only [toD, q1, e], q2⟩
    · cases h
  · cases h
mutual
theorem decP_of (es : List (Nat × Nat)) : ∀ (g : Nat) (t : T), okp es g t → decP es g (toD t) = some t
  | g, .tk i, h => by
    simp only [okp] at h
    simp only [toD, decP, h, and_self, if_true]
  | g, .rn f ps, h => by
    simp only [okp] at h
    have := decPs_of es f ps h.2
    have h0 : (0 : Int) ≤ (f : Int) := by omega
    simp only [toD, decP, dec2, Int.toNat_natCast, h.1, h0, and_self, if_true, this, Option.map_some]
theorem decPs_of (es : List (Nat × Nat)) : ∀ (g : Nat) (ps : List T), okps es g ps → decPs es g (toDs ps) = some ps
  | _, [], _ => rfl
  | g, t :: r, h => by
    simp only [okps] at h
    simp only [toDs, decPs, decP_of es g t h.1, decPs_of es g r h.2]
end
theorem decR_of {es : List (Nat × Nat)} {g : Nat} {ps : List T} (h : okps es g ps) : decR es g (toD (.rn g ps)) = some (.rn g ps) := by
  simp only [toD, decR, if_true, decPs_of es g ps h, Option.map_some]
/-- whether a value is a run -/
def runB (es : List (Nat × Nat)) (d : D) : Bool := match decR es 0 d with
  | some t => decide (nru t ≤ 200) && decide (npa t ≤ 400) && decide (tks t ≤ 999999)
  | none => false
/-- a run -/
structure IsRun (es : List (Nat × Nat)) (t : T) : Prop where
  run : ∃ ps, t = .rn 0 ps ∧ okps es 0 ps
  r200 : nru t ≤ 200
  p400 : npa t ≤ 400
  t6 : tks t ≤ 999999
theorem runB_ok {es : List (Nat × Nat)} {d : D} (h : runB es d = true) : ∃ t, toD t = d ∧ IsRun es t := by
  unfold runB at h
  split at h
  · rename_i t e
    simp only [Bool.and_eq_true, decide_eq_true_eq] at h
    obtain ⟨ps, h1, h2, h3⟩ := decR_ok e
    exact ⟨t, h2, ⟨ps, h1, h3⟩, h.1.1, h.1.2, h.2⟩
  · cases h
theorem runB_of {es : List (Nat × Nat)} {t : T} (h : IsRun es t) : runB es (toD t) = true := by
  obtain ⟨⟨ps, rfl, h1⟩, h2, h3, h4⟩ := h
  simp only [runB, decR_of h1, h2, h3, h4, decide_true, Bool.and_self]
/-! ### sizes -/
mutual
def D.sz : D → Nat
  | .non | .bl _ | .int _ | .str _ | .ins _ _ _ | .ref _ => 1
  | .tup xs => 1 + D.szs xs
  | .lst xs => 1 + D.szs xs
def D.szs : List D → Nat
  | [] => 0
  | x :: xs => D.sz x + D.szs xs
end
theorem sz_pos : ∀ d : D, 1 ≤ d.sz
  | .non | .bl _ | .int _ | .str _ | .ins _ _ _ | .ref _ => by simp [D.sz]
  | .tup xs => by simp [D.sz]
  | .lst xs => by simp [D.sz]
theorem szs_len : ∀ xs : List D, xs.length ≤ D.szs xs
  | [] => by simp [D.szs]
  | x :: r => by
    have := szs_len r
    have := sz_pos x
    simp only [List.length_cons, D.szs]; omega
theorem szs_app : ∀ xs ys : List D, D.szs (xs ++ ys) = D.szs xs + D.szs ys
  | [], ys => by simp [D.szs]
  | x :: r, ys => by simp only [List.cons_append, D.szs, szs_app r ys]; omega
theorem szs_mem : ∀ {xs : List D} {x : D}, x ∈ xs → x.sz ≤ D.szs xs
  | y :: r, x, h => by
    simp only [D.szs]
    rcases List.mem_cons.mp h with rfl | h
    · omega
    · have := szs_mem h; omega
mutual
theorem nru_sz : ∀ t : T, nru t + npa t + 1 ≤ (toD t).sz
  | .tk i => by simp [nru, npa, toD, D.sz]
  | .rn g ps => by
    have := nruL_sz ps
    simp only [nru, npa, toD, D.sz, D.szs]
    omega
theorem nruL_sz : ∀ ps : List T, nruL ps + npaL ps + ps.length ≤ D.szs (toDs ps)
  | [] => by simp [nruL, npaL, toDs, D.szs]
  | t :: r => by
    have h1 := nru_sz t
    have h2 := nruL_sz r
    simp only [nruL, npaL, toDs, D.szs, List.length_cons]
    omega
end
/-! ### sums over the runs within -/
def sumL {α : Type} (f : α → Int) (xs : List α) : Int := (xs.map f).sum
theorem sumL_app {α : Type} (f : α → Int) (xs ys : List α) : sumL f (xs ++ ys) = sumL f xs + sumL f ys := by simp [sumL, List.sum_append]
theorem sumL_cons {α : Type} (f : α → Int) (x : α) (ys : List α) : sumL f (x :: ys) = f x + sumL f ys := by simp [sumL]
theorem rp_rn (g : Nat) (ps : List T) : rp (.rn g ps) = ps := rfl
mutual
theorem tks_subs : ∀ t : T, sumL (fun s => dir (rp s)) (subs t) = (match t with
    | .tk _ => 0
    | .rn _ ps => tksL ps)
  | .tk i => rfl
  | .rn g ps => by
    have := tksL_subs ps
    simp only [subs, sumL_cons, rp_rn]; omega
theorem tksL_subs : ∀ ps : List T, dir ps + sumL (fun s => dir (rp s)) (subsL ps) = tksL ps
  | [] => rfl
  | .tk i :: r => by
    have := tksL_subs r
    have h : sumL (fun s => dir (rp s)) (subsL (.tk i :: r)) = sumL (fun s => dir (rp s)) (subsL r) := by simp [subsL, subs]
    rw [h]
    simp only [dir, tksL, tks]; omega
  | .rn g ps :: r => by
    have h1 := tks_subs (.rn g ps)
    have h2 := tksL_subs r
    simp only at h1
    simp only [dir, tksL, tks, subsL, sumL_app]; omega
end
mutual
theorem nru_subs : ∀ t : T, nru t = (subs t).length
  | .tk i => rfl
  | .rn f ps => by simp only [nru, subs, List.length_cons, nruL_subs ps]; omega
theorem nruL_subs : ∀ ps : List T, nruL ps = (subsL ps).length
  | [] => rfl
  | t :: r => by simp only [nruL, subsL, List.length_append, nru_subs t, nruL_subs r]
end
mutual
theorem npa_subs : ∀ t : T, (npa t : Int) = sumL (fun s => ((rp s).length : Int)) (subs t)
  | .tk i => rfl
  | .rn f ps => by
    have := npaL_subs ps
    simp only [npa, subs, sumL_cons, rp_rn, Int.natCast_add, this]
theorem npaL_subs : ∀ ps : List T, (npaL ps : Int) = sumL (fun s => ((rp s).length : Int)) (subsL ps)
  | [] => rfl
  | t :: r => by simp only [npaL, subsL, sumL_app, Int.natCast_add, npa_subs t, npaL_subs r]
end
theorem decPs_all {es : List (Nat × Nat)} {g : Nat} : ∀ xs : List D, (decPs es g xs).isSome = xs.all fun x => (decP es g x).isSome
  | [] => rfl
  | x :: r => by
    have := decPs_all (es := es) (g := g) r
    simp only [decPs, List.all_cons, ← this]
    cases decP es g x <;> cases decPs es g r <;> rfl
theorem dec2_R (es : List (Nat × Nat)) (g : Nat) (f : Int) (y : D) : (dec2 es g [.int f, y]).isSome = (decide (0 ≤ f ∧ (g, f.toNat) ∈ es) && (decR es f.toNat (.tup [.int f, y])).isSome) := by
  cases y with
  | tup xs =>
    simp only [dec2, decR]
    by_cases h : 0 ≤ f ∧ (g, f.toNat) ∈ es
    · have : f = ((f.toNat : Nat) : Int) := by omega
      simp only [h, and_self, if_true, decide_true, Bool.true_and]
      rw [if_pos this]
    · simp [h]
  | _ => simp [dec2, decR]
mutual
theorem dpT_le {es : List (Nat × Nat)} {n : Nat} (hr : ∀ e ∈ es, e.1 < e.2 ∧ e.2 < n) : ∀ (g : Nat) (t : T), okp es g t → dpT t ≤ n - g
  | g, .tk i, h => by simp [dpT]
  | g, .rn f ps, h => by
    simp only [okp] at h
    have h1 := dpL_le hr f ps h.2
    have h2 := hr _ h.1
    simp only [dpT] at h2 ⊢
    omega
theorem dpL_le {es : List (Nat × Nat)} {n : Nat} (hr : ∀ e ∈ es, e.1 < e.2 ∧ e.2 < n) : ∀ (g : Nat) (ps : List T), okps es g ps → dpL ps ≤ n - g
  | g, [], h => by simp [dpL]
  | g, t :: r, h => by
    simp only [okps] at h
    have h1 := dpT_le hr g t h.1
    have h2 := dpL_le hr g r h.2
    simp only [dpL]; omega
end
end Mi
end
section
set_option linter.all false
set_option maxRecDepth 100000
set_option maxHeartbeats 4000000
/-! runs looked at: the program -/
local macro_rules | `(tactic| simp! [$ls,*]) => `(tactic| ((repeat (first | with_reducible refine Mi.sp_ok ?_ | ((with_reducible refine Mi.sp_ev ?_); show Mi.Run _ _) | ((with_reducible refine Mi.sp_evs ?_); show Mi.Run _ _) | ((with_reducible refine Mi.sp_st ?_); show Mi.Run _ _) | ((with_reducible refine Mi.sp_exs ?_); show Mi.Run _ _) | ((with_reducible refine Mi.sp_walk ?_); show Mi.Run _ _) | ((with_reducible refine Mi.sp_evo ?_); show Mi.Run _ _) | ((with_reducible refine Mi.sp_evc ?_); show Mi.Run _ _) | with_reducible refine Mi.sp_bind ?_ | with_reducible refine Mi.sp_fin ?_ | with_reducible refine Mi.sp_foS ?_ | with_reducible refine Mi.sp_lc ?_ | with_reducible refine Mi.sp_nox ?_ | refine Mi.run_cg (by simp -implicitDefEqProofs only [Mi.nextO_nx, Mi.nextO_rt, Mi.tr_bl, Mi.tr_int, Mi.tr_non, Mi.tr_tup, Mi.tr_lst, Mi.rs_tup, Mi.rs_lst, Mi.rs_int, Mi.rs_bl, Mi.rs_str, Mi.rs_non, Mi.rs_ins, Mi.sq_tup, Mi.sq_lst, Mi.gi_tup, Mi.gi_lst, Mi.ln_tup, Mi.ln_lst, Mi.b_len, Mi.b_sum, Mi.b_tuple, Mi.b_list, Mi.b_all, Mi.b_any, Mi.b_int, Mi.b_max, Mi.b_min, Mi.b_sorted, Mi.b_min2, Mi.b_max2, Mi.tp_tup, Mi.tp_lst, Mi.nt_0, Mi.nt_1, Mi.nt_2, Mi.nt_3, Mi.nt_4, Mi.asT, Mi.asTs, Mi.wipe, Mi.isOf, Mi.Tg.own, Mi.Tgs.own, Mi.lockO, Mi.at0, Mi.at1, Mi.at2, Mi.eqI, Mi.neI, Mi.ltI, Mi.leI, Mi.gtI, Mi.geI, Mi.bin_add, Mi.bin_sub, Mi.still_lst, Mi.still_tup, Mi.lift_some, List.getElem?_cons_zero, List.getElem?_cons_succ, List.set_cons_zero, List.set_cons_succ, List.set_set, List.length_cons, List.length_nil, List.length_set, List.getElem?_set, List.map_cons, List.map_nil, List.append_nil, List.nil_append, List.cons_append, List.isEmpty_nil, List.isEmpty_cons, Option.map_some, Option.bind_some, Option.isSome_none, List.replicate, Nat.reduceAdd, Nat.reduceSub, Nat.reduceLT, if_true, if_false, Bool.false_eq_true, Bool.not_true, Bool.not_false, ite_self, ↓reduceIte, and_self, true_and, and_true, decide_true, decide_false, Bool.and_true, Bool.true_and, Bool.and_false, Bool.false_and, Bool.or_true, Bool.true_or, Bool.or_false, Bool.false_or, Nat.reduceEqDiff, Nat.reduceLeDiff, Mi.nl_f, Mi.nl_t, Int.reduceBEq, Int.reduceAdd, Int.reduceSub, Int.reduceNeg, Int.cast_ofNat_Int, Int.natCast_one, Int.natCast_zero, BEq.rfl, $ls,*]; exact rfl) ?_)); (first | with_reducible refine Mi.run_id ?_ | (try simp -implicitDefEqProofs only [eq_self, and_self, true_and, and_true, Mi.trunc_self, if_true, if_false, Bool.false_eq_true, ↓reduceIte, Bool.and_true, Bool.true_and, Bool.and_false, Bool.false_and, $ls,*]))))
namespace Ck10
open Mi
/-- data, not deep, not great -/
structure Vz (d : D) : Prop where
  dat : d.data = true
  dp : d.dep ≤ 3000
  z : d.sz ≤ 3000
theorem Vz.mem {xs : List D} (h : Vz (.tup xs)) : (∀ x ∈ xs, Vz x) ∧ xs.length ≤ 3000 := by
  obtain ⟨h1, h2, h3⟩ := h
  simp only [D.dep] at h2
  simp only [D.sz] at h3
  refine ⟨fun x hx => ⟨datas_mm h1 x hx, ?_, ?_⟩, ?_⟩
  · have := dep_mm hx; omega
  · have := szs_mem hx; omega
  · have := szs_len xs; omega
theorem Vz.pl {d : D} (h : Vz d) : PL d := data_pl h.dat
theorem in_pair (P : Pg) (call : Nat → List D → Sto → Res D) (S : Sto) (g : Nat) (f : Int) (es : List (Nat × Nat)) : cmpD P call .isin S (.tup [.int g, .int f]) (.tup (es.map pr)) = .ok (.bl (decide (0 ≤ f ∧ (g, f.toNat) ∈ es))) S := by
  have hd : D.datas (es.map pr) = true := datas_of fun x hx => by
    obtain ⟨e, _, rfl⟩ := List.mem_map.mp hx
    rfl
  have h : ∀ es : List (Nat × Nat), ((es.map pr).any fun z => D.eqv z (.tup [.int g, .int f])) = decide (0 ≤ f ∧ (g, f.toNat) ∈ es) := fun es => by
    induction es with
    | nil => simp
    | cons e r ih =>
      simp only [List.map_cons, List.any_cons, ih, pr, D.eqv, D.eqvs, Bool.and_true]
      obtain ⟨a, b⟩ := e
      by_cases h1 : (a : Int) = g
      · by_cases h2 : (b : Int) = f
        · have e1 : a = g := by omega
          have e2 : f.toNat = b := by omega
          have e3 : 0 ≤ f := by omega
          simp [h1, h2, e1, e2, e3]
        · have e2 : ¬ (0 ≤ f ∧ f.toNat = b) := by omega
          by_cases h3 : 0 ≤ f
          · have e3 : ¬ f.toNat = b := fun z => e2 ⟨h3, z⟩
            simp [h2, e3, h3]
          · simp [h2, h3]
      · have e1 : ¬ g = a := by omega
        simp [h1, e1]
  have h1 : (D.tup [.int g, .int f]).data = true := rfl
  have h2 : (D.tup [.int g, .int f]).dep ≤ DEEP := by show 1 ≤ 100; omega
  simp only [cmpD, inM, dctOf, seqOf, Option.bind_some, inD, h1, hd, Bool.and_self, Bool.true_and, h2, decide_true, if_true, h, Option.map_some, lift_some]
/-- all parts, one looked at ahead of the other -/
theorem ev_compB {P : Pg} {call : Nat → List D → Sto → Res D} {x : Ex} {t : Tg} {it : It} {e : Env} {S : Sto} {ck : Sto → Bool} {xs : List D} (hw : walk P call it e S = .ok ⟨ck, xs, none⟩ S) (hk : ck S = true) (f : D → Bool) (h : ∀ d ∈ xs, lcStep t t.own e (evc P call .nil) (ev P call x) d S = .ok (some (.bl (f d))) S) (hl : xs.length ≤ LINE) : ev P call (.comp false x t it .nil) e S = .ok (.lst (xs.map fun d => .bl (f d))) S := by
  have e1 : xs.filterMap (fun d => some (D.bl (f d))) = xs.map fun d => .bl (f d) := by simp
  rw [← e1]
  exact ev_comp P call hw hk (fun d => some (.bl (f d))) h (by simpa using hl)
section
variable {n : Nat} {es : List (Nat × Nat)} (hn : n ≤ 5) (hri : ∀ e ∈ es, e.1 < e.2 ∧ e.2 < n)
include hn hri
theorem c_shape0 : ∀ (K g : Nat) (d : D) (S : Sto), Vz d → (∀ x ∈ (match d with
      | .tup [_, .tup xs] => xs
      | _ => []), callF P (K + 2) 6 [cD n (.tup (es.map pr)), .int g, x] S = .ok (.bl (decP es g x).isSome) S) → callF P (K + 3) 5 [cD n (.tup (es.map pr)), .int g, d] S = .ok (.bl (decR es g d).isSome) S := by
  intro K g d S h hp
  rw [callF_eq (F := f5) rfl rfl]
  refine run_is.mp ?_
  generalize cD n (.tup (es.map pr)) = C at *
  show Run (fin S (exs P (callF P (K + 2)) b5 [some C, some (.int g), some d, none] S)) _
  cases d with
  | ref r => exact (PL_ref h.pl).elim
  | tup l =>
    match l, h, hp with
    | [], h, hp => simp! [b5, decR, Option.isSome_none]
    | [x], h, hp =>
      simp! [b5, show decR es g (.tup [x]) = none by cases x <;> rfl, Option.isSome_none]
    | x :: y :: z :: r, h, hp =>
      have hl : (((r.length + 1 + 1 + 1 : Nat) : Int) == 2) = false := by simp; omega
      simp! [b5, hl, show decR es g (.tup (x :: y :: z :: r)) = none by cases x <;> cases y <;> rfl, Option.isSome_none]
    | [x, y], h, hp =>
      have hx := (h.mem.1 x (by simp))
      have hy := (h.mem.1 y (by simp))
      have e0 := c0 (K + 1) x S hx.pl
      cases x with
      | int f =>
        by_cases hf : f = g
        · subst hf
          have hff : (((g : Int) == g) : Bool) = true := by simp
          cases y with
          | ref r => exact (PL_ref hy.pl).elim
          | tup xs =>
            simp only at hp
            have hxl := hy.mem.2
            have hc : ev P (callF P (K + 2)) (.comp false x5_0 (.var 3) (.seq (.idx (.var 2) (.cst (.int 1)))) .nil) [some C, some (.int g), some (.tup [.int g, .tup xs]), none] S = .ok (.lst (xs.map fun x => .bl (decP es g x).isSome)) S := by
              refine ev_compB (ck := fun _ => true) ?_ rfl _ (fun x hx => ?_) (by unfold LINE; omega)
              · refine run_is.mp ?_
                simp! []
              · refine run_is.mp ?_
                simp! [x5_0, hp x hx]
            have ha := fun S => allD_map (fun x => (decP es g x).isSome) xs S
            have hd : (decR es g (.tup [.int g, .tup xs])).isSome = xs.all fun x => (decP es g x).isSome := by
              rw [← decPs_all]
              simp [decR]
            rw [hd]
            simp! [b5, e0, isI, hff, hc, ha]
          | _ => simp! [b5, e0, isI, hff, decR, Option.isSome_none]
        · have hff : ((f == (g : Int)) : Bool) = false := by simpa using hf
          have hd : decR es g (.tup [.int f, y]) = none := by cases y <;> simp [decR, hf]
          simp! [b5, e0, isI, hff, hd, Option.isSome_none]
      | ref r => exact (PL_ref hx.pl).elim
      | _ => simp! [b5, e0, isI, decR, Option.isSome_none]
  | _ => simp! [b5, decR, Option.isSome_none]
theorem c_part0 (K g : Nat) (d : D) (S : Sto) (h : Vz d) (hs : ∀ (f : Nat) (y : D), d = .tup [.int f, y] → (g, f) ∈ es → callF P (K + 1) 5 [cD n (.tup (es.map pr)), .int f, d] S = .ok (.bl (decR es f d).isSome) S) : callF P (K + 2) 6 [cD n (.tup (es.map pr)), .int g, d] S = .ok (.bl (decP es g d).isSome) S := by
  have a1 : ∀ S, getA S (cD n (.tup (es.map pr))) 0 = some (.tup (es.map pr)) := fun _ => rfl
  have gl : P.glob 2 = some (.int 999999) := rfl
  have e0 := c0 K d S h.pl
  rw [callF_eq (F := f6) rfl rfl]
  refine run_is.mp ?_
  generalize cD n (.tup (es.map pr)) = C at *
  show Run (fin S (exs P (callF P (K + 1)) b6 [some C, some (.int g), some d] S)) _
  cases d with
  | ref r => exact (PL_ref h.pl).elim
  | int i =>
    by_cases h1 : 1 ≤ i
    · by_cases h2 : i ≤ 999999
      · simp! [b6, e0, isI, gl, h1, h2, decP, Option.isSome_some]
      · simp! [b6, e0, isI, gl, h1, h2, decP, Option.isSome_none, and_false]
    · simp! [b6, e0, isI, gl, h1, decP, Option.isSome_none, false_and]
  | tup l =>
    match l, h, hs with
    | [], h, hs => simp! [b6, e0, isI, decP, dec2, Option.isSome_none]
    | [x], h, hs => simp! [b6, e0, isI, decP, show dec2 es g [x] = none by cases x <;> rfl, Option.isSome_none]
    | x :: y :: z :: r, h, hs =>
      have hl : (((r.length + 1 + 1 + 1 : Nat) : Int) == 2) = false := by simp; omega
      simp! [b6, e0, isI, hl, decP, show dec2 es g (x :: y :: z :: r) = none by cases x <;> cases y <;> rfl, Option.isSome_none]
    | [x, y], h, hs =>
      have hx := (h.mem.1 x (by simp))
      have ex := c0 K x S hx.pl
      cases x with
      | int f =>
        have hin := fun S => in_pair P (callF P (K + 1)) S g f es
        have hd := dec2_R es g f y
        have hdp : decP es g (.tup [.int f, y]) = dec2 es g [.int f, y] := rfl
        rw [hdp, hd]
        by_cases hf : 0 ≤ f ∧ (g, f.toNat) ∈ es
        · have e1 : ((f.toNat : Nat) : Int) = f := by omega
          have e2 := hs f.toNat y (by rw [e1]) hf.2
          rw [e1] at e2
          simp only [hf, and_self, decide_true] at hin
          simp only [hf, and_self, decide_true, Bool.true_and]
          generalize (decR es f.toNat (.tup [.int f, y])).isSome = B at *
          simp! [b6, e0, ex, isI, a1, hin, e2]
        · simp only [hf, decide_false] at hin
          simp only [hf, decide_false, Bool.false_and]
          simp! [b6, e0, ex, isI, a1, hin]
      | ref r => exact (PL_ref hx.pl).elim
      | _ => simp! [b6, e0, ex, isI, decP, dec2, Option.isSome_none]
  | _ => simp! [b6, e0, isI, decP, Option.isSome_none]
theorem c_shapes (m : Nat) : (∀ (k g : Nat) (d : D) (S : Sto), n ≤ g + m → Vz d → callF P (k + 2 * m + 2) 6 [cD n (.tup (es.map pr)), .int g, d] S = .ok (.bl (decP es g d).isSome) S) ∧
    (∀ (k g : Nat) (d : D) (S : Sto), n ≤ g + m → Vz d → callF P (k + 2 * m + 3) 5 [cD n (.tup (es.map pr)), .int g, d] S = .ok (.bl (decR es g d).isSome) S) := by
  have step : ∀ m, (∀ (k g : Nat) (d : D) (S : Sto), n ≤ g + m → Vz d → callF P (k + 2 * m + 2) 6 [cD n (.tup (es.map pr)), .int g, d] S = .ok (.bl (decP es g d).isSome) S) → (∀ (k g : Nat) (d : D) (S : Sto), n ≤ g + m → Vz d → callF P (k + 2 * m + 3) 5 [cD n (.tup (es.map pr)), .int g, d] S = .ok (.bl (decR es g d).isSome) S) := fun m hp k g d S hm h => by
    refine c_shape0 hn hri (k + 2 * m) g d S h fun x hx => hp k g x S hm ?_
    split at hx
    · exact (h.mem.1 _ (by simp)).mem.1 x hx
    · simp at hx
  induction m with
  | zero =>
    have hp : ∀ (k g : Nat) (d : D) (S : Sto), n ≤ g + 0 → Vz d → callF P (k + 2 * 0 + 2) 6 [cD n (.tup (es.map pr)), .int g, d] S = .ok (.bl (decP es g d).isSome) S := fun k g d S hm h => c_part0 hn hri k g d S h fun f y _ he => by
      have := hri _ he
      simp only at this; omega
    exact ⟨hp, step 0 hp⟩
  | succ m ih =>
    have hp : ∀ (k g : Nat) (d : D) (S : Sto), n ≤ g + (m + 1) → Vz d → callF P (k + 2 * (m + 1) + 2) 6 [cD n (.tup (es.map pr)), .int g, d] S = .ok (.bl (decP es g d).isSome) S := fun k g d S hm h => c_part0 hn hri (k + 2 * m + 2) g d S h fun f y _ he => by
      have h2 := hri _ he
      exact ih.2 k f d S (by simp only at h2; omega) h
    exact ⟨hp, step (m + 1) hp⟩
/-- a shape, with fuel enough -/
theorem c_shp (k : Nat) (d : D) (S : Sto) (h : Vz d) : callF P (k + 13) 5 [cD n (.tup (es.map pr)), .int 0, d] S = .ok (.bl (decR es 0 d).isSome) S := (c_shapes hn hri 5).2 k 0 d S (by omega) h
end
end Ck10
end
section
set_option linter.all false
set_option maxRecDepth 100000
set_option maxHeartbeats 4000000
/-! runs within, ticks, sums: the program -/
local macro_rules | `(tactic| simp! [$ls,*]) => `(tactic| ((repeat (first | with_reducible refine Mi.sp_ok ?_ | ((with_reducible refine Mi.sp_ev ?_); show Mi.Run _ _) | ((with_reducible refine Mi.sp_evs ?_); show Mi.Run _ _) | ((with_reducible refine Mi.sp_st ?_); show Mi.Run _ _) | ((with_reducible refine Mi.sp_exs ?_); show Mi.Run _ _) | ((with_reducible refine Mi.sp_walk ?_); show Mi.Run _ _) | ((with_reducible refine Mi.sp_evo ?_); show Mi.Run _ _) | ((with_reducible refine Mi.sp_evc ?_); show Mi.Run _ _) | with_reducible refine Mi.sp_bind ?_ | with_reducible refine Mi.sp_fin ?_ | with_reducible refine Mi.sp_foS ?_ | with_reducible refine Mi.sp_lc ?_ | with_reducible refine Mi.sp_nox ?_ | refine Mi.run_cg (by simp -implicitDefEqProofs only [Mi.nextO_nx, Mi.nextO_rt, Mi.tr_bl, Mi.tr_int, Mi.tr_non, Mi.tr_tup, Mi.tr_lst, Mi.rs_tup, Mi.rs_lst, Mi.rs_int, Mi.rs_bl, Mi.rs_str, Mi.rs_non, Mi.rs_ins, Mi.sq_tup, Mi.sq_lst, Mi.gi_tup, Mi.gi_lst, Mi.ln_tup, Mi.ln_lst, Mi.b_len, Mi.b_sum, Mi.b_tuple, Mi.b_list, Mi.b_all, Mi.b_any, Mi.b_int, Mi.b_max, Mi.b_min, Mi.b_sorted, Mi.b_min2, Mi.b_max2, Mi.tp_tup, Mi.tp_lst, Mi.nt_0, Mi.nt_1, Mi.nt_2, Mi.nt_3, Mi.nt_4, Mi.asT, Mi.asTs, Mi.wipe, Mi.isOf, Mi.Tg.own, Mi.Tgs.own, Mi.lockO, Mi.at0, Mi.at1, Mi.at2, Mi.eqI, Mi.neI, Mi.ltI, Mi.leI, Mi.gtI, Mi.geI, Mi.bin_add, Mi.bin_sub, Mi.still_lst, Mi.still_tup, Mi.lift_some, List.getElem?_cons_zero, List.getElem?_cons_succ, List.set_cons_zero, List.set_cons_succ, List.set_set, List.length_cons, List.length_nil, List.length_set, List.getElem?_set, List.map_cons, List.map_nil, List.append_nil, List.nil_append, List.cons_append, List.isEmpty_nil, List.isEmpty_cons, Option.map_some, Option.bind_some, Option.isSome_none, List.replicate, Nat.reduceAdd, Nat.reduceSub, Nat.reduceLT, if_true, if_false, Bool.false_eq_true, Bool.not_true, Bool.not_false, ite_self, ↓reduceIte, and_self, true_and, and_true, decide_true, decide_false, Bool.and_true, Bool.true_and, Bool.and_false, Bool.false_and, Bool.or_true, Bool.true_or, Bool.or_false, Bool.false_or, Nat.reduceEqDiff, Nat.reduceLeDiff, Mi.nl_f, Mi.nl_t, Int.reduceBEq, Int.reduceAdd, Int.reduceSub, Int.reduceNeg, Int.cast_ofNat_Int, Int.natCast_one, Int.natCast_zero, BEq.rfl, $ls,*]; exact rfl) ?_)); (first | with_reducible refine Mi.run_id ?_ | (try simp -implicitDefEqProofs only [eq_self, and_self, true_and, and_true, Mi.trunc_self, if_true, if_false, Bool.false_eq_true, ↓reduceIte, Bool.and_true, Bool.true_and, Bool.and_false, Bool.false_and, $ls,*]))))
namespace Ck10
open Mi
mutual
theorem toD_data : ∀ t : T, (toD t).data = true
  | .tk _ => rfl
  | .rn g ps => by simp only [toD, D.data, D.datas, toDs_data ps, Bool.and_self]
theorem toDs_data : ∀ ps : List T, D.datas (toDs ps) = true
  | [] => rfl
  | t :: r => by simp only [toDs, D.datas, toD_data t, toDs_data r, Bool.and_self]
end
theorem toDs_len (ps : List T) : (toDs ps).length = ps.length := by simp [toDs_map]
theorem trunc_top (S : Sto) (o : O) (d : D) (h : d.data = true) : trunc S d (S ++ [o]) = S := trunc_app S _ d (data_bel _ d h)
theorem subs_data (ts : List T) : (D.lst (ts.map toD)).data = true := by
  show D.datas (ts.map toD) = true
  rw [← toDs_map]; exact toDs_data ts
theorem ext_top (S : Sto) (xs ys : List D) (h : xs.length + ys.length ≤ 4000) : bmPre .extend (S ++ [.lst xs]) (.ref S.length) = true ∧ bmD .extend (S ++ [.lst xs]) (.ref S.length) [.lst ys] = .ok .non (S ++ [.lst (xs ++ ys)]) := by
  have : xs.length + ys.length ≤ LINE := by unfold LINE; omega
  constructor
  · simp [bmPre, lstOf]
  · simp [bmD, one, extD, lstOf, seqOf, this]
theorem frz_top (S : Sto) (xs : List D) : frzD (S ++ [.lst xs]) (.ref S.length) = .ok (.lst xs) (S ++ [.dead]) := by simp [frzD]
theorem nruL_app (a b : List T) : nruL (a ++ b) = nruL a + nruL b := by
  induction a with
  | nil => simp [nruL]
  | cons x r ih => simp only [List.cons_append, nruL, ih]; omega
theorem subsL_app (a b : List T) : subsL (a ++ b) = subsL a ++ subsL b := by
  induction a with
  | nil => simp [subsL]
  | cons x r ih => simp only [List.cons_append, subsL, ih, List.append_assoc]
theorem c_runs0 (K : Nat) (g : Nat) (ps : List T) (S : Sto) (hn : nruL ps ≤ 3000) (ih : ∀ f qs, T.rn f qs ∈ ps → ∀ S, callF P K 8 [toD (.rn f qs)] S = .ok (.lst ((subs (.rn f qs)).map toD)) S) : callF P (K + 1) 8 [toD (.rn g ps)] S = .ok (.lst ((subs (.rn g ps)).map toD)) S := by
  rw [callF_eq (F := f8) rfl rfl]
  refine run_is.mp ?_
  generalize hR : toD (.rn g ps) = R
  have g1 : ∀ S, getI S R (.int 1) = .ok (.tup (toDs ps)) S := fun S => by rw [← hR]; simp [toD, getI]
  show Run (fin S (exs P (callF P K) b8 [some R, none, none] S)) _
  simp! [b8, g1]
  refine run_forR (fun r e T => ∃ a b, ps = a ++ b ∧ r = toDs b ∧ T = S ++ [.lst ((.rn g ps :: subsL a).map toD)] ∧ e.length = 3 ∧ e[1]? = some (some (.ref S.length))) ?_ ?_ _ _ _ ⟨[], ps, rfl, rfl, by simp [subsL, hR], rfl, rfl⟩
  · rintro x r e T ⟨a, b, rfl, hr, rfl, he, h1⟩
    cases b with
    | nil => simp [toDs] at hr
    | cons p b =>
      simp only [toDs, List.cons.injEq] at hr
      obtain ⟨rfl, rfl⟩ := hr
      cases p with
      | tk i =>
        simp! [q8_0, he, h1, show toD (.tk i) = .int i from rfl]
        exact ⟨_, rfl, a ++ [.tk i], b, by simp, rfl, by simp [subsL_app, subsL, subs], by simp [he], by rw [List.getElem?_set_ne (by omega)]; exact h1⟩
      | rn f qs =>
        have hnq := hn
        simp only [nruL_app, nruL, nru] at hnq
        have e1 := ih f qs (by simp) (S ++ [.lst ((.rn g (a ++ .rn f qs :: b) :: subsL a).map toD)])
        have hsub := nruL_subs a
        have hsq := nru_subs (.rn f qs)
        simp only [nru] at hsq
        obtain ⟨x1, x2⟩ := ext_top S ((.rn g (a ++ .rn f qs :: b) :: subsL a).map toD) ((subs (.rn f qs)).map toD) (by simp; omega)
        have ht : toD (.rn f qs) = .tup [.int f, .tup (toDs qs)] := rfl
        generalize hB : S ++ [O.lst ((T.rn g (a ++ T.rn f qs :: b) :: subsL a).map toD)] = B at *
        have hi : ∀ S, isOf (res S (toD (.rn f qs))) .tuple = some true := fun S => rfl
        generalize toD (.rn f qs) = PT at *
        simp! [q8_0, he, h1, ↓hi, x1, e1, x2]
        refine ⟨_, rfl, a ++ [.rn f qs], b, by simp, rfl, ?_, by simp [he], by rw [List.getElem?_set_ne (by omega)]; exact h1⟩
        simp [subsL_app, subsL]
  · rintro e T ⟨a, b, rfl, hr, rfl, he, h1⟩
    cases b with
    | cons p b => simp [toDs] at hr
    | nil =>
      have htr := trunc_top S .dead _ (subs_data (.rn g a :: subsL a))
      have hL : (subs (.rn g a)).map toD = (T.rn g a :: subsL a).map toD := rfl
      simp only [List.append_nil] at htr ⊢
      rw [hL]
      generalize (T.rn g a :: subsL a).map toD = L at *
      have hf := frz_top S L
      simp! [h1, hf, htr]
theorem nruL_mem : ∀ {ps : List T} {t : T}, t ∈ ps → nru t ≤ nruL ps
  | x :: r, t, h => by
    simp only [nruL]
    rcases List.mem_cons.mp h with rfl | h
    · omega
    · have := nruL_mem h; omega
theorem c_runs (k : Nat) : ∀ (d g : Nat) (ps : List T) (S : Sto), dpL ps ≤ d → nruL ps ≤ 3000 → callF P (k + d + 1) 8 [toD (.rn g ps)] S = .ok (.lst ((subs (.rn g ps)).map toD)) S := by
  intro d
  induction d with
  | zero =>
    intro g ps S hd hn
    refine c_runs0 (k + 0) g ps S hn fun f qs hm => ?_
    have := dpL_mem hm
    simp only [dpT] at this; omega
  | succ d ih =>
    intro g ps S hd hn
    refine c_runs0 (k + (d + 1)) g ps S hn fun f qs hm S => ?_
    have h1 := dpL_mem hm
    have h2 := nruL_mem hm
    simp only [dpT, nru] at h1 h2
    exact ih f qs S (by omega) (by omega)
end Ck10
end
section
set_option linter.all false
set_option maxRecDepth 100000
set_option maxHeartbeats 8000000
namespace Ck10
open Mi
mutual
/-- what may be spoilt: data, its ints not huge, its tuples not long -/
def inp : D → Bool
  | .int i => decide (-(2 ^ 62) < i) && decide (i < 2 ^ 62)
  | .str s => decide (s.length ≤ 50)
  | .non | .bl _ => true
  | .tup xs => decide (xs.length ≤ 64) && inps xs
  | .lst xs => decide (xs.length ≤ 64) && inps xs
  | .ins _ _ _ | .ref _ => false
def inps : List D → Bool
  | [] => true
  | x :: xs => inp x && inps xs
end
theorem inps_mem : ∀ {xs : List D}, inps xs = true → ∀ x ∈ xs, inp x = true
  | _ :: _, h, x, hx => by
    simp only [inps, Bool.and_eq_true] at h
    rcases List.mem_cons.mp hx with rfl | hx
    · exact h.1
    · exact inps_mem h.2 x hx
mutual
theorem inp_nc : ∀ d : D, inp d = true → Nc d.dep d
  | .non, _ | .bl _, _ | .int _, _ => by simp
  | .str s, h => by
    simp only [inp, decide_eq_true_eq] at h
    exact ⟨rfl, Nat.le_refl _, by simp [D.wd]⟩
  | .tup xs, h => by
    simp only [inp, Bool.and_eq_true, decide_eq_true_eq] at h
    have := inps_nc xs h.2
    simp only [D.dep]
    exact Nc.tup this (by omega)
  | .lst xs, h => by
    simp only [inp, Bool.and_eq_true, decide_eq_true_eq] at h
    have := inps_nc xs h.2
    simp only [D.dep]
    exact Nc.lst this (by omega)
  | .ins _ _ _, h => by simp [inp] at h
  | .ref _, h => by simp [inp] at h
theorem inps_nc : ∀ xs : List D, inps xs = true → ∀ x ∈ xs, Nc (D.deps xs) x
  | [], _, x, hx => by simp at hx
  | y :: ys, h, x, hx => by
    simp only [inps, Bool.and_eq_true] at h
    simp only [D.deps]
    rcases List.mem_cons.mp hx with e | hx
    · rw [e]; exact (inp_nc y h.1).up (by omega)
    · exact (inps_nc ys h.2 x hx).up (by omega)
end
def sA : Sts := match b21 with
  | .cons (.cond _ (.cons _ (.cons (.cond _ a _) _)) _) _ => a
  | _ => .nil
def sB : Sts := match b21 with
  | .cons (.cond _ (.cons _ (.cons _ b)) _) _ => b
  | _ => .nil
def sR : Sts := match b21 with
  | .cons _ r => r
  | _ => .nil
theorem b13_eq : b21 = .cons (.cond (.isi (.var 1) .tuple) (.cons (.set 3 (.call 18 (.cons (.var 0) (.cons (.bin .add false (.blt .len false (.cons (.var 1) .nil)) (.cst (.int 1))) .nil)))) (.cons (.cond (.andE (.cmp .ne (.var 1) (.tup .nil)) (.andE (.cmp .gt (.var 2) (.cst (.int 0))) (.cmp .gt (.call 18 (.cons (.var 0) (.cons (.cst (.int 5)) .nil))) (.cst (.int 0))))) sA .nil) sB)) .nil) sR := rfl
theorem log_small {i : Int} (hi : -(2 ^ 62) < i ∧ i < 2 ^ 62) : i.natAbs.log2 < 1920 := by
  by_cases h0 : i.natAbs = 0
  · rw [h0]; decide
  · rw [Nat.log2_lt h0]
    have : i.natAbs < 2 ^ 62 := by omega
    exact Nat.lt_of_lt_of_le this (Nat.pow_le_pow_right (by omega) (by omega))
theorem nc_str (n : Nat) (s : List Nat) : Nc n (.str s) := by simp [Nc, D.data, D.dep, D.wd]
end Ck10
end
section
set_option linter.all false
set_option maxRecDepth 100000
set_option maxHeartbeats 8000000
namespace Ck10
open Mi
/-- a store with a box, then X -/
def Bk (S X T : Sto) : Prop := ∃ g s : Int, 0 ≤ g ∧ 0 ≤ s ∧ T = S ++ (.lst [.int g, .int s] :: X)
theorem Bk.of {S T : Sto} (h : IsBo S T) : Bk S [] T := h
theorem Bk.len {S X T : Sto} (h : Bk S X T) : T.length = S.length + 1 + X.length := by
  obtain ⟨g, s, _, _, rfl⟩ := h
  simp; omega
theorem Bk.get {S X T : Sto} (h : Bk S X T) (i : Nat) : T[S.length + 1 + i]? = X[i]? := by
  obtain ⟨g, s, _, _, rfl⟩ := h
  rw [List.getElem?_append_right (by omega)]
  rw [show S.length + 1 + i - S.length = i + 1 by omega]
  simp
theorem Bk.set {S X T : Sto} (h : Bk S X T) (i : Nat) (o : O) : Bk S (X.set i o) (T.set (S.length + 1 + i) o) := by
  obtain ⟨g, s, hg, hs, rfl⟩ := h
  refine ⟨g, s, hg, hs, ?_⟩
  rw [List.set_append_right _ _ (by omega)]
  rw [show S.length + 1 + i - S.length = i + 1 by omega]
  simp
theorem Bk.push {S X T : Sto} (h : Bk S X T) (o : O) : Bk S (X ++ [o]) (T ++ [o]) := by
  obtain ⟨g, s, hg, hs, rfl⟩ := h
  exact ⟨g, s, hg, hs, by simp⟩
theorem Bk.trunc {S X T : Sto} (h : Bk S X T) {d : D} (hd : d.bel S.length = true) : Mi.trunc S d T = S := by
  obtain ⟨g, s, _, _, rfl⟩ := h
  exact trunc_app S _ d hd
theorem k15 (k : Nat) (m : Int) {S X T : Sto} (h : Bk S X T) (h0 : 0 < m) (h1 : m < 1073741824) : ∃ t T', 0 ≤ t ∧ t < m ∧ Bk S X T' ∧ callF P (k + 1) 18 [.ref S.length, .int m] T = .ok (.int t) T' := by
  obtain ⟨g, s, hg, hs, rfl⟩ := h
  obtain ⟨t, g', s', a1, a2, a3, a4, e⟩ := c15 k S.length m (S ++ (.lst [.int g, .int s] :: X)) ⟨g, s, hg, hs, by simp⟩ h0 h1
  refine ⟨t, _, a1, a2, ⟨g', s', a3, a4, ?_⟩, e⟩
  simp
theorem mem_set_of {fs : List Int} {i : Nat} {x : Int} {Q : Int → Prop} (h : ∀ y ∈ fs, Q y) (hx : Q x) : ∀ y ∈ fs.set i x, Q y := fun y hy => by
  rcases List.mem_or_eq_of_mem_set hy with hy | rfl
  · exact h y hy
  · exact hx
/-- numbers of ticks -/
def Tq (y : Int) : Prop := 0 ≤ y ∧ y < 1000000
end Ck10
end
section
set_option linter.all false
set_option maxRecDepth 100000
set_option maxHeartbeats 4000000
/-! ticks, sums: the program -/
local macro_rules | `(tactic| simp! [$ls,*]) => `(tactic| ((repeat (first | with_reducible refine Mi.sp_ok ?_ | ((with_reducible refine Mi.sp_ev ?_); show Mi.Run _ _) | ((with_reducible refine Mi.sp_evs ?_); show Mi.Run _ _) | ((with_reducible refine Mi.sp_st ?_); show Mi.Run _ _) | ((with_reducible refine Mi.sp_exs ?_); show Mi.Run _ _) | ((with_reducible refine Mi.sp_walk ?_); show Mi.Run _ _) | ((with_reducible refine Mi.sp_evo ?_); show Mi.Run _ _) | ((with_reducible refine Mi.sp_evc ?_); show Mi.Run _ _) | with_reducible refine Mi.sp_bind ?_ | with_reducible refine Mi.sp_fin ?_ | with_reducible refine Mi.sp_foS ?_ | with_reducible refine Mi.sp_lc ?_ | with_reducible refine Mi.sp_nox ?_ | refine Mi.run_cg (by simp -implicitDefEqProofs only [Mi.nextO_nx, Mi.nextO_rt, Mi.tr_bl, Mi.tr_int, Mi.tr_non, Mi.tr_tup, Mi.tr_lst, Mi.rs_tup, Mi.rs_lst, Mi.rs_int, Mi.rs_bl, Mi.rs_str, Mi.rs_non, Mi.rs_ins, Mi.sq_tup, Mi.sq_lst, Mi.gi_tup, Mi.gi_lst, Mi.ln_tup, Mi.ln_lst, Mi.b_len, Mi.b_sum, Mi.b_tuple, Mi.b_list, Mi.b_all, Mi.b_any, Mi.b_int, Mi.b_max, Mi.b_min, Mi.b_sorted, Mi.b_min2, Mi.b_max2, Mi.tp_tup, Mi.tp_lst, Mi.nt_0, Mi.nt_1, Mi.nt_2, Mi.nt_3, Mi.nt_4, Mi.asT, Mi.asTs, Mi.wipe, Mi.isOf, Mi.Tg.own, Mi.Tgs.own, Mi.lockO, Mi.at0, Mi.at1, Mi.at2, Mi.eqI, Mi.neI, Mi.ltI, Mi.leI, Mi.gtI, Mi.geI, Mi.bin_add, Mi.bin_sub, Mi.still_lst, Mi.still_tup, Mi.lift_some, List.getElem?_cons_zero, List.getElem?_cons_succ, List.set_cons_zero, List.set_cons_succ, List.set_set, List.length_cons, List.length_nil, List.length_set, List.getElem?_set, List.map_cons, List.map_nil, List.append_nil, List.nil_append, List.cons_append, List.isEmpty_nil, List.isEmpty_cons, Option.map_some, Option.bind_some, Option.isSome_none, List.replicate, Nat.reduceAdd, Nat.reduceSub, Nat.reduceLT, if_true, if_false, Bool.false_eq_true, Bool.not_true, Bool.not_false, ite_self, ↓reduceIte, and_self, true_and, and_true, decide_true, decide_false, Bool.and_true, Bool.true_and, Bool.and_false, Bool.false_and, Bool.or_true, Bool.true_or, Bool.or_false, Bool.false_or, Nat.reduceEqDiff, Nat.reduceLeDiff, Mi.nl_f, Mi.nl_t, Int.reduceBEq, Int.reduceAdd, Int.reduceSub, Int.reduceNeg, Int.cast_ofNat_Int, Int.natCast_one, Int.natCast_zero, BEq.rfl, $ls,*]; exact rfl) ?_)); (first | with_reducible refine Mi.run_id ?_ | (try simp -implicitDefEqProofs only [eq_self, and_self, true_and, and_true, Mi.trunc_self, if_true, if_false, Bool.false_eq_true, ↓reduceIte, Bool.and_true, Bool.true_and, Bool.and_false, Bool.false_and, $ls,*]))))
namespace Ck10
open Mi
/-- the ticks that stand there -/
def dirL : List T → List Int
  | [] => []
  | .tk i :: r => i :: dirL r
  | .rn _ _ :: r => dirL r
theorem dirL_sum : ∀ ps : List T, (dirL ps).sum = dir ps
  | [] => rfl
  | .tk i :: r => by simp [dirL, dir, dirL_sum r]
  | .rn _ _ :: r => by simp [dirL, dir, dirL_sum r]
theorem dirL_len : ∀ ps : List T, (dirL ps).length ≤ ps.length
  | [] => by simp [dirL]
  | .tk i :: r => by have := dirL_len r; simp [dirL]; omega
  | .rn _ _ :: r => by have := dirL_len r; simp [dirL]; omega
theorem dirL_fm : ∀ ps : List T, (ps.filterMap fun t => if isI (toD t) = true then some (toD t) else none) = (dirL ps).map D.int
  | [] => rfl
  | .tk i :: r => by simpa [dirL, toD, isI] using dirL_fm r
  | .rn _ _ :: r => by simpa [dirL, toD, isI] using dirL_fm r
theorem mapRR_map {α : Type} (a : α → D) (f : α → List D) {g : D → Sto → Res (List D)} {ck : Sto → Bool} {S : Sto} (hk : ck S = true) (xs : List α) (h : ∀ x ∈ xs, g (a x) S = .ok (f x) S) : mapRR g ck (xs.map a) S = .ok (xs.flatMap f) S := by
  induction xs with
  | nil => rfl
  | cons x r ih =>
    have ih := ih fun y hy => h y (List.mem_cons_of_mem _ hy)
    simp only [List.map_cons, mapRR, h x List.mem_cons_self, res_ok, hk, if_true, ih, List.flatMap_cons]
theorem ev_comp2 {P : Pg} {call : Nat → List D → Sto → Res D} {α : Type} {x : Ex} {t t2 : Tg} {it it2 : It} {cs cs2 : Exs} {e : Env} {S : Sto} {ck : Sto → Bool} {xs : List α} (a : α → D) (f : α → List D) (hw : walk P call it e S = .ok ⟨ck, xs.map a, none⟩ S) (hk : ck S = true)
    (h : ∀ x' ∈ xs, lc2Step t t2 e (evc P call cs) (walk P call it2) (evc P call cs2) (ev P call x) (a x') S = .ok (f x') S) (hl : (xs.flatMap f).length ≤ LINE) : ev P call (.comp2 false x t it cs t2 it2 cs2) e S = .ok (.lst (xs.flatMap f)) S := by
  rw [ev.eq_26, hw]
  simp only [res_ok, lockO]
  rw [mapRR_map a f hk xs h]
  simp only [nox_ok, res_ok, newL, hl, if_true, Bool.false_eq_true, if_false]
/-- what a comprehension over parts gives: the ticks that stand there -/
theorem parts_int {call : Nat → List D → Sto → Res D} {S : Sto} (ps : List T) (g : D → Sto → Res (Option D)) (hg : ∀ t ∈ ps, g (toD t) S = .ok (if isI (toD t) = true then some (toD t) else none) S) : mapR g (fun _ => true) (toDs ps) S = .ok ((dirL ps).map D.int) S := by
  rw [toDs_map, mapR_map toD (fun t => if isI (toD t) = true then some (toD t) else none) rfl ps hg, dirL_fm]
theorem len_flat {α : Type} (f : α → Int) (g : α → List D) (h : ∀ x, ((g x).length : Int) ≤ f x) : ∀ xs : List α, ((xs.flatMap g).length : Int) ≤ sumL f xs
  | [] => by simp [sumL]
  | x :: r => by
    have := len_flat f g h r
    have := h x
    simp only [List.flatMap_cons, List.length_append, Int.natCast_add, sumL_cons]; omega
theorem flat_int {α : Type} (g : α → List Int) (xs : List α) : xs.flatMap (fun x => (g x).map D.int) = (xs.flatMap g).map D.int := by
  induction xs with
  | nil => rfl
  | cons x r ih => simp [ih]
theorem flat_sum {α : Type} (g : α → List Int) : ∀ xs : List α, (xs.flatMap g).sum = sumL (fun x => (g x).sum) xs
  | [] => rfl
  | x :: r => by simp only [List.flatMap_cons, List.sum_append, flat_sum g r, sumL_cons]
theorem subs_rn {g : Nat} {ps : List T} : ∀ s ∈ subs (.rn g ps), ∃ f qs, s = .rn f qs := by
  have h : ∀ (t : T), ∀ s ∈ subs t, ∃ f qs, s = T.rn f qs := by
    intro t
    exact T.rec (motive_1 := fun t => ∀ s ∈ subs t, ∃ f qs, s = T.rn f qs) (motive_2 := fun ps => ∀ s ∈ subsL ps, ∃ f qs, s = T.rn f qs)
      (fun i s hs => by simp [subs] at hs)
      (fun g ps ih s hs => by
        simp only [subs] at hs
        rcases List.mem_cons.mp hs with rfl | hs
        · exact ⟨_, _, rfl⟩
        · exact ih s hs)
      (fun s hs => by simp [subsL] at hs)
      (fun t r h1 h2 s hs => by
        simp only [subsL] at hs
        rcases List.mem_append.mp hs with hs | hs
        · exact h1 s hs
        · exact h2 s hs) t
  exact h _
theorem sumD_ints (S : Sto) (ls : List Int) : sumD S (.lst (ls.map D.int)) = .ok (.int ls.sum) S := by simp only [sumD, seqOf, Option.bind_some, intsOf_map]
theorem c_ticks (k d g : Nat) (ps : List T) (S : Sto) (hd : dpL ps ≤ d) (hn : nru (.rn g ps) + npa (.rn g ps) ≤ 3000) : callF P (k + d + 2) 9 [toD (.rn g ps)] S = .ok (.int (tksL ps)) S := by
  have e10 := c_runs k d g ps S hd (by simp only [nru] at hn; omega)
  have e0 := fun (d' : D) (S : Sto) (h : PL d') => c0 (k + d) d' S h
  rw [callF_eq (F := f9) rfl rfl]
  refine run_is.mp ?_
  show Run (fin S (exs P (callF P (k + d + 1)) b9 [some (toD (.rn g ps)), none, none] S)) _
  have hlen : ((subs (.rn g ps)).flatMap fun s => (dirL (rp s)).map D.int).length ≤ LINE := by
    have h1 := len_flat (fun s => ((rp s).length : Int)) (fun s => (dirL (rp s)).map D.int) (fun s => by have := dirL_len (rp s); simp; omega) (subs (.rn g ps))
    have h2 := npa_subs (.rn g ps)
    unfold LINE; omega
  have hc : ev P (callF P (k + d + 1)) (.comp2 false x9_0 (.var 1) (.seq (.call 8 (.cons (.var 0) .nil))) .nil (.var 2) (.seq (.idx (.var 1) (.cst (.int 1)))) y9_1) [some (toD (.rn g ps)), none, none] S = .ok (.lst ((subs (.rn g ps)).flatMap fun s => (dirL (rp s)).map D.int)) S := by
    refine ev_comp2 toD _ (ck := fun _ => true) ?_ rfl (fun s hs => ?_) hlen
    · refine run_is.mp ?_
      generalize toD (.rn g ps) = R at *
      simp! [e10]
    · obtain ⟨f, qs, rfl⟩ := subs_rn s hs
      have gq : ∀ S, getI S (toD (.rn f qs)) (.int 1) = .ok (.tup (toDs qs)) S := fun S => by simp [toD, getI]
      generalize hX : toD (.rn f qs) = X at *
      have hm := parts_int (call := callF P (k + d + 1)) qs (lcStep (.var 2) [2] [some (toD (.rn g ps)), some X, none] (evc P (callF P (k + d + 1)) y9_1) (ev P (callF P (k + d + 1)) x9_0)) (S := S) (fun t ht => by
        have e0' := e0 (toD t) S (data_pl (toD_data t))
        refine run_is.mp ?_
        cases h : isI (toD t)
        · rw [h] at e0'
          simp! [y9_1, x9_0, e0']
        · rw [h] at e0'
          simp! [y9_1, x9_0, e0'])
      refine run_is.mp ?_
      unfold lc2Step
      simp! [gq, hm, rp_rn]
  have hs := fun S => sumD_ints S ((subs (.rn g ps)).flatMap fun s => dirL (rp s))
  rw [flat_int] at hc
  have hv : ((subs (.rn g ps)).flatMap fun s => dirL (rp s)).sum = tksL ps := by
    rw [flat_sum]
    have := tks_subs (.rn g ps)
    simp only at this
    rw [← this]
    simp only [dirL_sum]
  rw [hv] at hs
  simp! [b9, hc, hs]
end Ck10
end
section
set_option linter.all false
set_option maxRecDepth 100000
set_option maxHeartbeats 4000000
/-! own ticks, whole ticks, what passes: the program -/
local macro_rules | `(tactic| simp! [$ls,*]) => `(tactic| ((repeat (first | with_reducible refine Mi.sp_ok ?_ | ((with_reducible refine Mi.sp_ev ?_); show Mi.Run _ _) | ((with_reducible refine Mi.sp_evs ?_); show Mi.Run _ _) | ((with_reducible refine Mi.sp_st ?_); show Mi.Run _ _) | ((with_reducible refine Mi.sp_exs ?_); show Mi.Run _ _) | ((with_reducible refine Mi.sp_walk ?_); show Mi.Run _ _) | ((with_reducible refine Mi.sp_evo ?_); show Mi.Run _ _) | ((with_reducible refine Mi.sp_evc ?_); show Mi.Run _ _) | with_reducible refine Mi.sp_bind ?_ | with_reducible refine Mi.sp_fin ?_ | with_reducible refine Mi.sp_foS ?_ | with_reducible refine Mi.sp_lc ?_ | with_reducible refine Mi.sp_nox ?_ | refine Mi.run_cg (by simp -implicitDefEqProofs only [Mi.nextO_nx, Mi.nextO_rt, Mi.tr_bl, Mi.tr_int, Mi.tr_non, Mi.tr_tup, Mi.tr_lst, Mi.rs_tup, Mi.rs_lst, Mi.rs_int, Mi.rs_bl, Mi.rs_str, Mi.rs_non, Mi.rs_ins, Mi.sq_tup, Mi.sq_lst, Mi.gi_tup, Mi.gi_lst, Mi.ln_tup, Mi.ln_lst, Mi.b_len, Mi.b_sum, Mi.b_tuple, Mi.b_list, Mi.b_all, Mi.b_any, Mi.b_int, Mi.b_max, Mi.b_min, Mi.b_sorted, Mi.b_min2, Mi.b_max2, Mi.tp_tup, Mi.tp_lst, Mi.nt_0, Mi.nt_1, Mi.nt_2, Mi.nt_3, Mi.nt_4, Mi.asT, Mi.asTs, Mi.wipe, Mi.isOf, Mi.Tg.own, Mi.Tgs.own, Mi.lockO, Mi.at0, Mi.at1, Mi.at2, Mi.eqI, Mi.neI, Mi.ltI, Mi.leI, Mi.gtI, Mi.geI, Mi.bin_add, Mi.bin_sub, Mi.still_lst, Mi.still_tup, Mi.lift_some, List.getElem?_cons_zero, List.getElem?_cons_succ, List.set_cons_zero, List.set_cons_succ, List.set_set, List.length_cons, List.length_nil, List.length_set, List.getElem?_set, List.map_cons, List.map_nil, List.append_nil, List.nil_append, List.cons_append, List.isEmpty_nil, List.isEmpty_cons, Option.map_some, Option.bind_some, Option.isSome_none, List.replicate, Nat.reduceAdd, Nat.reduceSub, Nat.reduceLT, if_true, if_false, Bool.false_eq_true, Bool.not_true, Bool.not_false, ite_self, ↓reduceIte, and_self, true_and, and_true, decide_true, decide_false, Bool.and_true, Bool.true_and, Bool.and_false, Bool.false_and, Bool.or_true, Bool.true_or, Bool.or_false, Bool.false_or, Nat.reduceEqDiff, Nat.reduceLeDiff, Mi.nl_f, Mi.nl_t, Int.reduceBEq, Int.reduceAdd, Int.reduceSub, Int.reduceNeg, Int.cast_ofNat_Int, Int.natCast_one, Int.natCast_zero, BEq.rfl, $ls,*]; exact rfl) ?_)); (first | with_reducible refine Mi.run_id ?_ | (try simp -implicitDefEqProofs only [eq_self, and_self, true_and, and_true, Mi.trunc_self, if_true, if_false, Bool.false_eq_true, ↓reduceIte, Bool.and_true, Bool.true_and, Bool.and_false, Bool.false_and, $ls,*]))))
namespace Ck10
open Mi
/-- a row told by a function -/
def rowF (n : Nat) (F : Nat → Int) : List Int := (List.range n).map F
theorem rowF_len (n : Nat) (F : Nat → Int) : (rowF n F).length = n := by simp [rowF]
/-- a run's facts -/
structure RunF (n : Nat) (es : List (Nat × Nat)) (ps : List T) : Prop where
  n1 : 1 ≤ n
  n5 : n ≤ 5
  ri : ∀ e ∈ es, e.1 < e.2 ∧ e.2 < n
  ok : okps es 0 ps
  sz : nru (.rn 0 ps) + npa (.rn 0 ps) ≤ 3000
end Ck10
end
section
set_option linter.all false
set_option maxRecDepth 100000
set_option maxHeartbeats 4000000
/-! whole ticks, what passes, whether it is a run: the program -/
namespace Ck10
open Mi
/-- a dict of edges -/
def tabF (es : List (Nat × Nat)) (F : Nat × Nat → Int) : List (D × D) := es.map fun e => (pr e, .int (F e))
end Ck10
end
section
set_option linter.all false
set_option maxRecDepth 100000
set_option maxHeartbeats 4000000
/-! runs: what the program's functions tell -/
local macro_rules | `(tactic| simp! [$ls,*]) => `(tactic| ((repeat (first | with_reducible refine Mi.sp_ok ?_ | ((with_reducible refine Mi.sp_ev ?_); show Mi.Run _ _) | ((with_reducible refine Mi.sp_evs ?_); show Mi.Run _ _) | ((with_reducible refine Mi.sp_st ?_); show Mi.Run _ _) | ((with_reducible refine Mi.sp_exs ?_); show Mi.Run _ _) | ((with_reducible refine Mi.sp_walk ?_); show Mi.Run _ _) | ((with_reducible refine Mi.sp_evo ?_); show Mi.Run _ _) | ((with_reducible refine Mi.sp_evc ?_); show Mi.Run _ _) | with_reducible refine Mi.sp_bind ?_ | with_reducible refine Mi.sp_fin ?_ | with_reducible refine Mi.sp_foS ?_ | with_reducible refine Mi.sp_lc ?_ | with_reducible refine Mi.sp_nox ?_ | refine Mi.run_cg (by simp -implicitDefEqProofs only [Mi.nextO_nx, Mi.nextO_rt, Mi.tr_bl, Mi.tr_int, Mi.tr_non, Mi.tr_tup, Mi.tr_lst, Mi.rs_tup, Mi.rs_lst, Mi.rs_int, Mi.rs_bl, Mi.rs_str, Mi.rs_non, Mi.rs_ins, Mi.sq_tup, Mi.sq_lst, Mi.gi_tup, Mi.gi_lst, Mi.ln_tup, Mi.ln_lst, Mi.b_len, Mi.b_sum, Mi.b_tuple, Mi.b_list, Mi.b_all, Mi.b_any, Mi.b_int, Mi.b_max, Mi.b_min, Mi.b_sorted, Mi.b_min2, Mi.b_max2, Mi.tp_tup, Mi.tp_lst, Mi.nt_0, Mi.nt_1, Mi.nt_2, Mi.nt_3, Mi.nt_4, Mi.asT, Mi.asTs, Mi.wipe, Mi.isOf, Mi.Tg.own, Mi.Tgs.own, Mi.lockO, Mi.at0, Mi.at1, Mi.at2, Mi.eqI, Mi.neI, Mi.ltI, Mi.leI, Mi.gtI, Mi.geI, Mi.bin_add, Mi.bin_sub, Mi.still_lst, Mi.still_tup, Mi.lift_some, List.getElem?_cons_zero, List.getElem?_cons_succ, List.set_cons_zero, List.set_cons_succ, List.set_set, List.length_cons, List.length_nil, List.length_set, List.getElem?_set, List.map_cons, List.map_nil, List.append_nil, List.nil_append, List.cons_append, List.isEmpty_nil, List.isEmpty_cons, Option.map_some, Option.bind_some, Option.isSome_none, List.replicate, Nat.reduceAdd, Nat.reduceSub, Nat.reduceLT, if_true, if_false, Bool.false_eq_true, Bool.not_true, Bool.not_false, ite_self, ↓reduceIte, and_self, true_and, and_true, decide_true, decide_false, Bool.and_true, Bool.true_and, Bool.and_false, Bool.false_and, Bool.or_true, Bool.true_or, Bool.or_false, Bool.false_or, Nat.reduceEqDiff, Nat.reduceLeDiff, Mi.nl_f, Mi.nl_t, Int.reduceBEq, Int.reduceAdd, Int.reduceSub, Int.reduceNeg, Int.cast_ofNat_Int, Int.natCast_one, Int.natCast_zero, BEq.rfl, $ls,*]; exact rfl) ?_)); (first | with_reducible refine Mi.run_id ?_ | (try simp -implicitDefEqProofs only [eq_self, and_self, true_and, and_true, Mi.trunc_self, if_true, if_false, Bool.false_eq_true, ↓reduceIte, Bool.and_true, Bool.true_and, Bool.and_false, Bool.false_and, $ls,*]))))
namespace Ck10
open Mi
section
variable {n : Nat} {es : List (Nat × Nat)} (hn1 : 1 ≤ n) (hn : n ≤ 5) (hri : ∀ e ∈ es, e.1 < e.2 ∧ e.2 < n)
include hn1 hn hri
theorem runF_of {d : D} (h : Vz d) {t : T} (ht : decR es 0 d = some t) : ∃ ps, t = .rn 0 ps ∧ toD (.rn 0 ps) = d ∧ RunF n es ps := by
  obtain ⟨ps, rfl, h1, h2⟩ := decR_ok ht
  refine ⟨ps, rfl, h1, hn1, hn, hri, h2, ?_⟩
  have := nru_sz (.rn 0 ps)
  have hz := h.z
  rw [← h1] at hz
  omega
theorem c_isrun (k : Nat) (d : D) (S : Sto) (h : Vz d) : callF P (k + 15) 10 [cD n (.tup (es.map pr)), d] S = .ok (.bl (runB es d)) S := by
  have key : callF P (k + 14) 7 [cD n (.tup (es.map pr)), d] S = .ok (.bl (runB es d)) S := by
    have es0 := c_shp hn hri k d S h
    rw [callF_eq (F := f7) rfl rfl]
    refine run_is.mp ?_
    cases hd : decR es 0 d with
    | none =>
      have hb : runB es d = false := by simp [runB, hd]
      rw [hb]
      simp only [hd, Option.isSome_none] at es0
      generalize cD n (.tup (es.map pr)) = C at *
      show Run (fin S (exs P (callF P (k + 13)) b7 [some C, some d, none, none] S)) _
      simp! [b7, es0]
    | some t =>
      obtain ⟨ps, rfl, rfl, hF⟩ := runF_of hn1 hn hri h hd
      simp only [hd, Option.isSome_some] at es0
      have hb : runB es (toD (.rn 0 ps)) = (decide (nru (.rn 0 ps) ≤ 200) && decide (npa (.rn 0 ps) ≤ 400) && decide (tksL ps ≤ 999999)) := by simp only [runB, hd, tks]; try rfl
      rw [hb]
      have hdl := dpL_le hri 0 ps hF.ok
      have hz := hF.sz
      have e10 : ∀ S, callF P (k + 13) 8 [toD (.rn 0 ps)] S = .ok (.lst ((subs (.rn 0 ps)).map toD)) S := fun S => c_runs (k + 7) 5 0 ps S (by omega) (by simp only [nru] at hz; omega)
      have e11 : ∀ S, callF P (k + 13) 9 [toD (.rn 0 ps)] S = .ok (.int (tksL ps)) S := fun S => c_ticks (k + 6) 5 0 ps S (by omega) hz
      have hns := nru_subs (.rn 0 ps)
      have hnp := npa_subs (.rn 0 ps)
      generalize cD n (.tup (es.map pr)) = C at *
      generalize hR : toD (.rn 0 ps) = R at *
      show Run (fin S (exs P (callF P (k + 13)) b7 [some C, some R, none, none] S)) _
      have hL : (subs (.rn 0 ps)).length ≤ 3000 := by omega
      have hcomp : ∀ (e : Env) T, e.length = 4 → e[2]? = some (some (.lst ((subs (.rn 0 ps)).map toD))) → ev P (callF P (k + 13)) (.comp false x7_0 (.var 3) (.seq (.var 2)) .nil) e T = .ok (.lst (((subs (.rn 0 ps)).map fun s => ((rp s).length : Int)).map D.int)) T := fun e T he h2 => by
        have := ev_compG P (callF P (k + 13)) (cs := .nil) (t := .var 3) (x := x7_0) (it := .seq (.var 2)) (e := e) (S := T) (ck := fun _ => true) (xs := subs (.rn 0 ps)) toD (fun s => .int ((rp s).length : Int)) (by
          refine run_is.mp ?_
          simp! [h2]) rfl (fun s hs => by
          obtain ⟨f, qs, rfl⟩ := subs_rn s hs
          have gq : ∀ S, getI S (toD (.rn f qs)) (.int 1) = .ok (.tup (toDs qs)) S := fun S => by simp [toD, getI]
          generalize toD (.rn f qs) = X at *
          refine run_is.mp ?_
          simp! [x7_0, he, gq, toDs_len, rp_rn]) (by omega)
        rw [this, List.map_map]; rfl
      have hs : ∀ T, sumD T (.lst (((subs (.rn 0 ps)).map fun s => ((rp s).length : Int)).map D.int)) = .ok (.int (npa (.rn 0 ps))) T := fun T => by
        rw [sumD_ints, hnp]; rfl
      have gl0 : P.glob 0 = some (.int 200) := rfl
      have gl1 : P.glob 1 = some (.int 400) := rfl
      have gl2 : P.glob 2 = some (.int 999999) := rfl
      have ln : ∀ T, lenD T (.lst ((subs (.rn 0 ps)).map toD)) = .ok (.int (nru (.rn 0 ps))) T := fun T => by
        rw [ln_lst, List.length_map, hns]
      have hc1 := hcomp [some C, some R, some (.lst ((subs (.rn 0 ps)).map toD)), none] S rfl rfl
      by_cases q1 : nru (.rn 0 ps) ≤ 200
      · have q1' : ¬ (200 : Int) < (nru (.rn 0 ps) : Int) := by omega
        by_cases q2 : npa (.rn 0 ps) ≤ 400
        · have q2' : ¬ (400 : Int) < (npa (.rn 0 ps) : Int) := by omega
          simp! [b7, es0, e10, ↓ln, gl0, q1', hc1, hs, gl1, q2', e11, gl2, decide_eq_true q1, decide_eq_true q2]
        · have q2' : (400 : Int) < (npa (.rn 0 ps) : Int) := by omega
          simp! [b7, es0, e10, ↓ln, gl0, q1', hc1, hs, gl1, q2', decide_eq_true q1, decide_eq_false q2]
      · have q1' : (200 : Int) < (nru (.rn 0 ps) : Int) := by omega
        simp! [b7, es0, e10, ↓ln, gl0, q1', decide_eq_false q1]
  rw [callF_eq (F := f10) rfl rfl]
  refine run_is.mp ?_
  generalize cD n (.tup (es.map pr)) = C at *
  show Run (fin S (exs P (callF P (k + 14)) b10 [some C, some d] S)) _
  simp! [b10, key]
theorem c_need (k : Nat) (d : D) (S : Sto) (h : Vz d) : callF P (k + 16) 11 [cD n (.tup (es.map pr)), d] S = if runB es d then .ok .non S else .exc 3 d S := by
  have e := c_isrun hn1 hn hri k d S h
  rw [callF_eq (F := f11) rfl rfl]
  cases hb : runB es d with
  | true =>
    rw [hb] at e
    simp -implicitDefEqProofs [f11, b11, exs, ex1, ev, evs, e, truR, truth, fin]
  | false =>
    rw [hb] at e
    simp -implicitDefEqProofs [f11, b11, exs, ex1, ev, evs, e, truR, truth, fin]
theorem runF_is {d : D} (h : Vz d) (hb : runB es d = true) : ∃ ps, toD (.rn 0 ps) = d ∧ RunF n es ps ∧ IsRun es (.rn 0 ps) := by
  obtain ⟨t, rfl, h2⟩ := runB_ok hb
  obtain ⟨⟨ps, rfl, h1⟩, a, b, c⟩ := h2
  refine ⟨ps, rfl, ⟨hn1, hn, hri, h1, ?_⟩, ⟨ps, rfl, h1⟩, a, b, c⟩
  omega
end
end Ck10
end
section
set_option linter.all false
set_option maxRecDepth 100000
set_option maxHeartbeats 4000000
/-! runs and profiles: the program -/
namespace Ck10
open Mi
mutual
theorem tks_pos {es : List (Nat × Nat)} : ∀ (g : Nat) (t : T), okp es g t → 0 ≤ tks t
  | g, .tk i, h => by simp only [okp] at h; simp only [tks]; omega
  | g, .rn f ps, h => by simp only [okp] at h; simp only [tks]; exact tksL_pos f ps h.2
theorem tksL_pos {es : List (Nat × Nat)} : ∀ (g : Nat) (ps : List T), okps es g ps → 0 ≤ tksL ps
  | _, [], _ => by simp [tksL]
  | g, t :: r, h => by
    simp only [okps] at h
    have := tks_pos g t h.1
    have := tksL_pos g r h.2
    simp only [tksL]; omega
end
theorem dir_le {es : List (Nat × Nat)} {g : Nat} : ∀ {ps : List T}, okps es g ps → 0 ≤ dir ps ∧ dir ps ≤ tksL ps
  | [], _ => by simp [dir, tksL]
  | .tk i :: r, h => by
    simp only [okps, okp] at h
    have := dir_le h.2
    simp only [dir, tksL, tks]; omega
  | .rn f qs :: r, h => by
    simp only [okps, okp] at h
    have := dir_le h.2
    have := tksL_pos f qs h.1.2
    simp only [dir, tksL, tks]; omega
mutual
theorem own_le {es : List (Nat × Nat)} (f : Nat) : ∀ (g : Nat) (t : T), okp es g t → 0 ≤ ownT f t ∧ ownT f t ≤ tks t
  | g, .tk i, h => by simp only [okp] at h; simp only [ownT, tks]; omega
  | g, .rn x ps, h => by
    simp only [okp] at h
    have h1 := ownD_le f x ps h.2
    have h2 := dir_le h.2
    simp only [ownT, tks]
    split <;> omega
theorem ownD_le {es : List (Nat × Nat)} (f : Nat) : ∀ (g : Nat) (ps : List T), okps es g ps → 0 ≤ ownL f ps ∧ ownL f ps + dir ps ≤ tksL ps
  | _, [], _ => by simp [ownL, dir, tksL]
  | g, .tk i :: r, h => by
    simp only [okps, okp] at h
    have := ownD_le f g r h.2
    simp only [ownL, ownT, dir, tksL, tks]; omega
  | g, .rn x qs :: r, h => by
    simp only [okps] at h
    have h1 := own_le f g (.rn x qs) h.1
    have h2 := ownD_le f g r h.2
    simp only [ownL, dir, tksL]; omega
end
section
variable {n : Nat} {es : List (Nat × Nat)} (hri : ∀ e ∈ es, e.1 < e.2 ∧ e.2 < n)
include hri
theorem IsRun.own {t : T} (h : IsRun es t) : Tk (rowF n fun g => ownT g t) n := by
  obtain ⟨⟨ps, rfl, h1⟩, _, _, h4⟩ := h
  refine ⟨rowF_len _ _, fun y hy => ?_⟩
  obtain ⟨g, _, rfl⟩ := List.mem_map.mp hy
  have h2 := ownD_le g 0 ps h1
  have h3 := dir_le h1
  simp only [tks] at h4
  simp only [ownT]
  split <;> omega
end
end Ck10
end
section
set_option linter.all false
set_option maxRecDepth 100000
/-! how many runs, ticks, parts; none of what is no run -/
namespace Mi
abbrev W3 := Option (Int × Int × Int)
def addW : W3 → W3 → W3
  | some a, some b => some (a.1 + b.1, a.2.1 + b.2.1, a.2.2 + b.2.2)
  | _, _ => none
theorem addW_none (a : W3) : addW a none = none := by cases a <;> rfl
theorem none_addW (a : W3) : addW none a = none := rfl
theorem addW_zero (a : W3) : addW a (some (0, 0, 0)) = a := by
  rcases a with _ | ⟨a, b, c⟩ <;> simp [addW]
theorem addW_assoc (a b c : W3) : addW (addW a b) c = addW a (addW b c) := by
  rcases a with _ | ⟨a1, a2, a3⟩
  · rfl
  rcases b with _ | ⟨b1, b2, b3⟩
  · rfl
  rcases c with _ | ⟨c1, c2, c3⟩
  · rfl
  simp only [addW, Option.some.injEq, Prod.mk.injEq]
  omega
theorem addW_comm (a b : W3) : addW a b = addW b a := by
  rcases a with _ | ⟨a1, a2, a3⟩ <;> rcases b with _ | ⟨b1, b2, b3⟩ <;> simp only [addW, Option.some.injEq, Prod.mk.injEq]
  omega
def okW : W3 → Bool
  | some a => decide (a.1 ≤ 200) && decide (a.2.1 ≤ 999999) && decide (a.2.2 ≤ 400)
  | none => false
def vT (t : T) : Int × Int × Int := (nru t, tks t, npa t)
def vR (es : List (Nat × Nat)) (g : Nat) (d : D) : W3 := (decR es g d).map vT
def vP (es : List (Nat × Nat)) (g : Nat) (d : D) : W3 := (decP es g d).map vT
def vPs (es : List (Nat × Nat)) (g : Nat) : List D → W3
  | [] => some (0, 0, 0)
  | x :: r => addW (vP es g x) (vPs es g r)
def vS (es : List (Nat × Nat)) : List (D × Nat) → W3
  | [] => some (0, 0, 0)
  | x :: r => addW (vR es x.2 x.1) (vS es r)
theorem vS_app (es : List (Nat × Nat)) : ∀ a b : List (D × Nat), vS es (a ++ b) = addW (vS es a) (vS es b)
  | [], b => by simp only [List.nil_append, vS]; rw [addW_comm, addW_zero]
  | x :: r, b => by simp only [List.cons_append, vS, vS_app es r b, addW_assoc]
theorem runB_W (es : List (Nat × Nat)) (d : D) : runB es d = okW (vR es 0 d) := by
  unfold runB vR
  cases decR es 0 d with
  | none => rfl
  | some t =>
    simp only [Option.map_some, okW, vT]
    have h1 : decide ((nru t : Int) ≤ 200) = decide (nru t ≤ 200) := by congr 1; simp only [eq_iff_iff]; omega
    have h2 : decide ((npa t : Int) ≤ 400) = decide (npa t ≤ 400) := by congr 1; simp only [eq_iff_iff]; omega
    rw [h1, h2, Bool.and_assoc, Bool.and_assoc, Bool.and_comm (decide (npa t ≤ 400))]
theorem vPs_dec (es : List (Nat × Nat)) (g : Nat) : ∀ xs : List D, (decPs es g xs).map (fun ts => ((nruL ts : Int), tksL ts, (npaL ts : Int))) = vPs es g xs
  | [] => by simp [decPs, vPs, nruL, tksL, npaL]
  | x :: r => by
    have ih := vPs_dec es g r
    simp only [decPs, vPs, vP, ← ih]
    cases decP es g x <;> cases decPs es g r <;> simp [addW, vT, nruL, tksL, npaL]
theorem vR_eq (es : List (Nat × Nat)) (g : Nat) (xs : List D) : vR es g (.tup [.int g, .tup xs]) = addW (some (1, 0, xs.length)) (vPs es g xs) := by
  rw [← vPs_dec]
  simp only [vR, decR, if_true]
  cases h : decPs es g xs with
  | none => rfl
  | some ts =>
    obtain ⟨h1, _⟩ := decPs_ok es g xs ts h
    have hl : ts.length = xs.length := by rw [← h1, toDs_map]; simp
    simp only [Option.map_some, vT, addW, nru, npa, tks, Option.some.injEq, Prod.mk.injEq]
    omega
theorem vR_no {es : List (Nat × Nat)} {g : Nat} {d : D} (h : ∀ xs, d ≠ .tup [.int g, .tup xs]) : vR es g d = none := by
  unfold vR decR
  split
  · rename_i f xs
    split
    · rename_i hf
      subst hf
      exact absurd rfl (h xs)
    · rfl
  · rfl
theorem vP_int {es : List (Nat × Nat)} {g : Nat} {i : Int} (h : 1 ≤ i ∧ i ≤ 999999) : vP es g (.int i) = some (0, i, 0) := by
  simp [vP, decP, h, vT, nru, tks, npa]
theorem vP_int_no {es : List (Nat × Nat)} {g : Nat} {i : Int} (h : ¬ (1 ≤ i ∧ i ≤ 999999)) : vP es g (.int i) = none := by
  simp [vP, decP, h]
theorem vP_run {es : List (Nat × Nat)} {g : Nat} {f : Int} {r : List D} (h : 0 ≤ f ∧ (g, f.toNat) ∈ es) : vP es g (.tup (.int f :: r)) = vR es f.toNat (.tup (.int f :: r)) := by
  have hf : f = ((f.toNat : Nat) : Int) := by omega
  match r with
  | [] => rfl
  | [.tup xs] => simp only [vP, vR, decP, dec2, decR, h, and_self, if_true]; rw [if_pos hf]
  | [.int _] => rfl
  | [.non] => rfl
  | [.bl _] => rfl
  | [.str _] => rfl
  | [.lst _] => rfl
  | [.ins _ _ _] => rfl
  | [.ref _] => rfl
  | x :: y :: z => cases x <;> rfl
theorem vP_no {es : List (Nat × Nat)} {g : Nat} {f : Int} {r : List D} (h : ¬ (0 ≤ f ∧ (g, f.toNat) ∈ es)) : vP es g (.tup (.int f :: r)) = none := by
  match r with
  | [] => rfl
  | [.tup xs] => simp [vP, decP, dec2, h]
  | [.int _] => rfl
  | [.non] => rfl
  | [.bl _] => rfl
  | [.str _] => rfl
  | [.lst _] => rfl
  | [.ins _ _ _] => rfl
  | [.ref _] => rfl
  | x :: y :: z => cases x <;> rfl
theorem vP_head {es : List (Nat × Nat)} {g : Nat} {x : D} {r : List D} (h : isI x = false) : vP es g (.tup (x :: r)) = none := by
  rcases r with _ | ⟨y, _ | ⟨z, r⟩⟩
  · cases x <;> rfl
  · cases x <;> first | rfl | (simp [isI] at h) | (cases y <;> rfl)
  · cases x <;> cases y <;> rfl
theorem vP_else {es : List (Nat × Nat)} {g : Nat} {x : D} (h : isI x = false) (h2 : ∀ l, x ≠ .tup l) : vP es g x = none := by
  cases x with
  | int i => simp [isI] at h
  | tup l => exact absurd rfl (h2 l)
  | _ => rfl
theorem okW_big {a : Int × Int × Int} (h : 200 < a.1) : okW (some a) = false := by
  have : ¬ a.1 ≤ 200 := by omega
  simp [okW, this]
/-- what is left never makes it less -/
theorem vS_pos {es : List (Nat × Nat)} : ∀ {L : List (D × Nat)} {a : Int × Int × Int}, vS es L = some a → 0 ≤ a.1 ∧ (L ≠ [] → 1 ≤ a.1)
  | [], a, h => by simp only [vS, Option.some.injEq] at h; subst h; simp
  | x :: r, a, h => by
    simp only [vS] at h
    cases h1 : vR es x.2 x.1 with
    | none => rw [h1] at h; cases h
    | some b =>
      cases h2 : vS es r with
      | none => rw [h1, h2] at h; cases h
      | some c =>
        rw [h1, h2] at h
        simp only [addW, Option.some.injEq] at h
        subst h
        have := vS_pos h2
        have hb : 1 ≤ b.1 := by
          unfold vR at h1
          obtain ⟨t, ht, rfl⟩ := Option.map_eq_some_iff.mp h1
          obtain ⟨ps, rfl, _, _⟩ := decR_ok ht
          simp only [vT, nru]; omega
        simp only; omega
end Mi
end
section
set_option linter.all false
set_option maxRecDepth 100000
set_option maxHeartbeats 4000000
/-! runs looked at: the law -/
local macro_rules | `(tactic| simp! [$ls,*]) => `(tactic| ((repeat (first | with_reducible refine Mi.sp_ok ?_ | ((with_reducible refine Mi.sp_ev ?_); show Mi.Run _ _) | ((with_reducible refine Mi.sp_evs ?_); show Mi.Run _ _) | ((with_reducible refine Mi.sp_st ?_); show Mi.Run _ _) | ((with_reducible refine Mi.sp_exs ?_); show Mi.Run _ _) | ((with_reducible refine Mi.sp_walk ?_); show Mi.Run _ _) | ((with_reducible refine Mi.sp_evo ?_); show Mi.Run _ _) | ((with_reducible refine Mi.sp_evc ?_); show Mi.Run _ _) | with_reducible refine Mi.sp_bind ?_ | with_reducible refine Mi.sp_fin ?_ | with_reducible refine Mi.sp_foS ?_ | with_reducible refine Mi.sp_lc ?_ | with_reducible refine Mi.sp_nox ?_ | refine Mi.run_cg (by simp -implicitDefEqProofs only [Mi.nextO_nx, Mi.nextO_rt, Mi.tr_bl, Mi.tr_int, Mi.tr_non, Mi.tr_tup, Mi.tr_lst, Mi.rs_tup, Mi.rs_lst, Mi.rs_int, Mi.rs_bl, Mi.rs_str, Mi.rs_non, Mi.rs_ins, Mi.sq_tup, Mi.sq_lst, Mi.gi_tup, Mi.gi_lst, Mi.ln_tup, Mi.ln_lst, Mi.b_len, Mi.b_sum, Mi.b_tuple, Mi.b_list, Mi.b_all, Mi.b_any, Mi.b_int, Mi.b_max, Mi.b_min, Mi.b_sorted, Mi.b_min2, Mi.b_max2, Mi.tp_tup, Mi.tp_lst, Mi.nt_0, Mi.nt_1, Mi.nt_2, Mi.nt_3, Mi.nt_4, Mi.asT, Mi.asTs, Mi.wipe, Mi.isOf, Mi.Tg.own, Mi.Tgs.own, Mi.lockO, Mi.at0, Mi.at1, Mi.at2, Mi.eqI, Mi.neI, Mi.ltI, Mi.leI, Mi.gtI, Mi.geI, Mi.bin_add, Mi.bin_sub, Mi.still_lst, Mi.still_tup, Mi.lift_some, List.getElem?_cons_zero, List.getElem?_cons_succ, List.set_cons_zero, List.set_cons_succ, List.set_set, List.length_cons, List.length_nil, List.length_set, List.getElem?_set, List.map_cons, List.map_nil, List.append_nil, List.nil_append, List.cons_append, List.isEmpty_nil, List.isEmpty_cons, Option.map_some, Option.bind_some, Option.isSome_none, List.replicate, Nat.reduceAdd, Nat.reduceSub, Nat.reduceLT, if_true, if_false, Bool.false_eq_true, Bool.not_true, Bool.not_false, ite_self, ↓reduceIte, and_self, true_and, and_true, decide_true, decide_false, Bool.and_true, Bool.true_and, Bool.and_false, Bool.false_and, Bool.or_true, Bool.true_or, Bool.or_false, Bool.false_or, Nat.reduceEqDiff, Nat.reduceLeDiff, Mi.nl_f, Mi.nl_t, Int.reduceBEq, Int.reduceAdd, Int.reduceSub, Int.reduceNeg, Int.cast_ofNat_Int, Int.natCast_one, Int.natCast_zero, BEq.rfl, $ls,*]; exact rfl) ?_)); (first | with_reducible refine Mi.run_id ?_ | (try simp -implicitDefEqProofs only [eq_self, and_self, true_and, and_true, Mi.trunc_self, if_true, if_false, Bool.false_eq_true, ↓reduceIte, Bool.and_true, Bool.true_and, Bool.and_false, Bool.false_and, $ls,*]))))
namespace Ck10
open Mi
theorem kg0 (n : Nat) (es) (S : Sto) : getI S (kD n es) (.int 0) = .ok (.int n) S := by simp [kD, getI]
theorem kg1 (n : Nat) (es) (S : Sto) : getI S (kD n es) (.int 1) = .ok (.tup (es.map pr)) S := by simp [kD, getI]
theorem nin_pair (P : Pg) (call : Nat → List D → Sto → Res D) (S : Sto) (g : Nat) (f : Int) (es : List (Nat × Nat)) : cmpD P call .notin S (.tup [.int g, .int f]) (.tup (es.map pr)) = .ok (.bl (!decide (0 ≤ f ∧ (g, f.toNat) ∈ es))) S := by
  have h := in_pair P call S g f es
  simp only [cmpD] at h ⊢
  cases hh : inM S (.tup [.int g, .int f]) (.tup (es.map pr)) with
  | none => rw [hh] at h; cases h
  | some b =>
    rw [hh] at h
    simp only [Option.map_some, lift_some] at h ⊢
    injection h with h _
    injection h with h
    rw [h]
theorem eq_unit (P : Pg) (call : Nat → List D → Sto → Res D) (S : Sto) (l : List D) (h : D.datas l = true) : cmpD P call .eq S (.tup l) (.tup []) = .ok (.bl l.isEmpty) S := by
  have h1 : (D.tup l).data = true := h
  have h4 : min (D.tup l).dep (D.tup []).dep ≤ DEEP := by simp only [D.dep, D.deps, DEEP]; omega
  have h5 : D.eqv (.tup l) (.tup []) = l.isEmpty := by cases l <;> rfl
  simp only [cmpD, rs_tup, eqD, h1, h4, h5, show (D.tup []).data = true from rfl, Bool.and_self, decide_true, if_true, Option.map_some, lift_some]
theorem eq_topnil (P : Pg) (call : Nat → List D → Sto → Res D) (S : Sto) (l : List D) (h : D.datas l = true) : cmpD P call .eq (S ++ [.lst l]) (.ref S.length) (.lst []) = .ok (.bl l.isEmpty) (S ++ [.lst l]) := by
  simp [cmpD]
theorem pop_top (S : Sto) (l : List D) (x : D) : bmPre .pop (S ++ [.lst (l ++ [x])]) (.ref S.length) = true ∧ bmD .pop (S ++ [.lst (l ++ [x])]) (.ref S.length) [] = .ok x (S ++ [.lst l]) := by
  constructor
  · simp [bmPre, lstOf]
  · simp [bmD, popD, lstOf]
theorem app_top (S : Sto) (l : List D) (x : D) (h : l.length ≤ 4000) : bmPre .append (S ++ [.lst l]) (.ref S.length) = true ∧ bmD .append (S ++ [.lst l]) (.ref S.length) [x] = .ok .non (S ++ [.lst (l ++ [x])]) := by
  have : l.length < LINE := by unfold LINE; omega
  constructor
  · simp [bmPre, lstOf]
  · simp [bmD, one, appD, lstOf, this]
/-- the stack's entries -/
def en (x : D × Nat) : D := .tup [x.1, .int x.2]
theorem en_data {L : List (D × Nat)} (h : ∀ x ∈ L, Vz x.1) : D.datas (L.map en) = true := datas_of fun d hd => by
  obtain ⟨x, hx, rfl⟩ := List.mem_map.mp hd
  simp [en, D.data, D.datas, (h x hx).dat]
/-- how great the stack is -/
def szS (L : List (D × Nat)) : Nat := (L.map fun x => x.1.sz).sum
theorem szS_len (L : List (D × Nat)) : L.length ≤ szS L := by
  induction L with
  | nil => simp
  | cons x r ih =>
    have := sz_pos x.1
    simp only [szS, List.map_cons, List.sum_cons, List.length_cons] at ih ⊢; omega
theorem szS_app (a b : List (D × Nat)) : szS (a ++ b) = szS a + szS b := by simp [szS]
section
variable {n : Nat} {es : List (Nat × Nat)}
/-- the parts of one run -/
theorem parts_loop (k : Nat) (S : Sto) (w : Nat) (B : Bool) {Q : Out → Sto → Prop} (hF : B = false → ∀ T, (∃ l, T = S ++ [.lst l]) → Q (.rt (.bl false)) T)
    (nu pt : Int) (value : D) (v6 v7 : Option D) (xs : List D) (hx : ∀ x ∈ xs, Vz x) (L : List (D × Nat)) (hL : ∀ x ∈ L, Vz x.1) (hz : szS L + D.szs xs ≤ 3000) (tk : Int) (v9 : Option D)
    (hB : okW (addW (some (nu, tk, pt)) (addW (vPs es w xs) (vS es L))) = B)
    (fin : ∀ (L' : List (D × Nat)) (tk' : Int) (v9' : Option D), (∀ x ∈ L', Vz x.1) → szS L' ≤ 3000 → okW (addW (some (nu, tk', pt)) (vS es L')) = B → Q (.nx [some (kD n es), some value, some (.ref S.length), some (.int nu), some (.int tk'), some (.int pt), v6, v7, some (.int w), v9']) (S ++ [.lst (L'.map en)])) :
    Run (forR (foStep (.var 9) (exs P (callF P (k + 1)) q26_0)) (fun _ => true) xs [some (kD n es), some value, some (.ref S.length), some (.int nu), some (.int tk), some (.int pt), v6, v7, some (.int w), v9] (S ++ [.lst (L.map en)])) Q := by
  have q1 := fun S => kg1 n es S
  generalize kD n es = K at *
  refine run_forE (fun r e T => ∃ (L' : List (D × Nat)) (tk' : Int) (v9' : Option D), (∀ x ∈ r, Vz x) ∧ (∀ x ∈ L', Vz x.1) ∧ szS L' + D.szs r ≤ 3000 ∧ okW (addW (some (nu, tk', pt)) (addW (vPs es w r) (vS es L'))) = B ∧ T = S ++ [.lst (L'.map en)] ∧ e = [some K, some value, some (.ref S.length), some (.int nu), some (.int tk'), some (.int pt), v6, v7, some (.int w), v9']) ?_ ?_ _ _ _ ⟨L, tk, v9, hx, hL, hz, hB, rfl, rfl⟩
  · rintro x r e T ⟨L', tk', v9', hx, hL, hz, hB, rfl, rfl⟩
    have hx0 := hx x (by simp)
    have hr := fun y hy => hx y (List.mem_cons_of_mem _ hy)
    simp only [D.szs] at hz
    have e25 := c17 k x (S ++ [.lst (L'.map en)]) hx0.pl
    have stop : ∀ (h : vP es w x = none), B = false := fun h => by
      rw [← hB]
      simp only [vPs, h, none_addW, addW_none]; rfl
    cases x with
    | ref m => exact (PL_ref hx0.pl).elim
    | int i =>
      by_cases h1 : i < 1
      · have hb := stop (vP_int_no (by omega))
        simp! [q26_0, e25, isI, h1]
        exact .inr ⟨_, rfl, hF hb _ ⟨_, rfl⟩⟩
      · by_cases h2 : 999999 < i
        · have hb := stop (vP_int_no (by omega))
          simp! [q26_0, e25, isI, h1, h2]
          exact .inr ⟨_, rfl, hF hb _ ⟨_, rfl⟩⟩
        · simp! [q26_0, e25, isI, h1, h2]
          refine .inl ⟨_, rfl, L', tk' + i, _, hr, hL, by omega, ?_, rfl, rfl⟩
          rw [← hB]
          simp only [vPs, vP_int (es := es) (g := w) (i := i) (by omega), addW_assoc]
          rw [← addW_assoc (some (nu, tk', pt))]
          simp [addW]
    | tup l =>
      have hdat : D.datas l = true := hx0.dat
      have he := fun S => eq_unit P (callF P (k + 1)) S l hdat
      cases l with
      | nil =>
        have hb := stop rfl
        simp! [q26_0, he]
        exact .inr ⟨_, rfl, hF hb _ ⟨_, rfl⟩⟩
      | cons y l =>
        have hy0 := hx0.mem.1 y (by simp)
        have e25 := c17 k y (S ++ [.lst (L'.map en)]) hy0.pl
        cases hi : isI y with
        | false =>
          rw [hi] at e25
          have hb := stop (vP_head hi)
          simp! [q26_0, he, e25]
          exact .inr ⟨_, rfl, hF hb _ ⟨_, rfl⟩⟩
        | true =>
          rw [hi] at e25
          cases y with
          | int f =>
            have hn := fun S => nin_pair P (callF P (k + 1)) S w f es
            by_cases hf : 0 ≤ f ∧ (w, f.toNat) ∈ es
            · have hlen := szS_len L'
              obtain ⟨a1, a2⟩ := app_top S (L'.map en) (en (.tup (.int f :: l), f.toNat)) (by simp; omega)
              have hff : ((f.toNat : Nat) : Int) = f := by omega
              simp only [en, hff] at a2
              have hL2 : L'.map en ++ [.tup [.tup (.int f :: l), .int f]] = (L' ++ [(D.tup (.int f :: l), f.toNat)]).map en := by simp [en, hff]
              rw [hL2] at a2
              generalize hT : S ++ [O.lst (L'.map en)] = T at *
              simp only [hf, and_self, decide_true] at hn
              simp! [q26_0, he, e25, hn, q1, a1, a2]
              refine .inl ⟨_, rfl, L' ++ [(D.tup (.int f :: l), f.toNat)], tk', _, hr, fun x hx => ?_, ?_, ?_, rfl, rfl⟩
              · rcases List.mem_append.mp hx with h | h
                · exact hL x h
                · simp only [List.mem_cons, List.not_mem_nil, or_false] at h
                  subst h; exact hx0
              · rw [szS_app]; simp only [szS, List.map_cons, List.map_nil, List.sum_cons, List.sum_nil] at *; omega
              · rw [← hB]
                simp only [vPs, vS_app, vS, addW_zero, vP_run hf]
                rw [addW_assoc (vR es f.toNat _), addW_comm (vR es f.toNat _), addW_assoc]
            · have hb := stop (vP_no hf)
              simp only [hf, decide_false] at hn
              simp! [q26_0, he, e25, hn, q1]
              exact .inr ⟨_, rfl, hF hb _ ⟨_, rfl⟩⟩
          | _ => simp [isI] at hi
    | _ =>
      have hb := stop (vP_else rfl (by simp))
      simp! [q26_0, e25, isI]
      exact .inr ⟨_, rfl, hF hb _ ⟨_, rfl⟩⟩
  · rintro e T ⟨L', tk', v9', _, hL, hz, hB, rfl, rfl⟩
    refine fin L' tk' v9' hL (by simp only [D.szs] at hz; omega) ?_
    rw [← hB]
    simp only [vPs]
    rw [addW_comm (some (0, 0, 0)), addW_zero]
end
end Ck10
end
section
set_option linter.all false
set_option maxRecDepth 100000
set_option maxHeartbeats 4000000
/-! runs looked at: the law -/
local macro_rules | `(tactic| simp! [$ls,*]) => `(tactic| ((repeat (first | with_reducible refine Mi.sp_ok ?_ | ((with_reducible refine Mi.sp_ev ?_); show Mi.Run _ _) | ((with_reducible refine Mi.sp_evs ?_); show Mi.Run _ _) | ((with_reducible refine Mi.sp_st ?_); show Mi.Run _ _) | ((with_reducible refine Mi.sp_exs ?_); show Mi.Run _ _) | ((with_reducible refine Mi.sp_walk ?_); show Mi.Run _ _) | ((with_reducible refine Mi.sp_evo ?_); show Mi.Run _ _) | ((with_reducible refine Mi.sp_evc ?_); show Mi.Run _ _) | with_reducible refine Mi.sp_bind ?_ | with_reducible refine Mi.sp_fin ?_ | with_reducible refine Mi.sp_foS ?_ | with_reducible refine Mi.sp_lc ?_ | with_reducible refine Mi.sp_nox ?_ | refine Mi.run_cg (by simp -implicitDefEqProofs only [Mi.nextO_nx, Mi.nextO_rt, Mi.tr_bl, Mi.tr_int, Mi.tr_non, Mi.tr_tup, Mi.tr_lst, Mi.rs_tup, Mi.rs_lst, Mi.rs_int, Mi.rs_bl, Mi.rs_str, Mi.rs_non, Mi.rs_ins, Mi.sq_tup, Mi.sq_lst, Mi.gi_tup, Mi.gi_lst, Mi.ln_tup, Mi.ln_lst, Mi.b_len, Mi.b_sum, Mi.b_tuple, Mi.b_list, Mi.b_all, Mi.b_any, Mi.b_int, Mi.b_max, Mi.b_min, Mi.b_sorted, Mi.b_min2, Mi.b_max2, Mi.tp_tup, Mi.tp_lst, Mi.nt_0, Mi.nt_1, Mi.nt_2, Mi.nt_3, Mi.nt_4, Mi.asT, Mi.asTs, Mi.wipe, Mi.isOf, Mi.Tg.own, Mi.Tgs.own, Mi.lockO, Mi.at0, Mi.at1, Mi.at2, Mi.eqI, Mi.neI, Mi.ltI, Mi.leI, Mi.gtI, Mi.geI, Mi.bin_add, Mi.bin_sub, Mi.still_lst, Mi.still_tup, Mi.lift_some, List.getElem?_cons_zero, List.getElem?_cons_succ, List.set_cons_zero, List.set_cons_succ, List.set_set, List.length_cons, List.length_nil, List.length_set, List.getElem?_set, List.map_cons, List.map_nil, List.append_nil, List.nil_append, List.cons_append, List.isEmpty_nil, List.isEmpty_cons, Option.map_some, Option.bind_some, Option.isSome_none, List.replicate, Nat.reduceAdd, Nat.reduceSub, Nat.reduceLT, if_true, if_false, Bool.false_eq_true, Bool.not_true, Bool.not_false, ite_self, ↓reduceIte, and_self, true_and, and_true, decide_true, decide_false, Bool.and_true, Bool.true_and, Bool.and_false, Bool.false_and, Bool.or_true, Bool.true_or, Bool.or_false, Bool.false_or, Nat.reduceEqDiff, Nat.reduceLeDiff, Mi.nl_f, Mi.nl_t, Int.reduceBEq, Int.reduceAdd, Int.reduceSub, Int.reduceNeg, Int.cast_ofNat_Int, Int.natCast_one, Int.natCast_zero, BEq.rfl, $ls,*]; exact rfl) ?_)); (first | with_reducible refine Mi.run_id ?_ | (try simp -implicitDefEqProofs only [eq_self, and_self, true_and, and_true, Mi.trunc_self, if_true, if_false, Bool.false_eq_true, ↓reduceIte, Bool.and_true, Bool.true_and, Bool.and_false, Bool.false_and, $ls,*]))))
namespace Ck10
open Mi
section
variable {n : Nat} {es : List (Nat × Nat)}
/-- one turn: one run -/
theorem turn_ok (k : Nat) (S : Sto) (B : Bool) {Q : Out → Sto → Prop} (hQ : ∀ T, (∃ l, T = S ++ [.lst l]) → Q (.rt (.bl B)) T)
    (nu tk pt : Int) (hnu : 0 ≤ nu ∧ nu ≤ 200) (value : D) (v6 v7 v8 v9 : Option D) (L : List (D × Nat)) (hL : ∀ x ∈ L, Vz x.1) (hz : szS L ≤ 3000)
    (hB : okW (addW (some (nu, tk, pt)) (vS es L)) = B)
    (fin : ∀ (L' : List (D × Nat)) (tk' pt' : Int) (v7' v8' v9' : Option D), (∀ x ∈ L', Vz x.1) → szS L' ≤ 3000 → okW (addW (some (nu + 1, tk', pt')) (vS es L')) = B → Q (.nx [some (kD n es), some value, some (.ref S.length), some (.int (nu + 1)), some (.int tk'), some (.int pt'), v6, v7', v8', v9']) (S ++ [.lst (L'.map en)])) :
    Run (exs P (callF P (k + 1)) q26_1 [some (kD n es), some value, some (.ref S.length), some (.int nu), some (.int tk), some (.int pt), v6, v7, v8, v9] (S ++ [.lst (L.map en)])) Q := by
  have heq := eq_topnil P (callF P (k + 1)) S (L.map en) (en_data hL)
  rcases List.eq_nil_or_concat L with rfl | ⟨L0, x, rfl⟩
  · have hb : (decide (tk ≤ 999999) && decide (pt ≤ 400)) = B := by
      rw [← hB]
      simp only [vS, addW_zero, okW]
      simp [hnu.2]
    simp only [List.map_nil] at heq ⊢
    have hq := hQ (S ++ [.lst []]) ⟨_, rfl⟩
    rw [← hb] at hq
    generalize hT : S ++ [O.lst ([] : List D)] = T at *
    by_cases h1 : tk ≤ 999999
    · simp! [q26_1, nl_f, heq, decide_eq_true h1]
      simpa [h1] using hq
    · simp! [q26_1, nl_f, heq, decide_eq_false h1]
      simpa [h1] using hq
  · obtain ⟨d, w⟩ := x
    rw [List.concat_eq_append] at *
    have hd : Vz d := hL (d, w) (by simp)
    have hL0 : ∀ x ∈ L0, Vz x.1 := fun x hx => hL x (by simp [hx])
    have hne : ((L0 ++ [(d, w)]).map en).isEmpty = false := by simp
    rw [hne] at heq
    rw [vS_app] at hB
    simp only [vS, addW_zero] at hB
    obtain ⟨p1, p2⟩ := pop_top S (L0.map en) (en (d, w))
    have hmap : L0.map en ++ [en (d, w)] = (L0 ++ [(d, w)]).map en := by simp
    rw [hmap] at p1 p2
    simp only [en] at p2
    rw [szS_app] at hz
    simp only [szS, List.map_cons, List.map_nil, List.sum_cons, List.sum_nil] at hz
    have hz0 : szS L0 + d.sz ≤ 3000 := by simp only [szS]; omega
    have e0 : ∀ S, newL false [] S = .ok (.lst []) S := fun S => nl_f [] (by simp)
    -- one more than may be
    have stop : vR es w d = none → B = false := fun h => by rw [← hB, h, addW_none, addW_none]; rfl
    have hQf : B = false → ∀ T, (∃ l, T = S ++ [.lst l]) → Q (.rt (.bl false)) T := fun h T hT => by rw [← h]; exact hQ T hT
    generalize hTT : S ++ [O.lst ((L0 ++ [(d, w)]).map en)] = TT at *
    by_cases h200 : 200 < nu + 1
    · have hb : B = false := by
        rw [← hB]
        cases h1 : vS es L0 with
        | none => rfl
        | some a =>
          cases h2 : vR es w d with
          | none => rfl
          | some b =>
            have h3 := vS_pos h1
            have h4 : 1 ≤ b.1 := by
              have : vS es [(d, w)] = some b := by simp only [vS, h2, addW_zero]
              exact (vS_pos this).2 (by simp)
            exact okW_big (by simp only; omega)
      simp! [q26_1, e0, heq, p1, p2, h200]
      exact hQf hb _ ⟨_, rfl⟩
    · have e25 := fun (y : D) (T : Sto) (hy : Vz y) => c17 k y T hy.pl
      cases d with
      | ref m => exact (PL_ref hd.pl).elim
      | tup l =>
        match l, hd with
        | [], hd =>
          have hb := stop rfl
          simp! [q26_1, e0, heq, p1, p2, h200]
          exact hQf hb _ ⟨_, rfl⟩
        | [x], hd =>
          have hb := stop (vR_no (by simp))
          simp! [q26_1, e0, heq, p1, p2, h200]
          exact hQf hb _ ⟨_, rfl⟩
        | x :: y :: z :: r, hd =>
          have hb := stop (vR_no (by simp))
          have hl : (((r.length + 1 + 1 + 1 : Nat) : Int) == 2) = false := by simp; omega
          simp! [q26_1, e0, heq, p1, p2, h200, hl]
          exact hQf hb _ ⟨_, rfl⟩
        | [x, y], hd =>
          have hx := hd.mem.1 x (by simp)
          have hy := hd.mem.1 y (by simp)
          have ex := fun T => e25 x T hx
          cases x with
          | ref m => exact (PL_ref hx.pl).elim
          | int f =>
            by_cases hf : f = w
            · subst hf
              have hff : (((w : Int) == w) : Bool) = true := by simp
              cases y with
              | ref m => exact (PL_ref hy.pl).elim
              | tup xs =>
                have gx : ∀ T, getI T (.tup [.int w, .tup xs]) (.int 1) = .ok (.tup xs) T := fun T => by simp [getI]
                simp! [q26_1, e0, heq, p1, p2, h200, ex, isI, hff]
                refine parts_loop k S w B (fun h T hT => by simp! []; exact hQf h T hT) (nu + 1) (pt + xs.length) value v6 _ xs (fun x hx => hy.mem.1 x hx) L0 hL0 ?_ tk v9 ?_ fun L' tk' v9' h1 h2 h3 => ?_
                · simp only [D.sz, D.szs] at hz0; omega
                · rw [← hB, vR_eq, addW_comm (vS es L0), addW_assoc, ← addW_assoc (some (nu, tk, pt))]
                  simp [addW]
                · simp! []
                  exact fin L' tk' _ _ _ _ h1 h2 h3
              | _ =>
                have hb := stop (vR_no (by simp))
                simp! [q26_1, e0, heq, p1, p2, h200, ex, isI, hff]
                exact hQf hb _ ⟨_, rfl⟩
            · have hff : ((f == (w : Int)) : Bool) = false := by simpa using hf
              have hb := stop (vR_no (by simp [hf]))
              simp! [q26_1, e0, heq, p1, p2, h200, ex, isI, hff]
              exact hQf hb _ ⟨_, rfl⟩
          | _ =>
            have hb := stop (vR_no (by simp))
            simp! [q26_1, e0, heq, p1, p2, h200, ex, isI]
            exact hQf hb _ ⟨_, rfl⟩
      | _ =>
        have hb := stop (vR_no (by simp))
        simp! [q26_1, e0, heq, p1, p2, h200]
        exact hQf hb _ ⟨_, rfl⟩
theorem l_isrun (k : Nat) (d : D) (S : Sto) (h : Vz d) : callF P (k + 2) 26 [kD n es, d] S = .ok (.bl (runB es d)) S := by
  rw [callF_eq (F := f26) rfl rfl]
  refine run_is.mp ?_
  have hr := rngW1_nat 201 (by omega) S
  have hr' : ∀ T, rngW1 (.int 201) T = .ok ⟨fun _ => true, rangeD 0 201, none⟩ T := fun T => rngW1_nat 201 (by omega) T
  show Run (fin S (exs P (callF P (k + 1)) b26 [some (kD n es), some d, none, none, none, none, none, none, none, none] S)) _
  simp! [b26, hr']
  refine run_forE (fun r e T => ∃ (L : List (D × Nat)) (tk pt : Int) (v6 v7 v8 v9 : Option D), r.length ≤ 201 ∧ (∀ x ∈ L, Vz x.1) ∧ szS L ≤ 3000 ∧ okW (addW (some (201 - (r.length : Int), tk, pt)) (vS es L)) = runB es d ∧ T = S ++ [.lst (L.map en)] ∧ e = [some (kD n es), some d, some (.ref S.length), some (.int (201 - (r.length : Int))), some (.int tk), some (.int pt), v6, v7, v8, v9]) ?_ ?_ _ _ _ ⟨[(d, 0)], 0, 0, none, none, none, none, by simp [rangeD], by simpa using h, by simpa [szS] using h.z, ?_, rfl, ?_⟩
  · rintro x r e T ⟨L, tk, pt, v6, v7, v8, v9, hr, hL, hz, hB, rfl, rfl⟩
    simp only [List.length_cons] at hr hB ⊢
    refine sp_foS ?_
    refine run_cg (by simp only [asT, List.length_cons, List.length_nil, Nat.reduceAdd, Nat.reduceLT, if_true, List.set_cons_succ, List.set_cons_zero]; exact rfl) ?_
    refine turn_ok k S (runB es d) (fun T hT => ?_) (201 - ((r.length + 1 : Nat) : Int)) tk pt (by omega) d _ v7 v8 v9 L hL hz hB fun L' tk' pt' v7' v8' v9' h1 h2 h3 => ?_
    · obtain ⟨l, rfl⟩ := hT
      have htr := trunc_top S (.lst l) (.bl (runB es d)) rfl
      refine .inr ⟨_, rfl, ?_⟩
      simp! [htr]
    · have e1 : (201 - ((r.length + 1 : Nat) : Int)) + 1 = 201 - (r.length : Int) := by omega
      rw [e1] at h3 ⊢
      exact .inl ⟨_, rfl, trivial, L', tk', pt', _, v7', v8', v9', by omega, h1, h2, h3, rfl, rfl⟩
  · rintro e T ⟨L, tk, pt, v6, v7, v8, v9, hr, hL, hz, hB, rfl, rfl⟩
    have hb : runB es d = false := by
      rw [← hB]
      cases h1 : vS es L with
      | none => rfl
      | some a =>
        have := vS_pos h1
        exact okW_big (by simp; omega)
    have htr := trunc_top S (.lst (L.map en)) (.bl false) rfl
    rw [hb]
    simp! [htr]
  · rw [runB_W]
    simp only [vS, addW_zero]
    have : (201 : Int) - ((rangeD 0 201).length : Int) = 0 := by simp [rangeD]
    rw [this]
    rcases vR es 0 d with _ | ⟨a, b, c⟩ <;> simp [addW]
  · have : (201 : Int) - ((rangeD 0 201).length : Int) = 0 := by simp [rangeD]
    rw [this]
end
end Ck10
end
section
set_option linter.all false
set_option maxRecDepth 100000
set_option maxHeartbeats 4000000
/-! a run's sums: the law -/
namespace Ck10
open Mi
/-- a dict of the first numbers -/
def numF (n : Nat) (F : Nat → Int) : List (D × D) := (List.range n).map fun g : Nat => (D.int g, D.int (F g))
/-- the law's three tables -/
def T3 (S : Sto) (n : Nat) (es : List (Nat × Nat)) (h1 h2 : Nat → Int) (h3 : Nat × Nat → Int) : Sto := S ++ [.dct false false (numF n h1), .dct false false (numF n h2), .dct true false (tabF es h3)]
theorem tksL_app (a b : List T) : tksL (a ++ b) = tksL a + tksL b := by
  induction a with
  | nil => simp [tksL]
  | cons x r ih => simp only [List.cons_append, tksL, ih]; omega
end Ck10
end
section
set_option linter.all false
set_option maxRecDepth 100000
set_option maxHeartbeats 8000000
namespace Ck10
open Mi
theorem Tk.set {xs : List Int} {n : Nat} (h : Tk xs n) {p : Nat} {y : Int} (hy : Tq y) : Tk (xs.set p y) n := ⟨by simpa using h.1, mem_set_of h.2 hy⟩
end Ck10
end
section
set_option linter.all false
set_option maxRecDepth 100000
set_option maxHeartbeats 8000000
namespace Ck10
open Mi
theorem Bk.same {S X T T' : Sto} (h : Bk S X T) (h' : Bk S X T') (d : D) : Mi.trunc T d T' = T' := trunc_len (by rw [h.len, h'.len])
theorem pickDB (k : Nat) (xs : List D) {S X T : Sto} (h : Bk S X T) (h0 : 0 < xs.length) (h1 : xs.length < 1000) : ∃ z ∈ xs, ∃ T', Bk S X T' ∧ callF P (k + 2) 19 [.ref S.length, .lst xs] T = .ok z T' := by
  obtain ⟨t, T', a1, a2, hT', e⟩ := k15 k xs.length h (by omega) (by omega)
  have ht : t.toNat < xs.length := by omega
  have ez : atI xs t = some xs[t.toNat] := by simp [atI, ixN, a1, a2, ht]
  refine ⟨_, List.getElem_mem ht, T', hT', ?_⟩
  rw [callF_eq (F := f19) rfl rfl]
  simp [f19, b19, exs, ex1, ev, evs, bltD, one, lenD, dctOf, seqOf, e, getI, ez, fin]
  exact h.same hT' _
end Ck10
end
section
set_option linter.all false
set_option maxRecDepth 100000
set_option maxHeartbeats 8000000
/-! what is spoilt is not much greater -/
namespace Ck10
open Mi
theorem szs_sub {xs ys : List D} (h : List.Sublist xs ys) : D.szs xs ≤ D.szs ys := by
  induction h with
  | slnil => exact Nat.le_refl _
  | cons a _ ih => simp only [D.szs]; omega
  | cons_cons a _ ih => simp only [D.szs]; omega
theorem cut_sub (xs : List D) (lo hi : Option Int) : List.Sublist (cut xs lo hi) xs := by
  unfold cut
  exact (List.take_sublist _ _).trans (List.drop_sublist _ _)
def Zc (n z : Nat) (d : D) : Prop := Nc n d ∧ d.sz ≤ z
def It2 (n : Nat) (xs : List D) (k z : Nat) : Prop := It1 n xs k ∧ D.szs xs ≤ z
theorem Zc.up {n m z w : Nat} {d : D} (h : Zc n z d) (hm : n ≤ m) (hw : z ≤ w) : Zc m w d := ⟨h.1.up hm, Nat.le_trans h.2 hw⟩
theorem It2.add {n : Nat} {xs ys : List D} {k l z w : Nat} (h : It2 n xs k z) (g : It2 n ys l w) : It2 n (xs ++ ys) (k + l) (z + w) := ⟨h.1.add g.1, by have := h.2; have := g.2; rw [szs_app]; omega⟩
theorem It2.cut {n : Nat} {xs : List D} {k z : Nat} (h : It2 n xs k z) (lo hi : Option Int) : It2 n (cut xs lo hi) k z := ⟨h.1.cut lo hi, Nat.le_trans (szs_sub (cut_sub xs lo hi)) h.2⟩
theorem It2.one {n z : Nat} {d : D} (h : Zc n z d) : It2 n [d] 1 z := ⟨It1.one h.1, by have := h.2; simp only [D.szs]; omega⟩
theorem It2.tup {n : Nat} {xs : List D} {k z : Nat} (h : It2 n xs k z) (hk : k ≤ 200) : Zc (n + 1) (z + 1) (.tup xs) := ⟨h.1.tup hk, by have := h.2; simp only [D.sz]; omega⟩
/-- how a tuple is spoilt as a whole -/
theorem spBz (k m : Nat) (xs : List D) (z : Nat) (hx : It2 m xs 64 z) (dp : D) (at1 : Int) {S X T : Sto} (h : Bk S X T) : ∃ v T', Zc (m + 2) (3 * z + 10) v ∧ Bk S X T' ∧ exs P (callF P (k + 1)) sB [some (.ref S.length), some (.tup xs), some dp, some (.int at1), none] T = .ok (.rt v) T' := by
  obtain ⟨how, T3, c0, c1, hT3, e3⟩ := k15 k 8 h (by omega) (by omega)
  have hx' : It2 (m + 1) xs 64 z := ⟨⟨fun x hx2 => (hx.1.1 x hx2).up (by omega), hx.1.2⟩, hx.2⟩
  have cu := fun lo hi => hx'.cut lo hi
  have hL : xs.length ≤ LINE := LT (by have := hx.1.2; omega)
  have key : ∀ v w, Zc (m + 2) w v → w ≤ 3 * z + 10 → exs P (callF P (k + 1)) sB [some (.ref S.length), some (.tup xs), some dp, some (.int at1), none] T = .ok (.rt v) T3 → ∃ v T', Zc (m + 2) (3 * z + 10) v ∧ Bk S X T' ∧ exs P (callF P (k + 1)) sB [some (.ref S.length), some (.tup xs), some dp, some (.int at1), none] T = .ok (.rt v) T' := fun v w h1 h0 h2 => ⟨v, T3, h1.up (by omega) h0, hT3, h2⟩
  have ad : ∀ {a b : List D} {p q z w : Nat}, It2 (m + 1) a p z → It2 (m + 1) b q w → p + q ≤ 1000 → binD .add false T3 (.tup a) (.tup b) = .ok (.tup (a ++ b)) T3 := fun ha hb hp => add_tup false T3 _ _ (by have := ha.1.2; have := hb.1.2; omega)
  have hw : how = 0 ∨ how = 1 ∨ how = 2 ∨ how = 3 ∨ how = 4 ∨ how = 5 ∨ how = 6 ∨ how = 7 := by omega
  rcases hw with rfl | rfl | rfl | rfl | rfl | rfl | rfl | rfl
  · refine key (.lst xs) (z + 1) ⟨Nc.lst hx'.1.1 (by have := hx.1.2; omega), by have := hx.2; simp only [D.sz]; omega⟩ (by omega) ?_
    simp -implicitDefEqProofs [sB, b21, exs, ex1, ev, evs, evo, truR, truth, bltD, one, seqOf, e3, eqI, listD, newL, hL]
  · have q1 := ad (cu none (some at1)) (cu (some (at1 + 1)) none) (by omega)
    refine key _ _ (((cu none (some at1)).add (cu (some (at1 + 1)) none)).tup (by omega)) (by omega) ?_
    simp -implicitDefEqProofs [sB, b21, exs, ex1, ev, evs, evo, truR, truth, e3, eqI, cutD, q1]
  · have q1 := ad (cu none (some at1)) (cu (some at1) (some (at1 + 1))) (by omega)
    have q2 := (cu none (some at1)).add (cu (some at1) (some (at1 + 1)))
    have q3 := ad q2 (cu (some at1) none) (by omega)
    refine key _ _ ((q2.add (cu (some at1) none)).tup (by omega)) (by omega) ?_
    simp -implicitDefEqProofs [sB, b21, exs, ex1, ev, evs, evo, truR, truth, e3, eqI, cutD, q1, q3]
  · have q1 := ad (cu (some at1) none) (cu none (some at1)) (by omega)
    refine key _ _ (((cu (some at1) none).add (cu none (some at1))).tup (by omega)) (by omega) ?_
    simp -implicitDefEqProofs [sB, b21, exs, ex1, ev, evs, evo, truR, truth, e3, eqI, cutD, q1]
  · have o1 : It2 (m + 1) [D.tup []] 1 1 := It2.one ⟨by simp [Nc, D.data, D.datas, D.dep, D.deps, D.wd, D.wds], by simp [D.sz, D.szs]⟩
    have q1 := ad hx' o1 (by omega)
    refine key _ _ ((hx'.add o1).tup (by omega)) (by omega) ?_
    simp -implicitDefEqProofs [sB, b21, exs, ex1, ev, evs, evo, truR, truth, e3, eqI, newT, ln0, ln1, q1]
  · have o1 : It2 (m + 1) [D.int 0] 1 1 := It2.one ⟨by simp, by simp [D.sz]⟩
    have q1 := ad (cu none (some at1)) o1 (by omega)
    have q2 := (cu none (some at1)).add o1
    have q3 := ad q2 (cu (some at1) none) (by omega)
    refine key _ _ ((q2.add (cu (some at1) none)).tup (by omega)) (by omega) ?_
    simp -implicitDefEqProofs [sB, b21, exs, ex1, ev, evs, evo, truR, truth, e3, eqI, newT, ln1, cutD, q1, q3]
  · have q1 := ad (cu none (some (-1))) (cu none (some 1)) (by omega)
    refine key _ _ (((cu none (some (-1))).add (cu none (some 1))).tup (by omega)) (by omega) ?_
    simp -implicitDefEqProofs [sB, b21, exs, ex1, ev, evs, evo, truR, truth, e3, eqI, cutD, q1]
  · refine key .non 1 ⟨by simp, by simp [D.sz]⟩ (by omega) ?_
    simp -implicitDefEqProofs [sB, b21, exs, ex1, ev, evs, evo, truR, truth, e3, eqI]
/-- no tuple spoilt -/
theorem spLz (k : Nat) (d : D) (hd : inp d = true) (hn : ∀ xs, d ≠ .tup xs) (dp : Int) {S X T : Sto} (h : Bk S X T) : ∃ v T', Zc 1 2 v ∧ Bk S X T' ∧ callF P (k + 3) 21 [.ref S.length, d, .int dp] T = .ok v T' := by
  have e17 := c17 (k + 1) d T (inp_nc d hd).pl
  have oth : (∀ i, d ≠ .int i) → (∀ s, d ≠ .str s) → ∃ v T', Zc 1 2 v ∧ Bk S X T' ∧ callF P (k + 3) 21 [.ref S.length, d, .int dp] T = .ok v T' := by
    intro n1 n2
    obtain ⟨z, hz, T', hT', e⟩ := pickDB k [.int 0, .tup [], .str [110, 111, 110, 101]] h (by simp) (by simp)
    refine ⟨z, T', ?_, hT', ?_⟩
    · simp at hz; rcases hz with rfl | rfl | rfl
      · exact ⟨by simp, by simp [D.sz]⟩
      · exact ⟨by simp [Nc, D.data, D.datas, D.dep, D.deps, D.wd, D.wds], by simp [D.sz, D.szs]⟩
      · exact ⟨nc_str 1 _, by simp [D.sz]⟩
    · rw [callF_eq (F := f21) rfl rfl]
      have st := fun d => h.same hT' d
      cases d with
      | int i => exact absurd rfl (n1 i)
      | str s => exact absurd rfl (n2 s)
      | tup xs => exact absurd rfl (hn xs)
      | ref n => simp [inp] at hd
      | ins c ks ds => simp [inp] at hd
      | _ =>
        simp only [isI] at e17
        simp -implicitDefEqProofs [f21, b21, exs, ex1, ev, evs, isOf, res, truR, truth, e17, newT, ln0, newL, ln3, e, fin, st]
  cases d with
  | tup xs => exact absurd rfl (hn xs)
  | int i =>
    simp only [inp, Bool.and_eq_true, decide_eq_true_eq] at hd
    obtain ⟨z, hz, T', hT', e⟩ := pickDB k [.int (i + 1), .int (i - 1), .bl (decide (0 < i)), .int (-1 - i), .tup [.int i], .non, .str (digits i), .int (i + 16)] h (by simp) (by simp)
    have hs := log_small hd
    refine ⟨z, T', ?_, hT', ?_⟩
    · simp at hz; rcases hz with rfl | rfl | rfl | rfl | rfl | rfl | rfl | rfl
      all_goals refine ⟨?_, by simp [D.sz, D.szs]⟩
      all_goals first | exact nc_str 1 _ | simp [Nc, D.data, D.datas, D.dep, D.deps, D.wd, D.wds]
    · rw [callF_eq (F := f21) rfl rfl]
      have st := fun d => h.same hT' d
      simp only [isI] at e17
      simp -implicitDefEqProofs [f21, b21, exs, ex1, ev, evs, isOf, res, truR, truth, e17, gtI, newT, ln1, bltD, one, strD, hs, newL, ln8, e, fin, st]
  | str s =>
    simp only [inp, decide_eq_true_eq] at hd
    have l1 : s.length ≤ LINE := LT (by omega)
    have l2 : s.length + 1 ≤ LINE := LT (by omega)
    have l3 : 1 + s.length ≤ LINE := LT (by omega)
    obtain ⟨z, hz, T', hT', e⟩ := pickDB k [.str (s ++ [98]), .str [], .str (cut s (some 1) none), .str (97 :: s), .int 0] h (by simp) (by simp)
    refine ⟨z, T', ?_, hT', ?_⟩
    · simp at hz; rcases hz with rfl | rfl | rfl | rfl | rfl
      all_goals refine ⟨?_, by simp [D.sz, D.szs]⟩
      all_goals first | exact nc_str 1 _ | simp
    · rw [callF_eq (F := f21) rfl rfl]
      have st := fun d => h.same hT' d
      have a1 : ∀ S, binD .add false S (.str s) (.str [98]) = .ok (.str (s ++ [98])) S := fun S => by simp [binD, l2]
      have a2 : ∀ S, binD .add false S (.str [97]) (.str s) = .ok (.str (97 :: s)) S := fun S => by simp [binD, l3]
      simp -implicitDefEqProofs [f21, b21, exs, ex1, ev, evs, evo, isOf, res, truR, truth, a1, a2, cutD, l1, newL, ln5, e, fin, st]
  | ref n => simp [inp] at hd
  | ins c ks ds => simp [inp] at hd
  | non => exact oth (by simp) (by simp)
  | bl b => exact oth (by simp) (by simp)
  | lst xs => exact oth (by simp) (by simp)
/-- a tuple spoilt -/
theorem spTz (j m : Nat) (xs : List D) (z y0 : Nat) (hx : It2 m xs 64 z) (dp : Int) {S X T : Sto} (h : Bk S X T)
    (ih : 0 < dp → ∀ x ∈ xs, ∀ T, Bk S X T → ∃ v T', Zc (m + 2) y0 v ∧ Bk S X T' ∧ callF P (j + 1) 21 [.ref S.length, x, .int (dp - 1)] T = .ok v T') :
    ∃ v T', Zc (m + 3) (3 * z + y0 + 10) v ∧ Bk S X T' ∧ callF P (j + 2) 21 [.ref S.length, .tup xs, .int dp] T = .ok v T' := by
  obtain ⟨at1, T1, a0, a1, hT1, e1⟩ := k15 j (xs.length + 1) h (by omega) (by have := hx.1.2; omega)
  have hdat : D.datas xs = true := datas_of fun x hx2 => (hx.1.1 x hx2).1
  have fromB : ∀ T2, Bk S X T2 → (∀ r T3, exs P (callF P (j + 1)) sB [some (.ref S.length), some (.tup xs), some (.int dp), some (.int at1), none] T2 = .ok (.rt r) T3 → exs P (callF P (j + 1)) b21 [some (.ref S.length), some (.tup xs), some (.int dp), none, none] T = .ok (.rt r) T3) → ∃ v T', Zc (m + 3) (3 * z + y0 + 10) v ∧ Bk S X T' ∧ callF P (j + 2) 21 [.ref S.length, .tup xs, .int dp] T = .ok v T' := by
    intro T2 hT2 hh
    obtain ⟨v, T3, h1, h2, h3⟩ := spBz j m xs z hx (.int dp) at1 hT2
    refine ⟨v, T3, h1.up (by omega) (by omega), h2, ?_⟩
    rw [callF_eq (F := f21) rfl rfl]
    show fin T (exs P (callF P (j + 1)) b21 [some (.ref S.length), some (.tup xs), some (.int dp), none, none] T) = _
    rw [hh v T3 h3]
    simp only [fin]
    rw [h.same h2]
  cases xs with
  | nil =>
    refine fromB T1 hT1 fun r T3 e => ?_
    rw [b13_eq]
    have e1' : callF P (j + 1) 18 [.ref S.length, .int 1] T = .ok (.int at1) T1 := e1
    have hne : ∀ S, cmpD P (callF P (j + 1)) .ne S (.tup []) (.tup []) = .ok (.bl false) S := fun S => ne_self P _ S [] rfl (by simp [D.deps])
    simp -implicitDefEqProofs [exs, ex1, ev, evs, isOf, res, truR, truth, bltD, one, lenD, dctOf, seqOf, e1', newT, ln0, hne, e]
  | cons y ys =>
    have hne : ∀ S, cmpD P (callF P (j + 1)) .ne S (.tup (y :: ys)) (.tup []) = .ok (.bl true) S := fun S => by
      have hd2 := hdat
      simp only [D.datas, Bool.and_eq_true] at hd2
      simp [cmpD, res, eqD, D.data, hd2.1, hd2.2, D.datas, D.dep, D.deps, DEEP, D.eqv, D.eqvs]
    have e1' : callF P (j + 1) 18 [.ref S.length, .int ((ys.length : Int) + 1 + 1)] T = .ok (.int at1) T1 := by simpa using e1
    by_cases hdp : 0 < dp
    · obtain ⟨g, T2, b0, b1, hT2, e2⟩ := k15 j 5 hT1 (by omega) (by omega)
      by_cases hg : 0 < g
      · have hy0 : (0 : Int) < (ys.length : Int) + 1 := by omega
        obtain ⟨p, hp⟩ : ∃ p : Nat, at1 % ((ys.length : Int) + 1) = p := ⟨(at1 % ((ys.length : Int) + 1)).toNat, by have := Int.emod_nonneg at1 (b := (ys.length : Int) + 1) (by omega); omega⟩
        have hp2 : p < ys.length + 1 := by have := Int.emod_lt_of_pos at1 hy0; omega
        have hat : atI (y :: ys) (p : Int) = some ((y :: ys)[p]'(by simpa using hp2)) := by
          have : (p : Int) < (ys.length : Int) + 1 := by omega
          simp [atI, ixN, this]
        obtain ⟨v, T3, v1, hT3, e3⟩ := ih hdp _ (List.getElem_mem (by simpa using hp2 : p < (y :: ys).length)) T2 hT2
        have hx' : It2 (m + 2) (y :: ys) 64 z := ⟨⟨fun x hx2 => (hx.1.1 x hx2).up (by omega), hx.1.2⟩, hx.2⟩
        have c1 := hx'.cut none (some (p : Int))
        have c2 := hx'.cut (some ((p : Int) + 1)) none
        have o1 := It2.one v1
        have q1 := add_tup false T3 (cut (y :: ys) none (some (p : Int))) [v] (by have := c1.1.2; simp; omega)
        have q2 := c1.add o1
        have q3 := add_tup false T3 (cut (y :: ys) none (some (p : Int)) ++ [v]) (cut (y :: ys) (some ((p : Int) + 1)) none) (by have := q2.1.2; have := c2.1.2; omega)
        refine ⟨_, T3, ((q2.add c2).tup (by omega)).up (by omega) (by omega), hT3, ?_⟩
        rw [callF_eq (F := f21) rfl rfl]
        show fin T (exs P (callF P (j + 1)) b21 [some (.ref S.length), some (.tup (y :: ys)), some (.int dp), none, none] T) = _
        rw [b13_eq]
        have st := fun d => h.same hT3 d
        have sAe : sA = .cons (.set 3 (.bin .mod false (.blt .int false (.cons (.var 3) .nil)) (.blt .len false (.cons (.var 1) .nil)))) (.cons (.ret (.bin .add false (.bin .add false (.sl (.var 1) .nul (.one (.var 3))) (.tup (.cons (.call 21 (.cons (.var 0) (.cons (.idx (.var 1) (.var 3)) (.cons (.bin .sub false (.var 2) (.cst (.int 1))) .nil)))) .nil))) (.sl (.var 1) (.one (.bin .add false (.var 3) (.cst (.int 1)))) .nul))) .nil) := rfl
        have gI : ∀ S, getI S (.tup (y :: ys)) (.int p) = .ok ((y :: ys)[p]'(by simpa using hp2)) S := fun S => by simp only [getI, hat, lift_some]
        have cC1 : ∀ S, cutD S (.tup (y :: ys)) none (some (p : Int)) = .ok (.tup (cut (y :: ys) none (some (p : Int)))) S := fun _ => rfl
        have cC2 : ∀ S, cutD S (.tup (y :: ys)) (some ((p : Int) + 1)) none = .ok (.tup (cut (y :: ys) (some ((p : Int) + 1)) none)) S := fun _ => rfl
        generalize cut (y :: ys) none (some (p : Int)) = c1d at *
        generalize cut (y :: ys) (some ((p : Int) + 1)) none = c2d at *
        generalize (y :: ys)[p]'(by simpa using hp2) = it at *
        simp -implicitDefEqProofs only [exs, ex1, ev, evs, evo, isOf, res, truR, truth, bltD, one, lenD, dctOf, seqOf, sAe]
        simp -implicitDefEqProofs [isOf, res, truth, e1', newT, ln0, ln1, hne, gtI, hdp, e2, hg, intD, hy0, hp, gI, cC1, cC2, e3, q1, q3, fin, st]
      · refine fromB T2 hT2 fun r T3 e => ?_
        rw [b13_eq]
        simp -implicitDefEqProofs [exs, ex1, ev, evs, isOf, res, truR, truth, bltD, one, lenD, dctOf, seqOf, e1', newT, ln0, hne, gtI, hdp, e2, hg, e]
    · refine fromB T1 hT1 fun r T3 e => ?_
      rw [b13_eq]
      simp -implicitDefEqProofs [exs, ex1, ev, evs, isOf, res, truR, truth, bltD, one, lenD, dctOf, seqOf, e1', newT, ln0, hne, gtI, hdp, e]
/-- any value spoilt -/
theorem spz (k : Nat) : ∀ (dp : Nat) (d : D), inp d = true → ∀ {S X T : Sto}, Bk S X T → ∃ v T', Zc (d.dep + 2) (3 * (dp + 1) * d.sz + 12 * (dp + 1)) v ∧ Bk S X T' ∧ callF P (k + 3 + dp) 21 [.ref S.length, d, .int dp] T = .ok v T' := by
  intro dp
  induction dp with
  | zero =>
    intro d hd S X T h
    cases d with
    | tup xs =>
      simp only [inp, Bool.and_eq_true, decide_eq_true_eq] at hd
      obtain ⟨v, T', h1, h2, h3⟩ := spTz (k + 1) (D.deps xs) xs (D.szs xs) 0 ⟨⟨inps_nc xs hd.2, hd.1⟩, Nat.le_refl _⟩ 0 h (fun hh => absurd hh (by omega))
      exact ⟨v, T', h1.up (by simp only [D.dep]; omega) (by simp only [D.sz]; omega), h2, h3⟩
    | _ =>
      obtain ⟨v, T', h1, h2, h3⟩ := spLz k _ hd (by simp) 0 h
      exact ⟨v, T', h1.up (by omega) (by omega), h2, h3⟩
  | succ dp ih =>
    intro d hd S X T h
    cases d with
    | tup xs =>
      simp only [inp, Bool.and_eq_true, decide_eq_true_eq] at hd
      obtain ⟨v, T', h1, h2, h3⟩ := spTz (k + 2 + dp) (D.deps xs) xs (D.szs xs) (3 * (dp + 1) * D.szs xs + 12 * (dp + 1)) ⟨⟨inps_nc xs hd.2, hd.1⟩, Nat.le_refl _⟩ ((dp : Int) + 1) h (fun _ x hx T hT => by
        obtain ⟨v, T', g1, g2, g3⟩ := ih x (inps_mem hd.2 x hx) hT
        refine ⟨v, T', g1.up (by have := dep_mm hx; omega) (Nat.add_le_add_right (Nat.mul_le_mul_left _ (szs_mem hx)) _), g2, ?_⟩
        rw [show k + 2 + dp + 1 = k + 3 + dp by omega, show ((dp : Int) + 1 - 1) = dp by omega]
        exact g3)
      refine ⟨v, T', h1.up (by simp only [D.dep]; omega) (by simp only [D.sz]; grind), h2, ?_⟩
      rw [show k + 3 + (dp + 1) = k + 2 + dp + 2 by omega]
      exact h3
    | _ =>
      obtain ⟨v, T', h1, h2, h3⟩ := spLz (k + dp + 1) _ hd (by simp) ((dp : Int) + 1) h
      refine ⟨v, T', h1.up (by omega) (by omega), h2, ?_⟩
      rw [show k + 3 + (dp + 1) = k + dp + 1 + 3 by omega]
      exact h3
end Ck10
end
section
set_option linter.all false
set_option maxRecDepth 100000
set_option maxHeartbeats 4000000
/-! whether a run fits: the law; runs drawn -/
local macro_rules | `(tactic| simp! [$ls,*]) => `(tactic| ((repeat (first | with_reducible refine Mi.sp_ok ?_ | ((with_reducible refine Mi.sp_ev ?_); show Mi.Run _ _) | ((with_reducible refine Mi.sp_evs ?_); show Mi.Run _ _) | ((with_reducible refine Mi.sp_st ?_); show Mi.Run _ _) | ((with_reducible refine Mi.sp_exs ?_); show Mi.Run _ _) | ((with_reducible refine Mi.sp_walk ?_); show Mi.Run _ _) | ((with_reducible refine Mi.sp_evo ?_); show Mi.Run _ _) | ((with_reducible refine Mi.sp_evc ?_); show Mi.Run _ _) | with_reducible refine Mi.sp_bind ?_ | with_reducible refine Mi.sp_fin ?_ | with_reducible refine Mi.sp_foS ?_ | with_reducible refine Mi.sp_lc ?_ | with_reducible refine Mi.sp_nox ?_ | refine Mi.run_cg (by simp -implicitDefEqProofs only [Mi.nextO_nx, Mi.nextO_rt, Mi.tr_bl, Mi.tr_int, Mi.tr_non, Mi.tr_tup, Mi.tr_lst, Mi.rs_tup, Mi.rs_lst, Mi.rs_int, Mi.rs_bl, Mi.rs_str, Mi.rs_non, Mi.rs_ins, Mi.sq_tup, Mi.sq_lst, Mi.gi_tup, Mi.gi_lst, Mi.ln_tup, Mi.ln_lst, Mi.b_len, Mi.b_sum, Mi.b_tuple, Mi.b_list, Mi.b_all, Mi.b_any, Mi.b_int, Mi.b_max, Mi.b_min, Mi.b_sorted, Mi.b_min2, Mi.b_max2, Mi.tp_tup, Mi.tp_lst, Mi.nt_0, Mi.nt_1, Mi.nt_2, Mi.nt_3, Mi.nt_4, Mi.asT, Mi.asTs, Mi.wipe, Mi.isOf, Mi.Tg.own, Mi.Tgs.own, Mi.lockO, Mi.at0, Mi.at1, Mi.at2, Mi.eqI, Mi.neI, Mi.ltI, Mi.leI, Mi.gtI, Mi.geI, Mi.bin_add, Mi.bin_sub, Mi.still_lst, Mi.still_tup, Mi.lift_some, List.getElem?_cons_zero, List.getElem?_cons_succ, List.set_cons_zero, List.set_cons_succ, List.set_set, List.length_cons, List.length_nil, List.length_set, List.getElem?_set, List.map_cons, List.map_nil, List.append_nil, List.nil_append, List.cons_append, List.isEmpty_nil, List.isEmpty_cons, Option.map_some, Option.bind_some, Option.isSome_none, List.replicate, Nat.reduceAdd, Nat.reduceSub, Nat.reduceLT, if_true, if_false, Bool.false_eq_true, Bool.not_true, Bool.not_false, ite_self, ↓reduceIte, and_self, true_and, and_true, decide_true, decide_false, Bool.and_true, Bool.true_and, Bool.and_false, Bool.false_and, Bool.or_true, Bool.true_or, Bool.or_false, Bool.false_or, Nat.reduceEqDiff, Nat.reduceLeDiff, Mi.nl_f, Mi.nl_t, Int.reduceBEq, Int.reduceAdd, Int.reduceSub, Int.reduceNeg, Int.cast_ofNat_Int, Int.natCast_one, Int.natCast_zero, BEq.rfl, $ls,*]; exact rfl) ?_)); (first | with_reducible refine Mi.run_id ?_ | (try simp -implicitDefEqProofs only [eq_self, and_self, true_and, and_true, Mi.trunc_self, if_true, if_false, Bool.false_eq_true, ↓reduceIte, Bool.and_true, Bool.true_and, Bool.and_false, Bool.false_and, $ls,*]))))
namespace Ck10
open Mi
theorem runsin0 (K g : Nat) (ps : List T) (S : Sto) (hl : ps.length ≤ 900) (ih : ∀ f qs, T.rn f qs ∈ ps → ∀ S, callF P K 25 [toD (.rn f qs)] S = .ok (.int (nru (.rn f qs))) S) : callF P (K + 1) 25 [toD (.rn g ps)] S = .ok (.int (nru (.rn g ps))) S := by
  rw [callF_eq (F := f25) rfl rfl]
  refine run_is.mp ?_
  have g1 : ∀ S, getI S (toD (.rn g ps)) (.int 1) = .ok (.tup (ps.map toD)) S := fun S => by simp [toD, getI, toDs_map]
  have fm : ∀ ps : List T, ps.filterMap (fun t => match t with
      | .tk _ => none
      | .rn f qs => some (D.int (nru (.rn f qs)))) = (ps.filterMap fun t => match t with
      | .tk _ => none
      | .rn f qs => some ((nru (.rn f qs) : Nat) : Int)).map D.int ∧ (ps.filterMap fun t => match t with
      | .tk _ => none
      | .rn f qs => some ((nru (.rn f qs) : Nat) : Int)).sum = nruL ps := fun ps => by
    induction ps with
    | nil => exact ⟨rfl, rfl⟩
    | cons x r ih =>
      cases x with
      | tk i => simpa [nruL, nru] using ih
      | rn f qs =>
        simp only [List.filterMap_cons, List.map_cons, List.sum_cons, ih.1, ih.2, nruL, true_and]
        omega
  have hc : ev P (callF P K) (.comp false x25_0 (.var 1) (.seq (.idx (.var 0) (.cst (.int 1)))) y25_1) [some (toD (.rn g ps)), none] S = .ok (.lst (ps.filterMap fun t => match t with
      | .tk _ => none
      | .rn f qs => some (D.int (nru (.rn f qs))))) S := by
    refine ev_compM P (callF P K) toD (ck := fun _ => true) ?_ rfl _ (fun t ht => ?_) (by
      have := List.length_filterMap_le (fun t : T => match t with
        | .tk _ => none
        | .rn f qs => some (D.int (nru (.rn f qs)))) ps
      unfold LINE; omega)
    · refine run_is.mp ?_
      generalize toD (.rn g ps) = R at *
      simp! [g1]
    · refine run_is.mp ?_
      generalize toD (.rn g ps) = R at *
      cases t with
      | tk i => simp! [y25_1, x25_0, show toD (.tk i) = .int i from rfl]
      | rn f qs =>
        have e1 := ih f qs ht S
        have hi : ∀ S, isOf (res S (toD (.rn f qs))) .tuple = some true := fun S => rfl
        generalize toD (.rn f qs) = PT at *
        simp! [y25_1, x25_0, ↓hi, e1]
  rw [(fm ps).1] at hc
  have hs := sumD_ints S (ps.filterMap fun t => match t with
      | .tk _ => none
      | .rn f qs => some ((nru (.rn f qs) : Nat) : Int))
  rw [(fm ps).2] at hs
  have hnr : nru (.rn g ps) = 1 + nruL ps := by simp only [nru]
  rw [hnr]
  generalize toD (.rn g ps) = R at *
  generalize (ps.filterMap fun t => match t with
      | .tk _ => none
      | .rn f qs => some ((nru (.rn f qs) : Nat) : Int)).map D.int = L at *
  show Run (fin S (exs P (callF P K) b25 [some R, none] S)) _
  simp! [b25, ↓hc, hs]
  simp
theorem runsin (k : Nat) : ∀ (d g : Nat) (ps : List T) (S : Sto), dpL ps ≤ d → (toD (.rn g ps)).sz ≤ 900 → callF P (k + d + 1) 25 [toD (.rn g ps)] S = .ok (.int (nru (.rn g ps))) S := by
  intro d
  induction d with
  | zero =>
    intro g ps S hd hz
    have hl := szs_len (toDs ps)
    rw [toDs_len] at hl
    simp only [toD, D.sz, D.szs] at hz
    refine runsin0 (k + 0) g ps S (by omega) fun f qs hm => ?_
    have := dpL_mem hm
    simp only [dpT] at this; omega
  | succ d ih =>
    intro g ps S hd hz
    have hl := szs_len (toDs ps)
    rw [toDs_len] at hl
    have hz0 := hz
    simp only [toD, D.sz, D.szs] at hz
    refine runsin0 (k + (d + 1)) g ps S (by omega) fun f qs hm S => ?_
    have h1 := dpL_mem hm
    have h2 : (toD (.rn f qs)).sz ≤ D.szs (toDs ps) := szs_mem (by rw [toDs_map]; exact List.mem_map.mpr ⟨_, hm, rfl⟩)
    simp only [dpT] at h1
    exact ih f qs S (by omega) (by omega)
end Ck10
end
section
set_option linter.all false
set_option maxRecDepth 100000
set_option maxHeartbeats 4000000
/-! runs drawn -/
local macro_rules | `(tactic| simp! [$ls,*]) => `(tactic| ((repeat (first | with_reducible refine Mi.sp_ok ?_ | ((with_reducible refine Mi.sp_ev ?_); show Mi.Run _ _) | ((with_reducible refine Mi.sp_evs ?_); show Mi.Run _ _) | ((with_reducible refine Mi.sp_st ?_); show Mi.Run _ _) | ((with_reducible refine Mi.sp_exs ?_); show Mi.Run _ _) | ((with_reducible refine Mi.sp_walk ?_); show Mi.Run _ _) | ((with_reducible refine Mi.sp_evo ?_); show Mi.Run _ _) | ((with_reducible refine Mi.sp_evc ?_); show Mi.Run _ _) | with_reducible refine Mi.sp_bind ?_ | with_reducible refine Mi.sp_fin ?_ | with_reducible refine Mi.sp_foS ?_ | with_reducible refine Mi.sp_lc ?_ | with_reducible refine Mi.sp_nox ?_ | refine Mi.run_cg (by simp -implicitDefEqProofs only [Mi.nextO_nx, Mi.nextO_rt, Mi.tr_bl, Mi.tr_int, Mi.tr_non, Mi.tr_tup, Mi.tr_lst, Mi.rs_tup, Mi.rs_lst, Mi.rs_int, Mi.rs_bl, Mi.rs_str, Mi.rs_non, Mi.rs_ins, Mi.sq_tup, Mi.sq_lst, Mi.gi_tup, Mi.gi_lst, Mi.ln_tup, Mi.ln_lst, Mi.b_len, Mi.b_sum, Mi.b_tuple, Mi.b_list, Mi.b_all, Mi.b_any, Mi.b_int, Mi.b_max, Mi.b_min, Mi.b_sorted, Mi.b_min2, Mi.b_max2, Mi.tp_tup, Mi.tp_lst, Mi.nt_0, Mi.nt_1, Mi.nt_2, Mi.nt_3, Mi.nt_4, Mi.asT, Mi.asTs, Mi.wipe, Mi.isOf, Mi.Tg.own, Mi.Tgs.own, Mi.lockO, Mi.at0, Mi.at1, Mi.at2, Mi.eqI, Mi.neI, Mi.ltI, Mi.leI, Mi.gtI, Mi.geI, Mi.bin_add, Mi.bin_sub, Mi.still_lst, Mi.still_tup, Mi.lift_some, List.getElem?_cons_zero, List.getElem?_cons_succ, List.set_cons_zero, List.set_cons_succ, List.set_set, List.length_cons, List.length_nil, List.length_set, List.getElem?_set, List.map_cons, List.map_nil, List.append_nil, List.nil_append, List.cons_append, List.isEmpty_nil, List.isEmpty_cons, Option.map_some, Option.bind_some, Option.isSome_none, List.replicate, Nat.reduceAdd, Nat.reduceSub, Nat.reduceLT, if_true, if_false, Bool.false_eq_true, Bool.not_true, Bool.not_false, ite_self, ↓reduceIte, and_self, true_and, and_true, decide_true, decide_false, Bool.and_true, Bool.true_and, Bool.and_false, Bool.false_and, Bool.or_true, Bool.true_or, Bool.or_false, Bool.false_or, Nat.reduceEqDiff, Nat.reduceLeDiff, Mi.nl_f, Mi.nl_t, Int.reduceBEq, Int.reduceAdd, Int.reduceSub, Int.reduceNeg, Int.cast_ofNat_Int, Int.natCast_one, Int.natCast_zero, BEq.rfl, $ls,*]; exact rfl) ?_)); (first | with_reducible refine Mi.run_id ?_ | (try simp -implicitDefEqProofs only [eq_self, and_self, true_and, and_true, Mi.trunc_self, if_true, if_false, Bool.false_eq_true, ↓reduceIte, Bool.and_true, Bool.true_and, Bool.and_false, Bool.false_and, $ls,*]))))
namespace Ck10
open Mi
theorem inps_app (a b : List D) : inps (a ++ b) = (inps a && inps b) := by
  induction a with
  | nil => simp [inps]
  | cons x r ih => simp only [List.cons_append, inps, ih, Bool.and_assoc]
theorem okps_app {es : List (Nat × Nat)} {g : Nat} {a b : List T} (h : okps es g a) (k : okps es g b) : okps es g (a ++ b) := okps_of fun t ht => by
  rcases List.mem_append.mp ht with ht | ht
  · exact okps_mem h t ht
  · exact okps_mem k t ht
theorem toDs_snoc (ps : List T) (t : T) : toDs (ps ++ [t]) = toDs ps ++ [toD t] := by
  rw [toDs_map, toDs_map, List.map_append]; rfl
theorem fmap_to (f : Nat) (es : List (Nat × Nat)) : (es.filter fun e => e.1 == f).map (fun e => D.int e.2) = es.filterMap fun e => if e.1 = f then some (D.int e.2) else none := by
  induction es with
  | nil => rfl
  | cons x r ih => by_cases hx : x.1 = f <;> simp [hx, ih]
/-- what a drawn run is -/
structure Dr (es : List (Nat × Nat)) (f room : Nat) (ps : List T) : Prop where
  ok : okps es f ps
  nr : nru (.rn f ps) ≤ room
  sz : (toD (.rn f ps)).sz ≤ 6 * nru (.rn f ps) + 1
  ip : inp (toD (.rn f ps)) = true
  tk : tks (.rn f ps) ≤ 9000 * ((toD (.rn f ps)).sz : Int)
section
variable {n : Nat} {es : List (Nat × Nat)} (hn : n ≤ 5) (hri : ∀ e ∈ es, e.1 < e.2 ∧ e.2 < n) (hel : es.length ≤ 100)
include hn hri hel
theorem drawn0 (K : Nat) {S X : Sto} (wide : Nat) (hw : 1 ≤ wide ∧ wide ≤ 9000) (room f : Nat) (hr1 : 1 ≤ room) (hr : room ≤ 12) (hf : f < n)
    (ih : ∀ (r g : Nat), 1 ≤ r → r < room → g < n → ∀ T, Bk S X T → ∃ ps T', Dr es g r ps ∧ Bk S X T' ∧ callF P (K + 8) 24 [.ref S.length, kD n es, .int g, .int r, .int wide] T = .ok (toD (.rn g ps)) T') (T : Sto) (hT : Bk S X T) :
    ∃ ps T', Dr es f room ps ∧ Bk S X T' ∧ callF P (K + 9) 24 [.ref S.length, kD n es, .int f, .int room, .int wide] T = .ok (toD (.rn f ps)) T' := by
  obtain ⟨m, T1, m0, m5, hT1, em⟩ := k15 (K + 7) 5 hT (by omega) (by omega)
  obtain ⟨c, hc⟩ : ∃ c : Nat, m = c := ⟨m.toNat, by omega⟩
  subst hc
  have k1 := kg1 n es
  have hg : Run (callF P (K + 9) 24 [.ref S.length, kD n es, .int f, .int room, .int wide] T) fun d T' => ∃ ps, Dr es f room ps ∧ Bk S X T' ∧ d = toD (.rn f ps) := by
    rw [callF_eq (F := f24) rfl rfl]
    generalize hKD : kD n es = KD at *
    have hso : ∀ e : Env, e.length = 12 → e[1]? = some (some KD) → e[2]? = some (some (.int f)) → ev P (callF P (K + 8)) (.comp false x24_1 (.tup (.cons (.var 8) (.cons (.var 9) .nil))) (.seq (.idx (.var 1) (.cst (.int 1)))) y24_2) e T = .ok (.lst ((es.filter fun e => e.1 == f).map fun e => D.int e.2)) T := fun e he h1 h2 => by
      rw [fmap_to]
      refine ev_compM P (callF P (K + 8)) pr (ck := fun _ => true) ?_ rfl _ (fun e2 _ => ?_) (by
        have := List.length_filterMap_le (fun e : Nat × Nat => if e.1 = f then some (D.int e.2) else none) es
        unfold LINE; omega)
      · refine run_is.mp ?_
        simp! [h1, k1]
      · refine run_is.mp ?_
        have q : ((e2.1 : Int) == (f : Int)) = decide (e2.1 = f) := by
          by_cases hx : e2.1 = f
          · simp [hx]
          · have : ¬ (e2.1 : Int) = f := by omega
            simp [hx, this]
        by_cases hx : e2.1 = f
        · have q1 : decide (e2.1 = f) = true := by simp [hx]
          simp! [y24_2, x24_1, pr, he, h2, q, q1, hx]
        · have q1 : decide (e2.1 = f) = false := by simp [hx]
          have hx' : ¬ (e2.1 : Int) = (f : Int) := by omega
          simp! [y24_2, x24_1, pr, he, h2, q, q1, hx, hx']
    have hsm : ∀ d ∈ (es.filter fun e => e.1 == f).map (fun e => D.int e.2), ∃ g : Nat, d = .int g ∧ (f, g) ∈ es := fun d hd => by
      obtain ⟨e, he, rfl⟩ := List.mem_map.mp hd
      simp only [List.mem_filter, beq_iff_eq] at he
      obtain ⟨he, rfl⟩ := he
      exact ⟨e.2, rfl, he⟩
    have hsl : ((es.filter fun e => e.1 == f).map fun e => D.int e.2).length ≤ 100 := by
      have := List.length_filter_le (fun e : Nat × Nat => e.1 == f) es
      simp; omega
    generalize (es.filter fun e => e.1 == f).map (fun e => D.int e.2) = L at *
    have hLd : D.datas L = true := datas_of fun d hd => by
      obtain ⟨g, rfl, _⟩ := hsm d hd; rfl
    show Run (fin T (exs P (callF P (K + 8)) b24 [some (.ref S.length), some KD, some (.int f), some (.int room), some (.int wide), none, none, none, none, none, none, none] T)) _
    have hso' := hso [some (.ref S.length), some KD, some (.int f), some (.int room), some (.int wide), some (.tup []), some (.int ((room : Int) - 1)), none, none, none, none, none] rfl rfl rfl
    have hrg := rngW1_nat c (by omega) T1
    simp! [b24, ↓hso', em, hrg]
    refine run_forR (fun r e T2 => ∃ (ps : List Mi.T) (left : Nat) (v10 v11 : Option D), Bk S X T2 ∧ okps es f ps ∧ nruL ps + left + 1 = room ∧ D.szs (toDs ps) ≤ 6 * nruL ps + ps.length ∧ inps (toDs ps) = true ∧ tksL ps ≤ 9000 * (D.szs (toDs ps) : Int) ∧ ps.length + r.length ≤ 4 ∧ e = [some (.ref S.length), some KD, some (.int f), some (.int room), some (.int wide), some (.tup (toDs ps)), some (.int left), some (.lst L), none, none, v10, v11]) ?_ ?_ _ _ _ ⟨[], room - 1, none, none, hT1, trivial, by simp [nruL]; omega, by simp [toDs, D.szs], rfl, by simp [toDs, D.szs, tksL], by simp [rangeD]; omega, by rw [show ((room : Int) - 1) = ((room - 1 : Nat) : Int) by omega]; rfl⟩
    · rintro x r e T2 ⟨ps, left, v10, v11, hT2, hok, hnr, hsz, hip, htk, hlen, rfl⟩
      simp only [List.length_cons] at hlen
      have lps := toDs_len ps
      have nn := fun T => ne_nil P (callF P (K + 8)) T L hLd
      -- a tick more
      have tick : ∀ T3, Bk S X T3 → ∃ (i : Int) (T4 : Sto), (1 ≤ i ∧ i ≤ 9000) ∧ Bk S X T4 ∧ callF P (K + 8) 18 [.ref S.length, .int wide] T3 = .ok (.int (i - 1)) T4 := fun T3 hT3 => by
        obtain ⟨i, T4, i0, i1, hT4, e4⟩ := k15 (K + 7) wide hT3 (by omega) (by omega)
        exact ⟨i + 1, T4, by omega, hT4, by rw [show i + 1 - 1 = i by omega]; exact e4⟩
      have tickend : ∀ (i : Int) (T4 : Sto), (1 ≤ i ∧ i ≤ 9000) → Bk S X T4 → ∃ (qs : List Mi.T) (left' : Nat) (w10 w11 : Option D), Bk S X T4 ∧ okps es f qs ∧ nruL qs + left' + 1 = room ∧ D.szs (toDs qs) ≤ 6 * nruL qs + qs.length ∧ inps (toDs qs) = true ∧ tksL qs ≤ 9000 * (D.szs (toDs qs) : Int) ∧ qs.length + r.length ≤ 4 ∧ [some (D.ref S.length), some KD, some (.int f), some (.int room), some (.int wide), some (.tup (toDs ps ++ [.int i])), some (.int left), some (.lst L), none, none, some x, v11] = [some (.ref S.length), some KD, some (.int f), some (.int room), some (.int wide), some (.tup (toDs qs)), some (.int left'), some (.lst L), none, none, w10, w11] := fun i T4 hi hT4 => by
        have ht : toDs (ps ++ [.tk i]) = toDs ps ++ [.int i] := toDs_snoc ps (.tk i)
        refine ⟨ps ++ [.tk i], left, some x, v11, hT4, okps_app hok ?_, ?_, ?_, ?_, ?_, by simp; omega, by rw [ht]⟩
        · simp only [okps, okp]; exact ⟨by omega, trivial⟩
        · simp only [nruL_app, nruL, nru]; omega
        · rw [ht, szs_app]; simp only [nruL_app, nruL, nru, List.length_append, List.length_singleton, D.szs, D.sz]; omega
        · rw [ht, inps_app, hip]
          simp only [inps, inp, Bool.and_true, Bool.true_and, Bool.and_eq_true, decide_eq_true_eq]; omega
        · rw [ht, szs_app, tksL_app]; simp only [tksL, tks, D.szs, D.sz]; omega
      have add1 : ∀ d T, binD .add false T (.tup (toDs ps)) (.tup [d]) = .ok (.tup (toDs ps ++ [d])) T := fun d T => add_tup false T _ _ (by simp; omega)
      have hi1 : ∀ i : Int, 1 + (i - 1) = i := fun i => by omega
      generalize hPS : toDs ps = PS at *
      cases hL : L with
      | nil =>
        subst hL
        obtain ⟨i, T4, i1, hT4, e4⟩ := tick T2 hT2
        have nn2 : ∀ T, cmpD P (callF P (K + 8)) .ne T (.lst []) (.lst []) = .ok (.bl false) T := fun T => nn T
        simp! [q24_0, nn2, e4, add1, hi1]
        exact ⟨_, rfl, tickend i T4 i1 hT4⟩
      | cons y ys =>
        rw [← hL]
        have nn2 : ∀ T, cmpD P (callF P (K + 8)) .ne T (.lst L) (.lst []) = .ok (.bl true) T := fun T => by rw [nn T, hL]; rfl
        by_cases hl0 : 0 < left
        · have dl : decide ((0 : Int) < (left : Int)) = true := by simpa using hl0
          obtain ⟨w, T3, w0, w1, hT3, e3⟩ := k15 (K + 7) 3 hT2 (by omega) (by omega)
          by_cases hw0 : 0 < w
          · have dw : decide ((0 : Int) < w) = true := by simpa using hw0
            obtain ⟨z, hz, T4, hT4, e4⟩ := pickDB (K + 6) L hT3 (by rw [hL]; simp) (by omega)
            obtain ⟨g, rfl, hgm⟩ := hsm z hz
            obtain ⟨r5, T5, r0, r1, hT5, e5⟩ := k15 (K + 7) left hT4 (by omega) (by omega)
            obtain ⟨c5, hc5⟩ : ∃ c : Nat, r5 = c := ⟨r5.toNat, by omega⟩
            subst hc5
            obtain ⟨qs, T6, hD, hT6, e6⟩ := ih (c5 + 1) g (by omega) (by omega) (hri _ hgm).2 T5 hT5
            have hc1 : (1 : Int) + (c5 : Int) = ((c5 + 1 : Nat) : Int) := by omega
            have dq := dpL_le hri g qs hD.ok
            have hzq := hD.sz
            have hnq := hD.nr
            have e7 := runsin (K + 2) 5 g qs T6 (by omega) (by omega)
            simp only [Nat.add_assoc, Nat.reduceAdd] at e7
            have hDip := hD.ip
            have hDok := hD.ok
            have htd : toDs (ps ++ [.rn g qs]) = PS ++ [toD (.rn g qs)] := by rw [← hPS]; exact toDs_snoc ps _
            have hlf : ((left : Int) - (nru (.rn g qs) : Int)) = ((left - nru (.rn g qs) : Nat) : Int) := by omega
            simp! [q24_0, nn2, dl, e3, dw, e4, e5, hc1, e6, e7, add1, hlf]
            refine ⟨_, rfl, ps ++ [.rn g qs], left - nru (.rn g qs), some x, some (toD (.rn g qs)), hT6, okps_app hok ?_, ?_, ?_, ?_, ?_, by simp; omega, ?_⟩
            · simp only [okps, okp]; exact ⟨⟨hgm, hDok⟩, trivial⟩
            · simp only [nruL_app, nruL]; omega
            · rw [htd, szs_app]; simp only [nruL_app, nruL, List.length_append, List.length_singleton, D.szs]; omega
            · rw [htd, inps_app]; simp only [inps, hDip, Bool.and_true]; exact hip
            · rw [htd, szs_app, tksL_app]; simp only [tksL, D.szs]; have := hD.tk; omega
            · rw [htd]
          · have dw : decide ((0 : Int) < w) = false := by simpa using hw0
            obtain ⟨i, T4, i1, hT4, e4⟩ := tick T3 hT3
            simp! [q24_0, nn2, dl, e3, dw, e4, add1, hi1]
            exact ⟨_, rfl, tickend i T4 i1 hT4⟩
        · have dl : decide ((0 : Int) < (left : Int)) = false := by simpa using hl0
          obtain ⟨i, T4, i1, hT4, e4⟩ := tick T2 hT2
          simp! [q24_0, nn2, dl, e4, add1, hi1]
          exact ⟨_, rfl, tickend i T4 i1 hT4⟩
    · rintro e T2 ⟨ps, left, v10, v11, hT2, hok, hnr, hsz, hip, htk, hlen, rfl⟩
      have lps := toDs_len ps
      have htr := hT.same hT2 (toD (.rn f ps))
      have ht : D.tup [.int f, .tup (toDs ps)] = toD (.rn f ps) := rfl
      simp! [ht, htr]
      refine ⟨ps, ⟨hok, ?_, ?_, ?_, ?_⟩, hT2, rfl⟩
      · simp only [nru]; omega
      · simp only [toD, D.sz, D.szs, nru]; simp only [List.length_nil] at hlen; omega
      · simp only [toD, inp, inps, hip, Bool.and_true, Bool.and_eq_true, decide_eq_true_eq, List.length_cons, List.length_nil]
        simp only [List.length_nil] at hlen
        omega
      · simp only [toD, D.sz, D.szs, tks]; omega
  obtain ⟨d, T', e, ps, h1, h2, rfl⟩ := hg.get
  exact ⟨ps, T', h1, h2, e⟩
theorem drawn (K : Nat) {S X : Sto} (wide : Nat) (hw : 1 ≤ wide ∧ wide ≤ 9000) : ∀ (room f : Nat), 1 ≤ room → room ≤ 12 → f < n → ∀ T, Bk S X T → ∃ ps T', Dr es f room ps ∧ Bk S X T' ∧ callF P (K + room + 8) 24 [.ref S.length, kD n es, .int f, .int room, .int wide] T = .ok (toD (.rn f ps)) T' := by
  intro room
  induction room using Nat.strongRecOn generalizing K with
  | ind room ihr =>
    intro f h1 h2 hf T hT
    have := drawn0 (K := K + room - 1) hn hri hel wide hw room f h1 h2 hf (fun r g a b c T hT => by
      have := ihr r b (K + room - 1 - r) g a (by omega) c T hT
      rwa [show K + room - 1 - r + r + 8 = K + room - 1 + 8 by omega] at this) T hT
    rwa [show K + room - 1 + 9 = K + room + 8 by omega] at this
end
end Ck10
end
section
set_option linter.all false
set_option maxRecDepth 100000
set_option maxHeartbeats 4000000
/-! values looked at; what is told -/
local macro_rules | `(tactic| simp! [$ls,*]) => `(tactic| ((repeat (first | with_reducible refine Mi.sp_ok ?_ | ((with_reducible refine Mi.sp_ev ?_); show Mi.Run _ _) | ((with_reducible refine Mi.sp_evs ?_); show Mi.Run _ _) | ((with_reducible refine Mi.sp_st ?_); show Mi.Run _ _) | ((with_reducible refine Mi.sp_exs ?_); show Mi.Run _ _) | ((with_reducible refine Mi.sp_walk ?_); show Mi.Run _ _) | ((with_reducible refine Mi.sp_evo ?_); show Mi.Run _ _) | ((with_reducible refine Mi.sp_evc ?_); show Mi.Run _ _) | with_reducible refine Mi.sp_bind ?_ | with_reducible refine Mi.sp_fin ?_ | with_reducible refine Mi.sp_foS ?_ | with_reducible refine Mi.sp_lc ?_ | with_reducible refine Mi.sp_nox ?_ | refine Mi.run_cg (by simp -implicitDefEqProofs only [Mi.nextO_nx, Mi.nextO_rt, Mi.tr_bl, Mi.tr_int, Mi.tr_non, Mi.tr_tup, Mi.tr_lst, Mi.rs_tup, Mi.rs_lst, Mi.rs_int, Mi.rs_bl, Mi.rs_str, Mi.rs_non, Mi.rs_ins, Mi.sq_tup, Mi.sq_lst, Mi.gi_tup, Mi.gi_lst, Mi.ln_tup, Mi.ln_lst, Mi.b_len, Mi.b_sum, Mi.b_tuple, Mi.b_list, Mi.b_all, Mi.b_any, Mi.b_int, Mi.b_max, Mi.b_min, Mi.b_sorted, Mi.b_min2, Mi.b_max2, Mi.tp_tup, Mi.tp_lst, Mi.nt_0, Mi.nt_1, Mi.nt_2, Mi.nt_3, Mi.nt_4, Mi.asT, Mi.asTs, Mi.wipe, Mi.isOf, Mi.Tg.own, Mi.Tgs.own, Mi.lockO, Mi.at0, Mi.at1, Mi.at2, Mi.eqI, Mi.neI, Mi.ltI, Mi.leI, Mi.gtI, Mi.geI, Mi.bin_add, Mi.bin_sub, Mi.still_lst, Mi.still_tup, Mi.lift_some, List.getElem?_cons_zero, List.getElem?_cons_succ, List.set_cons_zero, List.set_cons_succ, List.set_set, List.length_cons, List.length_nil, List.length_set, List.getElem?_set, List.map_cons, List.map_nil, List.append_nil, List.nil_append, List.cons_append, List.isEmpty_nil, List.isEmpty_cons, Option.map_some, Option.bind_some, Option.isSome_none, List.replicate, Nat.reduceAdd, Nat.reduceSub, Nat.reduceLT, if_true, if_false, Bool.false_eq_true, Bool.not_true, Bool.not_false, ite_self, ↓reduceIte, and_self, true_and, and_true, decide_true, decide_false, Bool.and_true, Bool.true_and, Bool.and_false, Bool.false_and, Bool.or_true, Bool.true_or, Bool.or_false, Bool.false_or, Nat.reduceEqDiff, Nat.reduceLeDiff, Mi.nl_f, Mi.nl_t, Int.reduceBEq, Int.reduceAdd, Int.reduceSub, Int.reduceNeg, Int.cast_ofNat_Int, Int.natCast_one, Int.natCast_zero, BEq.rfl, $ls,*]; exact rfl) ?_)); (first | with_reducible refine Mi.run_id ?_ | (try simp -implicitDefEqProofs only [eq_self, and_self, true_and, and_true, Mi.trunc_self, if_true, if_false, Bool.false_eq_true, ↓reduceIte, Bool.and_true, Bool.true_and, Bool.and_false, Bool.false_and, $ls,*]))))
namespace Ck10
open Mi
mutual
theorem dep_toD : ∀ t : T, (toD t).dep ≤ 2 * dpT t + 1
  | .tk _ => by simp only [toD, D.dep]; omega
  | .rn g ps => by
    have := deps_toDs ps
    simp only [toD, D.dep, D.deps, dpT]; omega
theorem deps_toDs : ∀ ps : List T, D.deps (toDs ps) ≤ 2 * dpL ps + 1
  | [] => by simp only [toDs, D.deps]; omega
  | t :: r => by
    have h1 := dep_toD t
    have h2 := deps_toDs r
    simp only [toDs, D.deps, dpL]; omega
end
/-- no great value -/
structure Vy (z : Nat) (d : D) : Prop where
  dat : d.data = true
  dp : d.dep ≤ 30
  z : d.sz ≤ z
theorem Vy.vz {z : Nat} {d : D} (h : Vy z d) (hz : z ≤ 3000) : Vz d := ⟨h.dat, by have := h.dp; omega, by have := h.z; omega⟩
theorem Dr.vy {n : Nat} {es : List (Nat × Nat)} {ps : List T} (h : Dr es 0 12 ps) (hn : n ≤ 5) (hri : ∀ e ∈ es, e.1 < e.2 ∧ e.2 < n) : D.datas (toDs ps) = true ∧ D.deps (toDs ps) ≤ 11 ∧ D.szs (toDs ps) ≤ 82 ∧ (toDs ps).length ≤ 82 := by
  have h1 := toDs_data ps
  have h2 := deps_toDs ps
  have h3 := dpL_le hri 0 ps h.ok
  have h4 := h.sz
  have h5 := h.nr
  have h6 := szs_len (toDs ps)
  simp only [toD, D.sz, D.szs] at h4
  refine ⟨h1, by omega, by omega, by omega⟩
theorem szs_rev (xs : List D) : D.szs xs.reverse = D.szs xs := by
  induction xs with
  | nil => rfl
  | cons x r ih => simp only [List.reverse_cons, szs_app, ih, D.szs]; omega
def rep (n : Nat) (x : D) : D := .tup (List.replicate n x)
def repP (n : Nat) (x y : D) : D := .tup (List.replicate n x ++ [y])
theorem rep_add (T : Sto) (x y : D) (n : Nat) (h : n ≤ 900) : binD .add false T (rep n x) (.tup [y]) = .ok (repP n x y) T := add_tup false T _ _ (by simp; omega)
end Ck10
end
section
set_option linter.all false
set_option maxRecDepth 100000
set_option maxHeartbeats 4000000
/-! traces: told by the program, told by the law -/
local macro_rules | `(tactic| simp! [$ls,*]) => `(tactic| ((repeat (first | with_reducible refine Mi.sp_ok ?_ | ((with_reducible refine Mi.sp_ev ?_); show Mi.Run _ _) | ((with_reducible refine Mi.sp_evs ?_); show Mi.Run _ _) | ((with_reducible refine Mi.sp_st ?_); show Mi.Run _ _) | ((with_reducible refine Mi.sp_exs ?_); show Mi.Run _ _) | ((with_reducible refine Mi.sp_walk ?_); show Mi.Run _ _) | ((with_reducible refine Mi.sp_evo ?_); show Mi.Run _ _) | ((with_reducible refine Mi.sp_evc ?_); show Mi.Run _ _) | with_reducible refine Mi.sp_bind ?_ | with_reducible refine Mi.sp_fin ?_ | with_reducible refine Mi.sp_foS ?_ | with_reducible refine Mi.sp_lc ?_ | with_reducible refine Mi.sp_nox ?_ | refine Mi.run_cg (by simp -implicitDefEqProofs only [Mi.nextO_nx, Mi.nextO_rt, Mi.tr_bl, Mi.tr_int, Mi.tr_non, Mi.tr_tup, Mi.tr_lst, Mi.rs_tup, Mi.rs_lst, Mi.rs_int, Mi.rs_bl, Mi.rs_str, Mi.rs_non, Mi.rs_ins, Mi.sq_tup, Mi.sq_lst, Mi.gi_tup, Mi.gi_lst, Mi.ln_tup, Mi.ln_lst, Mi.b_len, Mi.b_sum, Mi.b_tuple, Mi.b_list, Mi.b_all, Mi.b_any, Mi.b_int, Mi.b_max, Mi.b_min, Mi.b_sorted, Mi.b_min2, Mi.b_max2, Mi.tp_tup, Mi.tp_lst, Mi.nt_0, Mi.nt_1, Mi.nt_2, Mi.nt_3, Mi.nt_4, Mi.asT, Mi.asTs, Mi.wipe, Mi.isOf, Mi.Tg.own, Mi.Tgs.own, Mi.lockO, Mi.at0, Mi.at1, Mi.at2, Mi.eqI, Mi.neI, Mi.ltI, Mi.leI, Mi.gtI, Mi.geI, Mi.bin_add, Mi.bin_sub, Mi.still_lst, Mi.still_tup, Mi.lift_some, List.getElem?_cons_zero, List.getElem?_cons_succ, List.set_cons_zero, List.set_cons_succ, List.set_set, List.length_cons, List.length_nil, List.length_set, List.getElem?_set, List.map_cons, List.map_nil, List.append_nil, List.nil_append, List.cons_append, List.isEmpty_nil, List.isEmpty_cons, Option.map_some, Option.bind_some, Option.isSome_none, List.replicate, Nat.reduceAdd, Nat.reduceSub, Nat.reduceLT, if_true, if_false, Bool.false_eq_true, Bool.not_true, Bool.not_false, ite_self, ↓reduceIte, and_self, true_and, and_true, decide_true, decide_false, Bool.and_true, Bool.true_and, Bool.and_false, Bool.false_and, Bool.or_true, Bool.true_or, Bool.or_false, Bool.false_or, Nat.reduceEqDiff, Nat.reduceLeDiff, Mi.nl_f, Mi.nl_t, Int.reduceBEq, Int.reduceAdd, Int.reduceSub, Int.reduceNeg, Int.cast_ofNat_Int, Int.natCast_one, Int.natCast_zero, BEq.rfl, $ls,*]; exact rfl) ?_)); (first | with_reducible refine Mi.run_id ?_ | (try simp -implicitDefEqProofs only [eq_self, and_self, true_and, and_true, Mi.trunc_self, if_true, if_false, Bool.false_eq_true, ↓reduceIte, Bool.and_true, Bool.true_and, Bool.and_false, Bool.false_and, $ls,*]))))
namespace Ck10
open Mi
def evI (g : Nat) : D := .tup [.str [105, 110], .int g]
def evO (g : Nat) : D := .tup [.str [111, 117, 116], .int g]
mutual
/-- a run's events -/
def trT : T → List D
  | .tk i => [.int i]
  | .rn g ps => evI g :: (trL ps ++ [evO g])
def trL : List T → List D
  | [] => []
  | t :: r => trT t ++ trL r
end
theorem datas_app (a b : List D) : D.datas (a ++ b) = (D.datas a && D.datas b) := by
  induction a with
  | nil => simp [D.datas]
  | cons x r ih => simp only [List.cons_append, D.datas, ih, Bool.and_assoc]
mutual
theorem trT_data : ∀ t : T, D.datas (trT t) = true
  | .tk _ => rfl
  | .rn g ps => by
    have h := trL_data ps
    simp only [trT, D.datas, datas_app, h, evI, evO, D.data, Bool.and_self]
theorem trL_data : ∀ ps : List T, D.datas (trL ps) = true
  | [] => rfl
  | t :: r => by simp only [trL, datas_app, trT_data t, trL_data r, Bool.and_self]
end
theorem trL_app (a b : List T) : trL (a ++ b) = trL a ++ trL b := by
  induction a with
  | nil => rfl
  | cons x r ih => simp only [List.cons_append, trL, ih, List.append_assoc]
theorem trL_mem : ∀ {ps : List T} {t : T}, t ∈ ps → (trT t).length ≤ (trL ps).length
  | x :: r, t, h => by
    simp only [trL, List.length_append]
    rcases List.mem_cons.mp h with rfl | h
    · omega
    · have := trL_mem h; omega
theorem events0 (K : Nat) (g : Nat) (ps : List T) (S : Sto) (hn : (trL ps).length ≤ 3000) (ih : ∀ f qs, T.rn f qs ∈ ps → ∀ S, callF P K 12 [toD (.rn f qs)] S = .ok (.lst (trT (.rn f qs))) S) : callF P (K + 1) 12 [toD (.rn g ps)] S = .ok (.lst (trT (.rn g ps))) S := by
  rw [callF_eq (F := f12) rfl rfl]
  refine run_is.mp ?_
  have g0 : ∀ S, getI S (toD (.rn g ps)) (.int 0) = .ok (.int g) S := fun S => by simp [toD, getI]
  have g1 : ∀ S, getI S (toD (.rn g ps)) (.int 1) = .ok (.tup (toDs ps)) S := fun S => by simp [toD, getI]
  have gb : P.glob 3 = some (.str [105, 110]) := rfl
  have ge : P.glob 4 = some (.str [111, 117, 116]) := rfl
  generalize hR : toD (.rn g ps) = R at *
  show Run (fin S (exs P (callF P K) b12 [some R, none, none] S)) _
  simp! [b12, g0, g1, gb, ge]
  refine run_forR (fun r e T => ∃ a b, ps = a ++ b ∧ r = toDs b ∧ T = S ++ [.lst (evI g :: trL a)] ∧ ∃ v2 : Option D, e = [some R, some (.ref S.length), v2]) ?_ ?_ _ _ _ ⟨[], ps, rfl, rfl, rfl, none, rfl⟩
  · rintro x r e T ⟨a, b, rfl, hr, rfl, v2, rfl⟩
    cases b with
    | nil => simp [toDs] at hr
    | cons p b =>
      simp only [toDs, List.cons.injEq] at hr
      obtain ⟨rfl, rfl⟩ := hr
      simp only [trL_app, trL, List.length_append] at hn
      cases p with
      | tk i =>
        obtain ⟨x1, x2⟩ := app_top S (evI g :: trL a) (.int i) (by simp; omega)
        generalize hB : S ++ [O.lst (evI g :: trL a)] = B at *
        simp! [q12_0, show toD (.tk i) = .int i from rfl, x1, x2]
        exact ⟨_, rfl, a ++ [.tk i], b, by simp, rfl, by simp [trL_app, trL, trT], _, rfl⟩
      | rn f qs =>
        have e1 := ih f qs (by simp) (S ++ [.lst (evI g :: trL a)])
        obtain ⟨x1, x2⟩ := ext_top S (evI g :: trL a) (trT (.rn f qs)) (by simp; omega)
        generalize hB : S ++ [O.lst (evI g :: trL a)] = B at *
        have hi : ∀ S, isOf (res S (toD (.rn f qs))) .tuple = some true := fun S => rfl
        generalize toD (.rn f qs) = PT at *
        simp! [q12_0, ↓hi, x1, e1, x2]
        exact ⟨_, rfl, a ++ [.rn f qs], b, by simp, rfl, by simp [trL_app, trL], _, rfl⟩
  · rintro e T ⟨a, b, rfl, hr, rfl, v2, rfl⟩
    cases b with
    | cons p b => simp [toDs] at hr
    | nil =>
      simp only [List.append_nil] at *
      obtain ⟨x1, x2⟩ := app_top S (evI g :: trL a) (evO g) (by simp; omega)
      have hL : trT (.rn g a) = (evI g :: trL a) ++ [evO g] := rfl
      have hdat : (D.lst ((evI g :: trL a) ++ [evO g])).data = true := by
        show D.datas (trT (.rn g a)) = true
        exact trT_data _
      have htr := trunc_top S .dead _ hdat
      have hf := frz_top S ((evI g :: trL a) ++ [evO g])
      rw [hL]
      have ho : D.tup [.str [111, 117, 116], .int g] = evO g := rfl
      generalize (evI g :: trL a) ++ [evO g] = L at *
      generalize hB : S ++ [O.lst (evI g :: trL a)] = B at *
      simp! [g0, ge, ho, x1, x2, hf, htr]
theorem events (k : Nat) : ∀ (d g : Nat) (ps : List T) (S : Sto), dpL ps ≤ d → (trL ps).length ≤ 3000 → callF P (k + d + 1) 12 [toD (.rn g ps)] S = .ok (.lst (trT (.rn g ps))) S := by
  intro d
  induction d with
  | zero =>
    intro g ps S hd hn
    refine events0 (k + 0) g ps S hn fun f qs hm => ?_
    have := dpL_mem hm
    simp only [dpT] at this; omega
  | succ d ih =>
    intro g ps S hd hn
    refine events0 (k + (d + 1)) g ps S hn fun f qs hm S => ?_
    have h1 := dpL_mem hm
    have h2 := trL_mem hm
    simp only [dpT] at h1
    simp only [trT, List.length_cons, List.length_append] at h2
    exact ih f qs S (by omega) (by omega)
end Ck10
end
section
set_option linter.all false
set_option maxRecDepth 100000
set_option maxHeartbeats 4000000
/-! traces of shaped values: the law -/
local macro_rules | `(tactic| simp! [$ls,*]) => `(tactic| ((repeat (first | with_reducible refine Mi.sp_ok ?_ | ((with_reducible refine Mi.sp_ev ?_); show Mi.Run _ _) | ((with_reducible refine Mi.sp_evs ?_); show Mi.Run _ _) | ((with_reducible refine Mi.sp_st ?_); show Mi.Run _ _) | ((with_reducible refine Mi.sp_exs ?_); show Mi.Run _ _) | ((with_reducible refine Mi.sp_walk ?_); show Mi.Run _ _) | ((with_reducible refine Mi.sp_evo ?_); show Mi.Run _ _) | ((with_reducible refine Mi.sp_evc ?_); show Mi.Run _ _) | with_reducible refine Mi.sp_bind ?_ | with_reducible refine Mi.sp_fin ?_ | with_reducible refine Mi.sp_foS ?_ | with_reducible refine Mi.sp_lc ?_ | with_reducible refine Mi.sp_nox ?_ | refine Mi.run_cg (by simp -implicitDefEqProofs only [Mi.nextO_nx, Mi.nextO_rt, Mi.tr_bl, Mi.tr_int, Mi.tr_non, Mi.tr_tup, Mi.tr_lst, Mi.rs_tup, Mi.rs_lst, Mi.rs_int, Mi.rs_bl, Mi.rs_str, Mi.rs_non, Mi.rs_ins, Mi.sq_tup, Mi.sq_lst, Mi.gi_tup, Mi.gi_lst, Mi.ln_tup, Mi.ln_lst, Mi.b_len, Mi.b_sum, Mi.b_tuple, Mi.b_list, Mi.b_all, Mi.b_any, Mi.b_int, Mi.b_max, Mi.b_min, Mi.b_sorted, Mi.b_min2, Mi.b_max2, Mi.tp_tup, Mi.tp_lst, Mi.nt_0, Mi.nt_1, Mi.nt_2, Mi.nt_3, Mi.nt_4, Mi.asT, Mi.asTs, Mi.wipe, Mi.isOf, Mi.Tg.own, Mi.Tgs.own, Mi.lockO, Mi.at0, Mi.at1, Mi.at2, Mi.eqI, Mi.neI, Mi.ltI, Mi.leI, Mi.gtI, Mi.geI, Mi.bin_add, Mi.bin_sub, Mi.still_lst, Mi.still_tup, Mi.lift_some, List.getElem?_cons_zero, List.getElem?_cons_succ, List.set_cons_zero, List.set_cons_succ, List.set_set, List.length_cons, List.length_nil, List.length_set, List.getElem?_set, List.map_cons, List.map_nil, List.append_nil, List.nil_append, List.cons_append, List.isEmpty_nil, List.isEmpty_cons, Option.map_some, Option.bind_some, Option.isSome_none, List.replicate, Nat.reduceAdd, Nat.reduceSub, Nat.reduceLT, if_true, if_false, Bool.false_eq_true, Bool.not_true, Bool.not_false, ite_self, ↓reduceIte, and_self, true_and, and_true, decide_true, decide_false, Bool.and_true, Bool.true_and, Bool.and_false, Bool.false_and, Bool.or_true, Bool.true_or, Bool.or_false, Bool.false_or, Nat.reduceEqDiff, Nat.reduceLeDiff, Mi.nl_f, Mi.nl_t, Int.reduceBEq, Int.reduceAdd, Int.reduceSub, Int.reduceNeg, Int.cast_ofNat_Int, Int.natCast_one, Int.natCast_zero, BEq.rfl, $ls,*]; exact rfl) ?_)); (first | with_reducible refine Mi.run_id ?_ | (try simp -implicitDefEqProofs only [eq_self, and_self, true_and, and_true, Mi.trunc_self, if_true, if_false, Bool.false_eq_true, ↓reduceIte, Bool.and_true, Bool.true_and, Bool.and_false, Bool.false_and, $ls,*]))))
namespace Ck10
open Mi
def evX (w : List Nat) (x : D) : D := .tup [.str w, x]
mutual
def trD : D → List D
  | .tup l => trD2 l
  | d => [d]
def trD2 : List D → List D
  | [x, y] => evX [105, 110] x :: (trDy y ++ [evX [111, 117, 116] x])
  | _ => []
def trDy : D → List D
  | .tup ps => trDs ps
  | _ => []
def trDs : List D → List D
  | [] => []
  | d :: r => trD d ++ trDs r
end
mutual
def shB : D → Bool
  | .tup l => shB2 l
  | _ => true
def shB2 : List D → Bool
  | [_, y] => shBy y
  | _ => false
def shBy : D → Bool
  | .tup ps => shBs ps
  | _ => false
def shBs : List D → Bool
  | [] => true
  | d :: r => shB d && shBs r
end
mutual
theorem trD_toD : ∀ t : T, trD (toD t) = trT t ∧ shB (toD t) = true
  | .tk i => ⟨rfl, rfl⟩
  | .rn g ps => by
    have h := trDs_toDs ps
    constructor
    · simp only [toD, trD, trD2, trDy, trT, h.1, evX, evI, evO]
    · simp only [toD, shB, shB2, shBy, h.2]
theorem trDs_toDs : ∀ ps : List T, trDs (toDs ps) = trL ps ∧ shBs (toDs ps) = true
  | [] => ⟨rfl, rfl⟩
  | t :: r => by
    have h1 := trD_toD t
    have h2 := trDs_toDs r
    constructor
    · simp only [toDs, trDs, trL, h1.1, h2.1]
    · simp only [toDs, shBs, h1.2, h2.2, Bool.and_self]
end
theorem trDs_app (a b : List D) : trDs (a ++ b) = trDs a ++ trDs b := by
  induction a with
  | nil => rfl
  | cons x r ih => simp only [List.cons_append, trDs, ih, List.append_assoc]
theorem shBs_mem : ∀ {ps : List D} {d : D}, d ∈ ps → shBs ps = true → shB d = true
  | x :: r, d, h, hs => by
    simp only [shBs, Bool.and_eq_true] at hs
    rcases List.mem_cons.mp h with rfl | h
    · exact hs.1
    · exact shBs_mem h hs.2
theorem trace0 (K : Nat) (x : D) (ps : List D) (S : Sto) (hd : x.data = true) (hp : D.datas ps = true) (hs : shBs ps = true) (hn : (trDs ps).length ≤ 900) (ih : ∀ l, .tup l ∈ ps → ∀ S, callF P K 28 [.tup l] S = .ok (.tup (trD (.tup l))) S) : callF P (K + 1) 28 [.tup [x, .tup ps]] S = .ok (.tup (trD (.tup [x, .tup ps]))) S := by
  rw [callF_eq (F := f28) rfl rfl]
  refine run_is.mp ?_
  have g0 : ∀ S, getI S (.tup [x, .tup ps]) (.int 0) = .ok x S := fun S => by simp [getI]
  have g1 : ∀ S, getI S (.tup [x, .tup ps]) (.int 1) = .ok (.tup ps) S := fun S => by simp [getI]
  have hT : trD (.tup [x, .tup ps]) = evX [105, 110] x :: (trDs ps ++ [evX [111, 117, 116] x]) := rfl
  rw [hT]
  generalize D.tup [x, .tup ps] = R at *
  show Run (fin S (exs P (callF P K) b28 [some R, none, none] S)) _
  simp! [b28, g0, g1]
  refine run_forR (fun r e T => ∃ a, ps = a ++ r ∧ T = S ∧ ∃ v2 : Option D, e = [some R, some (.tup (evX [105, 110] x :: trDs a)), v2]) ?_ ?_ _ _ _ ⟨[], rfl, rfl, none, rfl⟩
  · rintro d r e T ⟨a, rfl, rfl, v2, rfl⟩
    simp only [trDs_app, trDs, List.length_append] at hn
    have hsd := shBs_mem (d := d) (by simp) hs
    have ha := fun S => add_tup false S (evX [105, 110] x :: trDs a) (trD d) (by simp; omega)
    have he : (evX [105, 110] x :: trDs a) ++ trD d = evX [105, 110] x :: trDs (a ++ [d]) := by simp [trDs_app, trDs]
    rw [he] at ha
    generalize hNW : evX [105, 110] x :: trDs (a ++ [d]) = NW at *
    generalize evX [105, 110] x :: trDs a = OLD at *
    have hdd : PL d := data_pl (datas_mm hp d (by simp))
    cases d with
    | tup l =>
      have e1 := ih l (by simp) T
      simp! [q28_0, e1, ha]
      exact ⟨_, rfl, a ++ [.tup l], by simp, some (.tup l), by rw [hNW]⟩
    | ref n => simp [PL] at hdd
    | _ =>
      simp only [trD] at ha
      simp! [q28_0, ha]
      exact ⟨_, rfl, a ++ [_], (List.append_assoc a [_] r).symm, some _, by rw [hNW]⟩
  · rintro e T ⟨a, h, rfl, v2, rfl⟩
    rw [List.append_nil] at h
    subst h
    have ha := fun S => add_tup false S (evX [105, 110] x :: trDs ps) [evX [111, 117, 116] x] (by simp; omega)
    have ho : D.tup [.str [111, 117, 116], x] = evX [111, 117, 116] x := rfl
    simp! [g0, ho, ha]
theorem trDs_mem : ∀ {ps : List D} {d : D}, d ∈ ps → (trD d).length ≤ (trDs ps).length
  | x :: r, d, h => by
    simp only [trDs, List.length_append]
    rcases List.mem_cons.mp h with rfl | h
    · omega
    · have := trDs_mem h; omega
theorem trace (k : Nat) : ∀ (m : Nat) (l : List D) (S : Sto), (D.tup l).dep ≤ m → shB (.tup l) = true → (D.tup l).data = true → (trD (.tup l)).length ≤ 900 → callF P (k + m + 1) 28 [.tup l] S = .ok (.tup (trD (.tup l))) S := by
  intro m
  induction m with
  | zero =>
    intro l S h
    simp only [D.dep] at h; omega
  | succ m ih =>
    intro l S h hs hd hn
    match l, hs with
    | [x, .tup ps], hs =>
      simp only [D.data, D.datas, Bool.and_eq_true, Bool.and_true] at hd
      have hs' : shBs ps = true := hs
      have hn' : (trDs ps).length + 2 ≤ 900 := by
        simp only [trD, trD2, trDy, List.length_cons, List.length_append, List.length_nil] at hn; omega
      simp only [D.dep, D.deps] at h
      refine trace0 (k + (m + 1)) x ps S hd.1 hd.2 hs' (by omega) fun l' hl' S => ?_
      have h1 := dep_mm hl'
      have h2 := trDs_mem hl'
      exact ih l' S (by omega) (shBs_mem hl' hs') (datas_mm hd.2 _ hl') (by omega)
    | [_, .non], hs => simp [shB, shB2, shBy] at hs
    | [_, .bl _], hs => simp [shB, shB2, shBy] at hs
    | [_, .int _], hs => simp [shB, shB2, shBy] at hs
    | [_, .str _], hs => simp [shB, shB2, shBy] at hs
    | [_, .lst _], hs => simp [shB, shB2, shBy] at hs
    | [_, .ins _ _ _], hs => simp [shB, shB2, shBy] at hs
    | [_, .ref _], hs => simp [shB, shB2, shBy] at hs
    | [], hs => simp [shB, shB2] at hs
    | [_], hs => simp [shB, shB2] at hs
    | _ :: _ :: _ :: _, hs => simp [shB, shB2] at hs
end Ck10
end
section
set_option linter.all false
set_option maxRecDepth 100000
set_option maxHeartbeats 4000000
/-! what a row of events tells -/
namespace Ck10
open Mi
inductive EvK where
  | beg (i : Int)
  | fin (i : Int)
  | tick (i : Int)
  | bad
def kindE : D → EvK
  | .tup [.str w, .int i] => if w = [105, 110] then .beg i else if w = [111, 117, 116] then .fin i else .bad
  | .int i => .tick i
  | _ => .bad
abbrev Stk := List (Int × List D)
def runD (x : Int × List D) : D := .tup [.int x.1, .tup x.2]
def endE (f : Int) : Stk → Option (Stk × Option D)
  | [] => none
  | [x] => if x.1 = f then some ([], some (runD x)) else none
  | x :: y :: r => if x.1 = f then some ((y.1, y.2 ++ [runD x]) :: r, none) else none
def tickE (i : Int) : Stk → Option (Stk × Option D)
  | [] => none
  | x :: r => some ((x.1, x.2 ++ [.int i]) :: r, none)
def pstep (s : Stk) (e : D) : Option (Stk × Option D) := match kindE e with
  | .beg i => some ((i, []) :: s, none)
  | .fin i => endE i s
  | .tick i => tickE i s
  | .bad => none
/-- from a stack on -/
def prs : Stk × Option D → List D → Option (Stk × Option D)
  | s, [] => some s
  | (_, some _), _ :: _ => none
  | (s, none), e :: r => match pstep s e with
    | some t => prs t r
    | none => none
/-- what is told -/
def told (xs : List D) : Option D := (prs ([], none) xs).bind (·.2)
theorem prs_app (s : Stk × Option D) (a b : List D) : prs s (a ++ b) = (prs s a).bind fun t => prs t b := by
  induction a generalizing s with
  | nil => simp [prs]
  | cons e r ih =>
    obtain ⟨s, d⟩ := s
    cases d with
    | some d => simp [prs]
    | none =>
      simp only [List.cons_append, prs]
      cases pstep s e with
      | none => rfl
      | some t => exact ih t
theorem prs_one (s : Stk) (e : D) : prs (s, none) [e] = pstep s e := by
  simp only [prs]
  cases pstep s e <;> rfl
mutual
/-- a part's events put the part to the run, or tell nothing -/
theorem prs_trD (x : Int × List D) (r : Stk) : ∀ d : D, shB d = true → prs (x :: r, none) (trD d) = none ∨ prs (x :: r, none) (trD d) = some ((x.1, x.2 ++ [d]) :: r, none)
  | .tup l, h => by
    simp only [trD]
    exact prs_trD2 x r l h
  | .int i, _ => .inr (by simp [trD, prs, pstep, kindE, tickE])
  | .non, _ => .inl (by simp [trD, prs, pstep, kindE])
  | .bl _, _ => .inl (by simp [trD, prs, pstep, kindE])
  | .str _, _ => .inl (by simp [trD, prs, pstep, kindE])
  | .lst _, _ => .inl (by simp [trD, prs, pstep, kindE])
  | .ins _ _ _, _ => .inl (by simp [trD, prs, pstep, kindE])
  | .ref _, _ => .inl (by simp [trD, prs, pstep, kindE])
theorem prs_trD2 (x : Int × List D) (r : Stk) : ∀ l : List D, shB2 l = true → prs (x :: r, none) (trD2 l) = none ∨ prs (x :: r, none) (trD2 l) = some ((x.1, x.2 ++ [.tup l]) :: r, none)
  | [a, y], h => by
    simp only [trD2, prs]
    cases a with
    | int i =>
      have hk : pstep (x :: r) (evX [105, 110] (.int i)) = some ((i, []) :: x :: r, none) := rfl
      rw [hk]
      simp only
      rw [prs_app]
      rcases prs_trDy (i, []) (x :: r) y h with e | ⟨ps, rfl, e⟩
      · rw [e]; exact .inl rfl
      · rw [e]
        refine .inr ?_
        simp only [Option.bind_some]
        rw [prs_one]
        have hk2 : kindE (evX [111, 117, 116] (.int i)) = .fin i := rfl
        simp only [pstep, hk2, endE, if_true, runD, List.nil_append]
    | _ => exact .inl rfl
  | [], h => by simp [shB2] at h
  | [_], h => by simp [shB2] at h
  | _ :: _ :: _ :: _, h => by simp [shB2] at h
theorem prs_trDy (x : Int × List D) (r : Stk) : ∀ y : D, shBy y = true → prs (x :: r, none) (trDy y) = none ∨ ∃ ps, y = .tup ps ∧ prs (x :: r, none) (trDy y) = some ((x.1, x.2 ++ ps) :: r, none)
  | .tup ps, h => by
    rcases prs_trDs x r ps h with e | e
    · exact .inl e
    · exact .inr ⟨ps, rfl, e⟩
  | .int i, h => by simp [shBy] at h
  | .non, h => by simp [shBy] at h
  | .bl _, h => by simp [shBy] at h
  | .str _, h => by simp [shBy] at h
  | .lst _, h => by simp [shBy] at h
  | .ins _ _ _, h => by simp [shBy] at h
  | .ref _, h => by simp [shBy] at h
theorem prs_trDs (x : Int × List D) (r : Stk) : ∀ ps : List D, shBs ps = true → prs (x :: r, none) (trDs ps) = none ∨ prs (x :: r, none) (trDs ps) = some ((x.1, x.2 ++ ps) :: r, none)
  | [], _ => .inr (by simp [trDs, prs])
  | d :: q, h => by
    simp only [shBs, Bool.and_eq_true] at h
    simp only [trDs, prs_app]
    rcases prs_trD x r d h.1 with e | e
    · rw [e]; exact .inl rfl
    · rw [e]
      simp only [Option.bind_some]
      rcases prs_trDs (x.1, x.2 ++ [d]) r q h.2 with e2 | e2
      · exact .inl e2
      · rw [e2]; exact .inr (by simp)
end
end Ck10
end
section
set_option linter.all false
set_option maxRecDepth 100000
set_option maxHeartbeats 4000000
/-! what is told of a trace -/
namespace Ck10
open Mi
theorem told_tr {l : List D} (h : shB (.tup l) = true) : told (trD (.tup l)) = none ∨ told (trD (.tup l)) = some (.tup l) := by
  match l, h with
  | [a, y], h =>
    have ht : trD (.tup [a, y]) = evX [105, 110] a :: (trDy y ++ [evX [111, 117, 116] a]) := rfl
    rw [ht]
    unfold told
    simp only [prs]
    cases a with
    | int i =>
      have hk : pstep [] (evX [105, 110] (.int i)) = some ([(i, [])], none) := rfl
      rw [hk]
      simp only
      rw [prs_app]
      rcases prs_trDy (i, []) [] y h with e | ⟨ps, rfl, e⟩
      · rw [e]; exact .inl rfl
      · rw [e]
        refine .inr ?_
        simp only [Option.bind_some]
        rw [prs_one]
        have hk2 : kindE (evX [111, 117, 116] (.int i)) = .fin i := rfl
        simp only [pstep, hk2, endE, if_true, runD, List.nil_append, Option.bind_some]
    | _ => exact .inl rfl
  | [], h => simp [shB, shB2] at h
  | [_], h => simp [shB, shB2] at h
  | _ :: _ :: _ :: _, h => simp [shB, shB2] at h
mutual
theorem prs_trT (x : Int × List D) (r : Stk) : ∀ t : T, prs (x :: r, none) (trT t) = some ((x.1, x.2 ++ [toD t]) :: r, none)
  | .tk i => by simp [trT, prs, pstep, kindE, tickE, toD]
  | .rn g ps => by
    have hk : pstep (x :: r) (evI g) = some (((g : Int), []) :: x :: r, none) := rfl
    have hk2 : kindE (evO g) = .fin g := rfl
    have hk0 : kindE (evI g) = .beg g := rfl
    simp only [trT, prs, hk, prs_app, prs_trL ((g : Int), []) (x :: r) ps, Option.bind_some, pstep, hk0, hk2, endE, if_true, runD, List.nil_append, toD]
theorem prs_trL (x : Int × List D) (r : Stk) : ∀ ps : List T, prs (x :: r, none) (trL ps) = some ((x.1, x.2 ++ toDs ps) :: r, none)
  | [] => by simp [trL, prs, toDs]
  | t :: q => by
    simp only [trL, prs_app, prs_trT x r t, Option.bind_some, prs_trL (x.1, x.2 ++ [toD t]) r q, toDs]
    simp
end
theorem told_run (g : Nat) (ps : List T) : told (trT (.rn g ps)) = some (toD (.rn g ps)) := by
  have hk : pstep [] (evI g) = some ([((g : Int), [])], none) := rfl
  have hk2 : kindE (evO g) = .fin g := rfl
  have hk0 : kindE (evI g) = .beg g := rfl
  simp only [told, trT, prs, hk, prs_app, prs_trL ((g : Int), []) [] ps, Option.bind_some, pstep, hk0, hk2, endE, if_true, runD, List.nil_append, toD]
/-- how great a stack is -/
def szK : Stk → Nat
  | [] => 0
  | x :: r => 3 + D.szs x.2 + szK r
def okK (s : Stk) : Prop := ∀ x ∈ s, D.datas x.2 = true
/-- what a state is -/
structure StO (s : Stk × Option D) (z : Nat) : Prop where
  dat : okK s.1
  sz : szK s.1 ≤ z
  dn : ∀ d, s.2 = some d → s.1 = [] ∧ ∃ x : Int × List D, d = runD x ∧ D.datas x.2 = true ∧ d.sz ≤ z
theorem runD_sz (x : Int × List D) : (runD x).sz = 3 + D.szs x.2 := by simp only [runD, D.sz, D.szs]; omega
theorem runD_dat {x : Int × List D} (h : D.datas x.2 = true) : (runD x).data = true := by simp only [runD, D.data, D.datas, h, Bool.and_self]
theorem StO.step {s : Stk} {z : Nat} (h : StO (s, none) z) (e : D) {t : Stk × Option D} (ht : pstep s e = some t) : StO t (z + e.sz) := by
  have hz := h.sz
  have hd := h.dat
  have he := sz_pos e
  unfold pstep at ht
  cases hk : kindE e with
  | bad => rw [hk] at ht; cases ht
  | beg i =>
    rw [hk] at ht
    simp only [Option.some.injEq] at ht
    subst ht
    have h3 : 3 ≤ e.sz := by
      unfold kindE at hk
      split at hk
      · simp only [D.sz, D.szs]; omega
      · cases hk
      · cases hk
    refine ⟨fun x hx => ?_, ?_, fun d hd => by cases hd⟩
    · rcases List.mem_cons.mp hx with rfl | hx
      · rfl
      · exact hd x hx
    · simp only [szK, D.szs] at hz ⊢; omega
  | tick i =>
    rw [hk] at ht
    cases s with
    | nil => cases ht
    | cons x r =>
      simp only [tickE, Option.some.injEq] at ht
      subst ht
      refine ⟨fun y hy => ?_, ?_, fun d hd => by cases hd⟩
      · rcases List.mem_cons.mp hy with rfl | hy
        · have := hd x (by simp)
          simp only [datas_app, this, D.datas, D.data, Bool.and_self]
        · exact hd y (by simp [hy])
      · simp only [szK, szs_app, D.szs, D.sz] at hz ⊢; omega
  | fin f =>
    rw [hk] at ht
    match s, ht with
    | [x], ht =>
      simp only [endE] at ht
      split at ht
      · simp only [Option.some.injEq] at ht
        subst ht
        have hx := hd x (by simp)
        refine ⟨fun y hy => by simp at hy, by simp [szK], fun d hd' => ?_⟩
        simp only [Option.some.injEq] at hd'
        subst hd'
        refine ⟨rfl, x, rfl, hx, ?_⟩
        rw [runD_sz]
        simp only [szK] at hz; omega
      · cases ht
    | x :: y :: r, ht =>
      simp only [endE] at ht
      split at ht
      · simp only [Option.some.injEq] at ht
        subst ht
        have hx := hd x (by simp)
        have hy := hd y (by simp)
        refine ⟨fun w hw => ?_, ?_, fun d hd => by cases hd⟩
        · rcases List.mem_cons.mp hw with rfl | hw
          · simp only [datas_app, hy, D.datas, runD_dat hx, Bool.and_self]
          · exact hd w (by simp [hw])
        · simp only [szK, szs_app, D.szs, runD_sz] at hz ⊢; omega
      · cases ht
theorem StO.run {s t : Stk × Option D} {z : Nat} (h : StO s z) : ∀ {xs : List D}, prs s xs = some t → StO t (z + D.szs xs) := by
  intro xs
  induction xs generalizing s z with
  | nil =>
    intro e
    simp only [prs, Option.some.injEq] at e
    subst e
    exact ⟨h.dat, by have := h.sz; omega, fun d hd => by obtain ⟨a, x, b, c, d⟩ := h.dn d hd; exact ⟨a, x, b, c, by omega⟩⟩
  | cons e r ih =>
    intro q
    obtain ⟨s, d⟩ := s
    cases d with
    | some d => simp [prs] at q
    | none =>
      simp only [prs] at q
      cases hp : pstep s e with
      | none => rw [hp] at q; cases q
      | some t1 =>
        rw [hp] at q
        have := ih (h.step e hp) q
        simp only [D.szs]
        rwa [Nat.add_assoc] at this
theorem told_ok (xs : List D) (d : D) (h : told xs = some d) : ∃ x : Int × List D, d = runD x ∧ D.datas x.2 = true ∧ d.sz ≤ D.szs xs := by
  unfold told at h
  cases hp : prs ([], none) xs with
  | none => rw [hp] at h; cases h
  | some t =>
    rw [hp] at h
    have h0 : StO ([], none) 0 := ⟨fun x hx => by simp at hx, by simp [szK], fun d hd => by cases hd⟩
    obtain ⟨_, x, a, b, c⟩ := (h0.run hp).dn d h
    exact ⟨x, a, b, by omega⟩
end Ck10
end
section
set_option linter.all false
set_option maxRecDepth 100000
set_option maxHeartbeats 4000000
/-! one event looked at by the program -/
local macro_rules | `(tactic| simp! [$ls,*]) => `(tactic| ((repeat (first | with_reducible refine Mi.sp_ok ?_ | ((with_reducible refine Mi.sp_ev ?_); show Mi.Run _ _) | ((with_reducible refine Mi.sp_evs ?_); show Mi.Run _ _) | ((with_reducible refine Mi.sp_st ?_); show Mi.Run _ _) | ((with_reducible refine Mi.sp_exs ?_); show Mi.Run _ _) | ((with_reducible refine Mi.sp_walk ?_); show Mi.Run _ _) | ((with_reducible refine Mi.sp_evo ?_); show Mi.Run _ _) | ((with_reducible refine Mi.sp_evc ?_); show Mi.Run _ _) | with_reducible refine Mi.sp_bind ?_ | with_reducible refine Mi.sp_fin ?_ | with_reducible refine Mi.sp_foS ?_ | with_reducible refine Mi.sp_lc ?_ | with_reducible refine Mi.sp_nox ?_ | refine Mi.run_cg (by simp -implicitDefEqProofs only [Mi.nextO_nx, Mi.nextO_rt, Mi.tr_bl, Mi.tr_int, Mi.tr_non, Mi.tr_tup, Mi.tr_lst, Mi.rs_tup, Mi.rs_lst, Mi.rs_int, Mi.rs_bl, Mi.rs_str, Mi.rs_non, Mi.rs_ins, Mi.sq_tup, Mi.sq_lst, Mi.gi_tup, Mi.gi_lst, Mi.ln_tup, Mi.ln_lst, Mi.b_len, Mi.b_sum, Mi.b_tuple, Mi.b_list, Mi.b_all, Mi.b_any, Mi.b_int, Mi.b_max, Mi.b_min, Mi.b_sorted, Mi.b_min2, Mi.b_max2, Mi.tp_tup, Mi.tp_lst, Mi.nt_0, Mi.nt_1, Mi.nt_2, Mi.nt_3, Mi.nt_4, Mi.asT, Mi.asTs, Mi.wipe, Mi.isOf, Mi.Tg.own, Mi.Tgs.own, Mi.lockO, Mi.at0, Mi.at1, Mi.at2, Mi.eqI, Mi.neI, Mi.ltI, Mi.leI, Mi.gtI, Mi.geI, Mi.bin_add, Mi.bin_sub, Mi.still_lst, Mi.still_tup, Mi.lift_some, List.getElem?_cons_zero, List.getElem?_cons_succ, List.set_cons_zero, List.set_cons_succ, List.set_set, List.length_cons, List.length_nil, List.length_set, List.getElem?_set, List.map_cons, List.map_nil, List.append_nil, List.nil_append, List.cons_append, List.isEmpty_nil, List.isEmpty_cons, Option.map_some, Option.bind_some, Option.isSome_none, List.replicate, Nat.reduceAdd, Nat.reduceSub, Nat.reduceLT, if_true, if_false, Bool.false_eq_true, Bool.not_true, Bool.not_false, ite_self, ↓reduceIte, and_self, true_and, and_true, decide_true, decide_false, Bool.and_true, Bool.true_and, Bool.and_false, Bool.false_and, Bool.or_true, Bool.true_or, Bool.or_false, Bool.false_or, Nat.reduceEqDiff, Nat.reduceLeDiff, Mi.nl_f, Mi.nl_t, Int.reduceBEq, Int.reduceAdd, Int.reduceSub, Int.reduceNeg, Int.cast_ofNat_Int, Int.natCast_one, Int.natCast_zero, BEq.rfl, $ls,*]; exact rfl) ?_)); (first | with_reducible refine Mi.run_id ?_ | (try simp -implicitDefEqProofs only [eq_self, and_self, true_and, and_true, Mi.trunc_self, if_true, if_false, Bool.false_eq_true, ↓reduceIte, Bool.and_true, Bool.true_and, Bool.and_false, Bool.false_and, $ls,*]))))
namespace Ck10
open Mi
theorem eqSt (P : Pg) (call : Nat → List D → Sto → Res D) (S : Sto) (s w : List Nat) : cmpD P call .eq S (.str s) (.str w) = .ok (.bl (decide (s = w))) S := by
  by_cases h : s = w
  · subst h; simp [cmpD, eqD, res, D.data, D.dep, DEEP, D.eqv]
  · simp [cmpD, eqD, res, D.data, D.dep, DEEP, D.eqv, h]
def evB (w : List Nat) : D → Bool
  | .tup [.str v, .int _] => decide (v = w)
  | _ => false
def evC (w : List Nat) : D → D → Bool
  | .str v, .int _ => decide (v = w)
  | _, _ => false
theorem evB_two (w : List Nat) (a b : D) : evB w (.tup [a, b]) = evC w a b := by cases a <;> cases b <;> rfl
theorem c_event (k : Nat) (w : List Nat) (d : D) (S : Sto) (h : d.data = true) (hz : d.sz ≤ 3000) : callF P (k + 2) 14 [d, .str w] S = .ok (.bl (evB w d)) S := by
  rw [callF_eq (F := f14) rfl rfl]
  refine run_is.mp ?_
  show Run (fin S (exs P (callF P (k + 1)) b14 [some d, some (.str w)] S)) _
  have nt : ∀ d : D, (∀ xs, d ≠ .tup xs) → d.data = true → evB w d = false ∧ ∀ S, isOf (res S d) .tuple = some false := fun d hd hdd => by
    cases d with
    | tup xs => exact absurd rfl (hd xs)
    | ref n => simp [D.data] at hdd
    | _ => exact ⟨rfl, fun S => rfl⟩
  by_cases ht : ∃ xs, d = .tup xs
  · obtain ⟨xs, rfl⟩ := ht
    have hl : xs.length ≤ 3000 := by
      have := szs_len xs
      simp only [D.sz] at hz; omega
    by_cases h2 : xs.length = 2
    · match xs, h2 with
      | [a, b], _ =>
        simp only [D.data, D.datas, Bool.and_eq_true, Bool.and_true] at h
        have g0 : ∀ S, getI S (.tup [a, b]) (.int 0) = .ok a S := fun S => by simp [getI]
        have g1 : ∀ S, getI S (.tup [a, b]) (.int 1) = .ok b S := fun S => by simp [getI]
        have e0 := c0 k b S (data_pl h.2)
        have n2 : ((2 : Int) == 2) = true := rfl
        have hi : ∀ S, isOf (res S (.tup [a, b])) .tuple = some true := fun S => rfl
        have hln : ∀ S, lenD S (.tup [a, b]) = .ok (.int 2) S := fun S => rfl
        rw [evB_two]
        generalize hRR : D.tup [a, b] = R at *
        cases a with
        | str v =>
          have es := fun S => eqSt P (callF P (k + 1)) S v w
          have hs : ∀ S, isOf (res S (.str v)) .str = some true := fun S => rfl
          cases hv : decide (v = w) with
          | false =>
            rw [hv] at es
            simp! [b14, ↓hi, hln, n2, g0, hs, es]
            cases b <;> simp [evC, hv]
          | true =>
            rw [hv] at es
            simp! [b14, ↓hi, hln, n2, g0, g1, hs, es, e0]
            cases b <;> simp [evC, hv, isI]
        | ref n => simp [D.data] at h
        | _ =>
          simp! [b14, ↓hi, hln, n2, g0]
          cases b <;> rfl
    · have hln : ∀ S, lenD S (.tup xs) = .ok (.int xs.length) S := fun S => rfl
      have n2 : ((xs.length : Int) == 2) = false := by simpa using (by omega : ¬ (xs.length : Int) = 2)
      have hR : evB w (.tup xs) = false := by
        match xs, h2 with
        | [], _ => rfl
        | [_], _ => simp [evB]
        | _ :: _ :: _ :: _, _ => simp [evB]
        | [_, _], h2 => simp at h2
      rw [hR]
      have hi : ∀ S, isOf (res S (.tup xs)) .tuple = some true := fun S => rfl
      generalize D.tup xs = R at *
      simp! [b14, ↓hi, hln, n2]
  · obtain ⟨h1, h2⟩ := nt d (fun xs hx => ht ⟨xs, hx⟩) h
    rw [h1]
    simp! [b14, ↓h2]
end Ck10
end
section
set_option linter.all false
set_option maxRecDepth 100000
set_option maxHeartbeats 4000000
/-! rows of rows in the store -/
namespace Ck10
open Mi
theorem kind_spec (d : D) : (∃ i, d = evX [105, 110] (.int i) ∧ kindE d = .beg i ∧ evB [105, 110] d = true) ∨
    (∃ i, d = evX [111, 117, 116] (.int i) ∧ kindE d = .fin i ∧ evB [105, 110] d = false ∧ evB [111, 117, 116] d = true) ∨
    (∃ i, d = .int i ∧ kindE d = .tick i ∧ evB [105, 110] d = false ∧ evB [111, 117, 116] d = false) ∨
    (kindE d = .bad ∧ evB [105, 110] d = false ∧ evB [111, 117, 116] d = false ∧ isI d = false) := by
  unfold kindE
  split
  · rename_i w i
    by_cases h1 : w = [105, 110]
    · subst h1; exact .inl ⟨i, rfl, by simp, rfl⟩
    · by_cases h2 : w = [111, 117, 116]
      · subst h2; exact .inr (.inl ⟨i, rfl, by simp, rfl, rfl⟩)
      · exact .inr (.inr (.inr ⟨by simp [h1, h2], by simp [evB, h1], by simp [evB, h2], rfl⟩))
  · rename_i i
    exact .inr (.inr (.inl ⟨i, rfl, rfl, rfl, rfl⟩))
  · rename_i h1 h2
    refine .inr (.inr (.inr ⟨rfl, ?_, ?_, ?_⟩))
    · unfold evB; split
      · exact absurd rfl (h1 _ _)
      · rfl
    · unfold evB; split
      · exact absurd rfl (h1 _ _)
      · rfl
    · cases d <;> first | rfl | exact absurd rfl (h2 _)
/-- two lists in the store, then others -/
def T5 (S : Sto) (A B : List D) (X : Sto) : Sto := S ++ (.lst A :: .lst B :: X)
section
variable {S : Sto} {A B : List D} {X : Sto}
theorem T5_0 : (T5 S A B X)[S.length]? = some (.lst A) := by simp [T5]
theorem T5_1 : (T5 S A B X)[S.length + 1]? = some (.lst B) := by
  unfold T5; rw [List.getElem?_append_right (by omega)]; simp
theorem T5_x (n : Nat) : (T5 S A B X)[S.length + 2 + n]? = X[n]? := by
  unfold T5; rw [List.getElem?_append_right (by omega), show S.length + 2 + n - S.length = n + 2 by omega]; rfl
theorem T5_len : (T5 S A B X).length = S.length + 2 + X.length := by simp [T5]; omega
theorem T5_push (o : O) : T5 S A B X ++ [o] = T5 S A B (X ++ [o]) := by simp [T5]
theorem T5_s0 (L : List D) : (T5 S A B X).set S.length (.lst L) = T5 S L B X := by simp [T5]
theorem T5_s1 (L : List D) : (T5 S A B X).set (S.length + 1) (.lst L) = T5 S A L X := by simp [T5, List.set_append]
theorem T5_sx (n : Nat) (o : O) : (T5 S A B X).set (S.length + 2 + n) o = T5 S A B (X.set n o) := by
  unfold T5
  rw [List.set_append_right _ _ (by omega), show S.length + 2 + n - S.length = n + 2 by omega]; rfl
end
theorem app_r {T : Sto} {r : Nat} {xs : List D} (v : D) (h : T[r]? = some (.lst xs)) (hl : xs.length ≤ 4000) : bmPre .append T (.ref r) = true ∧ bmD .append T (.ref r) [v] = .ok .non (T.set r (.lst (xs ++ [v]))) := by
  have : xs.length < LINE := by unfold LINE; omega
  constructor <;> simp [bmPre, bmD, one, appD, lstOf, h, this]
theorem pop_r {T : Sto} {r : Nat} {xs : List D} {v : D} (h : T[r]? = some (.lst (xs ++ [v]))) : bmPre .pop T (.ref r) = true ∧ bmD .pop T (.ref r) [] = .ok v (T.set r (.lst xs)) := by
  constructor <;> simp [bmPre, bmD, popD, lstOf, h]
theorem last_r {T : Sto} {r : Nat} {xs : List D} {v : D} (h : T[r]? = some (.lst (xs ++ [v]))) : getI T (.ref r) (.int (-1)) = .ok v T := by
  have : atI (xs ++ [v]) (-1) = some v := by
    have h1 : (1 : Int) ≤ (xs.length : Int) + 1 := by omega
    have h2 : (-1 + ((xs.length : Int) + 1)).toNat = xs.length := by omega
    simp [atI, ixN, h1, h2]
  simp only [getI, h, this, lift_some]
end Ck10
end
section
set_option linter.all false
set_option maxRecDepth 100000
set_option maxHeartbeats 4000000
/-! told by a trace: the program -/
local macro_rules | `(tactic| simp! [$ls,*]) => `(tactic| ((repeat (first | with_reducible refine Mi.sp_ok ?_ | ((with_reducible refine Mi.sp_ev ?_); show Mi.Run _ _) | ((with_reducible refine Mi.sp_evs ?_); show Mi.Run _ _) | ((with_reducible refine Mi.sp_st ?_); show Mi.Run _ _) | ((with_reducible refine Mi.sp_exs ?_); show Mi.Run _ _) | ((with_reducible refine Mi.sp_walk ?_); show Mi.Run _ _) | ((with_reducible refine Mi.sp_evo ?_); show Mi.Run _ _) | ((with_reducible refine Mi.sp_evc ?_); show Mi.Run _ _) | with_reducible refine Mi.sp_bind ?_ | with_reducible refine Mi.sp_fin ?_ | with_reducible refine Mi.sp_foS ?_ | with_reducible refine Mi.sp_lc ?_ | with_reducible refine Mi.sp_nox ?_ | refine Mi.run_cg (by simp -implicitDefEqProofs only [Mi.nextO_nx, Mi.nextO_rt, Mi.tr_bl, Mi.tr_int, Mi.tr_non, Mi.tr_tup, Mi.tr_lst, Mi.rs_tup, Mi.rs_lst, Mi.rs_int, Mi.rs_bl, Mi.rs_str, Mi.rs_non, Mi.rs_ins, Mi.sq_tup, Mi.sq_lst, Mi.gi_tup, Mi.gi_lst, Mi.ln_tup, Mi.ln_lst, Mi.b_len, Mi.b_sum, Mi.b_tuple, Mi.b_list, Mi.b_all, Mi.b_any, Mi.b_int, Mi.b_max, Mi.b_min, Mi.b_sorted, Mi.b_min2, Mi.b_max2, Mi.tp_tup, Mi.tp_lst, Mi.nt_0, Mi.nt_1, Mi.nt_2, Mi.nt_3, Mi.nt_4, Mi.asT, Mi.asTs, Mi.wipe, Mi.isOf, Mi.Tg.own, Mi.Tgs.own, Mi.lockO, Mi.at0, Mi.at1, Mi.at2, Mi.eqI, Mi.neI, Mi.ltI, Mi.leI, Mi.gtI, Mi.geI, Mi.bin_add, Mi.bin_sub, Mi.still_lst, Mi.still_tup, Mi.lift_some, List.getElem?_cons_zero, List.getElem?_cons_succ, List.set_cons_zero, List.set_cons_succ, List.set_set, List.length_cons, List.length_nil, List.length_set, List.getElem?_set, List.map_cons, List.map_nil, List.append_nil, List.nil_append, List.cons_append, List.isEmpty_nil, List.isEmpty_cons, Option.map_some, Option.bind_some, Option.isSome_none, List.replicate, Nat.reduceAdd, Nat.reduceSub, Nat.reduceLT, if_true, if_false, Bool.false_eq_true, Bool.not_true, Bool.not_false, ite_self, ↓reduceIte, and_self, true_and, and_true, decide_true, decide_false, Bool.and_true, Bool.true_and, Bool.and_false, Bool.false_and, Bool.or_true, Bool.true_or, Bool.or_false, Bool.false_or, Nat.reduceEqDiff, Nat.reduceLeDiff, Mi.nl_f, Mi.nl_t, Int.reduceBEq, Int.reduceAdd, Int.reduceSub, Int.reduceNeg, Int.cast_ofNat_Int, Int.natCast_one, Int.natCast_zero, BEq.rfl, $ls,*]; exact rfl) ?_)); (first | with_reducible refine Mi.run_id ?_ | (try simp -implicitDefEqProofs only [eq_self, and_self, true_and, and_true, Mi.trunc_self, if_true, if_false, Bool.false_eq_true, ↓reduceIte, Bool.and_true, Bool.true_and, Bool.and_false, Bool.false_and, $ls,*]))))
namespace Ck10
open Mi
def RK (X : Sto) : List Nat → Stk → Prop
  | [], [] => True
  | n :: ns, x :: xs => X[n]? = some (.lst x.2) ∧ (∀ m ∈ ns, m ≠ n) ∧ RK X ns xs
  | _, _ => False
theorem RK.other {X : Sto} {n : Nat} {o : O} : ∀ {ns : List Nat} {xs : Stk}, RK X ns xs → (∀ m ∈ ns, m ≠ n) → RK (X.set n o) ns xs
  | [], [], _, _ => trivial
  | k :: ns, x :: xs, h, hn => by
    refine ⟨?_, h.2.1, h.2.2.other fun m hm => hn m (by simp [hm])⟩
    rw [List.getElem?_set_ne (fun z => hn k (by simp) z.symm)]; exact h.1
  | [], _ :: _, h, _ => h.elim
  | _ :: _, [], h, _ => h.elim
theorem RK.app {X : Sto} {o : O} : ∀ {ns : List Nat} {xs : Stk}, RK X ns xs → RK (X ++ [o]) ns xs ∧ ∀ m ∈ ns, m ≠ X.length
  | [], [], _ => ⟨trivial, fun m hm => by simp at hm⟩
  | k :: ns, x :: xs, h => by
    obtain ⟨h1, h2⟩ := h.2.2.app (o := o)
    have hk : k < X.length := (List.getElem?_eq_some_iff.mp h.1).1
    refine ⟨⟨?_, h.2.1, h1⟩, fun m hm => ?_⟩
    · rw [List.getElem?_append_left hk]; exact h.1
    · rcases List.mem_cons.mp hm with rfl | hm
      · omega
      · exact h2 m hm
  | [], _ :: _, h => h.elim
  | _ :: _, [], h => h.elim
def refs (S : Sto) (ns : List Nat) : List D := ns.reverse.map fun n => .ref (S.length + 2 + n)
def fnK (st : Stk) : List D := st.reverse.map fun x => .int x.1
theorem refs_cons (S : Sto) (n : Nat) (ns : List Nat) : refs S (n :: ns) = refs S ns ++ [.ref (S.length + 2 + n)] := by simp [refs]
theorem fnK_cons (x : Int × List D) (st : Stk) : fnK (x :: st) = fnK st ++ [.int x.1] := by simp [fnK]
theorem RK.len {X : Sto} : ∀ {ns : List Nat} {xs : Stk}, RK X ns xs → ns.length = xs.length
  | [], [], _ => rfl
  | k :: ns, x :: xs, h => by simp [h.2.2.len]
  | [], _ :: _, h => h.elim
  | _ :: _, [], h => h.elim
def lastD : Option D → D
  | none => .non
  | some d => d
theorem lenT5 (S : Sto) (ns : List Nat) (B : List D) (X : Sto) : lenD (T5 S (refs S ns) B X) (.ref S.length) = .ok (.int ns.length) (T5 S (refs S ns) B X) := by
  simp [lenD, dctOf, seqOf, T5_0, refs]
/-- one event -/
theorem told_step (k : Nat) {S : Sto} {X : Sto} {ns : List Nat} {st : Stk} (hK : RK X ns st) (hl : st.length ≤ 3000) (hz : szK st ≤ 3000) (tr d : D) (hd : d.data = true) (hdz : d.sz ≤ 3000) (v4 v5 : Option D) :
    Run (foStep (.var 4) (exs P (callF P (k + 2)) q15_0) d [some tr, some (.ref S.length), some (.ref (S.length + 1)), some .non, v4, v5] (T5 S (refs S ns) (fnK st) X)) fun o T' => (o = .rt .non ∧ pstep st d = none ∧ ∃ A B X', T' = T5 S A B X') ∨ ∃ st' last ns' X' v4 v5, o = .nx [some tr, some (.ref S.length), some (.ref (S.length + 1)), some (lastD last), v4, v5] ∧ pstep st d = some (st', last) ∧ RK X' ns' st' ∧ T' = T5 S (refs S ns') (fnK st') X' := by
  have gb : P.glob 3 = some (.str [105, 110]) := rfl
  have ge : P.glob 4 = some (.str [111, 117, 116]) := rfl
  have nn : ∀ T, cmpD P (callF P (k + 2)) .isnot T .non .non = .ok (.bl false) T := fun T => rfl
  have e1 := fun T => c_event k [105, 110] d T hd hdz
  have e2 := fun T => c_event k [111, 117, 116] d T hd hdz
  have e3 := fun T => c0 (k + 1) d T (data_pl hd)
  rcases kind_spec d with ⟨i, rfl, hk, h1⟩ | ⟨i, rfl, hk, h1, h2⟩ | ⟨i, rfl, hk, h1, h2⟩ | ⟨hk, h1, h2, h3⟩
  · have g1 : ∀ T, getI T (evX [105, 110] (.int i)) (.int 1) = .ok (.int i) T := fun T => by simp [evX, getI]
    rw [h1] at e1
    obtain ⟨a1, a2⟩ := app_r (.int i) (T5_1 (S := S) (A := refs S ns) (B := fnK st) (X := X)) (by simp [fnK]; omega)
    rw [T5_s1] at a2
    have hB : fnK st ++ [.int i] = fnK ((i, []) :: st) := (fnK_cons (i, []) st).symm
    rw [hB] at a2
    obtain ⟨b1, b2⟩ := app_r (.ref (S.length + 2 + X.length)) (T5_0 (S := S) (A := refs S ns) (B := fnK ((i, []) :: st)) (X := X ++ [.lst []])) (by have := hK.len; simp [refs]; omega)
    rw [T5_s0, ← refs_cons] at b2
    have b0 := (app_r (.int 0) (T5_0 (S := S) (A := refs S ns) (B := fnK ((i, []) :: st)) (X := X)) (by have := hK.len; simp [refs]; omega)).1
    have hlen := T5_len (S := S) (A := refs S ns) (B := fnK ((i, []) :: st)) (X := X)
    have hpu := T5_push (S := S) (A := refs S ns) (B := fnK ((i, []) :: st)) (X := X) (.lst [])
    obtain ⟨k1, k2⟩ := hK.app (o := .lst [])
    generalize evX [105, 110] (.int i) = E at *
    have hps : pstep st E = some ((i, []) :: st, none) := by simp only [pstep, hk]
    generalize hT1 : T5 S (refs S ns) (fnK ((i, []) :: st)) X = T1 at *
    generalize hT0 : T5 S (refs S ns) (fnK st) X = T0 at *
    generalize hT2 : T5 S (refs S ns) (fnK ((i, []) :: st)) (X ++ [.lst []]) = T2 at *
    simp! [q15_0, nn, gb, e1, a1, g1, a2, b0, b1, nl_t, hlen, hpu, b2, List.length_nil, Nat.zero_le]
    refine .inr ⟨_, none, X.length :: ns, X ++ [.lst []], _, _, rfl, hps, ⟨by simp, k2, k1⟩, ?_⟩
    rfl
  · rw [h1] at e1
    rw [h2] at e2
    cases st with
    | nil =>
      cases ns with
      | cons _ _ => exact hK.elim
      | nil =>
        have hln : lenD (T5 S (refs S []) (fnK []) X) (.ref S.length) = .ok (.int 0) (T5 S (refs S []) (fnK []) X) := lenT5 S [] _ X
        generalize hT0 : T5 S (refs S []) (fnK []) X = T0 at *
        generalize hE : evX [111, 117, 116] (.int i) = E at *
        simp! [q15_0, nn, gb, e1, hln]
        exact .inl ⟨by simp [pstep, hk, endE], _, _, _, hT0.symm⟩
    | cons x r =>
      cases ns with
      | nil => exact hK.elim
      | cons n m =>
        have g1 : ∀ T, getI T (evX [111, 117, 116] (.int i)) (.int 1) = .ok (.int i) T := fun T => by simp [evX, getI]
        have hln := lenT5 S (n :: m) (fnK (x :: r)) X
        have hl0 : (((n :: m).length : Int) == 0) = false := by simpa using (by omega : ¬ ((m.length : Int) + 1 = 0))
        generalize ((n :: m).length : Int) = q at hln hl0
        obtain ⟨p1, p2⟩ := pop_r (T5_1 (S := S) (A := refs S (n :: m)) (B := fnK r ++ [.int x.1]) (X := X))
        rw [T5_s1, ← fnK_cons] at p2
        rw [← fnK_cons] at p1
        obtain ⟨p3, p4⟩ := pop_r (T5_0 (S := S) (A := refs S m ++ [.ref (S.length + 2 + n)]) (B := fnK r) (X := X))
        rw [T5_s0, ← refs_cons] at p4
        rw [← refs_cons] at p3
        have hX := hK.1
        have htp : tupleD (T5 S (refs S m) (fnK r) X) (.ref (S.length + 2 + n)) = .ok (.tup x.2) (T5 S (refs S m) (fnK r) X) := by
          simp only [tupleD, seqOf, T5_x, hX]
        have hln2 := lenT5 S m (fnK r) X
        have hr : D.tup [.int x.1, .tup x.2] = runD x := rfl
        have g0 : ∀ T, getI T (runD x) (.int 0) = .ok (.int x.1) T := fun T => by simp [runD, getI]
        by_cases hx : x.1 = i
        · have hxe : (x.1 == i) = true := by simpa using hx
          cases r with
          | nil =>
            cases m with
            | cons _ _ => exact hK.2.2.elim
            | nil =>
              have hps : pstep [x] (evX [111, 117, 116] (.int i)) = some ([], some (runD x)) := by simp [pstep, hk, endE, hx]
              generalize hE : evX [111, 117, 116] (.int i) = E at *
              have hz0 : ((([] : List Nat).length : Int) == 0) = true := rfl
              generalize hT0 : T5 S (refs S [n]) (fnK [x]) X = T0 at *
              generalize hT1 : T5 S (refs S [n]) (fnK []) X = T1 at *
              generalize hT2 : T5 S (refs S []) (fnK []) X = T2 at *
              generalize hRD : runD x = RD at *
              simp! [q15_0, nn, gb, ge, e1, hln, hl0, e2, p1, p2, p3, p4, htp, hr, hRD, g0, g1, hxe, hln2, hz0]
              exact .inr ⟨[], some RD, [], X, _, _, rfl, hps, trivial, hT2.symm⟩
          | cons y r2 =>
            cases m with
            | nil => exact hK.2.2.elim
            | cons n2 m2 =>
              have hps : pstep (x :: y :: r2) (evX [111, 117, 116] (.int i)) = some ((y.1, y.2 ++ [runD x]) :: r2, none) := by simp [pstep, hk, endE, hx]
              have hz0 : (((n2 :: m2).length : Int) == 0) = false := by simpa using (by omega : ¬ ((m2.length : Int) + 1 = 0))
              generalize ((n2 :: m2).length : Int) = q2 at hln2 hz0
              have gl := last_r (T5_0 (S := S) (A := refs S m2 ++ [.ref (S.length + 2 + n2)]) (B := fnK (y :: r2)) (X := X))
              rw [← refs_cons] at gl
              have hX2 := hK.2.2.1
              have hyl : y.2.length ≤ 3000 := by
                have := szs_len y.2
                simp only [szK] at hz; omega
              obtain ⟨a1, a2⟩ := app_r (runD x) ((T5_x (S := S) (A := refs S (n2 :: m2)) (B := fnK (y :: r2)) (X := X) n2).trans hX2) (by omega)
              rw [T5_sx] at a2
              have hKn : RK (X.set n2 (.lst (y.2 ++ [runD x]))) (n2 :: m2) ((y.1, y.2 ++ [runD x]) :: r2) := ⟨by
                rw [List.getElem?_set_self (List.getElem?_eq_some_iff.mp hX2).1], hK.2.2.2.1, hK.2.2.2.2.other hK.2.2.2.1⟩
              have hfk : fnK ((y.1, y.2 ++ [runD x]) :: r2) = fnK (y :: r2) := by simp [fnK]
              generalize hE : evX [111, 117, 116] (.int i) = E at *
              generalize hT0 : T5 S (refs S (n :: n2 :: m2)) (fnK (x :: y :: r2)) X = T0 at *
              generalize hT1 : T5 S (refs S (n :: n2 :: m2)) (fnK (y :: r2)) X = T1 at *
              generalize hT2 : T5 S (refs S (n2 :: m2)) (fnK (y :: r2)) X = T2 at *
              generalize hT3 : T5 S (refs S (n2 :: m2)) (fnK (y :: r2)) (X.set n2 (.lst (y.2 ++ [runD x]))) = T3 at *
              generalize hRD : runD x = RD at *
              simp! [q15_0, nn, gb, ge, e1, hln, hl0, e2, p1, p2, p3, p4, htp, hr, hRD, g0, g1, hxe, hln2, hz0, gl, a1, a2]
              exact .inr ⟨_, none, n2 :: m2, _, _, _, rfl, hps, hKn, by rw [hfk]; exact hT3.symm⟩
        · have hxe : (x.1 == i) = false := by simpa using hx
          have hps : pstep (x :: r) (evX [111, 117, 116] (.int i)) = none := by
            cases r <;> simp [pstep, hk, endE, hx]
          generalize hE : evX [111, 117, 116] (.int i) = E at *
          generalize hT0 : T5 S (refs S (n :: m)) (fnK (x :: r)) X = T0 at *
          generalize hT1 : T5 S (refs S (n :: m)) (fnK r) X = T1 at *
          generalize hT2 : T5 S (refs S m) (fnK r) X = T2 at *
          generalize hRD : runD x = RD at *
          simp! [q15_0, nn, gb, ge, e1, hln, hl0, e2, p1, p2, p3, p4, htp, hr, hRD, g0, g1, hxe]
          exact .inl ⟨hps, _, _, _, hT2.symm⟩
  · rw [h1] at e1
    rw [h2] at e2
    have e3' : ∀ T, callF P (k + 2) 0 [.int i] T = .ok (.bl true) T := fun T => e3 T
    cases st with
    | nil =>
      cases ns with
      | cons _ _ => exact hK.elim
      | nil =>
        have hln : lenD (T5 S (refs S []) (fnK []) X) (.ref S.length) = .ok (.int 0) (T5 S (refs S []) (fnK []) X) := lenT5 S [] _ X
        generalize hT0 : T5 S (refs S []) (fnK []) X = T0 at *
        simp! [q15_0, nn, gb, e1, hln]
        exact .inl ⟨by simp [pstep, hk, tickE], _, _, _, hT0.symm⟩
    | cons x r =>
      cases ns with
      | nil => exact hK.elim
      | cons n m =>
        have hps : pstep (x :: r) (.int i) = some ((x.1, x.2 ++ [.int i]) :: r, none) := by simp [pstep, hk, tickE]
        have hln := lenT5 S (n :: m) (fnK (x :: r)) X
        have hl0 : (((n :: m).length : Int) == 0) = false := by simpa using (by omega : ¬ ((m.length : Int) + 1 = 0))
        generalize ((n :: m).length : Int) = q at hln hl0
        have gl := last_r (T5_0 (S := S) (A := refs S m ++ [.ref (S.length + 2 + n)]) (B := fnK (x :: r)) (X := X))
        rw [← refs_cons] at gl
        have hX2 := hK.1
        have hyl : x.2.length ≤ 3000 := by
          have := szs_len x.2
          simp only [szK] at hz; omega
        obtain ⟨a1, a2⟩ := app_r (.int i) ((T5_x (S := S) (A := refs S (n :: m)) (B := fnK (x :: r)) (X := X) n).trans hX2) (by omega)
        rw [T5_sx] at a2
        have hKn : RK (X.set n (.lst (x.2 ++ [.int i]))) (n :: m) ((x.1, x.2 ++ [.int i]) :: r) := ⟨by
          rw [List.getElem?_set_self (List.getElem?_eq_some_iff.mp hX2).1], hK.2.1, hK.2.2.other hK.2.1⟩
        have hfk : fnK ((x.1, x.2 ++ [.int i]) :: r) = fnK (x :: r) := by simp [fnK]
        generalize hT0 : T5 S (refs S (n :: m)) (fnK (x :: r)) X = T0 at *
        generalize hT3 : T5 S (refs S (n :: m)) (fnK (x :: r)) (X.set n (.lst (x.2 ++ [.int i]))) = T3 at *
        simp! [q15_0, nn, gb, ge, e1, hln, hl0, e2, e3', gl, a1, a2]
        exact .inr ⟨_, none, n :: m, _, _, _, rfl, hps, hKn, by rw [hfk]; exact hT3.symm⟩
  · rw [h1] at e1
    rw [h2] at e2
    rw [h3] at e3
    have hln := lenT5 S ns (fnK st) X
    generalize hT0 : T5 S (refs S ns) (fnK st) X = T0 at *
    have hps : pstep st d = none := by simp [pstep, hk]
    cases hl0 : ((ns.length : Int) == 0) with
    | true =>
      simp! [q15_0, nn, gb, e1, hln, hl0]
      exact .inl ⟨hps, _, _, _, hT0.symm⟩
    | false =>
      simp! [q15_0, nn, gb, ge, e1, hln, hl0, e2, e3]
      exact .inl ⟨hps, _, _, _, hT0.symm⟩
end Ck10
end
section
set_option linter.all false
set_option maxRecDepth 100000
set_option maxHeartbeats 4000000
/-! told by a trace: the program -/
local macro_rules | `(tactic| simp! [$ls,*]) => `(tactic| ((repeat (first | with_reducible refine Mi.sp_ok ?_ | ((with_reducible refine Mi.sp_ev ?_); show Mi.Run _ _) | ((with_reducible refine Mi.sp_evs ?_); show Mi.Run _ _) | ((with_reducible refine Mi.sp_st ?_); show Mi.Run _ _) | ((with_reducible refine Mi.sp_exs ?_); show Mi.Run _ _) | ((with_reducible refine Mi.sp_walk ?_); show Mi.Run _ _) | ((with_reducible refine Mi.sp_evo ?_); show Mi.Run _ _) | ((with_reducible refine Mi.sp_evc ?_); show Mi.Run _ _) | with_reducible refine Mi.sp_bind ?_ | with_reducible refine Mi.sp_fin ?_ | with_reducible refine Mi.sp_foS ?_ | with_reducible refine Mi.sp_lc ?_ | with_reducible refine Mi.sp_nox ?_ | refine Mi.run_cg (by simp -implicitDefEqProofs only [Mi.nextO_nx, Mi.nextO_rt, Mi.tr_bl, Mi.tr_int, Mi.tr_non, Mi.tr_tup, Mi.tr_lst, Mi.rs_tup, Mi.rs_lst, Mi.rs_int, Mi.rs_bl, Mi.rs_str, Mi.rs_non, Mi.rs_ins, Mi.sq_tup, Mi.sq_lst, Mi.gi_tup, Mi.gi_lst, Mi.ln_tup, Mi.ln_lst, Mi.b_len, Mi.b_sum, Mi.b_tuple, Mi.b_list, Mi.b_all, Mi.b_any, Mi.b_int, Mi.b_max, Mi.b_min, Mi.b_sorted, Mi.b_min2, Mi.b_max2, Mi.tp_tup, Mi.tp_lst, Mi.nt_0, Mi.nt_1, Mi.nt_2, Mi.nt_3, Mi.nt_4, Mi.asT, Mi.asTs, Mi.wipe, Mi.isOf, Mi.Tg.own, Mi.Tgs.own, Mi.lockO, Mi.at0, Mi.at1, Mi.at2, Mi.eqI, Mi.neI, Mi.ltI, Mi.leI, Mi.gtI, Mi.geI, Mi.bin_add, Mi.bin_sub, Mi.still_lst, Mi.still_tup, Mi.lift_some, List.getElem?_cons_zero, List.getElem?_cons_succ, List.set_cons_zero, List.set_cons_succ, List.set_set, List.length_cons, List.length_nil, List.length_set, List.getElem?_set, List.map_cons, List.map_nil, List.append_nil, List.nil_append, List.cons_append, List.isEmpty_nil, List.isEmpty_cons, Option.map_some, Option.bind_some, Option.isSome_none, List.replicate, Nat.reduceAdd, Nat.reduceSub, Nat.reduceLT, if_true, if_false, Bool.false_eq_true, Bool.not_true, Bool.not_false, ite_self, ↓reduceIte, and_self, true_and, and_true, decide_true, decide_false, Bool.and_true, Bool.true_and, Bool.and_false, Bool.false_and, Bool.or_true, Bool.true_or, Bool.or_false, Bool.false_or, Nat.reduceEqDiff, Nat.reduceLeDiff, Mi.nl_f, Mi.nl_t, Int.reduceBEq, Int.reduceAdd, Int.reduceSub, Int.reduceNeg, Int.cast_ofNat_Int, Int.natCast_one, Int.natCast_zero, BEq.rfl, $ls,*]; exact rfl) ?_)); (first | with_reducible refine Mi.run_id ?_ | (try simp -implicitDefEqProofs only [eq_self, and_self, true_and, and_true, Mi.trunc_self, if_true, if_false, Bool.false_eq_true, ↓reduceIte, Bool.and_true, Bool.true_and, Bool.and_false, Bool.false_and, $ls,*]))))
namespace Ck10
open Mi
theorem szK_len : ∀ st : Stk, 3 * st.length ≤ szK st
  | [] => by simp [szK]
  | x :: r => by
    have := szK_len r
    simp only [szK, List.length_cons]; omega
theorem c_told (k : Nat) (xs : List D) (S : Sto) (hd : D.datas xs = true) (hz : D.szs xs ≤ 3000) : callF P (k + 3) 15 [.tup xs] S = .ok (lastD (told xs)) S := by
  rw [callF_eq (F := f15) rfl rfl]
  refine run_is.mp ?_
  have sq : ∀ T, seqOf T (.tup xs) = some xs := fun T => rfl
  have st : ∀ T, still T (.tup xs) = fun _ => true := fun T => still_tup T xs
  have hT0 : S ++ [O.lst [], O.lst []] = T5 S (refs S []) (fnK []) [] := rfl
  show Run (fin S (exs P (callF P (k + 2)) b15 [some (.tup xs), none, none, none, none, none] S)) _
  simp! [b15, List.append_assoc, List.length_append, nl_t]
  show Run (forR _ _ xs _ (T5 S (refs S []) (fnK []) [])) _
  refine run_forE (fun r e T => ∃ (a : List D) (s : Stk) (last : Option D) (ns : List Nat) (X : Sto) (v4 v5 : Option D), xs = a ++ r ∧ prs ([], none) a = some (s, last) ∧ RK X ns s ∧ T = T5 S (refs S ns) (fnK s) X ∧ e = [some (.tup xs), some (.ref S.length), some (.ref (S.length + 1)), some (lastD last), v4, v5]) ?_ ?_ _ _ _ ⟨[], [], none, [], [], none, none, rfl, rfl, trivial, rfl, rfl⟩
  · rintro d r e T ⟨a, s, last, ns, X, v4, v5, rfl, hp, hK, rfl, rfl⟩
    have h0 : StO ([], none) 0 := ⟨fun x hx => by simp at hx, by simp [szK], fun d hd => by cases hd⟩
    have hS := h0.run hp
    have hsz : D.szs a + d.sz + D.szs r ≤ 3000 := by
      simp only [szs_app, D.szs] at hz; omega
    have hdd : d.data = true := datas_mm hd d (by simp)
    cases last with
    | some dd =>
      obtain ⟨_, x, rfl, _, _⟩ := hS.dn dd rfl
      have ht : told (a ++ d :: r) = none := by
        simp only [told, prs_app, hp, Option.bind_some, prs]; rfl
      have hn : ∀ T, cmpD P (callF P (k + 2)) .isnot T (lastD (some (runD x))) .non = .ok (.bl true) T := fun T => rfl
      have htr : trunc S .non (T5 S (refs S ns) (fnK s) X) = S := trunc_app S _ _ rfl
      rw [ht]
      generalize T5 S (refs S ns) (fnK s) X = T at *
      generalize lastD (some (runD x)) = LD at *
      simp! [q15_0, hn]
      have hl : lastD none = .non := rfl
      refine .inr ⟨_, rfl, ?_⟩
      simp! [htr, hl]
    | none =>
      have hs2 := hS.sz
      have hs3 := szK_len s
      refine (told_step k hK (by simp only at hs3 hs2; omega) (by simp only at hs2; omega) (.tup (a ++ d :: r)) d hdd (by omega) v4 v5).imp fun o T' h => ?_
      rcases h with ⟨rfl, h1, A, B, X', rfl⟩ | ⟨s', last', ns', X', w4, w5, rfl, h1, h2, rfl⟩
      · have ht : told (a ++ d :: r) = none := by
          simp only [told, prs_app, hp, Option.bind_some, prs, h1]; rfl
        have htr : trunc S .non (T5 S A B X') = S := trunc_app S _ _ rfl
        rw [ht]
        refine .inr ⟨_, rfl, ?_⟩
        have hl : lastD none = .non := rfl
        generalize T5 S A B X' = T' at *
        simp! [htr, hl]
      · refine .inl ⟨_, rfl, rfl, a ++ [d], s', last', ns', X', w4, w5, by simp, ?_, h2, rfl, rfl⟩
        rw [prs_app, hp]
        simp only [Option.bind_some, prs_one, h1]
  · rintro e T ⟨a, s, last, ns, X, v4, v5, hxa, hp, hK, rfl, rfl⟩
    rw [List.append_nil] at hxa
    subst hxa
    have ht : told xs = last := by simp only [told, hp, Option.bind_some]
    have h0 : StO ([], none) 0 := ⟨fun x hx => by simp at hx, by simp [szK], fun d hd => by cases hd⟩
    have hS := h0.run hp
    have hdat : (lastD last).data = true := by
      cases last with
      | none => rfl
      | some d =>
        obtain ⟨_, x, rfl, hx, _⟩ := hS.dn d rfl
        exact runD_dat hx
    have htr : trunc S (lastD last) (T5 S (refs S ns) (fnK s) X) = S := trunc_app S _ _ (data_bel _ _ hdat)
    rw [ht]
    generalize T5 S (refs S ns) (fnK s) X = T at *
    simp! [htr]
end Ck10
end
section
set_option linter.all false
set_option maxRecDepth 100000
set_option maxHeartbeats 4000000
/-! run_of -/
local macro_rules | `(tactic| simp! [$ls,*]) => `(tactic| ((repeat (first | with_reducible refine Mi.sp_ok ?_ | ((with_reducible refine Mi.sp_ev ?_); show Mi.Run _ _) | ((with_reducible refine Mi.sp_evs ?_); show Mi.Run _ _) | ((with_reducible refine Mi.sp_st ?_); show Mi.Run _ _) | ((with_reducible refine Mi.sp_exs ?_); show Mi.Run _ _) | ((with_reducible refine Mi.sp_walk ?_); show Mi.Run _ _) | ((with_reducible refine Mi.sp_evo ?_); show Mi.Run _ _) | ((with_reducible refine Mi.sp_evc ?_); show Mi.Run _ _) | with_reducible refine Mi.sp_bind ?_ | with_reducible refine Mi.sp_fin ?_ | with_reducible refine Mi.sp_foS ?_ | with_reducible refine Mi.sp_lc ?_ | with_reducible refine Mi.sp_nox ?_ | refine Mi.run_cg (by simp -implicitDefEqProofs only [Mi.nextO_nx, Mi.nextO_rt, Mi.tr_bl, Mi.tr_int, Mi.tr_non, Mi.tr_tup, Mi.tr_lst, Mi.rs_tup, Mi.rs_lst, Mi.rs_int, Mi.rs_bl, Mi.rs_str, Mi.rs_non, Mi.rs_ins, Mi.sq_tup, Mi.sq_lst, Mi.gi_tup, Mi.gi_lst, Mi.ln_tup, Mi.ln_lst, Mi.b_len, Mi.b_sum, Mi.b_tuple, Mi.b_list, Mi.b_all, Mi.b_any, Mi.b_int, Mi.b_max, Mi.b_min, Mi.b_sorted, Mi.b_min2, Mi.b_max2, Mi.tp_tup, Mi.tp_lst, Mi.nt_0, Mi.nt_1, Mi.nt_2, Mi.nt_3, Mi.nt_4, Mi.asT, Mi.asTs, Mi.wipe, Mi.isOf, Mi.Tg.own, Mi.Tgs.own, Mi.lockO, Mi.at0, Mi.at1, Mi.at2, Mi.eqI, Mi.neI, Mi.ltI, Mi.leI, Mi.gtI, Mi.geI, Mi.bin_add, Mi.bin_sub, Mi.still_lst, Mi.still_tup, Mi.lift_some, List.getElem?_cons_zero, List.getElem?_cons_succ, List.set_cons_zero, List.set_cons_succ, List.set_set, List.length_cons, List.length_nil, List.length_set, List.getElem?_set, List.map_cons, List.map_nil, List.append_nil, List.nil_append, List.cons_append, List.isEmpty_nil, List.isEmpty_cons, Option.map_some, Option.bind_some, Option.isSome_none, List.replicate, Nat.reduceAdd, Nat.reduceSub, Nat.reduceLT, if_true, if_false, Bool.false_eq_true, Bool.not_true, Bool.not_false, ite_self, ↓reduceIte, and_self, true_and, and_true, decide_true, decide_false, Bool.and_true, Bool.true_and, Bool.and_false, Bool.false_and, Bool.or_true, Bool.true_or, Bool.or_false, Bool.false_or, Nat.reduceEqDiff, Nat.reduceLeDiff, Mi.nl_f, Mi.nl_t, Int.reduceBEq, Int.reduceAdd, Int.reduceSub, Int.reduceNeg, Int.cast_ofNat_Int, Int.natCast_one, Int.natCast_zero, BEq.rfl, $ls,*]; exact rfl) ?_)); (first | with_reducible refine Mi.run_id ?_ | (try simp -implicitDefEqProofs only [eq_self, and_self, true_and, and_true, Mi.trunc_self, if_true, if_false, Bool.false_eq_true, ↓reduceIte, Bool.and_true, Bool.true_and, Bool.and_false, Bool.false_and, $ls,*]))))
namespace Ck10
open Mi
mutual
theorem dep_sz : ∀ d : D, d.data = true → d.dep ≤ d.sz
  | .non, _ | .bl _, _ | .int _, _ | .str _, _ => by simp [D.dep, D.sz]
  | .tup xs, h => by
    have := deps_szs xs h
    simp only [D.dep, D.sz]; omega
  | .lst xs, h => by
    have := deps_szs xs h
    simp only [D.dep, D.sz]; omega
  | .ins _ _ _, h => by simp [D.data] at h
  | .ref _, h => by simp [D.data] at h
theorem deps_szs : ∀ xs : List D, D.datas xs = true → D.deps xs ≤ D.szs xs
  | [], _ => by simp [D.deps, D.szs]
  | x :: r, h => by
    simp only [D.datas, Bool.and_eq_true] at h
    have h1 := dep_sz x h.1
    have h2 := deps_szs r h.2
    simp only [D.deps, D.szs]; omega
end
/-- data of bounded size -/
theorem vz_of {d : D} (h : d.data = true) (hz : d.sz ≤ 3000) : Vz d := ⟨h, by have := dep_sz d h; omega, hz⟩
theorem vz_last (xs : List D) (hz : D.szs xs ≤ 3000) : Vz (lastD (told xs)) := by
  cases h : told xs with
  | none => exact vz_of rfl (by simp [lastD, D.sz])
  | some d =>
    obtain ⟨x, rfl, h1, h2⟩ := told_ok xs d h
    exact vz_of (runD_dat h1) (by simp only [lastD]; omega)
/-- what a value tells -/
def tldV : D → D
  | .tup xs => lastD (told xs)
  | _ => .non
section
variable {n : Nat} {es : List (Nat × Nat)} (hn1 : 1 ≤ n) (hn : n ≤ 5) (hri : ∀ e ∈ es, e.1 < e.2 ∧ e.2 < n)
include hn1 hn hri
theorem c_runof (k : Nat) (d : D) (S : Sto) (h : Vz d) : callF P (k + 16) 16 [cD n (.tup (es.map pr)), d] S = if runB es (tldV d) then .ok (tldV d) S else .exc 4 d S := by
  have hz := h.z
  have hvz : Vz (tldV d) := by
    cases d with
    | tup xs => exact vz_last xs (by simp only [D.sz] at hz; omega)
    | _ => exact vz_of rfl (by simp [tldV, D.sz])
  have e1 := c_isrun hn1 hn hri k _ S hvz
  have hx : Run (ev P (callF P (k + 15)) (.ite (.isi (.var 1) .tuple) (.call 15 (.cons (.var 1) .nil)) (.cst .non)) [some (cD n (.tup (es.map pr))), some d, none] S) fun v T => v = tldV d ∧ T = S := by
    have hd := h.dat
    generalize cD n (.tup (es.map pr)) = C at *
    cases d with
    | tup xs =>
      have e2 := c_told (k + 12) xs S hd (by simp only [D.sz] at hz; omega)
      have hi : ∀ S, isOf (res S (.tup xs)) .tuple = some true := fun S => rfl
      have ht : tldV (.tup xs) = lastD (told xs) := rfl
      rw [ht]
      generalize D.tup xs = R at *
      simp! [↓hi, e2]
    | ref m => simp [D.data] at hd
    | _ => simp! [tldV]
  have hx2 := run_is.mp hx
  rw [callF_eq (F := f16) rfl rfl]
  show fin S (exs P (callF P (k + 15)) b16 [some (cD n (.tup (es.map pr))), some d, none] S) = _
  generalize cD n (.tup (es.map pr)) = C at *
  generalize tldV d = V at *
  cases hb : runB es V with
  | true =>
    rw [hb] at e1
    simp -implicitDefEqProofs only [b16, exs, ex1, hx2, res_ok]
    simp -implicitDefEqProofs [ev, evs, truR, truth, e1, fin, trunc_self]
  | false =>
    rw [hb] at e1
    simp -implicitDefEqProofs only [b16, exs, ex1, hx2, res_ok]
    simp -implicitDefEqProofs [exs, ex1, ev, evs, truR, truth, e1, fin]
end
end Ck10
end
section
set_option linter.all false
set_option maxRecDepth 100000
set_option maxHeartbeats 4000000
/-! trace_of -/
local macro_rules | `(tactic| simp! [$ls,*]) => `(tactic| ((repeat (first | with_reducible refine Mi.sp_ok ?_ | ((with_reducible refine Mi.sp_ev ?_); show Mi.Run _ _) | ((with_reducible refine Mi.sp_evs ?_); show Mi.Run _ _) | ((with_reducible refine Mi.sp_st ?_); show Mi.Run _ _) | ((with_reducible refine Mi.sp_exs ?_); show Mi.Run _ _) | ((with_reducible refine Mi.sp_walk ?_); show Mi.Run _ _) | ((with_reducible refine Mi.sp_evo ?_); show Mi.Run _ _) | ((with_reducible refine Mi.sp_evc ?_); show Mi.Run _ _) | with_reducible refine Mi.sp_bind ?_ | with_reducible refine Mi.sp_fin ?_ | with_reducible refine Mi.sp_foS ?_ | with_reducible refine Mi.sp_lc ?_ | with_reducible refine Mi.sp_nox ?_ | refine Mi.run_cg (by simp -implicitDefEqProofs only [Mi.nextO_nx, Mi.nextO_rt, Mi.tr_bl, Mi.tr_int, Mi.tr_non, Mi.tr_tup, Mi.tr_lst, Mi.rs_tup, Mi.rs_lst, Mi.rs_int, Mi.rs_bl, Mi.rs_str, Mi.rs_non, Mi.rs_ins, Mi.sq_tup, Mi.sq_lst, Mi.gi_tup, Mi.gi_lst, Mi.ln_tup, Mi.ln_lst, Mi.b_len, Mi.b_sum, Mi.b_tuple, Mi.b_list, Mi.b_all, Mi.b_any, Mi.b_int, Mi.b_max, Mi.b_min, Mi.b_sorted, Mi.b_min2, Mi.b_max2, Mi.tp_tup, Mi.tp_lst, Mi.nt_0, Mi.nt_1, Mi.nt_2, Mi.nt_3, Mi.nt_4, Mi.asT, Mi.asTs, Mi.wipe, Mi.isOf, Mi.Tg.own, Mi.Tgs.own, Mi.lockO, Mi.at0, Mi.at1, Mi.at2, Mi.eqI, Mi.neI, Mi.ltI, Mi.leI, Mi.gtI, Mi.geI, Mi.bin_add, Mi.bin_sub, Mi.still_lst, Mi.still_tup, Mi.lift_some, List.getElem?_cons_zero, List.getElem?_cons_succ, List.set_cons_zero, List.set_cons_succ, List.set_set, List.length_cons, List.length_nil, List.length_set, List.getElem?_set, List.map_cons, List.map_nil, List.append_nil, List.nil_append, List.cons_append, List.isEmpty_nil, List.isEmpty_cons, Option.map_some, Option.bind_some, Option.isSome_none, List.replicate, Nat.reduceAdd, Nat.reduceSub, Nat.reduceLT, if_true, if_false, Bool.false_eq_true, Bool.not_true, Bool.not_false, ite_self, ↓reduceIte, and_self, true_and, and_true, decide_true, decide_false, Bool.and_true, Bool.true_and, Bool.and_false, Bool.false_and, Bool.or_true, Bool.true_or, Bool.or_false, Bool.false_or, Nat.reduceEqDiff, Nat.reduceLeDiff, Mi.nl_f, Mi.nl_t, Int.reduceBEq, Int.reduceAdd, Int.reduceSub, Int.reduceNeg, Int.cast_ofNat_Int, Int.natCast_one, Int.natCast_zero, BEq.rfl, $ls,*]; exact rfl) ?_)); (first | with_reducible refine Mi.run_id ?_ | (try simp -implicitDefEqProofs only [eq_self, and_self, true_and, and_true, Mi.trunc_self, if_true, if_false, Bool.false_eq_true, ↓reduceIte, Bool.and_true, Bool.true_and, Bool.and_false, Bool.false_and, $ls,*]))))
namespace Ck10
open Mi
mutual
theorem trT_len : ∀ t : T, (trT t).length ≤ (toD t).sz
  | .tk _ => by simp [trT, toD, D.sz]
  | .rn g ps => by
    have := trL_len ps
    simp only [trT, toD, D.sz, D.szs, List.length_cons, List.length_append, List.length_nil]; omega
theorem trL_len : ∀ ps : List T, (trL ps).length ≤ D.szs (toDs ps)
  | [] => by simp [trL]
  | t :: r => by
    have h1 := trT_len t
    have h2 := trL_len r
    simp only [trL, toDs, D.szs, List.length_append]; omega
end
section
variable {n : Nat} {es : List (Nat × Nat)} (hn1 : 1 ≤ n) (hn : n ≤ 5) (hri : ∀ e ∈ es, e.1 < e.2 ∧ e.2 < n)
include hn1 hn hri
theorem c_trace (k : Nat) (ps : List T) (S : Sto) (h : Vz (toD (.rn 0 ps))) (hb : IsRun es (.rn 0 ps)) : callF P (k + 17) 13 [cD n (.tup (es.map pr)), toD (.rn 0 ps)] S = .ok (.tup (trT (.rn 0 ps))) S := by
  have e := c_need hn1 hn hri k _ S h
  have hB := runB_of hb
  rw [hB] at e
  obtain ⟨qs, h1, h2⟩ := hb.run
  injection h1 with _ h1
  subst h1
  have hd := dpL_le hri 0 ps h2
  have hl := trL_len ps
  have hz := h.z
  simp only [toD, D.sz, D.szs] at hz
  have e2 := events (k + 10) 5 0 ps S (by omega) (by omega)
  simp only [Nat.add_assoc, Nat.reduceAdd] at e2
  rw [callF_eq (F := f13) rfl rfl]
  refine run_is.mp ?_
  generalize cD n (.tup (es.map pr)) = C at *
  generalize toD (.rn 0 ps) = R at *
  generalize trT (.rn 0 ps) = L at *
  show Run (fin S (exs P (callF P (k + 16)) b13 [some C, some R] S)) _
  simp! [b13, e, e2]
theorem c_trace_no (k : Nat) (d : D) (S : Sto) (h : Vz d) (hb : runB es d = false) : callF P (k + 17) 13 [cD n (.tup (es.map pr)), d] S = .exc 3 d S := by
  have e := c_need hn1 hn hri k d S h
  rw [hb] at e
  generalize cD n (.tup (es.map pr)) = C at *
  rw [callF_eq (F := f13) rfl rfl]
  simp -implicitDefEqProofs [f13, b13, exs, ex1, ev, evs, e, fin]
end
end Ck10
end
section
set_option linter.all false
set_option maxRecDepth 100000
set_option maxHeartbeats 4000000
/-! what the law is told -/
local macro_rules | `(tactic| simp! [$ls,*]) => `(tactic| ((repeat (first | with_reducible refine Mi.sp_ok ?_ | ((with_reducible refine Mi.sp_ev ?_); show Mi.Run _ _) | ((with_reducible refine Mi.sp_evs ?_); show Mi.Run _ _) | ((with_reducible refine Mi.sp_st ?_); show Mi.Run _ _) | ((with_reducible refine Mi.sp_exs ?_); show Mi.Run _ _) | ((with_reducible refine Mi.sp_walk ?_); show Mi.Run _ _) | ((with_reducible refine Mi.sp_evo ?_); show Mi.Run _ _) | ((with_reducible refine Mi.sp_evc ?_); show Mi.Run _ _) | with_reducible refine Mi.sp_bind ?_ | with_reducible refine Mi.sp_fin ?_ | with_reducible refine Mi.sp_foS ?_ | with_reducible refine Mi.sp_lc ?_ | with_reducible refine Mi.sp_nox ?_ | refine Mi.run_cg (by simp -implicitDefEqProofs only [Mi.nextO_nx, Mi.nextO_rt, Mi.tr_bl, Mi.tr_int, Mi.tr_non, Mi.tr_tup, Mi.tr_lst, Mi.rs_tup, Mi.rs_lst, Mi.rs_int, Mi.rs_bl, Mi.rs_str, Mi.rs_non, Mi.rs_ins, Mi.sq_tup, Mi.sq_lst, Mi.gi_tup, Mi.gi_lst, Mi.ln_tup, Mi.ln_lst, Mi.b_len, Mi.b_sum, Mi.b_tuple, Mi.b_list, Mi.b_all, Mi.b_any, Mi.b_int, Mi.b_max, Mi.b_min, Mi.b_sorted, Mi.b_min2, Mi.b_max2, Mi.tp_tup, Mi.tp_lst, Mi.nt_0, Mi.nt_1, Mi.nt_2, Mi.nt_3, Mi.nt_4, Mi.asT, Mi.asTs, Mi.wipe, Mi.isOf, Mi.Tg.own, Mi.Tgs.own, Mi.lockO, Mi.at0, Mi.at1, Mi.at2, Mi.eqI, Mi.neI, Mi.ltI, Mi.leI, Mi.gtI, Mi.geI, Mi.bin_add, Mi.bin_sub, Mi.still_lst, Mi.still_tup, Mi.lift_some, List.getElem?_cons_zero, List.getElem?_cons_succ, List.set_cons_zero, List.set_cons_succ, List.set_set, List.length_cons, List.length_nil, List.length_set, List.getElem?_set, List.map_cons, List.map_nil, List.append_nil, List.nil_append, List.cons_append, List.isEmpty_nil, List.isEmpty_cons, Option.map_some, Option.bind_some, Option.isSome_none, List.replicate, Nat.reduceAdd, Nat.reduceSub, Nat.reduceLT, if_true, if_false, Bool.false_eq_true, Bool.not_true, Bool.not_false, ite_self, ↓reduceIte, and_self, true_and, and_true, decide_true, decide_false, Bool.and_true, Bool.true_and, Bool.and_false, Bool.false_and, Bool.or_true, Bool.true_or, Bool.or_false, Bool.false_or, Nat.reduceEqDiff, Nat.reduceLeDiff, Mi.nl_f, Mi.nl_t, Int.reduceBEq, Int.reduceAdd, Int.reduceSub, Int.reduceNeg, Int.cast_ofNat_Int, Int.natCast_one, Int.natCast_zero, BEq.rfl, $ls,*]; exact rfl) ?_)); (first | with_reducible refine Mi.run_id ?_ | (try simp -implicitDefEqProofs only [eq_self, and_self, true_and, and_true, Mi.trunc_self, if_true, if_false, Bool.false_eq_true, ↓reduceIte, Bool.and_true, Bool.true_and, Bool.and_false, Bool.false_and, $ls,*]))))
namespace Ck10
open Mi
def tel (d : D) : D := .tup [.str [116, 111, 108, 100], d]
def noR (d : D) : D := .tup [.str [114, 117, 110], d]
def noT (d : D) : D := .tup [.str [116, 114, 97, 99, 101], d]
section
variable {n : Nat} {es : List (Nat × Nat)} (hn1 : 1 ≤ n) (hn : n ≤ 5) (hri : ∀ e ∈ es, e.1 < e.2 ∧ e.2 < n)
include hn1 hn hri
theorem told0 (k : Nat) (ps : List T) (S : Sto) (h : Vz (toD (.rn 0 ps))) (hb : IsRun es (.rn 0 ps)) : callF P (k + 18) 30 [.int 0, cD n (.tup (es.map pr)), toD (.rn 0 ps)] S = .ok (tel (.tup (trT (.rn 0 ps)))) S := by
  have e := c_trace hn1 hn hri k ps S h hb
  rw [callF_eq (F := f30) rfl rfl]
  generalize cD n (.tup (es.map pr)) = C at *
  generalize toD (.rn 0 ps) = R at *
  generalize trT (.rn 0 ps) = L at *
  have hq : exs P (callF P (k + 17)) q30_0 [some (.int 0), some C, some R, none] S = .ok (.rt (tel (.tup L))) S := by
    refine run_is.mp ?_
    simp! [q30_0, e, tel]
  show fin S (exs P (callF P (k + 17)) b30 [some (.int 0), some C, some R, none] S) = _
  simp -implicitDefEqProofs [b30, exs, ex1, hq, triR, fin, trunc_self]
theorem told0_no (k : Nat) (d : D) (S : Sto) (h : Vz d) (hb : runB es d = false) : callF P (k + 18) 30 [.int 0, cD n (.tup (es.map pr)), d] S = .ok (noR d) S := by
  have e := c_trace_no hn1 hn hri k d S h hb
  rw [callF_eq (F := f30) rfl rfl]
  generalize cD n (.tup (es.map pr)) = C at *
  have hq : exs P (callF P (k + 17)) q30_0 [some (.int 0), some C, some d, none] S = .exc 3 d S := by
    simp -implicitDefEqProofs [q30_0, exs, ex1, ev, evs, eqI, truR, truth, e]
  show fin S (exs P (callF P (k + 17)) b30 [some (.int 0), some C, some d, none] S) = _
  have ht : triR P [⟨3, some [114, 117, 110], 1⟩, ⟨4, some [116, 114, 97, 99, 101], 1⟩] (.exc 3 d S) = .ok (.rt (noR d)) S := rfl
  simp -implicitDefEqProofs [b30, exs, ex1, hq, ht, fin, trunc_self]
theorem told1 (k : Nat) (d : D) (S : Sto) (h : Vz d) : callF P (k + 18) 30 [.int 1, cD n (.tup (es.map pr)), d] S = .ok (if runB es (tldV d) then tel (tldV d) else noT d) S := by
  have e := c_runof hn1 hn hri (k + 1) d S h
  simp only [Nat.add_assoc, Nat.reduceAdd] at e
  rw [callF_eq (F := f30) rfl rfl]
  generalize cD n (.tup (es.map pr)) = C at *
  generalize tldV d = V at *
  show fin S (exs P (callF P (k + 17)) b30 [some (.int 1), some C, some d, none] S) = _
  cases hb : runB es V with
  | true =>
    rw [hb] at e
    simp only [if_true] at e
    have hq : exs P (callF P (k + 17)) q30_0 [some (.int 1), some C, some d, none] S = .ok (.rt (tel V)) S := by
      refine run_is.mp ?_
      simp! [q30_0, e, tel]
    simp -implicitDefEqProofs [b30, exs, ex1, hq, triR, fin, trunc_self]
  | false =>
    rw [hb] at e
    simp only [if_false, Bool.false_eq_true] at e
    have hq : exs P (callF P (k + 17)) q30_0 [some (.int 1), some C, some d, none] S = .exc 4 d S := by
      simp -implicitDefEqProofs [q30_0, exs, ex1, ev, evs, eqI, truR, truth, e]
    have ht : triR P [⟨3, some [114, 117, 110], 1⟩, ⟨4, some [116, 114, 97, 99, 101], 1⟩] (.exc 4 d S) = .ok (.rt (noT d)) S := rfl
    simp -implicitDefEqProofs [b30, exs, ex1, hq, ht, fin, trunc_self]
end
end Ck10
end
section
set_option linter.all false
set_option maxRecDepth 100000
set_option maxHeartbeats 4000000
/-! shaped values -/
local macro_rules | `(tactic| simp! [$ls,*]) => `(tactic| ((repeat (first | with_reducible refine Mi.sp_ok ?_ | ((with_reducible refine Mi.sp_ev ?_); show Mi.Run _ _) | ((with_reducible refine Mi.sp_evs ?_); show Mi.Run _ _) | ((with_reducible refine Mi.sp_st ?_); show Mi.Run _ _) | ((with_reducible refine Mi.sp_exs ?_); show Mi.Run _ _) | ((with_reducible refine Mi.sp_walk ?_); show Mi.Run _ _) | ((with_reducible refine Mi.sp_evo ?_); show Mi.Run _ _) | ((with_reducible refine Mi.sp_evc ?_); show Mi.Run _ _) | with_reducible refine Mi.sp_bind ?_ | with_reducible refine Mi.sp_fin ?_ | with_reducible refine Mi.sp_foS ?_ | with_reducible refine Mi.sp_lc ?_ | with_reducible refine Mi.sp_nox ?_ | refine Mi.run_cg (by simp -implicitDefEqProofs only [Mi.nextO_nx, Mi.nextO_rt, Mi.tr_bl, Mi.tr_int, Mi.tr_non, Mi.tr_tup, Mi.tr_lst, Mi.rs_tup, Mi.rs_lst, Mi.rs_int, Mi.rs_bl, Mi.rs_str, Mi.rs_non, Mi.rs_ins, Mi.sq_tup, Mi.sq_lst, Mi.gi_tup, Mi.gi_lst, Mi.ln_tup, Mi.ln_lst, Mi.b_len, Mi.b_sum, Mi.b_tuple, Mi.b_list, Mi.b_all, Mi.b_any, Mi.b_int, Mi.b_max, Mi.b_min, Mi.b_sorted, Mi.b_min2, Mi.b_max2, Mi.tp_tup, Mi.tp_lst, Mi.nt_0, Mi.nt_1, Mi.nt_2, Mi.nt_3, Mi.nt_4, Mi.asT, Mi.asTs, Mi.wipe, Mi.isOf, Mi.Tg.own, Mi.Tgs.own, Mi.lockO, Mi.at0, Mi.at1, Mi.at2, Mi.eqI, Mi.neI, Mi.ltI, Mi.leI, Mi.gtI, Mi.geI, Mi.bin_add, Mi.bin_sub, Mi.still_lst, Mi.still_tup, Mi.lift_some, List.getElem?_cons_zero, List.getElem?_cons_succ, List.set_cons_zero, List.set_cons_succ, List.set_set, List.length_cons, List.length_nil, List.length_set, List.getElem?_set, List.map_cons, List.map_nil, List.append_nil, List.nil_append, List.cons_append, List.isEmpty_nil, List.isEmpty_cons, Option.map_some, Option.bind_some, Option.isSome_none, List.replicate, Nat.reduceAdd, Nat.reduceSub, Nat.reduceLT, if_true, if_false, Bool.false_eq_true, Bool.not_true, Bool.not_false, ite_self, ↓reduceIte, and_self, true_and, and_true, decide_true, decide_false, Bool.and_true, Bool.true_and, Bool.and_false, Bool.false_and, Bool.or_true, Bool.true_or, Bool.or_false, Bool.false_or, Nat.reduceEqDiff, Nat.reduceLeDiff, Mi.nl_f, Mi.nl_t, Int.reduceBEq, Int.reduceAdd, Int.reduceSub, Int.reduceNeg, Int.cast_ofNat_Int, Int.natCast_one, Int.natCast_zero, BEq.rfl, $ls,*]; exact rfl) ?_)); (first | with_reducible refine Mi.run_id ?_ | (try simp -implicitDefEqProofs only [eq_self, and_self, true_and, and_true, Mi.trunc_self, if_true, if_false, Bool.false_eq_true, ↓reduceIte, Bool.and_true, Bool.true_and, Bool.and_false, Bool.false_and, $ls,*]))))
namespace Ck10
open Mi
/-- the law's shape -/
def shT : D → Bool
  | .tup l => shB2 l
  | _ => false
theorem shBs_all : ∀ ps : List D, shBs ps = ps.all shB
  | [] => rfl
  | d :: r => by simp only [shBs, List.all_cons, shBs_all r]
theorem eq_lnil (P : Pg) (call : Nat → List D → Sto → Res D) (S : Sto) (l : List D) (h : D.datas l = true) : cmpD P call .eq S (.lst l) (.lst []) = .ok (.bl l.isEmpty) S := by
  have h1 : (D.lst l).data = true := h
  have h4 : min (D.lst l).dep (D.lst []).dep ≤ DEEP := by simp only [D.dep, D.deps, DEEP]; omega
  have h5 : D.eqv (.lst l) (.lst []) = l.isEmpty := by cases l <;> rfl
  simp only [cmpD, rs_lst, eqD, h1, h4, h5, show (D.lst []).data = true from rfl, Bool.and_self, decide_true, if_true, Option.map_some, lift_some]
theorem shaped0 (K : Nat) (x : D) (ps : List D) (S : Sto) (hp : D.datas ps = true) (hl : ps.length ≤ 3000) (ih : ∀ l, .tup l ∈ ps → ∀ S, callF P K 32 [.tup l] S = .ok (.bl (shT (.tup l))) S) : callF P (K + 1) 32 [.tup [x, .tup ps]] S = .ok (.bl (shBs ps)) S := by
  have g1 : ∀ S, getI S (.tup [x, .tup ps]) (.int 1) = .ok (.tup ps) S := fun S => by simp [getI]
  have hi : ∀ S, isOf (res S (.tup [x, .tup ps])) .tuple = some true := fun S => rfl
  have hi2 : ∀ S, isOf (res S (.tup ps)) .tuple = some true := fun S => rfl
  have hln : ∀ S, lenD S (.tup [x, .tup ps]) = .ok (.int 2) S := fun S => rfl
  have n2 : ((2 : Int) == 2) = true := rfl
  rw [callF_eq (F := f32) rfl rfl]
  refine run_is.mp ?_
  generalize D.tup [x, .tup ps] = R at *
  have hc : ev P (callF P K) (.comp false x32_0 (.var 1) (.seq (.idx (.var 0) (.cst (.int 1)))) y32_1) [some R, none] S = .ok (.lst (ps.filterMap fun d => if shB d then none else some d)) S := by
    have hm := ev_compM (cs := y32_1) (x := x32_0) (t := .var 1) (it := .seq (.idx (.var 0) (.cst (.int 1)))) (e := [some R, none]) (S := S) P (callF P K) (fun d : D => d) (ck := fun _ => true) (xs := ps) (by
      refine run_is.mp ?_
      simp! [g1, List.map_id']) rfl (fun d => if shB d then none else some d) (fun d hd => by
      have hdd : d.data = true := datas_mm hp d hd
      refine run_is.mp ?_
      cases d with
      | tup l =>
        have e1 := ih l hd S
        have hs : shB (.tup l) = shT (.tup l) := rfl
        rw [hs]
        have hj : ∀ S, isOf (res S (.tup l)) .tuple = some true := fun S => rfl
        generalize shT (.tup l) = B at *
        generalize D.tup l = T at *
        cases B <;> simp! [y32_1, x32_0, ↓hj, e1]
      | ref m => simp [D.data] at hdd
      | _ => simp! [y32_1, x32_0, shB]) (by
      have := List.length_filterMap_le (fun d => if shB d then none else some d) ps
      unfold LINE; omega)
    exact hm
  have hdat : D.datas (ps.filterMap fun d => if shB d then none else some d) = true := datas_of fun d hd => by
    obtain ⟨a, ha, hb⟩ := List.mem_filterMap.mp hd
    split at hb
    · cases hb
    · injection hb with hb; subst hb; exact datas_mm hp a ha
  have he : (ps.filterMap fun d => if shB d then none else some d).isEmpty = shBs ps := by
    rw [shBs_all]
    clear hc hdat ih g1 hi2 hl hp
    induction ps with
    | nil => rfl
    | cons a r ih => cases h : shB a <;> simp [h, ih] <;> simpa using ih
  have eq := fun T => eq_lnil P (callF P K) T _ hdat
  rw [he] at eq
  generalize (ps.filterMap fun d => if shB d then none else some d) = Z at *
  show Run (fin S (exs P (callF P K) b32 [some R, none] S)) _
  simp! [b32, ↓hi, hln, n2, g1, ↓hi2, ↓hc, eq]
theorem shaped_no (K : Nat) (d : D) (S : Sto) (hd : d.data = true) (h : ∀ x ps, d ≠ .tup [x, .tup ps]) : callF P (K + 1) 32 [d] S = .ok (.bl false) S := by
  rw [callF_eq (F := f32) rfl rfl]
  refine run_is.mp ?_
  show Run (fin S (exs P (callF P K) b32 [some d, none] S)) _
  cases d with
  | tup l =>
    have hi : ∀ S, isOf (res S (.tup l)) .tuple = some true := fun S => rfl
    have hln : ∀ S, lenD S (.tup l) = .ok (.int l.length) S := fun S => rfl
    by_cases h2 : l.length = 2
    · match l, h2 with
      | [a, b], _ =>
        have n2 : ((([a, b] : List D).length : Int) == 2) = true := rfl
        have g1 : ∀ S, getI S (.tup [a, b]) (.int 1) = .ok b S := fun S => by simp [getI]
        have hb : ∀ S, isOf (res S b) .tuple = some false := fun S => by
          simp only [D.data, D.datas, Bool.and_eq_true] at hd
          cases b with
          | tup ps => exact absurd rfl (h a ps)
          | ref m => simp [D.data] at hd
          | _ => rfl
        generalize ((([a, b] : List D).length : Int)) = q at *
        generalize D.tup [a, b] = R at *
        simp! [b32, ↓hi, hln, n2, g1, ↓hb]
    · have n2 : ((l.length : Int) == 2) = false := by simpa using (by omega : ¬ (l.length : Int) = 2)
      generalize D.tup l = R at *
      simp! [b32, ↓hi, hln, n2]
  | ref m => simp [D.data] at hd
  | _ => simp! [b32]
theorem shaped (k : Nat) : ∀ (m : Nat) (d : D) (S : Sto), d.data = true → d.sz ≤ 3000 → d.dep ≤ m → callF P (k + m + 1) 32 [d] S = .ok (.bl (shT d)) S := by
  intro m
  induction m with
  | zero =>
    intro d S hd hz h
    have hn : ∀ x ps, d ≠ .tup [x, .tup ps] := fun x ps e => by subst e; simp only [D.dep] at h; omega
    have hf : shT d = false := by
      cases d with
      | tup l => simp only [D.dep] at h; omega
      | _ => rfl
    rw [hf]
    exact shaped_no (k + 0) d S hd hn
  | succ m ih =>
    intro d S hd hz h
    by_cases he : ∃ x ps, d = .tup [x, .tup ps]
    · obtain ⟨x, ps, rfl⟩ := he
      simp only [D.data, D.datas, Bool.and_eq_true, Bool.and_true] at hd
      simp only [D.sz, D.szs] at hz
      simp only [D.dep, D.deps] at h
      have hl := szs_len ps
      exact shaped0 (k + (m + 1)) x ps S hd.2 (by omega) fun l hl' S => by
        have h1 := dep_mm hl'
        have h2 := szs_mem hl'
        exact ih (.tup l) S (datas_mm hd.2 _ hl') (by omega) (by omega)
    · have hn : ∀ x ps, d ≠ .tup [x, .tup ps] := fun x ps e => he ⟨x, ps, e⟩
      have hf : shT d = false := by
        cases d with
        | tup l =>
          match l with
          | [] => rfl
          | [_] => simp [shT, shB2]
          | _ :: _ :: _ :: _ => simp [shT, shB2]
          | [a, b] =>
            cases b with
            | tup ps => exact absurd rfl (hn a ps)
            | _ => rfl
        | _ => rfl
      rw [hf]
      exact shaped_no (k + (m + 1)) d S hd hn
end Ck10
end
section
set_option linter.all false
set_option maxRecDepth 100000
set_option maxHeartbeats 4000000
/-! a trace read by the law: one event -/
namespace Ck10
open Mi
/-- pairs in the store -/
def QK (X : Sto) : List Nat → Stk → Prop
  | [], [] => True
  | n :: ns, x :: xs => X[n]? = some (.lst [.int x.1, .tup x.2]) ∧ (∀ m ∈ ns, m ≠ n) ∧ QK X ns xs
  | _, _ => False
theorem QK.other {X : Sto} {n : Nat} {o : O} : ∀ {ns : List Nat} {xs : Stk}, QK X ns xs → (∀ m ∈ ns, m ≠ n) → QK (X.set n o) ns xs
  | [], [], _, _ => trivial
  | k :: ns, x :: xs, h, hn => by
    refine ⟨?_, h.2.1, h.2.2.other fun m hm => hn m (by simp [hm])⟩
    rw [List.getElem?_set_ne (fun z => hn k (by simp) z.symm)]; exact h.1
  | [], _ :: _, h, _ => h.elim
  | _ :: _, [], h, _ => h.elim
theorem QK.app {X : Sto} {o : O} : ∀ {ns : List Nat} {xs : Stk}, QK X ns xs → QK (X ++ [o]) ns xs ∧ ∀ m ∈ ns, m ≠ X.length
  | [], [], _ => ⟨trivial, fun m hm => by simp at hm⟩
  | k :: ns, x :: xs, h => by
    obtain ⟨h1, h2⟩ := h.2.2.app (o := o)
    have hk : k < X.length := (List.getElem?_eq_some_iff.mp h.1).1
    refine ⟨⟨?_, h.2.1, h1⟩, fun m hm => ?_⟩
    · rw [List.getElem?_append_left hk]; exact h.1
    · rcases List.mem_cons.mp hm with rfl | hm
      · omega
      · exact h2 m hm
  | [], _ :: _, h => h.elim
  | _ :: _, [], h => h.elim
theorem QK.len {X : Sto} : ∀ {ns : List Nat} {xs : Stk}, QK X ns xs → ns.length = xs.length
  | [], [], _ => rfl
  | k :: ns, x :: xs, h => by simp [h.2.2.len]
  | [], _ :: _, h => h.elim
  | _ :: _, [], h => h.elim
/-- a list in the store, then others -/
def T6 (S : Sto) (A : List D) (X : Sto) : Sto := S ++ (.lst A :: X)
section
variable {S : Sto} {A : List D} {X : Sto}
theorem T6_0 : (T6 S A X)[S.length]? = some (.lst A) := by simp [T6]
theorem T6_x (n : Nat) : (T6 S A X)[S.length + 1 + n]? = X[n]? := by
  unfold T6; rw [List.getElem?_append_right (by omega), show S.length + 1 + n - S.length = n + 1 by omega]; rfl
theorem T6_len : (T6 S A X).length = S.length + 1 + X.length := by simp [T6]; omega
theorem T6_push (o : O) : T6 S A X ++ [o] = T6 S A (X ++ [o]) := by simp [T6]
theorem T6_s0 (L : List D) : (T6 S A X).set S.length (.lst L) = T6 S L X := by simp [T6]
theorem T6_sx (n : Nat) (o : O) : (T6 S A X).set (S.length + 1 + n) o = T6 S A (X.set n o) := by
  unfold T6
  rw [List.set_append_right _ _ (by omega), show S.length + 1 + n - S.length = n + 1 by omega]; rfl
theorem T6_eq (P : Pg) (call : Nat → List D → Sto → Res D) : cmpD P call .eq (T6 S A X) (.ref S.length) (.lst []) = .ok (.bl A.isEmpty) (T6 S A X) := by simp [cmpD, T6_0]
end
def refq (S : Sto) (ns : List Nat) : List D := ns.reverse.map fun n => .ref (S.length + 1 + n)
theorem refq_cons (S : Sto) (n : Nat) (ns : List Nat) : refq S (n :: ns) = refq S ns ++ [.ref (S.length + 1 + n)] := by simp [refq]
theorem refq_e (S : Sto) (n : Nat) (ns : List Nat) : (refq S (n :: ns)).isEmpty = false := by simp [refq_cons]
theorem neSt (P : Pg) (call : Nat → List D → Sto → Res D) (S : Sto) (s w : List Nat) : cmpD P call .ne S (.str s) (.str w) = .ok (.bl (!decide (s = w))) S := by
  by_cases h : s = w
  · subst h; simp [cmpD, eqD, res, D.data, D.dep, DEEP, D.eqv]
  · simp [cmpD, eqD, res, D.data, D.dep, DEEP, D.eqv, h]
theorem set_pair {T : Sto} {r : Nat} {a b : D} (v : D) (h : T[r]? = some (.lst [a, b])) : setI T (.ref r) (.int 1) v = .ok () (T.set r (.lst [a, v])) := by
  simp [setI, h, ixN]
theorem get_pair {T : Sto} {r : Nat} {a b : D} (h : T[r]? = some (.lst [a, b])) : getI T (.ref r) (.int 0) = .ok a T ∧ getI T (.ref r) (.int 1) = .ok b T := by
  constructor <;> simp [getI, h, atI, ixN]
end Ck10
end
section
set_option linter.all false
set_option maxRecDepth 100000
set_option maxHeartbeats 4000000
/-! a trace read by the law: one event -/
local macro_rules | `(tactic| simp! [$ls,*]) => `(tactic| ((repeat (first | with_reducible refine Mi.sp_ok ?_ | ((with_reducible refine Mi.sp_ev ?_); show Mi.Run _ _) | ((with_reducible refine Mi.sp_evs ?_); show Mi.Run _ _) | ((with_reducible refine Mi.sp_st ?_); show Mi.Run _ _) | ((with_reducible refine Mi.sp_exs ?_); show Mi.Run _ _) | ((with_reducible refine Mi.sp_walk ?_); show Mi.Run _ _) | ((with_reducible refine Mi.sp_evo ?_); show Mi.Run _ _) | ((with_reducible refine Mi.sp_evc ?_); show Mi.Run _ _) | with_reducible refine Mi.sp_bind ?_ | with_reducible refine Mi.sp_fin ?_ | with_reducible refine Mi.sp_foS ?_ | with_reducible refine Mi.sp_lc ?_ | with_reducible refine Mi.sp_nox ?_ | refine Mi.run_cg (by simp -implicitDefEqProofs only [Mi.nextO_nx, Mi.nextO_rt, Mi.tr_bl, Mi.tr_int, Mi.tr_non, Mi.tr_tup, Mi.tr_lst, Mi.rs_tup, Mi.rs_lst, Mi.rs_int, Mi.rs_bl, Mi.rs_str, Mi.rs_non, Mi.rs_ins, Mi.sq_tup, Mi.sq_lst, Mi.gi_tup, Mi.gi_lst, Mi.ln_tup, Mi.ln_lst, Mi.b_len, Mi.b_sum, Mi.b_tuple, Mi.b_list, Mi.b_all, Mi.b_any, Mi.b_int, Mi.b_max, Mi.b_min, Mi.b_sorted, Mi.b_min2, Mi.b_max2, Mi.tp_tup, Mi.tp_lst, Mi.nt_0, Mi.nt_1, Mi.nt_2, Mi.nt_3, Mi.nt_4, Mi.asT, Mi.asTs, Mi.wipe, Mi.isOf, Mi.Tg.own, Mi.Tgs.own, Mi.lockO, Mi.at0, Mi.at1, Mi.at2, Mi.eqI, Mi.neI, Mi.ltI, Mi.leI, Mi.gtI, Mi.geI, Mi.bin_add, Mi.bin_sub, Mi.still_lst, Mi.still_tup, Mi.lift_some, List.getElem?_cons_zero, List.getElem?_cons_succ, List.set_cons_zero, List.set_cons_succ, List.set_set, List.length_cons, List.length_nil, List.length_set, List.getElem?_set, List.map_cons, List.map_nil, List.append_nil, List.nil_append, List.cons_append, List.isEmpty_nil, List.isEmpty_cons, Option.map_some, Option.bind_some, Option.isSome_none, List.replicate, Nat.reduceAdd, Nat.reduceSub, Nat.reduceLT, if_true, if_false, Bool.false_eq_true, Bool.not_true, Bool.not_false, ite_self, ↓reduceIte, and_self, true_and, and_true, decide_true, decide_false, Bool.and_true, Bool.true_and, Bool.and_false, Bool.false_and, Bool.or_true, Bool.true_or, Bool.or_false, Bool.false_or, Nat.reduceEqDiff, Nat.reduceLeDiff, Mi.nl_f, Mi.nl_t, Int.reduceBEq, Int.reduceAdd, Int.reduceSub, Int.reduceNeg, Int.cast_ofNat_Int, Int.natCast_one, Int.natCast_zero, BEq.rfl, $ls,*]; exact rfl) ?_)); (first | with_reducible refine Mi.run_id ?_ | (try simp -implicitDefEqProofs only [eq_self, and_self, true_and, and_true, Mi.trunc_self, if_true, if_false, Bool.false_eq_true, ↓reduceIte, Bool.and_true, Bool.true_and, Bool.and_false, Bool.false_and, $ls,*]))))
namespace Ck10
open Mi
theorem add_tupB (m : Bool) (S : Sto) (x y : List D) (h : x.length + y.length ≤ 4000) : binD .add m S (.tup x) (.tup y) = .ok (.tup (x ++ y)) S := by
  unfold binD
  have : x.length + y.length ≤ LINE := by unfold LINE; omega
  simp [this]
/-- what is put behind the last pair -/
theorem read_put (k : Nat) {S X : Sto} {n : Nat} {ns : List Nat} {y : Int × List D} {st : Stk} (hK : QK X (n :: ns) (y :: st)) (hz : y.2.length ≤ 3000) (v : D) :
    (∀ T, T = T6 S (refq S (n :: ns)) X → getI T (.ref S.length) (.int (-1)) = .ok (.ref (S.length + 1 + n)) T ∧ getI T (.ref (S.length + 1 + n)) (.int 0) = .ok (.int y.1) T ∧ getI T (.ref (S.length + 1 + n)) (.int 1) = .ok (.tup y.2) T ∧
      setI T (.ref (S.length + 1 + n)) (.int 1) (.tup (y.2 ++ [v])) = .ok () (T6 S (refq S (n :: ns)) (X.set n (.lst [.int y.1, .tup (y.2 ++ [v])])))) ∧
    (∀ T, binD .add false T (.tup y.2) (.tup [v]) = .ok (.tup (y.2 ++ [v])) T) ∧ QK (X.set n (.lst [.int y.1, .tup (y.2 ++ [v])])) (n :: ns) ((y.1, y.2 ++ [v]) :: st) := by
  have hX := hK.1
  refine ⟨fun T hT => ?_, fun T => add_tupB _ _ _ _ (by simp; omega), ?_, hK.2.1, hK.2.2.other hK.2.1⟩
  · subst hT
    have g := last_r (T6_0 (S := S) (A := refq S ns ++ [.ref (S.length + 1 + n)]) (X := X))
    rw [← refq_cons] at g
    have hg := (T6_x (S := S) (A := refq S (n :: ns)) (X := X) n).trans hX
    have hp := get_pair hg
    refine ⟨g, hp.1, hp.2, ?_⟩
    rw [set_pair _ hg, T6_sx]
  · rw [List.getElem?_set_self (List.getElem?_eq_some_iff.mp hX).1]
theorem read_step (k : Nat) {S X : Sto} {ns : List Nat} {st : Stk} (hK : QK X ns st) (hl : st.length ≤ 3000) (hz : szK st ≤ 3000) (ca tr d : D) (hd : d.data = true) (hdz : d.sz ≤ 3000) (v4 v5 : Option D) :
    Run (foStep (.var 4) (exs P (callF P (k + 1)) q31_0) d [some ca, some tr, some (.ref S.length), some .non, v4, v5] (T6 S (refq S ns) X)) fun o T' => (o = .rt .non ∧ pstep st d = none ∧ ∃ A X', T' = T6 S A X') ∨ ∃ st' last ns' X' v4 v5, o = .nx [some ca, some tr, some (.ref S.length), some (lastD last), v4, v5] ∧ pstep st d = some (st', last) ∧ QK X' ns' st' ∧ T' = T6 S (refq S ns') X' := by
  have nn : ∀ T, cmpD P (callF P (k + 1)) .isnot T .non .non = .ok (.bl false) T := fun T => rfl
  have e3 := fun T => c17 k d T (data_pl hd)
  have heq := T6_eq (S := S) (A := refq S ns) (X := X) P (callF P (k + 1))
  have e0 : ∀ S, newL false [] S = .ok (.lst []) S := fun S => nl_f [] (by simp)
  by_cases ht : ∃ l, d = .tup l
  · obtain ⟨l, rfl⟩ := ht
    have hi : ∀ S, isOf (res S (.tup l)) .tuple = some true := fun S => rfl
    have hln : ∀ S, lenD S (.tup l) = .ok (.int l.length) S := fun S => rfl
    by_cases h2 : l.length = 2
    · match l, h2 with
      | [a, b], _ =>
        simp only [D.data, D.datas, Bool.and_eq_true, Bool.and_true] at hd
        have n2 : ((([a, b] : List D).length : Int) == 2) = true := rfl
        have g0 : ∀ S, getI S (.tup [a, b]) (.int 0) = .ok a S := fun S => by simp [getI]
        have g1 : ∀ S, getI S (.tup [a, b]) (.int 1) = .ok b S := fun S => by simp [getI]
        have eb := fun T => c17 k b T (data_pl hd.2)
        generalize ((([a, b] : List D).length : Int)) = q at *
        cases a with
        | ref n => simp [D.data] at hd
        | str w =>
          have hs : ∀ S, isOf (res S (.str w)) .str = some true := fun S => rfl
          have ein := fun T => eqSt P (callF P (k + 1)) T w [105, 110]
          have eou := fun T => neSt P (callF P (k + 1)) T w [111, 117, 116]
          by_cases hb : ∃ i, b = .int i
          · obtain ⟨i, rfl⟩ := hb
            have eb' : ∀ T, callF P (k + 1) 20 [.int i] T = .ok (.bl true) T := fun T => eb T
            by_cases hw : w = [105, 110]
            · have hps : pstep st (.tup [.str w, .int i]) = some ((i, []) :: st, none) := by simp [pstep, kindE, hw]
              have hwt : decide (w = [105, 110]) = true := decide_eq_true hw
              rw [hwt] at ein
              obtain ⟨b1, b2⟩ := app_r (.ref (S.length + 1 + X.length)) (T6_0 (S := S) (A := refq S ns) (X := X ++ [.lst [.int i, .tup []]])) (by have := hK.len; simp [refq]; omega)
              rw [T6_s0, ← refq_cons] at b2
              have b0 := (app_r (.int 0) (T6_0 (S := S) (A := refq S ns) (X := X)) (by have := hK.len; simp [refq]; omega)).1
              have hlen := T6_len (S := S) (A := refq S ns) (X := X)
              have hpu := T6_push (S := S) (A := refq S ns) (X := X) (.lst [.int i, .tup []])
              have nl : ∀ T, newL true [.int i, .tup []] T = .ok (.ref T.length) (T ++ [.lst [.int i, .tup []]]) := fun T => nl_t _ (by simp)
              obtain ⟨k1, k2⟩ := hK.app (o := .lst [.int i, .tup []])
              generalize D.tup [.str w, .int i] = E at *
              generalize hT0 : T6 S (refq S ns) X = T0 at *
              simp! [q31_0, nn, ↓hi, hln, n2, g0, g1, hs, eb', ein, b0, nl, hlen, hpu, b1, b2]
              exact .inr ⟨_, none, X.length :: ns, X ++ [.lst [.int i, .tup []]], _, _, rfl, hps, ⟨by simp, k2, k1⟩, rfl⟩
            · have hwf : decide (w = [105, 110]) = false := decide_eq_false hw
              rw [hwf] at ein
              by_cases hw2 : w = [111, 117, 116]
              · have hwt : decide (w = [111, 117, 116]) = true := decide_eq_true hw2
                rw [hwt] at eou
                have hk : kindE (.tup [.str w, .int i]) = .fin i := by simp [kindE, hw2]
                cases st with
                | nil =>
                  cases ns with
                  | cons _ _ => exact hK.elim
                  | nil =>
                    have heq' : cmpD P (callF P (k + 1)) .eq (T6 S (refq S []) X) (.ref S.length) (.lst []) = .ok (.bl true) (T6 S (refq S []) X) := heq
                    have hps : pstep [] (.tup [.str w, .int i]) = none := by simp [pstep, hk, endE]
                    generalize D.tup [.str w, .int i] = E at *
                    generalize hT0 : T6 S (refq S []) X = T0 at *
                    simp! [q31_0, nn, ↓hi, hln, n2, g0, g1, hs, eb', ein, eou, e0, heq']
                    exact .inl ⟨hps, _, _, hT0.symm⟩
                | cons x r =>
                  cases ns with
                  | nil => exact hK.elim
                  | cons n m =>
                    rw [refq_e] at heq
                    have hxl : x.2.length ≤ 3000 := by
                      have := szs_len x.2
                      simp only [szK] at hz; omega
                    obtain ⟨x1, x2, x3, _⟩ := (read_put k (S := S) hK hxl .non).1 _ rfl
                    by_cases hx : x.1 = i
                    · have hxe : (x.1 == i) = true := by simpa using hx
                      obtain ⟨p3, p4⟩ := pop_r (T6_0 (S := S) (A := refq S m ++ [.ref (S.length + 1 + n)]) (X := X))
                      rw [T6_s0, ← refq_cons] at p4
                      rw [← refq_cons] at p3
                      have hX := hK.1
                      have hg := (T6_x (S := S) (A := refq S m) (X := X) n).trans hX
                      obtain ⟨y0, y1⟩ := get_pair hg
                      have heq2 := T6_eq (S := S) (A := refq S m) (X := X) P (callF P (k + 1))
                      have hr : D.tup [.int x.1, .tup x.2] = runD x := rfl
                      cases r with
                      | nil =>
                        cases m with
                        | cons _ _ => exact hK.2.2.elim
                        | nil =>
                          have heq2' : cmpD P (callF P (k + 1)) .eq (T6 S (refq S []) X) (.ref S.length) (.lst []) = .ok (.bl true) (T6 S (refq S []) X) := heq2
                          have hps : pstep [x] (.tup [.str w, .int i]) = some ([], some (runD x)) := by simp [pstep, hk, endE, hx]
                          generalize D.tup [.str w, .int i] = E at *
                          generalize hT0 : T6 S (refq S [n]) X = T0 at *
                          generalize hT2 : T6 S (refq S []) X = T2 at *
                          generalize hRD : runD x = RD at *
                          simp! [q31_0, nn, ↓hi, hln, n2, g0, g1, hs, eb', ein, eou, e0, heq, x1, x2, hxe, p3, p4, heq2', y0, y1, hr, hRD]
                          exact .inr ⟨[], some RD, [], X, _, _, rfl, hps, trivial, hT2.symm⟩
                      | cons y r2 =>
                        cases m with
                        | nil => exact hK.2.2.elim
                        | cons w9 m2 =>
                          rw [refq_e] at heq2
                          have hps : pstep (x :: y :: r2) (.tup [.str w, .int i]) = some ((y.1, y.2 ++ [runD x]) :: r2, none) := by simp [pstep, hk, endE, hx]
                          have hyl : y.2.length ≤ 3000 := by
                            have := szs_len y.2
                            simp only [szK] at hz; omega
                          obtain ⟨z, w2, hKn⟩ := read_put k (S := S) hK.2.2 hyl (runD x)
                          obtain ⟨z1, z2, z3, z4⟩ := z _ rfl
                          generalize D.tup [.str w, .int i] = E at *
                          generalize hT0 : T6 S (refq S (n :: w9 :: m2)) X = T0 at *
                          generalize hT2 : T6 S (refq S (w9 :: m2)) X = T2 at *
                          generalize hT3 : T6 S (refq S (w9 :: m2)) (X.set w9 (.lst [.int y.1, .tup (y.2 ++ [runD x])])) = T3 at *
                          generalize hRD : runD x = RD at *
                          generalize hNW : y.2 ++ [RD] = NW at *
                          simp! [q31_0, nn, ↓hi, hln, n2, g0, g1, hs, eb', ein, eou, e0, heq, x1, x2, hxe, p3, p4, heq2, y0, y1, hr, hRD, z1, z2, z3, w2, z4]
                          exact .inr ⟨_, none, w9 :: m2, _, _, _, rfl, hps, hKn, hT3.symm⟩
                    · have hxe : (x.1 == i) = false := by simpa using hx
                      have hps : pstep (x :: r) (.tup [.str w, .int i]) = none := by
                        cases r <;> simp [pstep, hk, endE, hx]
                      generalize D.tup [.str w, .int i] = E at *
                      generalize hT0 : T6 S (refq S (n :: m)) X = T0 at *
                      simp! [q31_0, nn, ↓hi, hln, n2, g0, g1, hs, eb', ein, eou, e0, heq, x1, x2, hxe]
                      exact .inl ⟨hps, _, _, hT0.symm⟩
              · have hwt : decide (w = [111, 117, 116]) = false := decide_eq_false hw2
                rw [hwt] at eou
                have hps : pstep st (.tup [.str w, .int i]) = none := by simp [pstep, kindE, hw, hw2]
                generalize D.tup [.str w, .int i] = E at *
                generalize hT0 : T6 S (refq S ns) X = T0 at *
                simp! [q31_0, nn, ↓hi, hln, n2, g0, g1, hs, eb', ein, eou]
                exact .inl ⟨hps, _, _, hT0.symm⟩
          · have hb' : isI b = false := by
              cases b with
              | int i => exact absurd ⟨i, rfl⟩ hb
              | _ => rfl
            have hps : pstep st (.tup [.str w, b]) = none := by
              cases b with
              | int i => exact absurd ⟨i, rfl⟩ hb
              | _ => simp [pstep, kindE]
            rw [hb'] at eb
            generalize D.tup [.str w, b] = E at *
            generalize hT0 : T6 S (refq S ns) X = T0 at *
            simp! [q31_0, nn, ↓hi, hln, n2, g0, g1, hs, eb]
            exact .inl ⟨hps, _, _, hT0.symm⟩
        | _ =>
          generalize hT0 : T6 S (refq S ns) X = T0 at *
          simp! [q31_0, nn, ↓hi, hln, n2, g0]
          exact .inl ⟨by simp [pstep, kindE], _, _, hT0.symm⟩
    · have n2 : ((l.length : Int) == 2) = false := by simpa using (by omega : ¬ (l.length : Int) = 2)
      have hps : pstep st (.tup l) = none := by
        match l, h2 with
        | [], _ => rfl
        | [_], _ => simp [pstep, kindE]
        | _ :: _ :: _ :: _, _ => simp [pstep, kindE]
        | [_, _], h2 => simp at h2
      generalize D.tup l = E at *
      generalize hT0 : T6 S (refq S ns) X = T0 at *
      simp! [q31_0, nn, ↓hi, hln, n2]
      exact .inl ⟨hps, _, _, hT0.symm⟩
  · have hi : ∀ S, isOf (res S d) .tuple = some false := fun S => by
      cases d with
      | tup l => exact absurd ⟨l, rfl⟩ ht
      | ref m => simp [D.data] at hd
      | _ => rfl
    cases st with
    | nil =>
      cases ns with
      | cons _ _ => exact hK.elim
      | nil =>
        have heq' : cmpD P (callF P (k + 1)) .eq (T6 S (refq S []) X) (.ref S.length) (.lst []) = .ok (.bl true) (T6 S (refq S []) X) := heq
        have hps : pstep [] d = none := by
          cases d with
          | tup l => exact absurd ⟨l, rfl⟩ ht
          | _ => simp [pstep, kindE, tickE]
        generalize hT0 : T6 S (refq S []) X = T0 at *
        simp! [q31_0, nn, ↓hi, e0, heq']
        exact .inl ⟨hps, _, _, hT0.symm⟩
    | cons x r =>
      cases ns with
      | nil => exact hK.elim
      | cons n m =>
        rw [refq_e] at heq
        by_cases hb : ∃ i, d = .int i
        · obtain ⟨i, rfl⟩ := hb
          have e3' : ∀ T, callF P (k + 1) 20 [.int i] T = .ok (.bl true) T := fun T => e3 T
          have hps : pstep (x :: r) (.int i) = some ((x.1, x.2 ++ [.int i]) :: r, none) := by simp [pstep, kindE, tickE]
          have hxl : x.2.length ≤ 3000 := by
            have := szs_len x.2
            simp only [szK] at hz; omega
          obtain ⟨z, w2, hKn⟩ := read_put k (S := S) hK hxl (.int i)
          obtain ⟨z1, z2, z3, z4⟩ := z _ rfl
          generalize hT0 : T6 S (refq S (n :: m)) X = T0 at *
          generalize hT3 : T6 S (refq S (n :: m)) (X.set n (.lst [.int x.1, .tup (x.2 ++ [.int i])])) = T3 at *
          generalize hNW : x.2 ++ [D.int i] = NW at *
          simp! [q31_0, nn, e0, heq, e3', z1, z2, z3, w2, z4]
          exact .inr ⟨_, none, n :: m, _, _, _, rfl, hps, hKn, hT3.symm⟩
        · have hb' : isI d = false := by
            cases d with
            | int i => exact absurd ⟨i, rfl⟩ hb
            | _ => rfl
          rw [hb'] at e3
          have hps : pstep (x :: r) d = none := by
            cases d with
            | tup l => exact absurd ⟨l, rfl⟩ ht
            | int i => exact absurd ⟨i, rfl⟩ hb
            | _ => simp [pstep, kindE]
          generalize hT0 : T6 S (refq S (n :: m)) X = T0 at *
          simp! [q31_0, nn, ↓hi, e0, heq, e3]
          exact .inl ⟨hps, _, _, hT0.symm⟩
end Ck10
end
section
set_option linter.all false
set_option maxRecDepth 100000
set_option maxHeartbeats 4000000
/-! a trace read by the law -/
local macro_rules | `(tactic| simp! [$ls,*]) => `(tactic| ((repeat (first | with_reducible refine Mi.sp_ok ?_ | ((with_reducible refine Mi.sp_ev ?_); show Mi.Run _ _) | ((with_reducible refine Mi.sp_evs ?_); show Mi.Run _ _) | ((with_reducible refine Mi.sp_st ?_); show Mi.Run _ _) | ((with_reducible refine Mi.sp_exs ?_); show Mi.Run _ _) | ((with_reducible refine Mi.sp_walk ?_); show Mi.Run _ _) | ((with_reducible refine Mi.sp_evo ?_); show Mi.Run _ _) | ((with_reducible refine Mi.sp_evc ?_); show Mi.Run _ _) | with_reducible refine Mi.sp_bind ?_ | with_reducible refine Mi.sp_fin ?_ | with_reducible refine Mi.sp_foS ?_ | with_reducible refine Mi.sp_lc ?_ | with_reducible refine Mi.sp_nox ?_ | refine Mi.run_cg (by simp -implicitDefEqProofs only [Mi.nextO_nx, Mi.nextO_rt, Mi.tr_bl, Mi.tr_int, Mi.tr_non, Mi.tr_tup, Mi.tr_lst, Mi.rs_tup, Mi.rs_lst, Mi.rs_int, Mi.rs_bl, Mi.rs_str, Mi.rs_non, Mi.rs_ins, Mi.sq_tup, Mi.sq_lst, Mi.gi_tup, Mi.gi_lst, Mi.ln_tup, Mi.ln_lst, Mi.b_len, Mi.b_sum, Mi.b_tuple, Mi.b_list, Mi.b_all, Mi.b_any, Mi.b_int, Mi.b_max, Mi.b_min, Mi.b_sorted, Mi.b_min2, Mi.b_max2, Mi.tp_tup, Mi.tp_lst, Mi.nt_0, Mi.nt_1, Mi.nt_2, Mi.nt_3, Mi.nt_4, Mi.asT, Mi.asTs, Mi.wipe, Mi.isOf, Mi.Tg.own, Mi.Tgs.own, Mi.lockO, Mi.at0, Mi.at1, Mi.at2, Mi.eqI, Mi.neI, Mi.ltI, Mi.leI, Mi.gtI, Mi.geI, Mi.bin_add, Mi.bin_sub, Mi.still_lst, Mi.still_tup, Mi.lift_some, List.getElem?_cons_zero, List.getElem?_cons_succ, List.set_cons_zero, List.set_cons_succ, List.set_set, List.length_cons, List.length_nil, List.length_set, List.getElem?_set, List.map_cons, List.map_nil, List.append_nil, List.nil_append, List.cons_append, List.isEmpty_nil, List.isEmpty_cons, Option.map_some, Option.bind_some, Option.isSome_none, List.replicate, Nat.reduceAdd, Nat.reduceSub, Nat.reduceLT, if_true, if_false, Bool.false_eq_true, Bool.not_true, Bool.not_false, ite_self, ↓reduceIte, and_self, true_and, and_true, decide_true, decide_false, Bool.and_true, Bool.true_and, Bool.and_false, Bool.false_and, Bool.or_true, Bool.true_or, Bool.or_false, Bool.false_or, Nat.reduceEqDiff, Nat.reduceLeDiff, Mi.nl_f, Mi.nl_t, Int.reduceBEq, Int.reduceAdd, Int.reduceSub, Int.reduceNeg, Int.cast_ofNat_Int, Int.natCast_one, Int.natCast_zero, BEq.rfl, $ls,*]; exact rfl) ?_)); (first | with_reducible refine Mi.run_id ?_ | (try simp -implicitDefEqProofs only [eq_self, and_self, true_and, and_true, Mi.trunc_self, if_true, if_false, Bool.false_eq_true, ↓reduceIte, Bool.and_true, Bool.true_and, Bool.and_false, Bool.false_and, $ls,*]))))
namespace Ck10
open Mi
theorem eq_tnil (P : Pg) (call : Nat → List D → Sto → Res D) (S : Sto) (l : List D) (h : D.datas l = true) : cmpD P call .eq S (.tup l) (.tup []) = .ok (.bl l.isEmpty) S := by
  have h1 : (D.tup l).data = true := h
  have h4 : min (D.tup l).dep (D.tup []).dep ≤ DEEP := by simp only [D.dep, D.deps, DEEP]; omega
  have h5 : D.eqv (.tup l) (.tup []) = l.isEmpty := by cases l <;> rfl
  simp only [cmpD, rs_tup, eqD, h1, h4, h5, show (D.tup []).data = true from rfl, Bool.and_self, decide_true, if_true, Option.map_some, lift_some]
/-- what the law reads -/
def rdB (es : List (Nat × Nat)) (d : D) : D := if runB es (tldV d) then tldV d else .non
theorem runB_non (es : List (Nat × Nat)) : runB es .non = false := rfl
section
variable {n : Nat} {es : List (Nat × Nat)}
theorem l_read (k : Nat) (d : D) (S : Sto) (h : Vz d) : callF P (k + 3) 31 [kD n es, d] S = .ok (rdB es d) S := by
  have hd := h.dat
  have hz := h.z
  rw [callF_eq (F := f31) rfl rfl]
  refine run_is.mp ?_
  show Run (fin S (exs P (callF P (k + 2)) b31 [some (kD n es), some d, none, none, none, none] S)) _
  by_cases ht : ∃ xs, d = .tup xs
  · obtain ⟨xs, rfl⟩ := ht
    have hi : ∀ S, isOf (res S (.tup xs)) .tuple = some true := fun S => rfl
    have hds : D.datas xs = true := hd
    have hqe := fun T => eq_tnil P (callF P (k + 2)) T xs hds
    have hzs : D.szs xs ≤ 3000 := by simp only [D.sz] at hz; omega
    cases xs with
    | nil =>
      have hq : rdB es (.tup []) = .non := rfl
      have hqn : ∀ T, cmpD P (callF P (k + 2)) .eq T (.tup []) (.tup []) = .ok (.bl true) T := hqe
      rw [hq]
      simp! [b31, hqn]
    | cons x0 xr =>
      have hqe' : ∀ T, cmpD P (callF P (k + 2)) .eq T (.tup (x0 :: xr)) (.tup []) = .ok (.bl false) T := hqe
      generalize hxs : x0 :: xr = xs at *
      have sq : ∀ T, seqOf T (.tup xs) = some xs := fun T => rfl
      have st : ∀ T, still T (.tup xs) = fun _ => true := fun T => still_tup T xs
      have nn : ∀ T, cmpD P (callF P (k + 2)) .isnot T .non .non = .ok (.bl false) T := fun T => rfl
      have ei := fun T => l_isrun (n := n) (es := es) k (lastD (told xs)) T (vz_last xs hzs)
      have hrd : rdB es (.tup xs) = if runB es (lastD (told xs)) then lastD (told xs) else .non := rfl
      have hr0 : rdB es (.tup xs) = .non ∨ told xs ≠ none := by
        by_cases h0 : told xs = none
        · left; rw [hrd, h0]; rfl
        · exact .inr h0
      have hnl : ∀ T : Sto, newL true [] T = .ok (.ref T.length) (T ++ [.lst []]) := fun T => nl_t _ (by simp)
      simp! [b31, ↓hi, hqe', hnl, sq]
      show Run (forR _ _ xs _ (T6 S (refq S []) [])) _
      refine run_forE (fun r e T => ∃ (a : List D) (s : Stk) (last : Option D) (ns : List Nat) (X : Sto) (v4 v5 : Option D), xs = a ++ r ∧ prs ([], none) a = some (s, last) ∧ QK X ns s ∧ T = T6 S (refq S ns) X ∧ e = [some (kD n es), some (.tup xs), some (.ref S.length), some (lastD last), v4, v5]) ?_ ?_ _ _ _ ⟨[], [], none, [], [], none, none, rfl, rfl, trivial, rfl, rfl⟩
      · rintro d r e T ⟨a, s, last, ns, X, v4, v5, hxa, hp, hK, rfl, rfl⟩
        have h0 : StO ([], none) 0 := ⟨fun x hx => by simp at hx, by simp [szK], fun d hd => by cases hd⟩
        have hS := h0.run hp
        have hsz : D.szs a + d.sz + D.szs r ≤ 3000 := by
          rw [hxa] at hzs
          simp only [szs_app, D.szs] at hzs; omega
        have hdd : d.data = true := datas_mm hds d (by rw [hxa]; simp)
        have hnone : told xs = none → rdB es (.tup xs) = .non := fun h => by rw [hrd, h]; rfl
        cases last with
        | some dd =>
          obtain ⟨_, x, rfl, _, _⟩ := hS.dn dd rfl
          have ht : told xs = none := by
            rw [hxa]
            simp only [told, prs_app, hp, Option.bind_some, prs]; rfl
          have hn : ∀ T, cmpD P (callF P (k + 2)) .isnot T (lastD (some (runD x))) .non = .ok (.bl true) T := fun T => rfl
          have htr : trunc S .non (T6 S (refq S ns) X) = S := trunc_app S _ _ rfl
          rw [hnone ht]
          generalize T6 S (refq S ns) X = T at *
          generalize lastD (some (runD x)) = LD at *
          simp! [q31_0, hn]
          refine .inr ⟨_, rfl, ?_⟩
          simp! [htr]
        | none =>
          have hs2 := hS.sz
          have hs3 := szK_len s
          refine (read_step (k + 1) hK (by simp only at hs3 hs2; omega) (by simp only at hs2; omega) (kD n es) (.tup xs) d hdd (by omega) v4 v5).imp fun o T' h => ?_
          rcases h with ⟨rfl, h1, A, X', rfl⟩ | ⟨s', last', ns', X', w4, w5, rfl, h1, h2, rfl⟩
          · have ht : told xs = none := by
              rw [hxa]
              simp only [told, prs_app, hp, Option.bind_some, prs, h1]; rfl
            have htr : trunc S .non (T6 S A X') = S := trunc_app S _ _ rfl
            rw [hnone ht]
            refine .inr ⟨_, rfl, ?_⟩
            generalize T6 S A X' = T' at *
            simp! [htr]
          · refine .inl ⟨_, rfl, rfl, a ++ [d], s', last', ns', X', w4, w5, by rw [hxa]; simp, ?_, h2, rfl, rfl⟩
            rw [prs_app, hp]
            simp only [Option.bind_some, prs_one, h1]
      · rintro e T ⟨a, s, last, ns, X, v4, v5, hxa, hp, hK, rfl, rfl⟩
        rw [List.append_nil] at hxa
        subst hxa
        have ht : told xs = last := by simp only [told, hp, Option.bind_some]
        have h0 : StO ([], none) 0 := ⟨fun x hx => by simp at hx, by simp [szK], fun d hd => by cases hd⟩
        have hS := h0.run hp
        rw [ht] at ei hrd
        cases last with
        | none =>
          have hq : rdB es (.tup xs) = .non := by rw [hrd]; rfl
          have htr : trunc S .non (T6 S (refq S ns) X) = S := trunc_app S _ _ rfl
          rw [hq]
          generalize T6 S (refq S ns) X = T at *
          have hl : lastD none = .non := rfl
          simp! [hl, nn, htr]
        | some dd =>
          obtain ⟨_, x, rfl, hx, _⟩ := hS.dn dd rfl
          have hl : lastD (some (runD x)) = runD x := rfl
          rw [hl] at ei hrd
          rw [hrd]
          have hn : ∀ T, cmpD P (callF P (k + 2)) .isnot T (runD x) .non = .ok (.bl true) T := fun T => rfl
          have htr : trunc S (runD x) (T6 S (refq S ns) X) = S := trunc_app S _ _ (data_bel _ _ (runD_dat hx))
          have htr0 : trunc S .non (T6 S (refq S ns) X) = S := trunc_app S _ _ rfl
          generalize T6 S (refq S ns) X = T at *
          generalize runD x = RD at *
          cases hb : runB es RD with
          | true =>
            rw [hb] at ei
            simp only [if_true]
            simp! [hl, hn, ei, htr]
          | false =>
            rw [hb] at ei
            simp only [if_false, Bool.false_eq_true]
            simp! [hl, hn, ei, htr0]
  · have hq : rdB es d = .non := by
      cases d with
      | tup xs => exact absurd ⟨xs, rfl⟩ ht
      | _ => rfl
    have hi : ∀ S, isOf (res S d) .tuple = some false := fun S => by
      cases d with
      | tup l => exact absurd ⟨l, rfl⟩ ht
      | ref m => simp [D.data] at hd
      | _ => rfl
    rw [hq]
    simp! [b31, ↓hi]
end
end Ck10
end
section
set_option linter.all false
set_option maxRecDepth 100000
set_option maxHeartbeats 4000000
/-! traces looked at: sizes -/
local macro_rules | `(tactic| simp! [$ls,*]) => `(tactic| ((repeat (first | with_reducible refine Mi.sp_ok ?_ | ((with_reducible refine Mi.sp_ev ?_); show Mi.Run _ _) | ((with_reducible refine Mi.sp_evs ?_); show Mi.Run _ _) | ((with_reducible refine Mi.sp_st ?_); show Mi.Run _ _) | ((with_reducible refine Mi.sp_exs ?_); show Mi.Run _ _) | ((with_reducible refine Mi.sp_walk ?_); show Mi.Run _ _) | ((with_reducible refine Mi.sp_evo ?_); show Mi.Run _ _) | ((with_reducible refine Mi.sp_evc ?_); show Mi.Run _ _) | with_reducible refine Mi.sp_bind ?_ | with_reducible refine Mi.sp_fin ?_ | with_reducible refine Mi.sp_foS ?_ | with_reducible refine Mi.sp_lc ?_ | with_reducible refine Mi.sp_nox ?_ | refine Mi.run_cg (by simp -implicitDefEqProofs only [Mi.nextO_nx, Mi.nextO_rt, Mi.tr_bl, Mi.tr_int, Mi.tr_non, Mi.tr_tup, Mi.tr_lst, Mi.rs_tup, Mi.rs_lst, Mi.rs_int, Mi.rs_bl, Mi.rs_str, Mi.rs_non, Mi.rs_ins, Mi.sq_tup, Mi.sq_lst, Mi.gi_tup, Mi.gi_lst, Mi.ln_tup, Mi.ln_lst, Mi.b_len, Mi.b_sum, Mi.b_tuple, Mi.b_list, Mi.b_all, Mi.b_any, Mi.b_int, Mi.b_max, Mi.b_min, Mi.b_sorted, Mi.b_min2, Mi.b_max2, Mi.tp_tup, Mi.tp_lst, Mi.nt_0, Mi.nt_1, Mi.nt_2, Mi.nt_3, Mi.nt_4, Mi.asT, Mi.asTs, Mi.wipe, Mi.isOf, Mi.Tg.own, Mi.Tgs.own, Mi.lockO, Mi.at0, Mi.at1, Mi.at2, Mi.eqI, Mi.neI, Mi.ltI, Mi.leI, Mi.gtI, Mi.geI, Mi.bin_add, Mi.bin_sub, Mi.still_lst, Mi.still_tup, Mi.lift_some, List.getElem?_cons_zero, List.getElem?_cons_succ, List.set_cons_zero, List.set_cons_succ, List.set_set, List.length_cons, List.length_nil, List.length_set, List.getElem?_set, List.map_cons, List.map_nil, List.append_nil, List.nil_append, List.cons_append, List.isEmpty_nil, List.isEmpty_cons, Option.map_some, Option.bind_some, Option.isSome_none, List.replicate, Nat.reduceAdd, Nat.reduceSub, Nat.reduceLT, if_true, if_false, Bool.false_eq_true, Bool.not_true, Bool.not_false, ite_self, ↓reduceIte, and_self, true_and, and_true, decide_true, decide_false, Bool.and_true, Bool.true_and, Bool.and_false, Bool.false_and, Bool.or_true, Bool.true_or, Bool.or_false, Bool.false_or, Nat.reduceEqDiff, Nat.reduceLeDiff, Mi.nl_f, Mi.nl_t, Int.reduceBEq, Int.reduceAdd, Int.reduceSub, Int.reduceNeg, Int.cast_ofNat_Int, Int.natCast_one, Int.natCast_zero, BEq.rfl, $ls,*]; exact rfl) ?_)); (first | with_reducible refine Mi.run_id ?_ | (try simp -implicitDefEqProofs only [eq_self, and_self, true_and, and_true, Mi.trunc_self, if_true, if_false, Bool.false_eq_true, ↓reduceIte, Bool.and_true, Bool.true_and, Bool.and_false, Bool.false_and, $ls,*]))))
namespace Ck10
open Mi
theorem deps_app (a b : List D) : D.deps (a ++ b) = max (D.deps a) (D.deps b) := by
  induction a with
  | nil => simp [D.deps]
  | cons x r ih => simp only [List.cons_append, D.deps, ih]; omega
mutual
theorem trT_nru : ∀ t : T, (trT t).length + nru t = (toD t).sz
  | .tk _ => by simp [trT, toD, D.sz, nru]
  | .rn g ps => by
    have := trL_nru ps
    simp only [trT, toD, D.sz, D.szs, nru, List.length_cons, List.length_append, List.length_nil]; omega
theorem trL_nru : ∀ ps : List T, (trL ps).length + nruL ps = D.szs (toDs ps)
  | [] => by simp [trL, toDs, D.szs, nruL]
  | t :: r => by
    have h1 := trT_nru t
    have h2 := trL_nru r
    simp only [trL, toDs, D.szs, nruL, List.length_append]; omega
end
mutual
theorem trT_szs : ∀ t : T, D.szs (trT t) ≤ 2 * (toD t).sz
  | .tk _ => by simp [trT, toD, D.sz, D.szs]
  | .rn g ps => by
    have := trL_szs ps
    simp only [trT, evI, evO, toD, D.sz, D.szs, szs_app]; omega
theorem trL_szs : ∀ ps : List T, D.szs (trL ps) ≤ 2 * D.szs (toDs ps)
  | [] => by simp [trL, toDs, D.szs]
  | t :: r => by
    have h1 := trT_szs t
    have h2 := trL_szs r
    simp only [trL, toDs, D.szs, szs_app]; omega
end
mutual
theorem trT_dep : ∀ t : T, D.deps (trT t) ≤ 1
  | .tk _ => by simp [trT, D.dep, D.deps]
  | .rn g ps => by
    have := trL_dep ps
    simp only [trT, evI, evO, D.deps, D.dep, deps_app]; omega
theorem trL_dep : ∀ ps : List T, D.deps (trL ps) ≤ 1
  | [] => by simp [trL, D.deps]
  | t :: r => by
    have h1 := trT_dep t
    have h2 := trL_dep r
    simp only [trL, deps_app]; omega
end
theorem inp_ev (w : List Nat) (hw : w.length ≤ 50) (d : D) (h : inp d = true) : inp (.tup [.str w, d]) = true := by
  simp [inp, inps, h, hw]
theorem inp_tk (i : Int) (h : inp (D.int i) = true) : inps [D.int i] = true := by
  simp only [inps, h, Bool.and_self]
theorem inp_rn (x y : D) (h : inp (.tup [x, y]) = true) : inp x = true ∧ inp y = true := by
  simp only [inp, inps, Bool.and_eq_true, Bool.and_true] at h
  exact h.2
theorem inp_tp (xs : List D) (h : inp (.tup xs) = true) : inps xs = true := by
  simp only [inp, Bool.and_eq_true] at h
  exact h.2
theorem inps_c (x : D) (xs : List D) : inps (x :: xs) = (inp x && inps xs) := by simp only [inps]
mutual
theorem trT_inp : ∀ t : T, inp (toD t) = true → inps (trT t) = true
  | .tk i => by
    intro h
    rw [toD] at h
    rw [trT]
    exact inp_tk i h
  | .rn g ps => by
    intro h
    rw [toD] at h
    have h1 := inp_rn _ _ h
    have h2 := trL_inp ps (inp_tp _ h1.2)
    have a := inp_ev [105, 110] (by simp) _ h1.1
    have b := inp_ev [111, 117, 116] (by simp) _ h1.1
    rw [trT, inps_c, inps_app, h2, evI, evO, a, inps_c, b]
    rfl
theorem trL_inp : ∀ ps : List T, inps (toDs ps) = true → inps (trL ps) = true
  | [] => fun _ => rfl
  | t :: r => by
    intro h
    rw [toDs, inps_c, Bool.and_eq_true] at h
    rw [trL, inps_app, trT_inp t h.1, trL_inp r h.2]; rfl
end
mutual
theorem trD_dep : ∀ d : D, d.data = true → D.deps (trD d) ≤ d.dep + 1 ∧ D.datas (trD d) = true
  | .tup l, h => by
    have := trD2_dep l h
    simp only [trD, D.dep]; exact ⟨by omega, this.2⟩
  | .int _, h => ⟨by simp [trD, D.dep, D.deps], by simp [trD, D.datas, D.data]⟩
  | .non, h => ⟨by simp [trD, D.dep, D.deps], by simp [trD, D.datas, D.data]⟩
  | .bl _, h => ⟨by simp [trD, D.dep, D.deps], by simp [trD, D.datas, D.data]⟩
  | .str _, h => ⟨by simp [trD, D.dep, D.deps], by simp [trD, D.datas, D.data]⟩
  | .lst xs, h => ⟨by simp [trD, D.dep, D.deps], by simpa [trD, D.datas, D.data] using h⟩
  | .ins _ _ _, h => by simp [D.data] at h
  | .ref _, h => by simp [D.data] at h
theorem trD2_dep : ∀ l : List D, D.datas l = true → D.deps (trD2 l) ≤ D.deps l + 2 ∧ D.datas (trD2 l) = true
  | [x, y], h => by
    simp only [D.datas, Bool.and_eq_true, Bool.and_true] at h
    have := trDy_dep y h.2
    simp only [trD2, evX, D.deps, D.dep, deps_app, D.datas, D.data, datas_app, h.1, this.2, Bool.and_self, and_true]; omega
  | [], _ => by simp [trD2, D.deps, D.datas]
  | [_], _ => by simp [trD2, D.deps, D.datas]
  | _ :: _ :: _ :: _, _ => by simp [trD2, D.deps, D.datas]
theorem trDy_dep : ∀ y : D, y.data = true → D.deps (trDy y) ≤ y.dep + 1 ∧ D.datas (trDy y) = true
  | .tup ps, h => by
    have := trDs_dep ps h
    simp only [trDy, D.dep]; exact ⟨by omega, this.2⟩
  | .int _, _ => by simp [trDy, D.deps, D.datas]
  | .non, _ => by simp [trDy, D.deps, D.datas]
  | .bl _, _ => by simp [trDy, D.deps, D.datas]
  | .str _, _ => by simp [trDy, D.deps, D.datas]
  | .lst _, _ => by simp [trDy, D.deps, D.datas]
  | .ins _ _ _, _ => by simp [trDy, D.deps, D.datas]
  | .ref _, _ => by simp [trDy, D.deps, D.datas]
theorem trDs_dep : ∀ ps : List D, D.datas ps = true → D.deps (trDs ps) ≤ D.deps ps + 1 ∧ D.datas (trDs ps) = true
  | [], _ => by simp [trDs, D.deps, D.datas]
  | d :: r, h => by
    simp only [D.datas, Bool.and_eq_true] at h
    have h1 := trD_dep d h.1
    have h2 := trDs_dep r h.2
    simp only [trDs, deps_app, D.deps, datas_app, h1.2, h2.2, Bool.and_self, and_true]; omega
end
/-- values for traces, values for runs -/
structure Vd (d : D) : Prop where
  vz : Vz d
  dp : d.dep ≤ 30
structure Vr (d : D) : Prop extends Vd d where
  ln : (trD d).length ≤ 900
  sz : D.szs (trD d) ≤ 2900
def vrB (d : D) : Bool := d.data && decide (d.dep ≤ 30) && decide (d.sz ≤ 3000) && decide ((trD d).length ≤ 900) && decide (D.szs (trD d) ≤ 2900)
theorem vrB_ok {L : List D} (h : L.all vrB = true) : ∀ d ∈ L, Vr d := fun d hd => by
  have := List.all_eq_true.mp h d hd
  unfold vrB at this
  simp only [Bool.and_eq_true, decide_eq_true_eq] at this
  exact { vz := vz_of this.1.1.1.1 this.1.1.2, dp := this.1.1.1.2, ln := this.1.2, sz := this.2 }
def vdB (d : D) : Bool := d.data && decide (d.dep ≤ 30) && decide (d.sz ≤ 3000)
theorem vdB_ok {L : List D} (h : L.all vdB = true) : ∀ d ∈ L, Vd d := fun d hd => by
  have := List.all_eq_true.mp h d hd
  unfold vdB at this
  simp only [Bool.and_eq_true, decide_eq_true_eq] at this
  exact ⟨vz_of this.1.1 this.2, this.1.2⟩
theorem r_values (k n : Nat) (hn : n ≤ 5) (es : List (Nat × Nat)) (S : Sto) : ∃ L, callF P (k + 1) 29 [kD n es] S = .ok (.lst L) S ∧ L.length ≤ 40 ∧ ∀ d ∈ L, Vr d := by
  have k0 := kg0 n es
  have k1 := kg1 n es
  have p01 : ∀ S, cmpD P (callF P k) .isin S (.tup [.int 0, .int 1]) (.tup (es.map pr)) = .ok (.bl (decide ((0, 1) ∈ es))) S := fun S => by simpa using in_pair P (callF P k) S 0 1 es
  have p12 : ∀ S, cmpD P (callF P k) .isin S (.tup [.int 1, .int 2]) (.tup (es.map pr)) = .ok (.bl (decide ((1, 2) ∈ es))) S := fun S => by simpa using in_pair P (callF P k) S 1 2 es
  have m1 : ∀ x T, binD .mul false T (.tup [x]) (.int 400) = .ok (rep 400 x) T := fun x T => mul_tup false T x 400 (by omega)
  have m2 : ∀ x T, binD .mul false T (.tup [x]) (.int 401) = .ok (rep 401 x) T := fun x T => mul_tup false T x 401 (by omega)
  have m3 : ∀ x T, binD .mul false T (.tup [x]) (.int 198) = .ok (rep 198 x) T := fun x T => mul_tup false T x 198 (by omega)
  have m4 : ∀ x T, binD .mul false T (.tup [x]) (.int 199) = .ok (rep 199 x) T := fun x T => mul_tup false T x 199 (by omega)
  have m5 : ∀ x T, binD .mul false T (.tup [x]) (.int 200) = .ok (rep 200 x) T := fun x T => mul_tup false T x 200 (by omega)
  have r1 : ∀ x y T, binD .add false T (rep 199 x) (.tup [y]) = .ok (repP 199 x y) T := fun x y T => rep_add T x y 199 (by omega)
  have hg : Run (callF P (k + 1) 29 [kD n es] S) fun d T => T = S ∧ ∃ L, d = .lst L ∧ L.length ≤ 40 ∧ ∀ d ∈ L, Vr d := by
    rw [callF_eq (F := f29) rfl rfl]
    generalize hKD : kD n es = KD at *
    show Run (fin S (exs P (callF P k) b29 [some KD, none] S)) _
    cases h1 : decide ((0, 1) ∈ es) with
    | false =>
      rw [h1] at p01
      simp! [b29, p01, k0, k1, m1, m2, add_lst, Nat.reduceLeDiff]
      exact ⟨_, rfl, by simp, vrB_ok rfl⟩
    | true =>
      rw [h1] at p01
      cases h2 : decide ((1, 2) ∈ es) with
      | false =>
        rw [h2] at p12
        simp! [b29, p01, p12, k0, k1, m1, m2, m4, m5, r1, add_lst, Nat.reduceLeDiff]
        exact ⟨_, rfl, by simp, vrB_ok rfl⟩
      | true =>
        rw [h2] at p12
        simp! [b29, p01, p12, k0, k1, m1, m2, m3, m4, m5, r1, add_lst, Nat.reduceLeDiff]
        exact ⟨_, rfl, by simp, vrB_ok rfl⟩
  obtain ⟨d, T, e, rfl, L, rfl, h1, h2⟩ := hg.get
  exact ⟨L, e, h1, h2⟩
end Ck10
end
section
set_option linter.all false
set_option maxRecDepth 100000
set_option maxHeartbeats 4000000
/-! traces looked at: one value -/
local macro_rules | `(tactic| simp! [$ls,*]) => `(tactic| ((repeat (first | with_reducible refine Mi.sp_ok ?_ | ((with_reducible refine Mi.sp_ev ?_); show Mi.Run _ _) | ((with_reducible refine Mi.sp_evs ?_); show Mi.Run _ _) | ((with_reducible refine Mi.sp_st ?_); show Mi.Run _ _) | ((with_reducible refine Mi.sp_exs ?_); show Mi.Run _ _) | ((with_reducible refine Mi.sp_walk ?_); show Mi.Run _ _) | ((with_reducible refine Mi.sp_evo ?_); show Mi.Run _ _) | ((with_reducible refine Mi.sp_evc ?_); show Mi.Run _ _) | with_reducible refine Mi.sp_bind ?_ | with_reducible refine Mi.sp_fin ?_ | with_reducible refine Mi.sp_foS ?_ | with_reducible refine Mi.sp_lc ?_ | with_reducible refine Mi.sp_nox ?_ | refine Mi.run_cg (by simp -implicitDefEqProofs only [Mi.nextO_nx, Mi.nextO_rt, Mi.tr_bl, Mi.tr_int, Mi.tr_non, Mi.tr_tup, Mi.tr_lst, Mi.rs_tup, Mi.rs_lst, Mi.rs_int, Mi.rs_bl, Mi.rs_str, Mi.rs_non, Mi.rs_ins, Mi.sq_tup, Mi.sq_lst, Mi.gi_tup, Mi.gi_lst, Mi.ln_tup, Mi.ln_lst, Mi.b_len, Mi.b_sum, Mi.b_tuple, Mi.b_list, Mi.b_all, Mi.b_any, Mi.b_int, Mi.b_max, Mi.b_min, Mi.b_sorted, Mi.b_min2, Mi.b_max2, Mi.tp_tup, Mi.tp_lst, Mi.nt_0, Mi.nt_1, Mi.nt_2, Mi.nt_3, Mi.nt_4, Mi.asT, Mi.asTs, Mi.wipe, Mi.isOf, Mi.Tg.own, Mi.Tgs.own, Mi.lockO, Mi.at0, Mi.at1, Mi.at2, Mi.eqI, Mi.neI, Mi.ltI, Mi.leI, Mi.gtI, Mi.geI, Mi.bin_add, Mi.bin_sub, Mi.still_lst, Mi.still_tup, Mi.lift_some, List.getElem?_cons_zero, List.getElem?_cons_succ, List.set_cons_zero, List.set_cons_succ, List.set_set, List.length_cons, List.length_nil, List.length_set, List.getElem?_set, List.map_cons, List.map_nil, List.append_nil, List.nil_append, List.cons_append, List.isEmpty_nil, List.isEmpty_cons, Option.map_some, Option.bind_some, Option.isSome_none, List.replicate, Nat.reduceAdd, Nat.reduceSub, Nat.reduceLT, if_true, if_false, Bool.false_eq_true, Bool.not_true, Bool.not_false, ite_self, ↓reduceIte, and_self, true_and, and_true, decide_true, decide_false, Bool.and_true, Bool.true_and, Bool.and_false, Bool.false_and, Bool.or_true, Bool.true_or, Bool.or_false, Bool.false_or, Nat.reduceEqDiff, Nat.reduceLeDiff, Mi.nl_f, Mi.nl_t, Int.reduceBEq, Int.reduceAdd, Int.reduceSub, Int.reduceNeg, Int.cast_ofNat_Int, Int.natCast_one, Int.natCast_zero, BEq.rfl, $ls,*]; exact rfl) ?_)); (first | with_reducible refine Mi.run_id ?_ | (try simp -implicitDefEqProofs only [eq_self, and_self, true_and, and_true, Mi.trunc_self, if_true, if_false, Bool.false_eq_true, ↓reduceIte, Bool.and_true, Bool.true_and, Bool.and_false, Bool.false_and, $ls,*]))))
namespace Ck10
open Mi
theorem ne2 {P : Pg} {call : Nat → List D → Sto → Res D} (S : Sto) {w : List Nat} {d : D} (h : d.data = true) (hd : d.dep ≤ 90) : cmpD P call .ne S (.tup [.str w, d]) (.tup [.str w, d]) = .ok (.bl false) S := ne_self P call S _ (by simp only [D.datas, D.data, h, Bool.and_self]) (by simp only [D.deps, D.dep]; omega)
section
variable {n : Nat} {es : List (Nat × Nat)} (hn1 : 1 ≤ n) (hn : n ≤ 5) (hri : ∀ e ∈ es, e.1 < e.2 ∧ e.2 < n)
include hn1 hn hri
theorem run_dp {d : D} (h : Vz d) (hb : runB es d = true) : d.dep ≤ 20 := by
  obtain ⟨ps, rfl, _, hI⟩ := runF_is hn1 hn hri h hb
  obtain ⟨qs, h1, h2⟩ := hI.run
  injection h1 with _ h1
  subst h1
  have h3 := dpL_le hri 0 ps h2
  have h4 := deps_toDs ps
  simp only [toD, D.dep, D.deps]; omega
/-- a value as a trace -/
theorem one_trace (k : Nat) (d : D) (h : Vd d) (sc bo V : D) (v5 v6 v7 v8 v9 v10 v11 v12 v13 : Option D) (T : Sto) :
    Run (foStep (.var 11) (exs P (callF P (k + 18)) q33_1) d [some sc, some (kD n es), some bo, some (cD n (.tup (es.map pr))), some V, v5, v6, v7, v8, v9, v10, v11, v12, v13] T) fun o T' => ∃ w6, o = .nx [some sc, some (kD n es), some bo, some (cD n (.tup (es.map pr))), some V, v5, w6, v7, v8, v9, v10, some d, v12, v13] ∧ T' = T := by
  have hz := h.vz.z
  have hvz : Vz (tldV d) := by
    cases d with
    | tup xs => exact vz_last xs (by simp only [D.sz] at hz; omega)
    | _ => exact vz_of rfl (by simp [tldV, D.sz])
  have e1 := fun T => l_read (n := n) (es := es) (k + 15) d T h.vz
  have e2 := fun T => told1 hn1 hn hri k d T h.vz
  have trd : ∀ d, tel d = .tup [.str [116, 111, 108, 100], d] := fun d => rfl
  have trn : ∀ d, noT d = .tup [.str [116, 114, 97, 99, 101], d] := fun d => rfl
  have n2 := fun T => ne2 (P := P) (call := callF P (k + 18)) T (w := [116, 114, 97, 99, 101]) h.vz.dat (by have := h.dp; omega)
  simp only [Nat.add_assoc, Nat.reduceAdd] at e1 e2
  cases hb : runB es (tldV d) with
  | true =>
    have hq : rdB es d = tldV d := by simp only [rdB, hb, if_true]
    have hdp := run_dp hn1 hn hri hvz hb
    have n1 := fun T => ne2 (P := P) (call := callF P (k + 18)) T (w := [116, 111, 108, 100]) hvz.dat (by omega)
    have hnn : ∀ T, cmpD P (callF P (k + 18)) .is T (tldV d) .non = .ok (.bl false) T := fun T => by
      have : tldV d ≠ .non := fun e => by rw [e] at hb; exact absurd hb (by simp [runB_non])
      simp only [cmpD, decide_eq_false this]
    rw [hb] at e2
    rw [hq] at e1
    simp only [if_true, trd] at e2
    generalize kD n es = KD at *
    generalize cD n (.tup (es.map pr)) = C at *
    generalize tldV d = W at *
    simp! [q33_1, e1, e2, hnn, n1]
    first | exact ⟨_, rfl⟩ | exact ⟨_, rfl, rfl⟩
  | false =>
    have hq : rdB es d = .non := by simp [rdB, hb]
    have hnn : ∀ T, cmpD P (callF P (k + 18)) .is T .non .non = .ok (.bl true) T := fun T => rfl
    rw [hb] at e2
    rw [hq] at e1
    simp only [if_false, Bool.false_eq_true, trn] at e2
    generalize kD n es = KD at *
    generalize cD n (.tup (es.map pr)) = C at *
    simp! [q33_1, e1, e2, hnn, n2]
    first | exact ⟨_, rfl⟩ | exact ⟨_, rfl, rfl⟩
/-- a value as a run -/
theorem one_run (k : Nat) (d : D) (h : Vr d) (sc bo V : D) (v5 v6 v7 v8 v9 v10 v11 v12 v13 : Option D) (T : Sto) :
    Run (foStep (.var 11) (exs P (callF P (k + 40)) q33_0) d [some sc, some (kD n es), some bo, some (cD n (.tup (es.map pr))), some V, v5, v6, v7, v8, v9, v10, v11, v12, v13] T) fun o T' => ∃ w12 w13, o = .nx [some sc, some (kD n es), some bo, some (cD n (.tup (es.map pr))), some V, v5, v6, v7, v8, v9, v10, some d, w12, w13] ∧ T' = T := by
  have i1 := fun T => l_isrun (n := n) (es := es) (k + 38) d T h.vz
  have trd : ∀ d, tel d = .tup [.str [116, 111, 108, 100], d] := fun d => rfl
  have trn : ∀ d, noT d = .tup [.str [116, 114, 97, 99, 101], d] := fun d => rfl
  have trr : ∀ d, noR d = .tup [.str [114, 117, 110], d] := fun d => rfl
  simp only [Nat.add_assoc, Nat.reduceAdd] at i1
  have hdat := h.vz.dat
  have hz := h.vz.z
  have hdp := h.dp
  have hln := h.ln
  have hsz := h.sz
  cases hb : runB es d with
  | true =>
    have hbd := hb
    obtain ⟨ps, rfl, _, hI⟩ := runF_is hn1 hn hri h.vz hb
    have ht := (trD_toD (.rn 0 ps)).1
    have hs := (trD_toD (.rn 0 ps)).2
    have e1 := fun T => told0 hn1 hn hri (k + 22) ps T h.vz hI
    have hv : Vz (.tup (trT (.rn 0 ps))) := vz_of (trT_data _) (by rw [← ht]; simp only [D.sz]; omega)
    have e2 := fun T => told1 hn1 hn hri (k + 22) (.tup (trT (.rn 0 ps))) T hv
    have hl : tldV (.tup (trT (.rn 0 ps))) = toD (.rn 0 ps) := by simp only [tldV, told_run, lastD]
    rw [hl] at e2
    have e3 := fun T => trace (k + 9) 30 [.int 0, .tup (toDs ps)] T hdp hs hdat hln
    have hR : D.tup [.int 0, .tup (toDs ps)] = toD (.rn 0 ps) := rfl
    have hR0 : D.tup [.int ((0 : Nat) : Int), .tup (toDs ps)] = toD (.rn 0 ps) := rfl
    rw [hR] at e3
    have ht' : trD (toD (.rn 0 ps)) = trT (.rn 0 ps) := ht
    rw [ht'] at e3
    simp only [Nat.add_assoc, Nat.reduceAdd] at e1 e2 e3
    simp only [hbd, if_true, trd] at e1 e2
    have n1 := fun T => ne2 (P := P) (call := callF P (k + 40)) T (w := [116, 111, 108, 100]) hdat (by omega)
    have n2 := fun T => ne2 (P := P) (call := callF P (k + 40)) T (w := [116, 111, 108, 100]) hv.dat (by have := trT_dep (.rn 0 ps); simp only [D.dep]; omega)
    have hi : ∀ S, isOf (res S (toD (.rn 0 ps))) .tuple = some true := fun S => rfl
    have hln2 : ∀ S, lenD S (toD (.rn 0 ps)) = .ok (.int 2) S := fun S => rfl
    have hg1 : ∀ S, getI S (toD (.rn 0 ps)) (.int 1) = .ok (.tup (toDs ps)) S := fun S => by simp [toD, getI]
    have n22 : ((2 : Int) == 2) = true := rfl
    rw [hbd] at i1
    generalize kD n es = KD at *
    generalize cD n (.tup (es.map pr)) = C at *
    generalize toD (.rn 0 ps) = R at *
    generalize trT (.rn 0 ps) = E at *
    simp! [q33_0, i1, e1, e2, e3, n1, n2, ↓hi, hln2, hg1, n22]
    first | exact ⟨_, _, rfl⟩ | exact ⟨_, rfl⟩ | exact ⟨_, _, rfl, rfl⟩
  | false =>
    have e1 := fun T => told0_no hn1 hn hri (k + 22) d T h.vz hb
    have n1 := fun T => ne2 (P := P) (call := callF P (k + 40)) T (w := [114, 117, 110]) hdat (by omega)
    have s1 := fun T => shaped (k + 9) 30 d T hdat hz hdp
    simp only [Nat.add_assoc, Nat.reduceAdd] at e1 s1
    simp only [trr] at e1
    rw [hb] at i1
    by_cases h2 : ∃ x ps, d = .tup [x, .tup ps]
    · obtain ⟨x, ps, rfl⟩ := h2
      have hi : ∀ S, isOf (res S (.tup [x, .tup ps])) .tuple = some true := fun S => rfl
      have hln2 : ∀ S, lenD S (.tup [x, .tup ps]) = .ok (.int 2) S := fun S => rfl
      have hg1 : ∀ S, getI S (.tup [x, .tup ps]) (.int 1) = .ok (.tup ps) S := fun S => by simp [getI]
      have n22 : ((2 : Int) == 2) = true := rfl
      cases hs : shT (.tup [x, .tup ps]) with
      | true =>
        have e3 := fun T => trace (k + 9) 30 [x, .tup ps] T hdp hs hdat hln
        have hv : Vz (.tup (trD (.tup [x, .tup ps]))) := vz_of (trD_dep _ hdat).2 (by simp only [D.sz]; omega)
        have e2 := fun T => told1 hn1 hn hri (k + 22) _ T hv
        have hq : runB es (tldV (.tup (trD (.tup [x, .tup ps])))) = false := by
          rcases told_tr (l := [x, .tup ps]) hs with e | e
          · simp only [tldV, e, lastD]; rfl
          · simp only [tldV, e, lastD]; exact hb
        have n2 := fun T => ne2 (P := P) (call := callF P (k + 40)) T (w := [116, 114, 97, 99, 101]) hv.dat (by have := (trD_dep _ hdat).1; simp only [D.dep] at this ⊢; simp only [D.dep] at hdp; omega)
        simp only [Nat.add_assoc, Nat.reduceAdd] at e2 e3
        simp only [hq, if_false, Bool.false_eq_true, trn] at e2
        rw [hs] at s1
        generalize kD n es = KD at *
        generalize cD n (.tup (es.map pr)) = C at *
        generalize trD (.tup [x, .tup ps]) = E at *
        generalize D.tup [x, .tup ps] = R at *
        simp! [q33_0, i1, e1, e2, e3, s1, n1, n2, ↓hi, hln2, hg1, n22]
        first | exact ⟨_, _, rfl⟩ | exact ⟨_, rfl⟩ | exact ⟨_, _, rfl, rfl⟩
      | false =>
        have hv : Vz (.tup []) := vz_of rfl (by simp [D.sz, D.szs])
        have e2 := fun T => told1 hn1 hn hri (k + 22) _ T hv
        have hq : runB es (tldV (.tup [])) = false := rfl
        have n2 := fun T => ne2 (P := P) (call := callF P (k + 40)) T (w := [116, 114, 97, 99, 101]) hv.dat (by simp [D.dep, D.deps])
        simp only [Nat.add_assoc, Nat.reduceAdd] at e2
        simp only [hq, if_false, Bool.false_eq_true, trn] at e2
        rw [hs] at s1
        generalize kD n es = KD at *
        generalize cD n (.tup (es.map pr)) = C at *
        generalize D.tup [x, .tup ps] = R at *
        simp! [q33_0, i1, e1, e2, s1, n1, n2, ↓hi, hln2, hg1, n22]
        first | exact ⟨_, _, rfl⟩ | exact ⟨_, rfl⟩ | exact ⟨_, _, rfl, rfl⟩
    · cases d with
      | tup l =>
        have hi : ∀ S, isOf (res S (.tup l)) .tuple = some true := fun S => rfl
        have hln : ∀ S, lenD S (.tup l) = .ok (.int l.length) S := fun S => rfl
        by_cases hl2 : l.length = 2
        · match l, hl2 with
          | [a, b], _ =>
            have n22 : ((([a, b] : List D).length : Int) == 2) = true := rfl
            have g1 : ∀ S, getI S (.tup [a, b]) (.int 1) = .ok b S := fun S => by simp [getI]
            have hb2 : ∀ S, isOf (res S b) .tuple = some false := fun S => by
              simp only [D.data, D.datas, Bool.and_eq_true] at hdat
              cases b with
              | tup ps => exact absurd ⟨a, ps, rfl⟩ h2
              | ref m => simp [D.data] at hdat
              | _ => rfl
            generalize kD n es = KD at *
            generalize cD n (.tup (es.map pr)) = C at *
            generalize ((([a, b] : List D).length : Int)) = q at *
            generalize D.tup [a, b] = R at *
            simp! [q33_0, i1, e1, n1, ↓hi, hln, g1, n22, ↓hb2]
            first | exact ⟨_, _, rfl⟩ | exact ⟨_, rfl⟩ | exact ⟨_, _, rfl, rfl⟩
        · have n22 : ((l.length : Int) == 2) = false := by simpa using (by omega : ¬ (l.length : Int) = 2)
          generalize kD n es = KD at *
          generalize cD n (.tup (es.map pr)) = C at *
          generalize D.tup l = R at *
          simp! [q33_0, i1, e1, n1, ↓hi, hln, n22]
          first | exact ⟨_, _, rfl⟩ | exact ⟨_, rfl⟩ | exact ⟨_, _, rfl, rfl⟩
      | ref m => simp [D.data] at hdat
      | _ =>
        generalize kD n es = KD at *
        generalize cD n (.tup (es.map pr)) = C at *
        simp! [q33_0, i1, e1, n1]
        first | exact ⟨_, _, rfl⟩ | exact ⟨_, rfl⟩ | exact ⟨_, _, rfl, rfl⟩
end
end Ck10
end
section
set_option linter.all false
set_option maxRecDepth 100000
set_option maxHeartbeats 4000000
/-! traces looked at: drawn ones -/
local macro_rules | `(tactic| simp! [$ls,*]) => `(tactic| ((repeat (first | with_reducible refine Mi.sp_ok ?_ | ((with_reducible refine Mi.sp_ev ?_); show Mi.Run _ _) | ((with_reducible refine Mi.sp_evs ?_); show Mi.Run _ _) | ((with_reducible refine Mi.sp_st ?_); show Mi.Run _ _) | ((with_reducible refine Mi.sp_exs ?_); show Mi.Run _ _) | ((with_reducible refine Mi.sp_walk ?_); show Mi.Run _ _) | ((with_reducible refine Mi.sp_evo ?_); show Mi.Run _ _) | ((with_reducible refine Mi.sp_evc ?_); show Mi.Run _ _) | with_reducible refine Mi.sp_bind ?_ | with_reducible refine Mi.sp_fin ?_ | with_reducible refine Mi.sp_foS ?_ | with_reducible refine Mi.sp_lc ?_ | with_reducible refine Mi.sp_nox ?_ | refine Mi.run_cg (by simp -implicitDefEqProofs only [Mi.nextO_nx, Mi.nextO_rt, Mi.tr_bl, Mi.tr_int, Mi.tr_non, Mi.tr_tup, Mi.tr_lst, Mi.rs_tup, Mi.rs_lst, Mi.rs_int, Mi.rs_bl, Mi.rs_str, Mi.rs_non, Mi.rs_ins, Mi.sq_tup, Mi.sq_lst, Mi.gi_tup, Mi.gi_lst, Mi.ln_tup, Mi.ln_lst, Mi.b_len, Mi.b_sum, Mi.b_tuple, Mi.b_list, Mi.b_all, Mi.b_any, Mi.b_int, Mi.b_max, Mi.b_min, Mi.b_sorted, Mi.b_min2, Mi.b_max2, Mi.tp_tup, Mi.tp_lst, Mi.nt_0, Mi.nt_1, Mi.nt_2, Mi.nt_3, Mi.nt_4, Mi.asT, Mi.asTs, Mi.wipe, Mi.isOf, Mi.Tg.own, Mi.Tgs.own, Mi.lockO, Mi.at0, Mi.at1, Mi.at2, Mi.eqI, Mi.neI, Mi.ltI, Mi.leI, Mi.gtI, Mi.geI, Mi.bin_add, Mi.bin_sub, Mi.still_lst, Mi.still_tup, Mi.lift_some, List.getElem?_cons_zero, List.getElem?_cons_succ, List.set_cons_zero, List.set_cons_succ, List.set_set, List.length_cons, List.length_nil, List.length_set, List.getElem?_set, List.map_cons, List.map_nil, List.append_nil, List.nil_append, List.cons_append, List.isEmpty_nil, List.isEmpty_cons, Option.map_some, Option.bind_some, Option.isSome_none, List.replicate, Nat.reduceAdd, Nat.reduceSub, Nat.reduceLT, if_true, if_false, Bool.false_eq_true, Bool.not_true, Bool.not_false, ite_self, ↓reduceIte, and_self, true_and, and_true, decide_true, decide_false, Bool.and_true, Bool.true_and, Bool.and_false, Bool.false_and, Bool.or_true, Bool.true_or, Bool.or_false, Bool.false_or, Nat.reduceEqDiff, Nat.reduceLeDiff, Mi.nl_f, Mi.nl_t, Int.reduceBEq, Int.reduceAdd, Int.reduceSub, Int.reduceNeg, Int.cast_ofNat_Int, Int.natCast_one, Int.natCast_zero, BEq.rfl, $ls,*]; exact rfl) ?_)); (first | with_reducible refine Mi.run_id ?_ | (try simp -implicitDefEqProofs only [eq_self, and_self, true_and, and_true, Mi.trunc_self, if_true, if_false, Bool.false_eq_true, ↓reduceIte, Bool.and_true, Bool.true_and, Bool.and_false, Bool.false_and, $ls,*]))))
namespace Ck10
open Mi
theorem szs_set (xs : List D) (i : Nat) (x : D) : D.szs (xs.set i x) ≤ D.szs xs + x.sz := by
  induction xs generalizing i with
  | nil => simp [D.szs]
  | cons y r ih =>
    cases i with
    | zero => simp only [List.set_cons_zero, D.szs]; omega
    | succ i => simp only [List.set_cons_succ, D.szs]; have := ih i; omega
/-- made of events of E -/
structure Ev (E Y : List D) (z : Nat) : Prop where
  mm : ∀ x ∈ Y, x ∈ E ∨ x = .int 1
  sz : D.szs Y ≤ z
theorem Ev.self (E : List D) : Ev E E (D.szs E) := ⟨fun x h => .inl h, Nat.le_refl _⟩
theorem Ev.cut {E Y : List D} {z : Nat} (h : Ev E Y z) (lo hi : Option Int) : Ev E (cut Y lo hi) z := ⟨fun x hx => h.mm x ((cut_sub Y lo hi).subset hx), Nat.le_trans (szs_sub (cut_sub Y lo hi)) h.sz⟩
theorem Ev.app {E Y Z : List D} {z w : Nat} (h : Ev E Y z) (g : Ev E Z w) : Ev E (Y ++ Z) (z + w) := ⟨fun x hx => (List.mem_append.mp hx).elim (h.mm x) (g.mm x), by rw [szs_app]; have := h.sz; have := g.sz; omega⟩
theorem Ev.one (E : List D) : Ev E [.int 1] 1 := ⟨fun x hx => by simp at hx; exact .inr hx, by simp [D.szs, D.sz]⟩
theorem Ev.rev {E Y : List D} {z : Nat} (h : Ev E Y z) : Ev E Y.reverse z := ⟨fun x hx => h.mm x (List.mem_reverse.mp hx), by rw [szs_rev]; exact h.sz⟩
theorem Ev.set {E Y : List D} {z : Nat} (h : Ev E Y z) (i : Nat) {x : D} (hx : x ∈ E) : Ev E (Y.set i x) (z + D.szs E) := ⟨fun y hy => (List.mem_or_eq_of_mem_set hy).elim (h.mm y) fun e => .inl (e ▸ hx), by have := szs_set Y i x; have := szs_mem hx; have := h.sz; omega⟩
theorem Ev.vd {E Y : List D} {z : Nat} (h : Ev E Y z) (hE : D.datas E = true) (hd : D.deps E ≤ 20) (hz : z ≤ 2900) : Vd (.tup Y) := by
  have h1 : D.datas Y = true := datas_of fun x hx => by
    rcases h.mm x hx with h | rfl
    · exact datas_mm hE x h
    · rfl
  have h2 : ∀ Z : List D, (∀ x ∈ Z, x ∈ E ∨ x = .int 1) → D.deps Z ≤ 20 := fun Z => by
    induction Z with
    | nil => intro _; simp [D.deps]
    | cons x r ih =>
      intro hm
      have a := ih fun y hy => hm y (by simp [hy])
      have b : x.dep ≤ 20 := by
        rcases hm x (by simp) with h | rfl
        · have := dep_mm h; omega
        · simp [D.dep]
      simp only [D.deps]; omega
  have h3 := h2 Y h.mm
  have := h.sz
  exact ⟨vz_of h1 (by simp only [D.sz]; omega), by simp only [D.dep]; omega⟩
theorem Ev.len {E Y : List D} {z : Nat} (h : Ev E Y z) : Y.length ≤ z := Nat.le_trans (szs_len Y) h.sz
mutual
theorem npa_sz : ∀ t : Mi.T, npa t + 1 ≤ (toD t).sz
  | .tk _ => by simp [npa, toD, D.sz]
  | .rn g ps => by
    have := npaL_szs ps
    simp only [npa, toD, D.sz, D.szs]; omega
theorem npaL_szs : ∀ ps : List Mi.T, ps.length + npaL ps ≤ D.szs (toDs ps)
  | [] => by simp [npaL, toDs, D.szs]
  | t :: r => by
    have h1 := npa_sz t
    have h2 := npaL_szs r
    simp only [npaL, toDs, D.szs, List.length_cons]; omega
end
theorem Dr.is {n : Nat} {es : List (Nat × Nat)} {ps : List Mi.T} (h : Dr es 0 12 ps) : IsRun es (.rn 0 ps) := by
  have h1 := h.nr
  have h2 := h.sz
  have h3 := npa_sz (.rn 0 ps)
  have h4 := h.tk
  exact ⟨⟨ps, rfl, h.ok⟩, by omega, by omega, by omega⟩
/-- one more is drawn -/
theorem draw10 (k : Nat) {n : Nat} {es : List (Nat × Nat)} (hc : Cal n es) (sc : D) {S X T : Sto} (hT : Bk S X T) (L : List D) (hL : ∀ d ∈ L, Vd d) (hl : L.length ≤ 80) (v5 v6 v7 v8 v9 v10 : Option D) (i : D) :
    Run (foStep (.var 5) (exs P (callF P (k + 59)) q33_2) i [some sc, some (kD n es), some (.ref S.length), some (cD n (.tup (es.map pr))), some (.lst L), v5, v6, v7, v8, v9, v10, none, none, none] T) fun o T' => ∃ L' X' w5 w6 w7 w8 w9 w10, o = .nx [some sc, some (kD n es), some (.ref S.length), some (cD n (.tup (es.map pr))), some (.lst L'), w5, w6, w7, w8, w9, w10, none, none, none] ∧ Bk S X' T' ∧ (∀ d ∈ L', Vd d) ∧ L'.length ≤ L.length + 8 := by
  have hn5 := hc.n5
  have hn1 := hc.n1
  have hri : ∀ e ∈ es, e.1 < e.2 ∧ e.2 < n := fun e he => edges_ri n (by omega) e (hc.sb.subset he)
  obtain ⟨z, hz, T1, hT1, e1⟩ := pickDB (k + 57) [.int 3, .int 90] hT (by simp) (by simp)
  obtain ⟨w, hw, rfl⟩ : ∃ w : Nat, (1 ≤ w ∧ w ≤ 9000) ∧ z = .int w := by
    simp only [List.mem_cons, List.not_mem_nil, or_false] at hz
    rcases hz with rfl | rfl
    · exact ⟨3, by omega, rfl⟩
    · exact ⟨90, by omega, rfl⟩
  obtain ⟨ps, T2, hD, hT2, e2⟩ := drawn hn5 hri hc.len (k + 39) w hw 12 0 (by omega) (by omega) (by omega) T1 hT1
  have e2' : callF P (k + 59) 24 [.ref S.length, kD n es, .int 0, .int 12, .int w] T1 = .ok (toD (.rn 0 ps)) T2 := e2
  obtain ⟨h1, h2, h3, h4⟩ := hD.vy hn5 hri
  have hnr := hD.nr
  have hszR := hD.sz
  have hI := hD.is (n := n)
  have vR : Vz (toD (.rn 0 ps)) := vz_of (toD_data _) (by omega)
  have hln := trT_nru (.rn 0 ps)
  have hE0 := trT_szs (.rn 0 ps)
  have hnp : 1 ≤ nru (.rn 0 ps) := by simp only [nru]; omega
  have hEl : (trT (.rn 0 ps)).length ≤ 64 := by omega
  have hEi := trT_inp (.rn 0 ps) hD.ip
  have hEd := trT_data (.rn 0 ps)
  have hEp := trT_dep (.rn 0 ps)
  have hE2 : 2 ≤ (trT (.rn 0 ps)).length := by simp [trT]
  have ht := (trD_toD (.rn 0 ps)).1
  have hs := (trD_toD (.rn 0 ps)).2
  have e3 : ∀ T, callF P (k + 59) 28 [toD (.rn 0 ps)] T = .ok (.tup (trT (.rn 0 ps))) T := fun T => by
    have := trace (k + 28) 30 [.int 0, .tup (toDs ps)] T (by simp only [D.dep, D.deps]; omega) hs vR.dat (by
      have : trD (.tup [.int 0, .tup (toDs ps)]) = trT (.rn 0 ps) := ht
      rw [this]; omega)
    have h5 : trD (.tup [.int 0, .tup (toDs ps)]) = trT (.rn 0 ps) := ht
    rw [h5] at this
    exact this
  have e4 := fun T => told0 hn1 hn5 hri (k + 41) ps T vR hI
  have vE : Vz (.tup (trT (.rn 0 ps))) := vz_of hEd (by simp only [D.sz]; omega)
  have e5 := fun T => told1 hn1 hn5 hri (k + 41) (.tup (trT (.rn 0 ps))) T vE
  have hl5 : tldV (.tup (trT (.rn 0 ps))) = toD (.rn 0 ps) := by simp only [tldV, told_run, lastD]
  rw [hl5, runB_of hI] at e5
  simp only [if_true] at e5
  have n1 := fun T => ne2 (P := P) (call := callF P (k + 59)) T (w := [116, 111, 108, 100]) vR.dat (by simp only [toD, D.dep, D.deps]; omega)
  have n2 := fun T => ne2 (P := P) (call := callF P (k + 59)) T (w := [116, 111, 108, 100]) vE.dat (by simp only [D.dep]; omega)
  have trd : ∀ d, tel d = .tup [.str [116, 111, 108, 100], d] := fun d => rfl
  simp only [Nat.add_assoc, Nat.reduceAdd, trd] at e4 e5
  generalize hEE : trT (.rn 0 ps) = E at *
  obtain ⟨a, T3, a0, a1, hT3, e6⟩ := k15 (k + 58) (E.length : Int) hT2 (by omega) (by omega)
  obtain ⟨s, T4, s0, s1, hT4, e7⟩ := k15 (k + 58) (E.length : Int) hT3 (by omega) (by omega)
  obtain ⟨an, rfl⟩ : ∃ an : Nat, a = an := ⟨a.toNat, by omega⟩
  obtain ⟨sn, rfl⟩ : ∃ sn : Nat, s = sn := ⟨s.toNat, by omega⟩
  have ha : an < E.length := by omega
  have hs' : sn < E.length := by omega
  have g1 : atI E (an : Int) = some E[an] := by simp [atI, ixN, ha]
  have g2 : atI E (sn : Int) = some E[sn] := by simp [atI, ixN, hs']
  have vEv := Ev.self E
  have ma : E[an] ∈ E := List.getElem_mem ha
  have ms : E[sn] ∈ E := List.getElem_mem hs'
  have vW := (vEv.set an ms).set sn ma
  have hls : ∀ T, listD true T (.tup E) = .ok (.ref T.length) (T ++ [.lst E]) := fun T => by
    simp only [listD, sq_tup]
    exact nl_t _ (by omega)
  have st1 : setI (T4 ++ [.lst E]) (.ref T4.length) (.int an) E[sn] = .ok () (T4 ++ [.lst (E.set an E[sn])]) := by simp [setI, ixN, ha]
  have st2 : setI (T4 ++ [.lst (E.set an E[sn])]) (.ref T4.length) (.int sn) E[an] = .ok () (T4 ++ [.lst ((E.set an E[sn]).set sn E[an])]) := by simp [setI, ixN, hs']
  generalize (E.set an E[sn]).set sn E[an] = W at *
  have tw : tupleD (T4 ++ [.lst W]) (.ref T4.length) = .ok (.tup W) (T4 ++ [.lst W]) := by simp [tupleD, seqOf]
  have hT5 := hT4.push (.lst W)
  obtain ⟨v, T6, hv, hT6, e8⟩ := spz (k + 54) 2 (.tup E) (by simp only [inp, hEi, Bool.and_true, decide_eq_true_eq]; exact hEl) hT5
  have hvd : Vd v := ⟨vz_of hv.1.1 (by have := hv.2; simp only [D.sz] at this; omega), by have := hv.1.2.1; simp only [D.dep] at this; omega⟩
  have hrv : ∀ T, revD T (.tup E) = .ok (.tup E.reverse) T := fun T => rfl
  have c1 : ∀ T, cutD T (.tup E) none (some (an : Int)) = .ok (.tup (cut E none (some (an : Int)))) T := fun T => rfl
  have c2 : ∀ T, cutD T (.tup E) (some ((an : Int) + 1)) none = .ok (.tup (cut E (some ((an : Int) + 1)) none)) T := fun T => rfl
  have c3 : ∀ T, cutD T (.tup E) (some (an : Int)) (some ((an : Int) + 1)) = .ok (.tup (cut E (some (an : Int)) (some ((an : Int) + 1)))) T := fun T => rfl
  have c4 : ∀ T, cutD T (.tup E) (some (an : Int)) none = .ok (.tup (cut E (some (an : Int)) none)) T := fun T => rfl
  have c5 : ∀ T, cutD T (.tup E) none (some (-1)) = .ok (.tup (cut E none (some (-1)))) T := fun T => rfl
  have u1 := vEv.cut none (some (an : Int))
  have u2 := vEv.cut (some ((an : Int) + 1)) none
  have u3 := vEv.cut (some (an : Int)) (some ((an : Int) + 1))
  have u4 := vEv.cut (some (an : Int)) none
  have u5 := vEv.cut none (some (-1))
  generalize cut E none (some (an : Int)) = Y1 at *
  generalize cut E (some ((an : Int) + 1)) none = Y2 at *
  generalize cut E (some (an : Int)) (some ((an : Int) + 1)) = Y3 at *
  generalize cut E (some (an : Int)) none = Y4 at *
  generalize cut E none (some (-1)) = Y5 at *
  have z2 := u1.app u2
  have z3 := (u1.app u3).app u4
  have z5 := vEv.app vEv
  have z7 := (u1.app (Ev.one E)).app u4
  have b1 : ∀ T, binD .add false T (.tup Y1) (.tup Y2) = .ok (.tup (Y1 ++ Y2)) T := fun T => add_tup false T _ _ (by have := u1.len; have := u2.len; omega)
  have b2 : ∀ T, binD .add false T (.tup Y1) (.tup Y3) = .ok (.tup (Y1 ++ Y3)) T := fun T => add_tup false T _ _ (by have := u1.len; have := u3.len; omega)
  have b3 : ∀ T, binD .add false T (.tup (Y1 ++ Y3)) (.tup Y4) = .ok (.tup (Y1 ++ Y3 ++ Y4)) T := fun T => add_tup false T _ _ (by have := (u1.app u3).len; have := u4.len; omega)
  have b4 : ∀ T, binD .add false T (.tup E) (.tup E) = .ok (.tup (E ++ E)) T := fun T => add_tup false T _ _ (by omega)
  have b5 : ∀ T, binD .add false T (.tup Y1) (.tup [.int 1]) = .ok (.tup (Y1 ++ [.int 1])) T := fun T => add_tup false T _ _ (by have := u1.len; simp; omega)
  have b6 : ∀ T, binD .add false T (.tup (Y1 ++ [.int 1])) (.tup Y4) = .ok (.tup (Y1 ++ [.int 1] ++ Y4)) T := fun T => add_tup false T _ _ (by have := (u1.app (Ev.one E)).len; have := u4.len; omega)
  have vd1 := z2.vd hEd (by omega) (by omega)
  have vd2 := z3.vd hEd (by omega) (by omega)
  have vd3 := vW.vd hEd (by omega) (by omega)
  have vd4 := u5.vd hEd (by omega) (by omega)
  have vd5 := z5.vd hEd (by omega) (by omega)
  have vd6 := vEv.rev.vd hEd (by omega) (by omega)
  have vd8 := z7.vd hEd (by omega) (by omega)
  generalize hq1 : Y1 ++ Y2 = Q1 at *
  generalize hq2 : Y1 ++ Y3 ++ Y4 = Q2 at *
  generalize hq3 : Y1 ++ Y3 = Q3 at *
  generalize hq4 : E ++ E = Q4 at *
  generalize hq5 : Y1 ++ [D.int 1] ++ Y4 = Q5 at *
  generalize hq6 : Y1 ++ [D.int 1] = Q6 at *
  generalize hq7 : E.reverse = Q7 at *
  have ad1 : ∀ T, binD .add false T (.lst L) (.lst [.tup Q1, .tup Q2, .tup W, .tup Y5, .tup Q4, .tup Q7]) = .ok (.lst (L ++ [.tup Q1, .tup Q2, .tup W, .tup Y5, .tup Q4, .tup Q7])) T := fun T => add_lst T _ _ (by simp; omega)
  have hM : ∀ d ∈ L ++ [.tup Q1, .tup Q2, .tup W, .tup Y5, .tup Q4, .tup Q7], Vd d := fun d hd => by
    rcases List.mem_append.mp hd with hd | hd
    · exact hL d hd
    · simp only [List.mem_cons, List.not_mem_nil, or_false] at hd
      rcases hd with rfl | rfl | rfl | rfl | rfl | rfl
      · exact vd1
      · exact vd2
      · exact vd3
      · exact vd4
      · exact vd5
      · exact vd6
  have hMl : (L ++ [D.tup Q1, .tup Q2, .tup W, .tup Y5, .tup Q4, .tup Q7]).length = L.length + 6 := by simp
  generalize L ++ [D.tup Q1, D.tup Q2, .tup W, .tup Y5, .tup Q4, .tup Q7] = M at *
  have ad2 : ∀ T, binD .add false T (.lst M) (.lst [v, .tup Q5]) = .ok (.lst (M ++ [v, .tup Q5])) T := fun T => add_lst T _ _ (by simp; omega)
  have hN : ∀ d ∈ M ++ [v, .tup Q5], Vd d := fun d hd => by
    rcases List.mem_append.mp hd with hd | hd
    · exact hM d hd
    · simp only [List.mem_cons, List.not_mem_nil, or_false] at hd
      rcases hd with rfl | rfl
      · exact hvd
      · exact vd8
  have hNl : (M ++ [v, .tup Q5]).length ≤ L.length + 8 := by simp; omega
  generalize M ++ [v, .tup Q5] = N at *
  have e8' : callF P (k + 59) 21 [.ref S.length, .tup E, .int 2] (T4 ++ [.lst W]) = .ok v T6 := e8
  generalize kD n es = KD at *
  generalize cD n (.tup (es.map pr)) = C at *
  generalize toD (.rn 0 ps) = R at *
  generalize hT4' : T4 ++ [O.lst E] = T4a at *
  generalize hT4'' : T4 ++ [O.lst W] = T4c at *
  generalize hT4b : T4 ++ [O.lst (E.set an E[sn])] = T4b at *
  generalize hXa : E[an] = xa at *
  generalize hXs : E[sn] = xs at *
  simp! [q33_2, nl_f, e1, e2', e3, e4, e5, n1, n2, e6, e7, hls, hT4', g1, g2, st1, st2, c1, c2, c3, c4, c5, b1, b2, b3, b4, b5, b6, tw, hrv, ad1, e8', ad2, set2R, List.all_cons, List.all_nil, List.zip_cons_cons, List.zip_nil_right, List.foldl_cons, List.foldl_nil]
  exact ⟨_, _, _, _, _, _, _, _, rfl, hT6, hN, hNl⟩
end Ck10
end
section
set_option linter.all false
set_option maxRecDepth 100000
set_option maxHeartbeats 4000000
/-! traces looked at: the law -/
local macro_rules | `(tactic| simp! [$ls,*]) => `(tactic| ((repeat (first | with_reducible refine Mi.sp_ok ?_ | ((with_reducible refine Mi.sp_ev ?_); show Mi.Run _ _) | ((with_reducible refine Mi.sp_evs ?_); show Mi.Run _ _) | ((with_reducible refine Mi.sp_st ?_); show Mi.Run _ _) | ((with_reducible refine Mi.sp_exs ?_); show Mi.Run _ _) | ((with_reducible refine Mi.sp_walk ?_); show Mi.Run _ _) | ((with_reducible refine Mi.sp_evo ?_); show Mi.Run _ _) | ((with_reducible refine Mi.sp_evc ?_); show Mi.Run _ _) | with_reducible refine Mi.sp_bind ?_ | with_reducible refine Mi.sp_fin ?_ | with_reducible refine Mi.sp_foS ?_ | with_reducible refine Mi.sp_lc ?_ | with_reducible refine Mi.sp_nox ?_ | refine Mi.run_cg (by simp -implicitDefEqProofs only [Mi.nextO_nx, Mi.nextO_rt, Mi.tr_bl, Mi.tr_int, Mi.tr_non, Mi.tr_tup, Mi.tr_lst, Mi.rs_tup, Mi.rs_lst, Mi.rs_int, Mi.rs_bl, Mi.rs_str, Mi.rs_non, Mi.rs_ins, Mi.sq_tup, Mi.sq_lst, Mi.gi_tup, Mi.gi_lst, Mi.ln_tup, Mi.ln_lst, Mi.b_len, Mi.b_sum, Mi.b_tuple, Mi.b_list, Mi.b_all, Mi.b_any, Mi.b_int, Mi.b_max, Mi.b_min, Mi.b_sorted, Mi.b_min2, Mi.b_max2, Mi.tp_tup, Mi.tp_lst, Mi.nt_0, Mi.nt_1, Mi.nt_2, Mi.nt_3, Mi.nt_4, Mi.asT, Mi.asTs, Mi.wipe, Mi.isOf, Mi.Tg.own, Mi.Tgs.own, Mi.lockO, Mi.at0, Mi.at1, Mi.at2, Mi.eqI, Mi.neI, Mi.ltI, Mi.leI, Mi.gtI, Mi.geI, Mi.bin_add, Mi.bin_sub, Mi.still_lst, Mi.still_tup, Mi.lift_some, List.getElem?_cons_zero, List.getElem?_cons_succ, List.set_cons_zero, List.set_cons_succ, List.set_set, List.length_cons, List.length_nil, List.length_set, List.getElem?_set, List.map_cons, List.map_nil, List.append_nil, List.nil_append, List.cons_append, List.isEmpty_nil, List.isEmpty_cons, Option.map_some, Option.bind_some, Option.isSome_none, List.replicate, Nat.reduceAdd, Nat.reduceSub, Nat.reduceLT, if_true, if_false, Bool.false_eq_true, Bool.not_true, Bool.not_false, ite_self, ↓reduceIte, and_self, true_and, and_true, decide_true, decide_false, Bool.and_true, Bool.true_and, Bool.and_false, Bool.false_and, Bool.or_true, Bool.true_or, Bool.or_false, Bool.false_or, Nat.reduceEqDiff, Nat.reduceLeDiff, Mi.nl_f, Mi.nl_t, Int.reduceBEq, Int.reduceAdd, Int.reduceSub, Int.reduceNeg, Int.cast_ofNat_Int, Int.natCast_one, Int.natCast_zero, BEq.rfl, $ls,*]; exact rfl) ?_)); (first | with_reducible refine Mi.run_id ?_ | (try simp -implicitDefEqProofs only [eq_self, and_self, true_and, and_true, Mi.trunc_self, if_true, if_false, Bool.false_eq_true, ↓reduceIte, Bool.and_true, Bool.true_and, Bool.and_false, Bool.false_and, $ls,*]))))
namespace Ck10
open Mi
theorem law10 (k : Nat) (ns : List Int) (hl : ns.length ≤ 63) (S : Sto) : callF P (k + 60) 33 [.lst (ns.map D.int)] S = .ok (.bl true) S := by
  obtain ⟨n, es, hc, e1⟩ := c16' (k + 56) ns S hl
  obtain ⟨T, hT0, e2⟩ := e14 (k + 58) ns 4 S hl (by omega)
  have hT := Bk.of hT0
  have e3 := fun T => c17' (k + 53) hc T
  obtain ⟨LR, e4, hR1, hR2⟩ := r_values (k + 58) n hc.n5 es S
  have hn5 := hc.n5
  have hn1 := hc.n1
  have hri : ∀ e ∈ es, e.1 < e.2 ∧ e.2 < n := fun e he => edges_ri n (by omega) e (hc.sb.subset he)
  have e4 : ∀ T, ∃ LR, callF P (k + 59) 29 [kD n es] T = .ok (.lst LR) T ∧ LR.length ≤ 40 ∧ ∀ d ∈ LR, Vr d := fun T => r_values (k + 58) n hc.n5 es T
  simp only [Nat.add_assoc, Nat.reduceAdd] at e1 e2 e3
  have hr4 : ∀ T, rngW1 (.int 4) T = .ok ⟨fun _ => true, rangeD 0 4, none⟩ T := fun T => rngW1_nat 4 (by omega) T
  have m2 : ∀ T a b, binD .mul false T (.tup [a, b]) (.int 2) = .ok (.tup [a, b, a, b]) T := fun T a b => by
    simp [binD]
  rw [callF_eq (F := f33) rfl rfl]
  refine run_is.mp ?_
  show Run (fin S (exs P (callF P (k + 59)) b33 [some (.lst (ns.map D.int)), none, none, none, none, none, none, none, none, none, none, none, none, none] S)) _
  generalize hC : cD n (.tup (es.map pr)) = C at *
  simp! [b33, e1, e2, e3, m2, add_lst, Nat.reduceLeDiff, hr4]
  refine run_forR (fun r e T => ∃ (L : List D) (X : Sto) (v5 v6 v7 v8 v9 v10 : Option D), e = [some (.lst (ns.map D.int)), some (kD n es), some (.ref S.length), some C, some (.lst L), v5, v6, v7, v8, v9, v10, none, none, none] ∧ Bk S X T ∧ (∀ d ∈ L, Vd d) ∧ L.length + 8 * r.length ≤ 60) ?_ ?_ _ _ _ ⟨_, [], none, none, none, none, none, none, rfl, hT, vdB_ok rfl, by simp [rangeD]⟩
  · rintro d r e T ⟨L, X, v5, v6, v7, v8, v9, v10, rfl, hT, hL, hLl⟩
    simp only [List.length_cons] at hLl
    rw [← hC]
    refine (draw10 k hc (.lst (ns.map D.int)) hT L hL (by omega) v5 v6 v7 v8 v9 v10 d).imp fun o T' ⟨L', X', w5, w6, w7, w8, w9, w10, h1, h2, h3, h4⟩ => ⟨_, h1, rfl, L', X', w5, w6, w7, w8, w9, w10, rfl, h2, h3, by omega⟩
  · rintro e T ⟨L, X, v5, v6, v7, v8, v9, v10, rfl, hT, hL, hLl⟩
    simp! []
    refine run_forA Vd (fun e T' => T' = T ∧ ∃ (v5 v6 v7 v8 v9 v10 v11 : Option D), e = [some (.lst (ns.map D.int)), some (kD n es), some (.ref S.length), some C, some (.lst L), v5, v6, v7, v8, v9, v10, v11, none, none]) hL ⟨rfl, _, _, _, _, _, _, _, rfl⟩ ?_ ?_
    · rintro d e T' hd ⟨rfl, v5, v6, v7, v8, v9, v10, v11, rfl⟩
      rw [← hC]
      refine (one_trace hn1 hn5 hri (k + 41) d hd (.lst (ns.map D.int)) (.ref S.length) (.lst L) v5 v6 v7 v8 v9 v10 v11 none none T').imp fun o T2 ⟨w6, h1, h2⟩ => ⟨_, h1, rfl, h2, _, _, _, _, _, _, _, rfl⟩
    · rintro e T' ⟨rfl, v5, v6, v7, v8, v9, v10, v11, rfl⟩
      obtain ⟨LR, e4, hR1, hR2⟩ := e4 T'
      have sq : seqOf T' (.lst LR) = some LR := rfl
      simp! [e4, sq]
      refine run_forA Vr (fun e T2 => T2 = T' ∧ ∃ (v5 v6 v7 v8 v9 v10 v11 v12 v13 : Option D), e = [some (.lst (ns.map D.int)), some (kD n es), some (.ref S.length), some C, some (.lst L), v5, v6, v7, v8, v9, v10, v11, v12, v13]) hR2 ⟨rfl, _, _, _, _, _, _, _, _, _, rfl⟩ ?_ ?_
      · rintro d e T2 hd ⟨rfl, v5, v6, v7, v8, v9, v10, v11, v12, v13, rfl⟩
        rw [← hC]
        refine (one_run hn1 hn5 hri (k + 19) d hd (.lst (ns.map D.int)) (.ref S.length) (.lst L) v5 v6 v7 v8 v9 v10 v11 v12 v13 T2).imp fun o T3 ⟨w12, w13, h1, h2⟩ => ⟨_, h1, rfl, h2, _, _, _, _, _, _, _, _, _, rfl⟩
      · rintro e T2 ⟨rfl, v5, v6, v7, v8, v9, v10, v11, v12, v13, rfl⟩
        have htr := hT.trunc (d := .bl true) rfl
        simp! [htr]
end Ck10
end
theorem PySem.Challenge.cw_sureticks_k10_whole_traces_holds : PySem.Challenge.rw_sureticks_k10_whole_traces.Holds := by
  exact Ck10_of fun ns h1 _ => ⟨_, Ck10.law10 40 ns h1 []⟩
