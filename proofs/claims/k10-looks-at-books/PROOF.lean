import PyProof.Rows.All
import HandS.ForMost
import HandS.ForExc
import HandS.ExcInit
import HandS.TryMany
import HandS.IsInst
import HandS.StrMore
import HandS.Style
import HandS.Flow
import HandS.Walk
import HandS.Rev
import HandS.Zip
import HandS.SortInts
import HandS.Strs
import HandS.ExcIs
import HandS.TupAny
import HandS.SetFor
import HandS.TupMul
import PyProof.CollectStr
import PyProof.Rows.SortShellAny
import PyProof.Rows.StrRev
import HandS.Conv
import KE.GoesMore
import KE.GoesEnum
import HandS.WordsExc
import HandS.Small
import KE.KExcIs
import HandS.ExcField
import PySem.Challenge.RW_lostkeys_k10_looks_at_books
set_option Elab.async false
set_option linter.all false
set_option maxRecDepth 100000
section
set_option Elab.async false
set_option linter.all false
set_option maxRecDepth 100000
/-! values without addresses, a store by places, a small language, what it computes -/
namespace Lk
inductive D where
  | non | bl (b : Bool) | int (i : Int) | str (s : List Nat) | tup (xs : List D) | ref (l : Nat)
abbrev Ky := Sum Int (List Nat)
inductive Ob where
  | lst (xs : List D)
  | rol (xs : List D)
  | dct (kvs : List (Ky × D))
abbrev Stt := List Ob
structure Xn where
  cls : Nat
  fs : List (List Nat × D)
inductive R (α : Type) where
  | ok (a : α) (s : Stt)
  | exc (x : Xn) (s : Stt)
  | err
def R.bind {α β : Type} : R α → (α → Stt → R β) → R β
  | .ok a s, f => f a s
  | .exc x s, _ => .exc x s
  | .err, _ => .err
def R.quiet {α : Type} : R α → R α
  | .exc _ _ => .err
  | r => r
@[simp] theorem R.bind_ok {α β : Type} (a : α) (s : Stt) (f : α → Stt → R β) : (R.ok a s).bind f = f a s := rfl
@[simp] theorem R.bind_exc {α β : Type} (x : Xn) (s : Stt) (f : α → Stt → R β) : (R.exc x s).bind f = .exc x s := rfl
@[simp] theorem R.bind_err {α β : Type} (f : α → Stt → R β) : (R.err).bind f = .err := rfl
@[simp] theorem R.quiet_ok {α : Type} (a : α) (s : Stt) : (R.ok a s).quiet = .ok a s := rfl

inductive BO where
  | add | sub | mul | fdiv | mod | pow | shl | shr | band | bor
inductive CO where
  | eq | ne | lt | le | gt | ge | isin | notin | isnon | notnon
inductive B1 where
  | len | abs | int | str | ord
inductive BS where
  | tuple | list | any | all | sum | sorted | sortedSet | lenSet | min | max
inductive M0 where
  | pop | upper | split | isdigit | isascii
inductive M1 where
  | append | extend | popAt | index | count | startswith | get | find | splitBy
inductive M2 where
  | get | replace | insert | setdefault | find
inductive Ty where
  | tuple | list | bool | int | str | dict
inductive Tg where
  | var (i : Nat)
  | nil
  | cons (a : Tg) (r : Tg)
mutual
inductive C where
  | var (i : Nat)
  | non | bl (b : Bool) | int (i : Int) | str (s : List Nat) | cst (d : D)
  | bin (o : BO) (a b : C)
  | neg (a : C)
  | not (a : C)
  | cmp (o : CO) (a b : C)
  | chain (o p : CO) (a b c : C)
  | and (a b : C)
  | or (a b : C)
  | ite (c : T) (a b : C)
  | tup (es : CL)
  | newl (q : SQ)
  | dct (ks : List Ky) (vs : CL)
  | idx (a i : C)
  | slc (a : C) (lo hi : P)
  | rev (a : C)
  | call (f : Nat) (es : CL)
  | callk (f : Nat) (m : Nat) (l : Nat) (pm : List Nat) (es ks : CL)
  | b1 (b : B1) (a : C)
  | bs (b : BS) (q : SQ)
  | min2 (a b : C)
  | max2 (a b : C)
  | join (a : C) (q : SQ)
  | m0 (m : M0) (o : C)
  | m1 (m : M1) (o a : C)
  | m2 (m : M2) (o a b : C)
  | isi (a : C) (ts : List Ty)
  | xfld (f : List Nat)
  | xis (cs : List Nat)
inductive T where
  | val (c : C)
  | not (a : T)
  | and (a b : T)
  | or (a b : T)
  | ite (c a b : T)
  | yes
inductive P where
  | none
  | some (c : C)
inductive CL where
  | nil
  | cons (c : C) (r : CL)
inductive SQ where
  | comp (vs : List Nat) (tg : Tg) (it : IT) (cd : T) (el : C)
  | lst (es : CL)
  | val (c : C)
inductive IT where
  | rng1 (a : C)
  | rng2 (a b : C)
  | rng3 (a b c : C)
  | enm (q : SQ)
  | zip (q r : SQ)
  | rev (q : SQ)
  | itm (c : C)
  | val (q : SQ)
end
inductive S where
  | skip
  | seq (a b : S)
  | asg (t : Tg) (e : C)
  | par (is : List Nat) (es : CL)
  | sub (o i e : C)
  | aug (i : Nat) (o : BO) (e : C)
  | augs (o i : C) (p : BO) (e : C)
  | del (o i : C)
  | exp (e : C)
  | ret (e : C)
  | ite (c : T) (a b : S)
  | whil (c : T) (b : S)
  | for_ (t : Tg) (i : IT) (b : S)
  | brk
  | cont
  | rais (c : Nat) (fs : List (List Nat)) (es : CL)
  | tryy (i : Nat) (cs : List Nat) (h : S) (b : S)
end Lk

end
section
set_option linter.all false
namespace Lk
open PySem L2
abbrev Ev := List (Option D)
abbrev SZ : Nat := 16777216
/-- what a sequence is: a list's items, a tuple's, a text's -/
inductive Sq where
  | l (xs : List D)
  | t (xs : List D)
  | s (x : List Nat)
def lget (s : Stt) (l : Nat) : Option (List D) := match s[l]? with
  | some (.lst xs) => some xs
  | some (.rol xs) => some xs
  | _ => none
def dget (s : Stt) (l : Nat) : Option (List (Ky × D)) := match s[l]? with
  | some (.dct kvs) => some kvs
  | _ => none
def ok? {α : Type} (o : Option α) (s : Stt) : R α := match o with
  | some a => .ok a s
  | none => .err
def chk {α : Type} (b : Bool) (r : R α) : R α := if b = true then r else .err
@[simp] theorem ok?_some {α : Type} (a : α) (s : Stt) : ok? (some a) s = .ok a s := rfl
@[simp] theorem ok?_none {α : Type} (s : Stt) : (ok? none s : R α) = .err := rfl
@[simp] theorem chk_true {α : Type} (r : R α) : chk true r = r := rfl

def seqOf (s : Stt) : D → Option Sq
  | .tup xs => some (.t xs)
  | .str x => some (.s x)
  | .ref l => (lget s l).map .l
  | _ => none
def chars (x : List Nat) : List D := x.map fun c => .str [c]
def Sq.items : Sq → List D
  | .l xs => xs
  | .t xs => xs
  | .s x => chars x
def truth (s : Stt) : D → Option Bool
  | .non => some false
  | .bl b => some b
  | .int i => some (i != 0)
  | .str x => some (!x.isEmpty)
  | .tup xs => some (!xs.isEmpty)
  | .ref l => match s[l]? with
    | some (.lst xs) => some (!xs.isEmpty)
    | some (.rol xs) => some (!xs.isEmpty)
    | some (.dct kvs) => some (!kvs.isEmpty)
    | none => none

/-! values are the same -/
mutual
def D.beq : D → D → Bool
  | .non, .non => true
  | .bl a, .bl b => a == b
  | .int a, .int b => a == b
  | .str a, .str b => a == b
  | .tup a, .tup b => D.beqs a b
  | .ref a, .ref b => a == b
  | _, _ => false
def D.beqs : List D → List D → Bool
  | [], [] => true
  | x :: xs, y :: ys => D.beq x y && D.beqs xs ys
  | _, _ => false
end
mutual
theorem D.beq_ok : ∀ (x y : D), D.beq x y = true ↔ x = y
  | .non, y => by cases y <;> simp [D.beq]
  | .bl a, y => by cases y <;> simp [D.beq]
  | .int a, y => by cases y <;> simp [D.beq]
  | .str a, y => by cases y <;> simp [D.beq]
  | .ref a, y => by cases y <;> simp [D.beq]
  | .tup a, y => by
    cases y with
    | tup b => simp [D.beq, D.beqs_ok a b]
    | _ => simp [D.beq]
theorem D.beqs_ok : ∀ (x y : List D), D.beqs x y = true ↔ x = y
  | [], y => by cases y <;> simp [D.beqs]
  | x :: xs, y => by
    cases y with
    | nil => simp [D.beqs]
    | cons y ys => simp [D.beqs, D.beq_ok x y, D.beqs_ok xs ys]
end
instance : DecidableEq D := fun x y => decidable_of_iff _ (D.beq_ok x y)
def Ob.beq : Ob → Ob → Bool
  | .lst a, .lst b => D.beqs a b
  | .rol a, .rol b => D.beqs a b
  | .dct a, .dct b => decide (a = b)
  | _, _ => false
theorem Ob.beq_ok (x y : Ob) : Ob.beq x y = true ↔ x = y := by
  cases x <;> cases y <;> simp [Ob.beq, D.beqs_ok]
instance : DecidableEq Ob := fun x y => decidable_of_iff _ (Ob.beq_ok x y)

/-! ### == -/
mutual
def D.toPy (s : Stt) : Nat → D → Option PyData
  | _, .non => some .none
  | _, .bl b => some (.bool b)
  | _, .int i => some (.int i)
  | _, .str x => some (.str ⟨x.toArray⟩)
  | n, .tup xs => (D.toPys s n xs).map .tuple
  | _, .ref _ => none
def D.toPys (s : Stt) : Nat → List D → Option (List PyData)
  | _, [] => some []
  | n, x :: xs => match D.toPy s n x, D.toPys s n xs with
    | some a, some b => some (a :: b)
    | _, _ => none
end
def listPy (s : Stt) (x : D) : Option PyData := match x with
  | .ref l => match lget s l with
    | some xs => (D.toPys s 0 xs).map .list
    | none => none
  | x => D.toPy s 0 x
def eqG (s : Stt) (x y : D) : Option Bool := match listPy s x, listPy s y with
  | some a, some b => if a.depth ≤ 64 ∧ b.depth ≤ 64 then some (PyData.eqv a b) else none
  | _, _ => none
def eqD (s : Stt) : D → D → Option Bool
  | .non, .non => some true | .non, .int _ => some false | .int _, .non => some false | .non, .bl _ => some false | .bl _, .non => some false | .non, .str _ => some false | .str _, .non => some false
  | .int i, .int j => some (i == j) | .bl i, .bl j => some (i == j) | .str i, .str j => some (i == j)
  | .int _, .str _ => some false | .str _, .int _ => some false | .bl _, .str _ => some false | .str _, .bl _ => some false
  | x, y => eqG s x y
/-- flat: none, bools, dints, texts -/
def D.flat : D → Bool
  | .non => true | .bl _ => true | .int _ => true | .str _ => true | _ => false
def D.feq : D → D → Bool
  | .non, .non => true
  | .bl a, .bl b => a == b
  | .bl a, .int b => (if a then 1 else 0) == b
  | .int a, .bl b => a == (if b then 1 else 0)
  | .int a, .int b => a == b
  | .str a, .str b => a == b
  | _, _ => false
/-- x in a sequence -/
def inSeq (x : D) (xs : List D) : Option Bool := if (x.flat && xs.all D.flat) = true then some (xs.any fun y => y.feq x) else none
def isSub (x y : List Nat) : Bool := (List.range (y.length + 1)).any fun i => (y.drop i).take x.length == x
def keyOf : D → Option Ky
  | .int i => some (.inl i)
  | .str x => some (.inr x)
  | _ => none
def kval (kvs : List (Ky × D)) (k : Ky) : Option D := (kvs.find? fun kv => decide (kv.1 = k)).map (·.2)
def kput (kvs : List (Ky × D)) (k : Ky) (v : D) : List (Ky × D) :=
  if (kvs.any fun kv => decide (kv.1 = k)) = true then kvs.map (fun kv => if kv.1 = k then (kv.1, v) else kv) else kvs ++ [(k, v)]
def kdrop (kvs : List (Ky × D)) (k : Ky) : List (Ky × D) := kvs.filter fun kv => decide (kv.1 ≠ k)
def memD (s : Stt) (x y : D) : Option Bool := match y with
  | .str b => match x with
    | .str [c] => some (decide (c ∈ b))
    | _ => none
  | .tup ys => inSeq x ys
  | .ref l => match s[l]? with
    | some (.lst ys) => inSeq x ys
    | some (.rol ys) => inSeq x ys
    | some (.dct kvs) => (keyOf x).map fun k => (kval kvs k).isSome
    | none => none
  | _ => none
def slt : List Nat → List Nat → Bool := fun a b => decide (a < b)
def cmpD (s : Stt) : CO → D → D → Option Bool
  | .eq, x, y => eqD s x y
  | .ne, x, y => (eqD s x y).map (!·)
  | .lt, .int i, .int j => some (decide (i < j))
  | .le, .int i, .int j => some (decide (i ≤ j))
  | .gt, .int i, .int j => some (decide (j < i))
  | .ge, .int i, .int j => some (decide (j ≤ i))
  | .lt, .str i, .str j => some (slt i j)
  | .le, .str i, .str j => some (!slt j i)
  | .gt, .str i, .str j => some (slt j i)
  | .ge, .str i, .str j => some (!slt i j)
  | .isin, x, y => memD s x y
  | .notin, x, y => (memD s x y).map (!·)
  | .isnon, x, .non => some (match x with | .non => true | _ => false)
  | .notnon, x, .non => some (match x with | .non => false | _ => true)
  | _, _, _ => none

/-! ### operators -/
def small (i : Int) : Bool := decide (-(2 ^ 64) < i) && decide (i < 2 ^ 64)
def reps {α : Type} (xs : List α) (k : Int) : List α := (List.replicate k.toNat xs).flatten
def binD (s : Stt) : BO → D → D → R D
  | .add, .int i, .int j => .ok (.int (i + j)) s
  | .add, .str x, .str y => chk (decide (x.length + y.length ≤ SZ)) (.ok (.str (x ++ y)) s)
  | .add, .tup x, .tup y => chk (decide (x.length + y.length ≤ SZ)) (.ok (.tup (x ++ y)) s)
  | .add, .ref a, .ref b => match s[a]?, s[b]? with
    | some (.lst x), some (.lst y) => chk (decide (x.length + y.length ≤ SZ)) (.ok (.ref s.length) (s ++ [.lst (x ++ y)]))
    | _, _ => .err
  | .sub, .int i, .int j => .ok (.int (i - j)) s
  | .mul, .int i, .int j => chk (small i || small j) (.ok (.int (i * j)) s)
  | .mul, .str x, .int k => chk (decide (-(2 ^ 63) ≤ k) && decide (k < 2 ^ 63) && decide (x.length * k.toNat ≤ SZ)) (.ok (.str (reps x k)) s)
  | .mul, .ref a, .int k => match s[a]? with
    | some (.lst x) => chk (decide (-(2 ^ 63) ≤ k) && decide (k < 2 ^ 63) && decide (x.length * k.toNat ≤ SZ)) (.ok (.ref s.length) (s ++ [.lst (reps x k)]))
    | _ => .err
  | .fdiv, .int i, .int j => chk (decide (0 < j) && decide (j < 1073741824)) (.ok (.int (i / j)) s)
  | .mod, .int i, .int j => chk (decide (0 < j)) (.ok (.int (i % j)) s)
  | .pow, .int i, .int j => chk (decide (0 ≤ j) && decide (j ≤ 1000000) && small i) (.ok (.int (i ^ j.toNat)) s)
  | .shl, .int i, .int j => chk (decide (0 ≤ j) && decide (j ≤ 1000000) && small i) (.ok (.int (i * 2 ^ j.toNat)) s)
  | .shr, .int i, .int j => chk (decide (0 ≤ j)) (.ok (.int (i / 2 ^ j.toNat)) s)
  | .band, .int i, .int j => .ok (.int (Builtin.bitAnd i j)) s
  | .bor, .int i, .int j => .ok (.int (Builtin.bitOr i j)) s
  | _, _, _ => .err
def idxD (s : Stt) : D → D → Option D
  | .tup xs, .int i => atI xs i
  | .str x, .int i => (atI x i).map fun c => .str [c]
  | .ref l, k => match s[l]? with
    | some (.lst xs) => match k with
      | .int i => atI xs i
      | _ => none
    | some (.rol xs) => match k with
      | .int i => atI xs i
      | _ => none
    | some (.dct kvs) => (keyOf k).bind fun k => kval kvs k
    | none => none
  | _, _ => none
def cut {α : Type} (xs : List α) (lo hi : Option Int) : List α := (xs.drop (HT.sIx xs.length 0 lo)).take (HT.sIx xs.length xs.length hi - HT.sIx xs.length 0 lo)
def slcD (s : Stt) (d : D) (lo hi : Option Int) : R D := match d with
  | .tup xs => .ok (.tup (cut xs lo hi)) s
  | .str x => .ok (.str (cut x lo hi)) s
  | .ref l => match lget s l with
    | some xs => .ok (.ref s.length) (s ++ [.lst (cut xs lo hi)])
    | none => .err
  | _ => .err
def revD (s : Stt) : D → R D
  | .str x => .ok (.str x.reverse) s
  | .ref l => match lget s l with
    | some xs => .ok (.ref s.length) (s ++ [.lst xs.reverse])
    | none => .err
  | _ => .err
def dints : List D → Option (List Int)
  | [] => some []
  | .int i :: r => (dints r).map (i :: ·)
  | _ => none
def dstrs : List D → Option (List (List Nat))
  | [] => some []
  | .str x :: r => (dstrs r).map (x :: ·)
  | _ => none
def dbls : List D → Option (List Bool)
  | [] => some []
  | .bl b :: r => (dbls r).map (b :: ·)
  | _ => none
def insI (x : Int) : List Int → List Int
  | [] => [x]
  | y :: r => if x ≤ y then x :: y :: r else y :: insI x r
def sortI : List Int → List Int
  | [] => []
  | x :: r => insI x (sortI r)
def insS (x : List Nat) : List (List Nat) → List (List Nat)
  | [] => [x]
  | y :: r => if slt y x then y :: insS x r else x :: y :: r
def sortS : List (List Nat) → List (List Nat)
  | [] => []
  | x :: r => insS x (sortS r)
/-- each once -/
def dedI : List Int → List Int
  | [] => []
  | x :: r => if x ∈ dedI r then dedI r else x :: dedI r
/-- a pair of two texts it is not -/
def D.noS : D → Bool
  | .tup xs => (dstrs xs).isNone
  | _ => true
def numS (i : Int) : List Nat := (toString i).toList.map Char.toNat
def b1D (s : Stt) : B1 → D → Option D
  | .len, .str x => some (.int x.length)
  | .len, .tup xs => some (.int xs.length)
  | .len, .ref l => match s[l]? with
    | some (.lst xs) => some (.int xs.length)
    | some (.rol xs) => some (.int xs.length)
    | some (.dct kvs) => some (.int kvs.length)
    | none => none
  | .abs, .int i => some (.int (if i < 0 then -i else i))
  | .int, .int i => some (.int i)
  | .int, .bl b => some (.int (if b then 1 else 0))
  | .ord, .str [c] => some (.int (c : Nat))
  | _, _ => none
def joinL (sep : List Nat) : List (List Nat) → List Nat
  | [] => []
  | [x] => x
  | x :: r => x ++ sep ++ joinL sep r
def bsD (s : Stt) : BS → Sq → R D
  | .tuple, .l xs => .ok (.tup xs) s
  | .tuple, .t xs => .ok (.tup xs) s
  | .list, .l xs => .ok (.ref s.length) (s ++ [.lst xs])
  | .list, .t xs => .ok (.ref s.length) (s ++ [.lst xs])
  | .any, .l xs => (ok? (dbls xs) s).bind fun bs s => .ok (.bl (bs.any id)) s
  | .all, .l xs => (ok? (dbls xs) s).bind fun bs s => .ok (.bl (bs.all id)) s
  | .sum, .l xs => (ok? (dints xs) s).bind fun ns s => .ok (.int ns.sum) s
  | .sorted, .l xs => match dints xs with
    | some ns => .ok (.ref s.length) (s ++ [.lst ((sortI ns).map .int)])
    | none => match dstrs xs with
      | some ns => .ok (.ref s.length) (s ++ [.lst ((sortS ns).map .str)])
      | none => .err
  | .sorted, .s x => .ok (.ref s.length) (s ++ [.lst ((sortS (x.map fun c => [c])).map .str)])
  | .sortedSet, .l xs => match dints xs with
    | some ns => chk (decide (ns.length ≤ 1000) && decide ((dedI ns).length < 64)) (.ok (.ref s.length) (s ++ [.lst ((sortI (dedI ns)).map .int)]))
    | none => .err
  | _, _ => .err
def tyIs (s : Stt) : D → Ty → Option Bool
  | .tup _, .tuple => some true
  | .tup _, _ => some false
  | .str _, .str => some true
  | .str _, _ => some false
  | .int _, .int => some true
  | .int _, _ => some false
  | .bl _, .bool => some true
  | .bl _, .int => some true
  | .bl _, _ => some false
  | .non, _ => some false
  | .ref l, t => match s[l]? with
    | some (.lst _) => some (match t with | .list => true | _ => false)
    | some (.rol _) => some (match t with | .list => true | _ => false)
    | some (.dct _) => some (match t with | .dict => true | _ => false)
    | none => none
def tysIs (s : Stt) (d : D) : List Ty → Option Bool
  | [] => some false
  | t :: r => match tyIs s d t, tysIs s d r with
    | some a, some b => some (a || b)
    | _, _ => none
end Lk

end
section
set_option linter.all false
namespace Lk
open PySem L2
/-! the parts of a value are places under n -/
mutual
def D.blw (n : Nat) : D → Bool
  | .ref l => decide (l < n)
  | .tup xs => D.blws n xs
  | _ => true
def D.blws (n : Nat) : List D → Bool
  | [] => true
  | x :: xs => D.blw n x && D.blws n xs
end
def Ob.blw (n : Nat) : Ob → Bool
  | .lst xs => D.blws n xs
  | .rol xs => D.blws n xs
  | .dct kvs => D.blws n (kvs.map (·.2))
abbrev Cal := Nat → List D → Stt → R D
/-- the lists that are walked -/
abbrev Gd := List (Nat × List D)
/-- .. stand as they stood -/
def Gd.stand (s : Stt) : Gd → Prop
  | [] => True
  | (l, xs) :: r => lget s l = some xs ∧ Gd.stand s r
instance Gd.dec (s : Stt) : (g : Gd) → Decidable (g.stand s)
  | [] => .isTrue trivial
  | (l, xs) :: r => have := Gd.dec s r; inferInstanceAs (Decidable (lget s l = some xs ∧ Gd.stand s r))
def guard {α : Type} (s : Stt) (g : Gd) (r : R α) : R α := if g.stand s then r else .err
@[simp] theorem guard_nil {α : Type} (s : Stt) (r : R α) : guard s [] r = r := by unfold guard Gd.stand; exact if_pos trivial
def loopL (g : Gd) (f : D → Stt → R (Option D)) : List D → Stt → R (List D)
  | [], s => guard s g (.ok [] s)
  | d :: ds, s => guard s g ((f d s).bind fun o s => (loopL g f ds s).bind fun r s => .ok (match o with | some x => x :: r | none => r) s)
def wipeE (e : Ev) : List Nat → Ev
  | [] => e
  | v :: vs => (wipeE e vs).set v none
def setTg : Tg → D → Ev → Option Ev
  | .var i, d, e => some (e.set i (some d))
  | .nil, .tup [], e => some e
  | .cons a r, .tup (d :: ds), e => (setTg a d e).bind fun e => setTg r (.tup ds) e
  | _, _, _ => none
def enumD : Nat → List D → List D
  | _, [] => []
  | i, d :: r => .tup [.int i, d] :: enumD (i + 1) r
def zipD : List D → List D → List D
  | x :: xs, y :: ys => .tup [x, y] :: zipD xs ys
  | _, _ => []
def rngL (lo c : Int) : Nat → List D
  | 0 => []
  | n + 1 => .int lo :: rngL (lo + c) c n
def small62 (i : Int) : Bool := decide (-(2 ^ 62) ≤ i) && decide (i < 2 ^ 62)
def gdOf (d : D) (xs : Sq) : Gd := match d, xs with
  | .ref l, .l ys => [(l, ys)]
  | _, _ => []
def newD (xs : List D) (s : Stt) : R D := .ok (.ref s.length) (s ++ [.lst xs])
def m0D (s : Stt) : M0 → D → R D
  | .pop, .ref l => match s[l]? with
    | some (.lst xs) => match xs[xs.length - 1]? with
      | some y => .ok y (s.set l (.lst xs.dropLast))
      | none => .err
    | _ => .err
  | .upper, .str x => chk (x.all (fun c => decide (c < 128)) && decide (x.length ≤ 5592405)) (.ok (.str (x.map PyProof.Rows.up1)) s)
  | _, _ => .err
/-- the first place of a value -/
def firstAt (x : D) : Nat → List D → Option Nat
  | _, [] => none
  | i, y :: r => if y.feq x = true then some i else firstAt x (i + 1) r
/-- whose method it is -/
def rcv (s : Stt) : M1 → D → Bool
  | .append, .ref l => (lget s l).isSome
  | .index, .ref l => (lget s l).isSome
  | .index, .tup xs => (dstrs xs).isSome
  | _, _ => false
def m1D (s : Stt) : M1 → D → D → R D
  | .append, .ref l, y => match s[l]? with
    | some (.lst xs) => chk (decide (xs.length < SZ)) (.ok .non (s.set l (.lst (xs ++ [y]))))
    | _ => .err
  | .index, .ref l, y => match lget s l with
    | some xs => if (y.flat && xs.all D.flat) = true then (match firstAt y 0 xs with
      | some i => .ok (.int (i : Nat)) s
      | none => .err) else .err
    | none => .err
  | .index, .tup xs, .str y => match dstrs xs with
    | some _ => (match firstAt (.str y) 0 xs with
      | some i => .ok (.int (i : Nat)) s
      | none => .err)
    | none => .err
  | _, _, _ => .err
def kmerge (kvs more : List (Ky × D)) : List (Ky × D) := more.foldl (fun acc kv => kput acc kv.1 kv.2) kvs
/-- the arguments in the parameters' order: m by place, l by name -/
def gK {α : Type} (m l : Nat) (pm : List Nat) (us ws : List α) : List α := if us.length = m ∧ ws.length = l then pm.filterMap ((us ++ ws)[·]?) else []
mutual
def iE (k : Cal) (xn : Option Xn) : C → Ev → Stt → R D
  | .var i, e, s => match e[i]? with
    | some (some d) => .ok d s
    | _ => .err
  | .non, _, s => .ok .non s
  | .bl b, _, s => .ok (.bl b) s
  | .int i, _, s => .ok (.int i) s
  | .str x, _, s => .ok (.str x) s
  | .cst d, _, s => chk (d.blw 0) (.ok d s)
  | .bin o a b, e, s => (iE k xn a e s).bind fun x s => (iE k xn b e s).bind fun y s => binD s o x y
  | .neg a, e, s => (iE k xn a e s).bind fun x s => match x with
    | .int i => .ok (.int (-i)) s
    | _ => .err
  | .not a, e, s => (iE k xn a e s).bind fun x s => (ok? (truth s x) s).bind fun b s => .ok (.bl (!b)) s
  | .cmp o a b, e, s => (iE k xn a e s).bind fun x s => (iE k xn b e s).bind fun y s => (ok? (cmpD s o x y) s).bind fun b s => .ok (.bl b) s
  | .chain o p a b c, e, s => (iE k xn a e s).bind fun x s => (iE k xn b e s).bind fun y s => (ok? (cmpD s o x y) s).bind fun t s =>
    if t = true then (iE k xn c e s).bind fun z s => (ok? (cmpD s p y z) s).bind fun b s => .ok (.bl b) s else .ok (.bl false) s
  | .and a b, e, s => (iE k xn a e s).bind fun x s => (ok? (truth s x) s).bind fun t s => if t = true then iE k xn b e s else .ok x s
  | .or a b, e, s => (iE k xn a e s).bind fun x s => (ok? (truth s x) s).bind fun t s => if t = true then .ok x s else iE k xn b e s
  | .ite c a b, e, s => (iT k xn c e s).bind fun t s => if t = true then iE k xn a e s else iE k xn b e s
  | .tup es, e, s => (iA k xn es e s).bind fun xs s => chk (decide (xs.length ≤ SZ)) (.ok (.tup xs) s)
  | .newl q, e, s => (iQ k xn q e s).bind fun xs s => newD xs.2.items s
  | .dct ks vs, e, s => (iA k xn vs e s).bind fun xs s => chk (decide (xs.length = ks.length) && decide (ks.length ≤ 15)) (.ok (.ref s.length) (s ++ [.dct (kmerge [] (ks.zip xs))]))
  | .idx a i, e, s => (iE k xn a e s).bind fun x s => (iE k xn i e s).bind fun y s => ok? (idxD s x y) s
  | .slc a lo hi, e, s => (iE k xn a e s).bind fun x s => (iP k xn lo e s).bind fun l s => (iP k xn hi e s).bind fun h s => slcD s x l h
  | .rev a, e, s => (iE k xn a e s).bind fun x s => revD s x
  | .call f es, e, s => (iA k xn es e s).bind fun xs s => k f xs s
  | .callk f m l pm es ks, e, s => (iA k xn es e s).bind fun xs s => (iA k xn ks e s).bind fun ys s => k f (gK m l pm xs ys) s
  | .b1 b a, e, s => (iE k xn a e s).bind fun x s => ok? (b1D s b x) s
  | .bs b q, e, s => (iQ k xn q e s).bind fun xs s => bsD s b xs.2
  | .min2 a b, e, s => (iE k xn a e s).bind fun x s => (iE k xn b e s).bind fun y s => match x, y with
    | .int i, .int j => .ok (.int (if j < i then j else i)) s
    | _, _ => .err
  | .max2 a b, e, s => (iE k xn a e s).bind fun x s => (iE k xn b e s).bind fun y s => match x, y with
    | .int i, .int j => .ok (.int (if j > i then j else i)) s
    | _, _ => .err
  | .join a q, e, s => (iE k xn a e s).bind fun x s => match x with
    | .str sep => (iQ k xn q e s).bind fun ys s => match ys.2 with
      | .l ys => (ok? (dstrs ys) s).bind fun ys s => chk (decide ((ys.map List.length).sum + ys.length * sep.length ≤ SZ)) (.ok (.str (joinL sep ys)) s)
      | .t ys => (ok? (dstrs ys) s).bind fun ys s => chk (decide ((ys.map List.length).sum + ys.length * sep.length ≤ SZ)) (.ok (.str (joinL sep ys)) s)
      | .s _ => .err
    | _ => .err
  | .m0 m o, e, s => (iE k xn o e s).bind fun x s => m0D s m x
  | .m1 m o a, e, s => (iE k xn o e s).bind fun x s => chk (rcv s m x) ((iE k xn a e s).bind fun y s => m1D s m x y)
  | .m2 m o a b, e, s => .err
  | .isi a ts, e, s => (iE k xn a e s).bind fun x s => (ok? (tysIs s x ts) s).bind fun b s => .ok (.bl b) s
  | .xfld f, _, s => match xn with
    | some x => ok? (x.fs.lookup f) s
    | none => .err
  | .xis cs, _, s => match xn with
    | some x => .ok (.bl (cs.contains x.cls)) s
    | none => .err
def iT (k : Cal) (xn : Option Xn) : T → Ev → Stt → R Bool
  | .val c, e, s => (iE k xn c e s).bind fun x s => ok? (truth s x) s
  | .not a, e, s => (iT k xn a e s).bind fun b s => .ok (!b) s
  | .and a b, e, s => (iT k xn a e s).bind fun t s => if t = true then iT k xn b e s else .ok false s
  | .or a b, e, s => (iT k xn a e s).bind fun t s => if t = true then .ok true s else iT k xn b e s
  | .ite c a b, e, s => (iT k xn c e s).bind fun t s => if t = true then iT k xn a e s else iT k xn b e s
  | .yes, _, s => .ok true s
def iP (k : Cal) (xn : Option Xn) : P → Ev → Stt → R (Option Int)
  | .none, _, s => .ok none s
  | .some c, e, s => (iE k xn c e s).bind fun x s => match x with
    | .int i => .ok (some i) s
    | _ => .err
def iA (k : Cal) (xn : Option Xn) : CL → Ev → Stt → R (List D)
  | .nil, _, s => .ok [] s
  | .cons c r, e, s => (iE k xn c e s).bind fun x s => (iA k xn r e s).bind fun xs s => .ok (x :: xs) s
def iQ (k : Cal) (xn : Option Xn) : SQ → Ev → Stt → R (D × Sq)
  | .comp vs tg it cd el, e, s => ((iI k xn it e s).bind fun q s => chk (decide (q.1.length ≤ SZ)) ((loopL q.2 (fun d s => match setTg tg d (wipeE e vs) with
    | some e => (iT k xn cd e s).bind fun b s => if b = true then (iE k xn el e s).bind fun x s => .ok (some x) s else .ok none s
    | none => .err) q.1 s).quiet)).bind fun xs s => .ok (.non, .l xs) s
  | .lst es, e, s => (iA k xn es e s).bind fun xs s => chk (decide (xs.length ≤ SZ)) (.ok (.non, .l xs) s)
  | .val c, e, s => (iE k xn c e s).bind fun x s => (ok? (seqOf s x) s).bind fun q s => .ok (x, q) s
def iI (k : Cal) (xn : Option Xn) : IT → Ev → Stt → R (List D × Gd)
  | .rng1 a, e, s => (iE k xn a e s).bind fun x s => match x with
    | .int j => chk (small62 j && decide (j ≤ SZ)) (.ok (rngL 0 1 j.toNat, []) s)
    | _ => .err
  | .rng2 a b, e, s => (iE k xn a e s).bind fun x s => (iE k xn b e s).bind fun y s => match x, y with
    | .int i, .int j => chk (small62 i && small62 j && decide (j - i ≤ SZ)) (.ok (rngL i 1 (j - i).toNat, []) s)
    | _, _ => .err
  | .rng3 _ _ _, _, _ => .err
  | .enm q, e, s => (iQ k xn q e s).bind fun q s => match q.2 with
    | x => .ok (enumD 0 x.items, gdOf q.1 x) s
  | .zip q r, e, s => (iQ k xn q e s).bind fun q s => (iQ k xn r e s).bind fun r s => match q.2, r.2 with
    | .l x, .l y => guard s (gdOf q.1 (.l x)) (chk ((zipD x y).all D.noS) (.ok (zipD x y, gdOf q.1 (.l x) ++ gdOf r.1 (.l y)) s))
    | .t x, .t y => chk ((zipD x y).all D.noS) (.ok (zipD x y, []) s)
    | _, _ => .err
  | .rev q, e, s => (iQ k xn q e s).bind fun q s => match q.2 with
    | .s _ => .err
    | x => .ok (x.items.reverse, gdOf q.1 x) s
  | .itm _, _, _ => .err
  | .val q, e, s => (iQ k xn q e s).bind fun q s => .ok (q.2.items, gdOf q.1 q.2) s
end

/-! ### statements -/
inductive Fl where
  | nx (e : Ev)
  | bk (e : Ev)
  | ct (e : Ev)
  | rt (d : D)
inductive RS where
  | ok (f : Fl) (s : Stt)
  | exc (x : Xn) (e : Ev) (s : Stt)
  | err
def R.to {α : Type} (r : R α) (e : Ev) (f : α → Stt → RS) : RS := match r with
  | .ok a s => f a s
  | .exc x s => .exc x e s
  | .err => .err
@[simp] theorem R.to_ok {α : Type} (a : α) (s : Stt) (e : Ev) (f : α → Stt → RS) : (R.ok a s).to e f = f a s := rfl
@[simp] theorem R.to_exc {α : Type} (x : Xn) (s : Stt) (e : Ev) (f : α → Stt → RS) : (R.exc x s).to e f = .exc x e s := rfl
@[simp] theorem R.to_err {α : Type} (e : Ev) (f : α → Stt → RS) : (R.err : R α).to e f = .err := rfl
def RS.nxt (r : RS) (f : Ev → Stt → RS) : RS := match r with
  | .ok (.nx e) s => f e s
  | r => r
@[simp] theorem RS.nxt_nx (e : Ev) (s : Stt) (f : Ev → Stt → RS) : (RS.ok (.nx e) s).nxt f = f e s := rfl
@[simp] theorem RS.nxt_rt (d : D) (s : Stt) (f : Ev → Stt → RS) : (RS.ok (.rt d) s).nxt f = .ok (.rt d) s := rfl
@[simp] theorem RS.nxt_bk (e : Ev) (s : Stt) (f : Ev → Stt → RS) : (RS.ok (.bk e) s).nxt f = .ok (.bk e) s := rfl
@[simp] theorem RS.nxt_ct (e : Ev) (s : Stt) (f : Ev → Stt → RS) : (RS.ok (.ct e) s).nxt f = .ok (.ct e) s := rfl
@[simp] theorem RS.nxt_exc (x : Xn) (e : Ev) (s : Stt) (f : Ev → Stt → RS) : (RS.exc x e s).nxt f = .exc x e s := rfl
@[simp] theorem RS.nxt_err (f : Ev → Stt → RS) : RS.err.nxt f = .err := rfl
/-- a suite's end -/
def RS.hush (r : RS) : RS := match r with
  | .ok (.nx e) s => .ok (.nx e) s
  | .ok (.rt d) s => .ok (.rt d) s
  | _ => .err
@[simp] theorem RS.hush_nx (e : Ev) (s : Stt) : (RS.ok (.nx e) s).hush = .ok (.nx e) s := rfl
@[simp] theorem RS.hush_rt (d : D) (s : Stt) : (RS.ok (.rt d) s).hush = .ok (.rt d) s := rfl
/-- behind a loop's turn -/
def RS.turn (r : RS) (f : Ev → Stt → RS) : RS := match r with
  | .ok (.nx e) s => f e s
  | .ok (.ct e) s => f e s
  | .ok (.bk e) s => .ok (.nx e) s
  | r => r
@[simp] theorem RS.turn_nx (e : Ev) (s : Stt) (f : Ev → Stt → RS) : (RS.ok (.nx e) s).turn f = f e s := rfl
@[simp] theorem RS.turn_ct (e : Ev) (s : Stt) (f : Ev → Stt → RS) : (RS.ok (.ct e) s).turn f = f e s := rfl
@[simp] theorem RS.turn_bk (e : Ev) (s : Stt) (f : Ev → Stt → RS) : (RS.ok (.bk e) s).turn f = .ok (.nx e) s := rfl
@[simp] theorem RS.turn_rt (d : D) (s : Stt) (f : Ev → Stt → RS) : (RS.ok (.rt d) s).turn f = .ok (.rt d) s := rfl
@[simp] theorem RS.turn_exc (x : Xn) (e : Ev) (s : Stt) (f : Ev → Stt → RS) : (RS.exc x e s).turn f = .exc x e s := rfl
@[simp] theorem RS.turn_err (f : Ev → Stt → RS) : RS.err.turn f = .err := rfl
def loopF (g : Gd) (f : D → Ev → Stt → RS) : List D → Ev → Stt → RS
  | [], e, s => if g.stand s then .ok (.nx e) s else .err
  | d :: ds, e, s => if g.stand s then (f d e s).turn (loopF g f ds) else .err
def loopW (c : Ev → Stt → R Bool) (b : Ev → Stt → RS) : Nat → Ev → Stt → RS
  | 0, _, _ => .err
  | n + 1, e, s => (c e s).to e fun t s => if t = true then (b e s).turn (loopW c b n) else .ok (.nx e) s
def setMany : List Nat → List D → Ev → Option Ev
  | [], [], e => some e
  | i :: is, d :: ds, e => setMany is ds (e.set i (some d))
  | _, _, _ => none
def putD (s : Stt) : D → D → D → Option Stt
  | .ref l, k, v => match s[l]? with
    | some (.lst xs) => match k with
      | .int i => (ixN xs.length i).map fun j => s.set l (.lst (xs.set j v))
      | _ => none
    | some (.dct kvs) => match keyOf k with
      | some k => if kvs.length < SZ then some (s.set l (.dct (kput kvs k v))) else none
      | none => none
    | _ => none
  | _, _, _ => none
def dgetD (s : Stt) : D → D → Option D
  | .ref l, k => match s[l]? with
    | some (.dct kvs) => (keyOf k).bind fun k => kval kvs k
    | _ => none
  | _, _ => none
def augD (s : Stt) (o : BO) : D → D → R D
  | .int i, .int j => match o with
    | .pow => .err
    | o => binD s o (.int i) (.int j)
  | .str x, .str y => match o with
    | .add => binD s .add (.str x) (.str y)
    | _ => .err
  | _, _ => .err
def iS (k : Cal) (xn : Option Xn) : S → Ev → Stt → RS
  | .skip, e, s => .ok (.nx e) s
  | .seq a b, e, s => (iS k xn a e s).nxt (iS k xn b)
  | .asg t c, e, s => (iE k xn c e s).to e fun d s => match setTg t d e with
    | some e => .ok (.nx e) s
    | none => .err
  | .par is es, e, s => (iA k xn es e s).to e fun ds s => match setMany is ds e with
    | some e => .ok (.nx e) s
    | none => .err
  | .sub o i c, e, s => (iE k xn c e s).to e fun v s => (iE k xn o e s).to e fun x s => (iE k xn i e s).to e fun y s => match putD s x y v with
    | some s => .ok (.nx e) s
    | none => .err
  | .aug i o c, e, s => match e[i]? with
    | some (some d) => (iE k xn c e s).to e fun y s => (augD s o d y).to e fun z s => .ok (.nx (e.set i (some z))) s
    | _ => .err
  | .augs o i p c, e, s => (iE k xn o e s).to e fun x s => (iE k xn i e s).to e fun y s => (ok? (dgetD s x y) s).to e fun v s => (iE k xn c e s).to e fun w s => (augD s p v w).to e fun z s => match putD s x y z with
      | some s => .ok (.nx e) s
      | none => .err
  | .del _ _, _, _ => .err
  | .exp c, e, s => (iE k xn c e s).to e fun _ s => .ok (.nx e) s
  | .ret c, e, s => (iE k xn c e s).to e fun d s => .ok (.rt d) s
  | .ite c a b, e, s => (iT k xn c e s).to e fun t s => if t = true then iS k xn a e s else iS k xn b e s
  | .whil c b, e, s => loopW (iT k xn c) (iS k xn b) 1000000000 e s
  | .for_ t i b, e, s => (iI k xn i e s).to e fun q s => loopF q.2 (fun d e s => match setTg t d e with
    | some e => iS k xn b e s
    | none => .err) q.1 e s
  | .brk, e, s => .ok (.bk e) s
  | .cont, e, s => .ok (.ct e) s
  | .rais c fs es, e, s => (iA k xn es e s).to e fun ds s => if fs.length = ds.length then .exc ⟨c, (fs.zip ds).reverse⟩ e s else .err
  | .tryy i cs h b, e, s => match iS k none b e s with
    | .exc x e s => if cs.contains x.cls = true then (if i < e.length then (iS k (some x) h (e.set i none) s).hush else .err) else .exc x e s
    | r => r

/-! ### defs -/
structure Fd where
  np : Nat
  ns : Nat
  body : S
/-- what was made and is not handed back is forgotten -/
def Shut (n : Nat) (st : Stt) (d : D) (s : Stt) : Prop := d.blw n = true ∧ ∀ l, l < n → s[l]? = st[l]? ∨ (s[l]?.any fun o => o.blw n) = true
instance (n : Nat) (st : Stt) (d : D) (s : Stt) : Decidable (Shut n st d s) := inferInstanceAs (Decidable (_ ∧ _))
def shut (st : Stt) (d : D) (s : Stt) : R D := if Shut st.length st d s then .ok d (s.take st.length) else .ok d s
def callN (T : List Fd) : Nat → Cal
  | 0, _, _, _ => .err
  | k + 1, f, ds, s => match T[f]? with
    | some fd => if ds.length = fd.np then (match iS (callN T k) none fd.body (ds.map some ++ List.replicate (fd.ns - fd.np) none) s with
      | .ok (.rt d) s' => shut s d s'
      | .ok (.nx _) s' => shut s .non s'
      | .exc x _ s' => .exc x s'
      | _ => .err) else .err
    | none => .err
end Lk

end
section
set_option linter.all false
set_option maxRecDepth 100000
namespace Lk
open PySem PySem.Spec PyProof.Rows L2
/-! tuples that are known to have no dict: frozen ones -/
def PlT (o : Obj) : Prop := o.cls = .type "tuple" ∧ o.dict = none
def NoD (K : PySem.W.Frag) (H : Hp) (a : Addr) : Prop := (∃ o u, H a = some (.frz o u) ∧ PlT o) ∨ ∃ o, K.lookup a = some o ∧ PlT o
/-- the tuple object that is laid -/
abbrev tupO (us : List Value) : Obj := { cls := .type "tuple", data := .seq us.toArray }
theorem plT_tup (us : List Value) : PlT (tupO us) := ⟨rfl, rfl⟩
section
variable {X : Cx} {pins : List (Addr × Obj)} {σ : L2.St} {H : Hp} {s : Shared}
theorem laidF {vs : List V} {us : List Value} {Q : VK} {g : Heap} {tk : Nat} (I : Inv X pins σ H s) (r : Vals vs us) (hz : vs.length ≤ sizeLine) (kp : ∀ b u, s.heap.get? b = some u → g.get? b = some u) (hg : g.get? s.heap.objs.size = some (tupO us))
    (q : ∀ p o, H p = none → PlT o → Q (.ref p) (upd H p (.frz o (.tup vs)))) : EP X pins σ Q (.ref s.heap.objs.size) { s with heap := g, toks := tk } :=
  ⟨.ref s.heap.objs.size, upd H s.heap.objs.size (.frz (tupO us) (.tup vs)), I.laid (t' := tk) kp (Nat.le_refl _) ⟨hg, hz, us, r, ⟨_, hg, rfl, _, rfl⟩⟩, rfl, q _ _ (I.hok.fresh (Nat.le_refl _)) (plT_tup us)⟩
def tTupF (t : TA) : TE := fun σ H Q => t σ H fun xs H1 => xs.length ≤ sizeLine ∧ ∀ p o, H1 p = none → PlT o → Q (.ref p) (upd H1 p (.frz o (.tup xs)))
theorem pe_tupF {es : List Expr} {t : TA} {pos : Pos} {j} (h : PA X es t) : PE X (.Tuple es j pos) (tTupF t) := by
  refine ⟨fun pins s σ H Q I hq => wpAny_Tuple_spliced (thn (h.run pos pins s σ H _ I hq) fun us s1 ⟨xs, H1, I1, r, z, q⟩ => ⟨by rw [← r.length]; exact z, ?_⟩)⟩
  exact laidF (tk := s1.toks) I1 r z (fun b u e => Heap.get?_push_of_some _ e) (Heap.get?_push_size _ rfl) q
def rTupF (K : PySem.W.Frag) : List V → Hp → VK → Prop := fun xs H Q => ∃ p ys, xs = [.ref p] ∧ SqL K H p ys ∧ ∀ l o, H l = none → PlT o → Q (.ref l) (upd H l (.frz o (.tup ys)))
theorem cr_tupF : CallR X (.type "tuple") (rTupF X.K) := by
  intro pins s σ H xs us Q I r h
  obtain ⟨p, ys, rfl, hq, q⟩ := h
  rw [Vals.ref1 r]
  obtain ⟨its, rv, pl, hz⟩ := I.list hq
  have len := rv.length
  refine call_tuple_list pl.isList (fun g kp => ?_) (by simp only [List.size_toArray] <;> omega)
  exact laidF (tk := s.toks) (I.kept (t' := s.toks) kp) rv hz (fun b o e => Heap.get?_push_of_some _ e) (Heap.get?_push_size _ rfl) q
def rCatF (K : PySem.W.Frag) : R2 := fun x y H Q => ∃ a b xs ys, x = .ref a ∧ y = .ref b ∧ SqT K H a xs ∧ SqT K H b ys ∧ xs.length + ys.length ≤ sizeLine ∧
  (xs = [] → Q (.ref b) H) ∧ (xs ≠ [] → ys = [] → Q (.ref a) H) ∧ (xs ≠ [] → ys ≠ [] → ∀ p o, H p = none → PlT o → Q (.ref p) (upd H p (.frz o (.tup (xs ++ ys)))))
theorem op_catF : OpR X (binaryOp .Add) (rCatF X.K) := by
  intro pins s σ H x y v u Q I rx ry h
  obtain ⟨a, b, xs, ys, rfl, rfl, ha, hb, hz, q0, q1, q2⟩ := h
  by_cases hx : xs = []
  · exact op_catA pins s σ H _ _ v u Q I rx ry ⟨a, b, xs, ys, rfl, rfl, ha, hb, hz, q0, fun n => absurd hx n, fun n => absurd hx n⟩
  · by_cases hy : ys = []
    · exact op_catA pins s σ H _ _ v u Q I rx ry ⟨a, b, xs, ys, rfl, rfl, ha, hb, hz, q0, q1, fun _ n => absurd hy n⟩
    · cases rx
      cases ry
      obtain ⟨us, r1, t1, _⟩ := I.tuple ha
      obtain ⟨ws, r2, t2, _⟩ := I.tuple hb
      refine HT.cat_tup t1 t2 (fun z => hx (r1.nil_iff.mp z)) (fun z => absurd (r2.nil_iff.mp z) hy) (fun _ => ?_) (by rw [← r1.length, ← r2.length]; exact hz)
      exact laidF (tk := s.toks) I (r1.append r2) (by rw [List.length_append]; exact hz) (fun b o e => Heap.get?_push_of_some _ e) (Heap.get?_push_size _ rfl) (q2 hx hy)
def rSlF (K : PySem.W.Frag) : V → Option Int → Option Int → Hp → VK → Prop := fun x lo hi H Q => ∃ a xs, x = .ref a ∧ SqT K H a xs ∧
  (HT.sIx xs.length 0 lo = 0 ∧ HT.sIx xs.length xs.length hi = xs.length → Q (.ref a) H) ∧ (¬ (HT.sIx xs.length 0 lo = 0 ∧ HT.sIx xs.length xs.length hi = xs.length) → ∀ p o, H p = none → PlT o → Q (.ref p) (upd H p (.frz o (.tup (cutV xs lo hi)))))
theorem sl_tupF : SlR X (rSlF X.K) := by
  intro pins s σ H x v vl vu lo hi sl Q I rx hs pl pu h
  obtain ⟨a, xs, rfl, hx, q1, q2⟩ := h
  by_cases hw : HT.sIx xs.length 0 lo = 0 ∧ HT.sIx xs.length xs.length hi = xs.length
  · exact sl_tupA pins s σ H _ v vl vu lo hi sl Q I rx hs pl pu ⟨a, xs, rfl, hx, q1, fun n => absurd hw n⟩
  · cases rx
    obtain ⟨us, r, t, hz⟩ := I.tuple hx
    have len : us.toArray.size = xs.length := by rw [List.size_toArray]; exact r.length.symm
    refine ⟨"tuple", _, PyProof.Rows.slot_tuple_getitem.lookup, t.typeIs, HT.getItem_tuple_cut t hs pl pu (by rw [len]; exact hw) ?_ (by rw [len]; exact hz)⟩
    rw [len]
    exact laidF (tk := s.toks) I ((r.drop (HT.sIx xs.length 0 lo)).take (HT.sIx xs.length xs.length hi - HT.sIx xs.length 0 lo)) (Nat.le_trans (cutV_length xs lo hi) hz) (fun b o e => Heap.get?_push_of_some _ e) (Heap.get?_push_size _ rfl) (q2 hw)
/-- o.name(e) where o is a list or a tuple without a dict -/
def tBMx (K : PySem.W.Frag) (r1 r2 : V → List V → Hp → VK → Prop) (to : TE) (t : TA) : TE := fun σ H Q => to σ H fun x H1 => (tyV K "list" x H1 ∧ t σ H1 fun xs H2 => r1 x xs H2 Q) ∨ ((∃ a, x = .ref a ∧ NoD K H1 a) ∧ t σ H1 fun xs H2 => r2 x xs H2 Q)
theorem noD_is {a : Addr} (I : Inv X pins σ H s) (h : NoD X.K H a) : ∃ o, s.heap.get? a = some o ∧ PlT o := by
  rcases h with ⟨o, u, e, p⟩ | ⟨o, e, p⟩
  · exact ⟨o, (I.hok a _ e).1, p⟩
  · exact ⟨o, I.kIn a o e, p⟩
theorem pe_bmx {o e : Expr} {to : TE} {t : TA} {name : Str} {apos cpos : Pos} {id1 id2 : String} {r1 r2 : V → List V → Hp → VK → Prop} (pa1 : PlainAttrs "list") (pa2 : PlainAttrs "tuple") (s1 : Slot "list" name id1) (s2 : Slot "tuple" name id2)
    (y1 : typeOf (.builtin id1) = pure (.type "method_descriptor")) (y2 : typeOf (.builtin id2) = pure (.type "method_descriptor")) (m1 : MtR X id1 r1) (m2 : MtR X id2 r2) (ho : PE X o to) (ha : PA X [e] t)
    (hbase : attributeBase o name X.env (eval o X.env) = eval o X.env) (hfew : ((backTo cpos (starEach [e] X.env)).all (fun x => !x.1) && (backToKw cpos (keywordEach [] X.env)).all (fun x => x.1.isSome)
      && decide ([e].length + ([] : List Keyword).length + (if ([] : List Keyword).isEmpty then 0 else 1) < 30)) = true)
    (hline : (apos.endLine == cpos.line) = true) (hs : starEach [e] X.env = [(false, eval e X.env)]) : PE X (.Call (.Attribute o name apos) [e] [] cpos) (tBMx X.K r1 r2 to t) := by
  refine ⟨fun pins s σ H Q I h => wpAny_Call_method_late hbase hfew hline rfl (thn (ho.run pins s σ H _ I h) fun v s1' ⟨x, H1, I1, rx, z⟩ => ?_)⟩
  rcases z with ⟨ty, q⟩ | ⟨⟨a, rfl, nd⟩, q⟩
  · obtain ⟨h1, h2⟩ := tyV_is I1 rx ty
    have hA := ha.run cpos pins s1' σ H1 _ I1 q
    rw [hs] at hA ⊢
    refine ⟨"list", id1, pa1, s1, y1, h1, h2, Calls.callWith_builtin rfl (Calls.evalArgs_plain ?_)⟩
    exact thn hA fun us s2 ⟨vs, H2, I2, r2, q2⟩ => m1 pins s2 σ H2 x vs v us Q I2 rx r2 q2
  · cases rx
    obtain ⟨ob, e1, p1⟩ := noD_is I1 nd
    have hA := ha.run cpos pins s1' σ H1 _ I1 q
    rw [hs] at hA ⊢
    refine ⟨"tuple", id2, pa2, s2, y2, ⟨ob, e1, p1.1⟩, fun b e => by cases e; exact ⟨ob, e1, p1.2⟩, Calls.callWith_builtin rfl (Calls.evalArgs_plain ?_)⟩
    exact thn hA fun us s2 ⟨vs, H2, I2, r2, q2⟩ => m2 pins s2 σ H2 (.ref a) vs _ us Q I2 rfl r2 q2
end
end Lk

end
section
set_option linter.all false
set_option maxHeartbeats 1000000
namespace Lk
open PySem PySem.Spec PyProof.Rows L2
/-! what value stands for what -/
/-- a tuple; of texts: it has no dict -/
def Tp (K : PySem.W.Frag) (H : Hp) (a : Addr) (vs : List V) (ds : List D) : Prop := SqT K H a vs ∧ (dstrs ds = none ∨ NoD K H a)
def okStr (x : List Nat) : Prop := x.length ≤ SZ ∧ ∀ c ∈ x, c < 1114112
mutual
inductive RD (K : PySem.W.Frag) (H : Hp) (ρ : List Addr) : D → V → Prop
  | non : RD K H ρ .non .non
  | bl (b : Bool) : RD K H ρ (.bl b) (.bl b)
  | int (i : Int) : RD K H ρ (.int i) (.int i)
  | str {x : List Nat} : okStr x → RD K H ρ (.str x) (.str ⟨x.toArray⟩)
  | tup {a : Addr} {vs : List V} {ds : List D} : Tp K H a vs ds → RDs K H ρ ds vs → RD K H ρ (.tup ds) (.ref a)
  | ref {l : Nat} {a : Addr} : ρ[l]? = some a → RD K H ρ (.ref l) (.ref a)
inductive RDs (K : PySem.W.Frag) (H : Hp) (ρ : List Addr) : List D → List V → Prop
  | nil : RDs K H ρ [] []
  | cons {d : D} {v : V} {ds : List D} {vs : List V} : RD K H ρ d v → RDs K H ρ ds vs → RDs K H ρ (d :: ds) (v :: vs)
end
def kyK : Ky → Key
  | .inl i => .inl i
  | .inr x => .inr ⟨x.toArray⟩
def okKy : Ky → Prop
  | .inl _ => True
  | .inr x => okStr x
inductive RKs (K : PySem.W.Frag) (H : Hp) (ρ : List Addr) : List (Ky × D) → List (Key × V) → Prop
  | nil : RKs K H ρ [] []
  | cons {k : Ky} {d : D} {v : V} {ds : List (Ky × D)} {vs : List (Key × V)} : okKy k → RD K H ρ d v → RKs K H ρ ds vs → RKs K H ρ ((k, d) :: ds) ((kyK k, v) :: vs)
/-- a list of the written part -/
def KL (K : PySem.W.Frag) (a : Addr) (xs : List V) : Prop := ∃ (o : Obj) (its : Array Value) (n : Nat), K.lookup a = some o ∧ o.cls = .type "list" ∧ o.dict = none ∧ o.data = .seq its n ∧ its.size ≤ sizeLine ∧ Vals xs its.toList
inductive RO (K : PySem.W.Frag) (H : Hp) (ρ : List Addr) : Ob → Addr → Prop
  | lst {ds : List D} {vs : List V} {a : Addr} : H a = some (.lst vs) → RDs K H ρ ds vs → RO K H ρ (.lst ds) a
  | rol {ds : List D} {vs : List V} {a : Addr} {o : Obj} : H a = some (.frz o (.lst vs)) → RDs K H ρ ds vs → RO K H ρ (.rol ds) a
  | rok {ds : List D} {vs : List V} {a : Addr} : KL K a vs → RDs K H ρ ds vs → RO K H ρ (.rol ds) a
  | dct {ds : List (Ky × D)} {vs : List (Key × V)} {a : Addr} : H a = some (.dK vs) → RKs K H ρ ds vs → RO K H ρ (.dct ds) a
/-- place 0 is the script (read only); the others are tracked, each at its own address -/
structure Rel (K : PySem.W.Frag) (ρ : List Addr) (st : Stt) (H : Hp) : Prop where
  len : ρ.length = st.length
  zero : ∃ ds, st[0]? = some (Ob.rol ds)
  inj : ∀ (l l' : Nat) (a : Addr), ρ[l + 1]? = some a → ρ[l' + 1]? = some a → l = l'
  tr : ∀ (l : Nat) (a : Addr), ρ[l + 1]? = some a → H a ≠ none
  ob : ∀ (l : Nat) (o : Ob) (a : Addr), st[l]? = some o → ρ[l]? = some a → RO K H ρ o a
/-- what is tracked and no place of ours stays; our tuples and frozen things stay -/
structure Fr (ρ : List Addr) (H H' : Hp) : Prop where
  keep : ∀ a o, H a = some o → a ∉ ρ.tail → H' a = some o
  tup : ∀ a xs, H a = some (.tup xs) → H' a = some (.tup xs)
  frz : ∀ a o u, H a = some (.frz o u) → H' a = some (.frz o u)
/-- our tuples and frozen things stay -/
structure Fz (H H' : Hp) : Prop where
  tup : ∀ a xs, H a = some (.tup xs) → H' a = some (.tup xs)
  frz : ∀ a o u, H a = some (.frz o u) → H' a = some (.frz o u)
theorem Fr.z {ρ : List Addr} {H H' : Hp} (f : Fr ρ H H') : Fz H H' := ⟨f.tup, f.frz⟩
theorem Fr.refl (ρ : List Addr) (H : Hp) : Fr ρ H H := ⟨fun _ _ h _ => h, fun _ _ h => h, fun _ _ _ h => h⟩
/-- from ρ, H to ρ', st', H' -/
structure Nx (K : PySem.W.Frag) (ρ : List Addr) (H : Hp) (ρ' : List Addr) (st' : Stt) (H' : Hp) : Prop where
  pre : ∃ m, ρ' = ρ ++ m
  new : ∀ a ∈ ρ'.tail, a ∉ ρ.tail → H a = none
  rel : Rel K ρ' st' H'
  fr : Fr ρ H H'
section
variable {K : PySem.W.Frag} {H H' H2 : Hp} {ρ ρ' ρ2 : List Addr} {st st' st2 : Stt}
theorem SqT.fr {a : Addr} {vs : List V} (f : Fz H H') (h : SqT K H a vs) : SqT K H' a vs := by
  rcases h with (h | ⟨o, h⟩) | h
  · exact .inl (.inl (f.tup _ _ h))
  · exact .inl (.inr ⟨o, f.frz _ _ _ h⟩)
  · exact .inr h
theorem NoD.fr {a : Addr} (f : Fz H H') (h : NoD K H a) : NoD K H' a := h.imp (fun ⟨o, u, e, p⟩ => ⟨o, u, f.frz _ _ _ e, p⟩) id
theorem Tp.fr {a : Addr} {vs : List V} {ds : List D} (f : Fz H H') (h : Tp K H a vs ds) : Tp K H' a vs ds := ⟨SqT.fr f h.1, h.2.imp id (NoD.fr f)⟩
theorem getE_pre {α : Type} {ρ m : List α} {l : Nat} {a : α} (h : ρ[l]? = some a) : (ρ ++ m)[l]? = some a := by
  have hl : l < ρ.length := (List.getElem?_eq_some_iff.mp h).1
  rw [List.getElem?_append_left hl]; exact h
mutual
theorem RD.mono (f : Fz H H') (p : ∃ m, ρ' = ρ ++ m) : ∀ {d : D} {v : V}, RD K H ρ d v → RD K H' ρ' d v
  | _, _, .non => .non
  | _, _, .bl b => .bl b
  | _, _, .int i => .int i
  | _, _, .str h => .str h
  | _, _, .tup h r => .tup (Tp.fr f h) (RDs.mono f p r)
  | _, _, .ref h => .ref (by obtain ⟨m, rfl⟩ := p; exact getE_pre h)
theorem RDs.mono (f : Fz H H') (p : ∃ m, ρ' = ρ ++ m) : ∀ {d : List D} {v : List V}, RDs K H ρ d v → RDs K H' ρ' d v
  | _, _, .nil => .nil
  | _, _, .cons h r => .cons (RD.mono f p h) (RDs.mono f p r)
end
theorem RKs.mono (f : Fz H H') (p : ∃ m, ρ' = ρ ++ m) : ∀ {d : List (Ky × D)} {v : List (Key × V)}, RKs K H ρ d v → RKs K H' ρ' d v
  | _, _, .nil => .nil
  | _, _, .cons o h r => .cons o (h.mono f p) (r.mono f p)
theorem RDs.length {ds : List D} {vs : List V} (h : RDs K H ρ ds vs) : ds.length = vs.length := by
  induction ds generalizing vs with
  | nil => cases h; rfl
  | cons d ds ih => cases h with | cons h r => simp [ih r]
theorem RKs.length {ds : List (Ky × D)} {vs : List (Key × V)} (h : RKs K H ρ ds vs) : ds.length = vs.length := by
  induction h with
  | nil => rfl
  | cons _ _ _ ih => simp [ih]
theorem RDs.get {ds : List D} {vs : List V} (h : RDs K H ρ ds vs) {i : Nat} {d : D} (e : ds[i]? = some d) : ∃ v, vs[i]? = some v ∧ RD K H ρ d v := by
  induction ds generalizing vs i with
  | nil => simp at e
  | cons x ds ih =>
    cases h with
    | cons h r =>
      cases i with
      | zero => simp at e; subst e; exact ⟨_, rfl, h⟩
      | succ i => simp at e; obtain ⟨v, h1, h2⟩ := ih r e; exact ⟨v, by simpa using h1, h2⟩
theorem RDs.get' {ds : List D} {vs : List V} (h : RDs K H ρ ds vs) {i : Nat} {v : V} (e : vs[i]? = some v) : ∃ d, ds[i]? = some d ∧ RD K H ρ d v := by
  induction ds generalizing vs i with
  | nil => cases h; simp at e
  | cons x ds ih =>
    cases h with
    | cons h r =>
      cases i with
      | zero => simp at e; subst e; exact ⟨_, rfl, h⟩
      | succ i => simp at e; obtain ⟨v, h1, h2⟩ := ih r e; exact ⟨v, by simpa using h1, h2⟩
theorem RDs.append {ds es : List D} {vs ws : List V} (h : RDs K H ρ ds vs) (g : RDs K H ρ es ws) : RDs K H ρ (ds ++ es) (vs ++ ws) := by
  induction ds generalizing vs with
  | nil => cases h; exact g
  | cons x ds ih => cases h with | cons h r => exact .cons h (ih r)
theorem RDs.take {ds : List D} {vs : List V} (h : RDs K H ρ ds vs) (n : Nat) : RDs K H ρ (ds.take n) (vs.take n) := by
  induction ds generalizing vs n with
  | nil => cases h; simp; exact .nil
  | cons x ds ih =>
    cases h with
    | cons h r =>
      cases n with
      | zero => exact .nil
      | succ n => exact .cons h (ih r n)
theorem RDs.drop {ds : List D} {vs : List V} (h : RDs K H ρ ds vs) (n : Nat) : RDs K H ρ (ds.drop n) (vs.drop n) := by
  induction ds generalizing vs n with
  | nil => cases h; simp; exact .nil
  | cons x ds ih =>
    cases h with
    | cons h r =>
      cases n with
      | zero => exact .cons h r
      | succ n => exact ih r n
theorem RDs.reverse {ds : List D} {vs : List V} (h : RDs K H ρ ds vs) : RDs K H ρ ds.reverse vs.reverse := by
  induction ds generalizing vs with
  | nil => cases h; exact .nil
  | cons x ds ih => cases h with | cons h r => rw [List.reverse_cons, List.reverse_cons]; exact (ih r).append (.cons h .nil)
theorem RDs.set {ds : List D} {vs : List V} (h : RDs K H ρ ds vs) {i : Nat} {d : D} {v : V} (r : RD K H ρ d v) : RDs K H ρ (ds.set i d) (vs.set i v) := by
  induction ds generalizing vs i with
  | nil => cases h; exact .nil
  | cons x ds ih =>
    cases h with
    | cons h q =>
      cases i with
      | zero => exact .cons r q
      | succ i => exact .cons h (ih q)
theorem Rel.at (r : Rel K ρ st H) {l : Nat} {o : Ob} (h : st[l]? = some o) : ∃ a, ρ[l]? = some a ∧ RO K H ρ o a := by
  have hl : l < st.length := (List.getElem?_eq_some_iff.mp h).1
  have hr : l < ρ.length := by rw [r.len]; exact hl
  exact ⟨ρ[l], by simp [hr], r.ob l o _ h (by simp [hr])⟩
theorem Nx.refl (r : Rel K ρ st H) : Nx K ρ H ρ st H := ⟨⟨[], by simp⟩, fun _ h n => absurd h n, r, Fr.refl _ _⟩
theorem Nx.trans (a : Nx K ρ H ρ' st' H') (b : Nx K ρ' H' ρ2 st2 H2) : Nx K ρ H ρ2 st2 H2 where
  pre := by
    obtain ⟨m, e⟩ := a.pre
    obtain ⟨n, e'⟩ := b.pre
    exact ⟨m ++ n, by rw [e', e, List.append_assoc]⟩
  new := fun x hx hn => by
    by_cases h : x ∈ ρ'.tail
    · exact a.new x h hn
    · have z := b.new x hx h
      cases q : H x with
      | none => rfl
      | some o => rw [a.fr.keep x o q hn] at z; cases z
  rel := b.rel
  fr := ⟨fun x o h hn => by
      have z := a.fr.keep x o h hn
      by_cases hx : x ∈ ρ'.tail
      · rw [a.new x hx hn] at h; cases h
      · exact b.fr.keep x o z hx, fun x xs h => b.fr.tup x xs (a.fr.tup x xs h), fun x o u h => b.fr.frz x o u (a.fr.frz x o u h)⟩
theorem RD.nx {d : D} {v : V} (h : RD K H ρ d v) (n : Nx K ρ H ρ' st' H') : RD K H' ρ' d v := h.mono n.fr.z n.pre
theorem RDs.nx {d : List D} {v : List V} (h : RDs K H ρ d v) (n : Nx K ρ H ρ' st' H') : RDs K H' ρ' d v := h.mono n.fr.z n.pre
theorem mem_getE {α : Type} {l : List α} {i : Nat} {a : α} (h : l[i]? = some a) : a ∈ l := List.mem_of_getElem? h

theorem RO.mono (f : Fz H H') (p : ∃ m, ρ' = ρ ++ m) {o : Ob} {a : Addr} (h : RO K H ρ o a) (k : ∀ u, H a = some u → Mut (some u) → H' a = some u) : RO K H' ρ' o a := by
  cases h with
  | lst h q => exact .lst (k _ h trivial) (q.mono f p)
  | dct h q => exact .dct (k _ h trivial) (q.mono f p)
  | rol h q => exact .rol (f.frz _ _ _ h) (q.mono f p)
  | rok h q => exact .rok h (q.mono f p)
theorem tail_get {α : Type} {l : List α} {a : α} : a ∈ l.tail ↔ ∃ i : Nat, l[i + 1]? = some a := by
  cases l with
  | nil => simp
  | cons x r => simp [List.mem_iff_getElem?]
theorem Rel.out (r : Rel K ρ st H) {p : Addr} (hp : H p = none) : p ∉ ρ.tail := fun hm => by
  obtain ⟨i, h⟩ := tail_get.mp hm
  exact r.tr i p h hp
theorem Rel.pos (r : Rel K ρ st H) : 0 < ρ.length := by
  obtain ⟨ds, h⟩ := r.zero
  have := (List.getElem?_eq_some_iff.mp h).1
  rw [r.len]; exact this
theorem Fr.upd_new {p : Addr} {o : HO} (hp : H p = none) : Fr ρ H (upd H p o) :=
  ⟨fun a u h _ => by rw [upd_ne (ne_of_none h hp)]; exact h, fun a xs h => by rw [upd_ne (ne_of_none h hp)]; exact h, fun a u x h => by rw [upd_ne (ne_of_none h hp)]; exact h⟩
/-- a new object is tracked, no place of ours (a tuple, say) -/
theorem Nx.side (r : Rel K ρ st H) {p : Addr} {o : HO} (hp : H p = none) : Nx K ρ H ρ st (upd H p o) := by
  have f : Fr ρ H (upd H p o) := Fr.upd_new hp
  have pm : ∃ m, ρ = ρ ++ m := ⟨[], by simp⟩
  refine ⟨pm, fun _ h n => absurd h n, ⟨r.len, r.zero, r.inj, fun l a h => ?_, fun l ob a h1 h2 => (r.ob l ob a h1 h2).mono f.z pm fun u h _ => by rw [upd_ne (ne_of_none h hp)]; exact h⟩, f⟩
  by_cases e : a = p
  · subst e; rw [upd_same]; exact fun z => nomatch z
  · rw [upd_ne e]; exact r.tr l a h
theorem getE_snoc {α : Type} {ρ : List α} {l : Nat} {a p : α} (h : (ρ ++ [p])[l]? = some a) : ρ[l]? = some a ∨ (l = ρ.length ∧ a = p) := by
  by_cases hl : l < ρ.length
  · rw [List.getElem?_append_left hl] at h; exact .inl h
  · rw [List.getElem?_append_right (by omega)] at h
    have : l - ρ.length = 0 := by
      have := (List.getElem?_eq_some_iff.mp h).1
      simp at this; omega
    rw [this] at h
    simp at h
    exact .inr ⟨by omega, h.symm⟩
theorem getE_snoc_at {α : Type} {ρ : List α} {p : α} : (ρ ++ [p])[ρ.length]? = some p := by simp
/-- a tracked object that is no place of ours becomes one -/
theorem Nx.adopt (r : Rel K ρ st H) {p : Addr} {o : Ob} (hm : p ∉ ρ.tail) (h0 : H p ≠ none) (h : RO K H (ρ ++ [p]) o p) : Rel K (ρ ++ [p]) (st ++ [o]) H := by
  have f : Fr ρ H H := Fr.refl _ _
  have pm : ∃ m, ρ ++ [p] = ρ ++ m := ⟨[p], rfl⟩
  have old : ∀ {l a}, ρ[l]? = some a → l < st.length := fun {l a} h => by rw [← r.len]; exact (List.getElem?_eq_some_iff.mp h).1
  have out : ∀ {l}, ρ[l + 1]? ≠ some p := fun {l} e => hm (tail_get.mpr ⟨l, e⟩)
  refine ⟨by simp [r.len], ?_, fun l l' a h1 h2 => ?_, fun l a h1 => ?_, fun l ob a h1 h2 => ?_⟩
  · obtain ⟨ds, e⟩ := r.zero
    exact ⟨ds, getE_pre e⟩
  · rcases getE_snoc h1 with g1 | ⟨e1, e1'⟩ <;> rcases getE_snoc h2 with g2 | ⟨e2, e2'⟩
    · exact r.inj l l' a g1 g2
    · subst e2'; exact absurd g1 out
    · subst e1'; exact absurd g2 out
    · omega
  · rcases getE_snoc h1 with g1 | ⟨e1, e1'⟩
    · exact r.tr l a g1
    · subst e1'; exact h0
  · rcases getE_snoc h2 with h2 | ⟨e, e'⟩
    · rw [List.getElem?_append_left (old h2)] at h1
      exact (r.ob l ob a h1 h2).mono f.z pm fun _ h _ => h
    · subst e'
      rw [e, r.len] at h1
      simp at h1
      subst h1
      exact h
/-- a new object, a place of ours -/
theorem Nx.alloc (r : Rel K ρ st H) {p : Addr} {u : HO} {o : Ob} (hp : H p = none) (h : RO K (upd H p u) (ρ ++ [p]) o p) : Nx K ρ H (ρ ++ [p]) (st ++ [o]) (upd H p u) := by
  have s := Nx.side (o := u) r hp
  refine ⟨⟨[p], rfl⟩, fun a ha hn => ?_, Nx.adopt s.rel (r.out hp) (by rw [upd_same]; exact fun z => nomatch z) h, s.fr⟩
  obtain ⟨i, e⟩ := tail_get.mp ha
  rcases getE_snoc e with z | ⟨_, z⟩
  · exact absurd (tail_get.mpr ⟨i, z⟩) hn
  · subst z; exact hp
/-- an object of ours is written -/
theorem Nx.write (r : Rel K ρ st H) {l : Nat} {p : Addr} {v u : HO} {o : Ob} (hl : ρ[l]? = some p) (hr : ∀ ds, st[l]? ≠ some (Ob.rol ds)) (hp : H p = some v) (mv : Mut (some v)) (h : RO K (upd H p u) ρ o p) : Nx K ρ H ρ (st.set l o) (upd H p u) := by
  obtain ⟨z0, e0⟩ := r.zero
  obtain ⟨m, rfl⟩ : ∃ m, l = m + 1 := by
    cases l with
    | zero => exact absurd e0 (hr z0)
    | succ m => exact ⟨m, rfl⟩
  have hm : p ∈ ρ.tail := tail_get.mpr ⟨m, hl⟩
  have f : Fr ρ H (upd H p u) := ⟨fun a x e hn => by
      rw [upd_ne (fun z => hn (by rw [z]; exact hm))]; exact e, fun a xs e => by
      rw [upd_ne (fun z => by rw [z, hp] at e; cases e; exact mv)]; exact e, fun a x y e => by
      rw [upd_ne (fun z => by rw [z, hp] at e; cases e; exact mv)]; exact e⟩
  have pm : ∃ m, ρ = ρ ++ m := ⟨[], by simp⟩
  have hls : m + 1 < st.length := by rw [← r.len]; exact (List.getElem?_eq_some_iff.mp hl).1
  refine ⟨pm, fun _ h n => absurd h n, ⟨by rw [List.length_set]; exact r.len, ⟨z0, by rw [List.getElem?_set_ne (by omega)]; exact e0⟩, r.inj, fun i a h => ?_, fun i ob a h1 h2 => ?_⟩, f⟩
  · by_cases e : a = p
    · subst e; rw [upd_same]; exact fun z => nomatch z
    · rw [upd_ne e]; exact r.tr i a h
  · by_cases hi : m + 1 = i
    · subst hi
      rw [List.getElem?_set_self hls] at h1
      cases h1
      rw [hl] at h2
      cases h2
      exact h
    · rw [List.getElem?_set_ne hi] at h1
      by_cases ha : a = p
      · subst ha
        cases i with
        | zero =>
          rw [e0] at h1
          cases h1
          have z := r.ob 0 _ a e0 h2
          cases z with
          | rol q d =>
            rw [hp] at q
            cases q
            exact mv.elim
          | rok q d => exact .rok q (d.mono f.z pm)
        | succ i => exact absurd (congrArg (· + 1) (r.inj m i a hl h2)) hi
      · exact (r.ob i ob a h1 h2).mono f.z pm fun x e _ => by rw [upd_ne ha]; exact e
end
end Lk

end
section
set_option linter.all false
set_option maxRecDepth 100000
namespace Lk
open PySem PySem.Spec PyProof.Rows L2
/-! set(a list of ints), then sorted -/
/-- the set that is laid first -/
abbrev void0 (w : World) : Obj := { cls := .type "set", dict := none, data := .set #[] 0 (.fresh 0 0 (!w.params.followText "set-order")) }
section
variable {P : Program} {w : World} {A : Around} {E : Value → Shared → Prop} {s : Shared}
/-- what the filled set leaves -/
def Full (w : World) (s : Shared) (ns : List Int) (s2 : Shared) : Prop := ∃ g tk c, s2 = { s with heap := g, toks := tk } ∧ SetR w g s.heap.objs.size (fun j => decide (j ∈ ns)) c ∧ ∀ b o, s.heap.get? b = some o → g.get? b = some o
set_option maxHeartbeats 3200000 in
theorem set_of_list {l : Addr} {its : Array Value} (ns : List Int) {Q : Value → Shared → Prop} (hh : A.handled = none) (hl : s.heap.IsList l its) (hi : IntsAre its.toList ns) (hb : ns.length + 1 < scanBound)
    (q : ∀ s2, Full w s ns s2 → Q (.ref s.heap.objs.size) s2) : wpAny (model P w) A (call (.type "set") [.ref l]) Q E s := by
  have len : its.size = ns.length := by rw [← Array.length_toList]; exact IntsAre.length hi
  obtain ⟨c, tl, hmro⟩ := F.called_set.mro
  have k1 := F.called_set.made
  have k2 := F.called_set.sub
  refine wpAny_call (codeAny_of_tree ?_)
  show wpAny _ _ (callAny (.type "set") _) _ _ _
  refine wpAny_pure ⟨Code.quiet_builtin _ (by decide +kernel), codeAny_builtin F.entry_type_call ?_⟩
  rw [Around.under_plain (weight_type_call_type "set" [.ref l] []) rfl]
  have k3 := F.called_set.notType
  have k4 := F.called_set.canCreate
  have k5 := F.typeCall_set_1 (.ref l)
  repeat (any_goals (first | assumption | wp_step))
  refine codeAny_mono (code_set_led1 (.ref l) (E := E) (Q₁ := fun x t => x = .ref s.heap.objs.size ∧ t = { s with heap := s.heap.push (void0 w) }) ⟨rfl, rfl⟩) fun r t hr => ?_
  cases r with
  | error e => exact hr
  | ok fl =>
    cases fl with
    | ret x =>
      obtain ⟨rfl, rfl⟩ := hr
      have at0 : (s.heap.push (void0 w)).get? s.heap.objs.size = some (void0 w) := Heap.get?_push_size _ rfl
      have ty0 : Shared.TypeIs { s with heap := s.heap.push (void0 w) } (.ref s.heap.objs.size) "set" := ⟨_, at0, rfl⟩
      have k6 := F.called_set.init.lookup
      have k7 := F.called_set.init.bind (.ref s.heap.objs.size)
      repeat (any_goals (first | assumption | wp_step))
      refine codeAny_mono (codeAny_call_builtin (R := wants (fun r t => r = .none ∧ Full w s ns t) E) F.called_set.init.plain F.entry_set_init (check_set_init_1 ty0 ?_)) fun r2 t2 hr2 => ?_
      · obtain ⟨⟨oc, od, ot, os⟩, hol, hc, m, hd⟩ := hl
        simp only at hc hd
        subst hc; subst hd
        have lt : l < s.heap.objs.size := Heap.lt_size hol
        have hol2 : (s.heap.push (void0 w)).get? l = some { cls := .type "list", dict := od, data := .seq its m, slots := os } := Heap.get?_push_of_some _ hol
        have k8 := F.sub_list_set
        have k9 := F.sub_list_frozenset
        have kd : (Value.type "list" == Value.type "dict") = false := by decide
        have lst : (s.heap.push (void0 w)).IsList l its := ⟨_, hol2, rfl, m, rfl⟩
        unfold Builtin.«set.__init__» noKeywords Builtin.Frozenset.updateFrom
        generalize hI : pyIter = I
        wp_walk
        subst hI
        refine wpAny_pyIter_list lst ?_
        refine wpAny_bind (wpAny_runValue ?_)
        have sz : (s.heap.push (void0 w)).objs.size = s.heap.objs.size + 1 := Heap.size_push ..
        have calm : A.in1.in1.in1.handled = none := by simp [hh]
        have off : l ≠ (s.heap.push (void0 w)).objs.size := by rw [sz]; exact Nat.ne_of_lt (Nat.lt_succ_of_lt lt)
        have out : s.heap.objs.size ∉ [(s.heap.push (void0 w)).objs.size, l] := by
          rw [sz]
          intro z
          rcases List.mem_cons.mp z with z | z
          · exact Nat.ne_of_lt (Nat.lt_succ_self _) z
          · exact Nat.ne_of_gt lt (List.mem_singleton.mp z)
        have each : ∀ (i : Nat) (v : Value), its[i]? = some v → ∃ k t, ns[i]? = some k ∧ v = .int k t := fun i v hv => by
          have ii : i < ns.length := by rw [← len]; exact (Array.getElem?_eq_some_iff.mp hv).1
          obtain ⟨t, e⟩ := PyProof.Rows.IntsAre.int_at hi i v (by rw [Array.getElem?_toList]; exact hv)
          exact ⟨ns[i], t, List.getElem?_eq_getElem ii, by rw [e, List.getD_eq_getElem?_getD, List.getElem?_eq_getElem ii] <;> rfl⟩
        refine set_update_ints ((Walks.list calm _ l off its).toS) s.heap.objs.size out ns len hb each (its.size - 0) 0 _ (by omega) (Nat.zero_le _) ⟨⟨_, Heap.get?_push_size _ rfl, rfl, rfl⟩, lst.push _⟩
          ⟨0, Nat.le_refl 0, setR_new_at (Heap.get?_push_of_some _ at0)⟩ fun t c' mv hc' hS => ?_
        obtain ⟨g, g2, d2, tk, o2⟩ := t
        have e1 : g2 = s.gens := mv.gens
        have e2 : d2 = s.drawn := mv.drawn
        have e3 : o2 = s.os := mv.os
        subst e1 e2 e3
        show wpAny _ _ _ _ _ _
        refine wpAny_pure ?_
        show wpAny _ _ (ret Value.none) _ _ _
        refine wpAny_pure ⟨rfl, g, tk, c', rfl, hS, fun b o e => ?_⟩
        have bl : b < s.heap.objs.size := Heap.lt_size e
        refine mv.heap b o (fun z => ?_) (Heap.get?_push_of_some _ (Heap.get?_push_of_some _ e))
        rw [sz] at z
        rcases List.mem_cons.mp z with z | z
        · exact Nat.ne_of_lt bl z
        · exact Nat.ne_of_lt (Nat.lt_succ_of_lt bl) (List.mem_singleton.mp z)
      · cases r2 with
        | error e => exact hr2
        | ok f2 =>
          cases f2 with
          | ret r =>
            obtain ⟨rfl, g, tk, c', rfl, hS, kp⟩ := hr2
            repeat (any_goals (first | assumption | wp_step))
            exact q _ ⟨g, tk, c', rfl, hS, kp⟩
          | _ => exact hr2.elim
    | _ => exact hr.elim
end
theorem dedI_mem (x : Int) : ∀ l : List Int, x ∈ dedI l ↔ x ∈ l
  | [] => Iff.rfl
  | y :: r => by
    unfold dedI
    have ih := dedI_mem x r
    split
    · rename_i h
      rw [ih, List.mem_cons]
      refine ⟨Or.inr, fun h2 => h2.elim (fun e => ?_) id⟩
      rw [e]; exact (dedI_mem y r).1 h
    · rw [List.mem_cons, List.mem_cons, ih]
theorem dedI_nodup : ∀ l : List Int, (dedI l).Nodup
  | [] => List.nodup_nil
  | y :: r => by
    unfold dedI
    split
    · exact dedI_nodup r
    · rename_i h
      exact List.nodup_cons.2 ⟨h, dedI_nodup r⟩
theorem lt_pw_eq : ∀ {a b : List Int}, a.Pairwise (· < ·) → b.Pairwise (· < ·) → (∀ x, x ∈ a ↔ x ∈ b) → a = b := fun ha hb h => by
  have na : ∀ {a : List Int}, a.Pairwise (· < ·) → a.Nodup := fun h => h.imp fun h2 => by omega
  exact List.Perm.eq_of_pairwise (le := (· < ·)) (fun _ _ _ _ h1 h2 => by omega) ha hb ((List.perm_ext_iff_of_nodup (na ha) (na hb)).2 h)
def rSetI (K : PySem.W.Frag) (w : World) : List V → Hp → VK → Prop := fun xs H Q => ∃ (l : Addr) (ns : List Int), xs = [V.ref l] ∧ SqL K H l (ns.map V.int) ∧ ns.length ≤ 1000 ∧ ∀ a, H a = none → Q (.ref a) (upd H a (SetO w a (fun j => decide (j ∈ ns)) (dedI ns).length))
theorem cr_setI {X : Cx} (hc : X.calm = true) : CallR X (.type "set") (rSetI X.K X.w) := by
  intro pins s σ H xs us Q I r h
  obtain ⟨l, ns, rfl, hl, hn, q⟩ := h
  rw [Vals.ref1 r]
  obtain ⟨its, rv, pl, hz⟩ := I.list hl
  refine set_of_list ns (I.ok.hd hc) pl.isList (by simpa using ints_of_vals rv) (by unfold scanBound; omega) fun s2 ⟨g, tk, c, e, R, kp⟩ => ?_
  subst e
  have ec : c = (dedI ns).length := by
    obtain ⟨o, es, ep, t, ho, hex, hd, hg, nd, hm, hb, hf, hn2, _⟩ := R
    have pm : (es.toList.map L2.keyOf).Perm (dedI ns) := (List.perm_ext_iff_of_nodup nd (dedI_nodup ns)).2 fun x => by
      rw [← hm x, dedI_mem, decide_eq_true_eq]
    rw [← hn2, ← pm.length_eq, List.length_map, Array.length_toList]
  subst ec
  exact ⟨.ref s.heap.objs.size, upd H s.heap.objs.size (SetO X.w s.heap.objs.size (fun j => decide (j ∈ ns)) (dedI ns).length), I.laid (t' := tk) kp (Nat.le_refl _) (setO_new R), rfl, q _ (I.hok.fresh (Nat.le_refl _))⟩
end Lk

end
section
set_option linter.all false
set_option maxHeartbeats 1000000
namespace Lk
open PySem PySem.Spec PyProof.Rows L2
/-- an exception of the class number cls: its class object, its dict -/
structure XR (K : PySem.W.Frag) (cA : Nat → Option Addr) (ρ : List Addr) (H : Hp) (x : Xn) (cls : Value) (d : Option Addr) : Prop where
  cls : ∃ C, cA x.cls = some C ∧ cls = .ref C
  fs : ∃ dd gs, d = some dd ∧ dd ∉ ρ.tail ∧ H dd = some (.xd gs) ∧ ∀ f e, x.fs.lookup f = some e → ∃ v, gs.lookup ⟨f.toArray⟩ = some v ∧ RD K H ρ e v
abbrev WX' := Xn → List Addr → Stt → L2.St → Hp → Value → Option Addr → Prop
def Good {α : Type} (K : PySem.W.Frag) (cA : Nat → Option Addr) (W : WX) (σ : L2.St) (ρ : List Addr) (H : Hp) (r : R α) (k : α → Stt → List Addr → Hp → Prop) : Prop :=
  match r with
  | .ok a st' => ∀ ρ' H', Nx K ρ H ρ' st' H' → k a st' ρ' H'
  | .exc x st' => ∀ ρ' H' cls d, Nx K ρ H ρ' st' H' → XR K cA ρ' H' x cls d → W cls d σ H'
  | .err => False
section
variable {K : PySem.W.Frag} {cA : Nat → Option Addr} {W : WX} {σ : L2.St} {ρ ρ' : List Addr} {H H' : Hp} {st st' : Stt} {α β : Type}
theorem Good.mono {r : R α} {k k' : α → Stt → List Addr → Hp → Prop} (g : Good K cA W σ ρ H r k) (h : ∀ a st' ρ' H', r = .ok a st' → Nx K ρ H ρ' st' H' → k a st' ρ' H' → k' a st' ρ' H') : Good K cA W σ ρ H r k' := by
  cases r with
  | ok a st' => exact fun ρ' H' n => h a st' ρ' H' rfl n (g ρ' H' n)
  | exc x st' => exact g
  | err => exact g
theorem Good.bind {r : R α} {f : α → Stt → R β} {k : β → Stt → List Addr → Hp → Prop} (g : Good K cA W σ ρ H (r.bind f) k) :
    Good K cA W σ ρ H r (fun a st1 ρ1 H1 => Good K cA W σ ρ1 H1 (f a st1) k) := by
  cases r with
  | err => exact g
  | exc x st' => exact g
  | ok a st' =>
    intro ρ1 H1 n
    have g : Good K cA W σ ρ H (f a st') k := g
    generalize f a st' = q at g
    cases q with
    | err => exact g
    | exc x st2 => exact fun ρ2 H2 c d n2 xr => g ρ2 H2 c d (n.trans n2) xr
    | ok b st2 => exact fun ρ2 H2 n2 => g ρ2 H2 (n.trans n2)
theorem Good.ok?_ {o : Option α} {s : Stt} {k : α → Stt → List Addr → Hp → Prop} (g : Good K cA W σ ρ H (ok? o s) k) : ∃ a, o = some a ∧ ∀ ρ' H', Nx K ρ H ρ' s H' → k a s ρ' H' := by
  cases o with
  | none => exact g.elim
  | some a => exact ⟨a, rfl, g⟩
theorem Good.chk {b : Bool} {r : R α} {k : α → Stt → List Addr → Hp → Prop} (g : Good K cA W σ ρ H (chk b r) k) : b = true ∧ Good K cA W σ ρ H r k := by
  cases b with
  | true => exact ⟨rfl, g⟩
  | false => exact g.elim
end
theorem SZ_eq : (SZ : Nat) = sizeLine := by rw [sizeLine_eq]
/-- a rule chosen by the values -/
def anyOp (X : Cx) (f : Value → Value → Sem Value) : R2 := fun x y H Q => ∃ r, OpR X f r ∧ r x y H Q
theorem anyOp_ok {X : Cx} {f : Value → Value → Sem Value} : OpR X f (anyOp X f) := by
  intro pins s σ H x y v u Q I rx ry ⟨r, h, q⟩
  exact h pins s σ H x y v u Q I rx ry q
def anyCall (X : Cx) (f : Value) : List V → Hp → VK → Prop := fun xs H Q => ∃ r, CallR X f r ∧ r xs H Q
theorem anyCall_ok {X : Cx} {f : Value} : CallR X f (anyCall X f) := by
  intro pins s σ H xs us Q I r ⟨q, h, z⟩
  exact h pins s σ H xs us Q I r z
def anyIx (X : Cx) : R2 := fun x y H Q => ∃ r, IxR X r ∧ r x y H Q
theorem anyIx_ok {X : Cx} : IxR X (anyIx X) := by
  intro a b pins s σ H x y v u Q I rx ry ⟨r, h, q⟩ hs
  exact h a b pins s σ H x y v u Q I rx ry q hs
def anySl (X : Cx) : V → Option Int → Option Int → Hp → VK → Prop := fun x lo hi H Q => ∃ r, SlR X r ∧ r x lo hi H Q
theorem anySl_ok {X : Cx} : SlR X (anySl X) := by
  intro pins s σ H x v vl vu lo hi sl Q I rx hs pl pu ⟨r, h, q⟩
  exact h pins s σ H x v vl vu lo hi sl Q I rx hs pl pu q
theorem PE.of {X : Cx} {e : Expr} {t : TE} (h : ∀ σ H Q, t σ H Q → ∃ u, PE X e u ∧ u σ H Q) : PE X e t :=
  ⟨fun pins s σ H Q I hw => let ⟨_, p, q⟩ := h σ H Q hw; p.run pins s σ H Q I q⟩
theorem PT.of {X : Cx} {e : Expr} {t : TT} (h : ∀ σ H Q, t σ H Q → ∃ u, PT X e u ∧ u σ H Q) : PT X e t :=
  ⟨fun pins s σ H Q I hw => let ⟨_, p, q⟩ := h σ H Q hw; p.run pins s σ H Q I q⟩
theorem PS.of {X : Cx} {e : Stmt} {t : TS} (h : ∀ D σ H, t D σ H → ∃ u, PS X e u ∧ u D σ H) : PS X e t :=
  ⟨fun pins s σ H D I hw => let ⟨_, p, q⟩ := h D σ H hw; p.run pins s σ H D I q⟩

/-! ### strings -/
theorem okStr.append {x y : List Nat} (a : okStr x) (b : okStr y) (h : x.length + y.length ≤ SZ) : okStr (x ++ y) :=
  ⟨by rw [List.length_append]; exact h, fun c hc => (List.mem_append.mp hc).elim (a.2 c) (b.2 c)⟩
theorem okStr.sub {x y : List Nat} (a : okStr x) (hl : y.length ≤ x.length) (h : ∀ c ∈ y, c ∈ x) : okStr y := ⟨Nat.le_trans hl a.1, fun c hc => a.2 c (h c hc)⟩
theorem str_append (x y : List Nat) : (⟨x.toArray⟩ : Str) ++ ⟨y.toArray⟩ = ⟨(x ++ y).toArray⟩ := by
  show Str.mk (x.toArray ++ y.toArray) = _
  simp
theorem str_len (x : List Nat) : (⟨x.toArray⟩ : Str).length = x.length := by simp [Str.length]
section
variable {K : PySem.W.Frag} {X : Cx} {cA : Nat → Option Addr} {W : WX} {σ : L2.St} {ρ : List Addr} {H : Hp} {st : Stt}
theorem Nx.tupF (r : Rel K ρ st H) {p : Addr} {vs : List V} {o : Obj} (hp : H p = none) (ho : PlT o) {ds : List D} (h : RDs K H ρ ds vs) : Nx K ρ H ρ st (upd H p (.frz o (.tup vs))) ∧ RD K (upd H p (.frz o (.tup vs))) ρ (.tup ds) (.ref p) := by
  have n := Nx.side (o := .frz o (.tup vs)) r hp
  exact ⟨n, .tup ⟨.inl (.inr ⟨o, upd_same⟩), .inr (.inl ⟨o, _, upd_same, ho⟩)⟩ (h.nx n)⟩
theorem Nx.tup (r : Rel K ρ st H) {p : Addr} {vs : List V} (hp : H p = none) {ds : List D} (h : RDs K H ρ ds vs) (hd : dstrs ds = none) : Nx K ρ H ρ st (upd H p (.tup vs)) ∧ RD K (upd H p (.tup vs)) ρ (.tup ds) (.ref p) := by
  have n := Nx.side (o := .tup vs) r hp
  exact ⟨n, .tup ⟨.inl (.inl upd_same), .inl hd⟩ (h.nx n)⟩
theorem Nx.newL (r : Rel K ρ st H) {p : Addr} {vs : List V} (hp : H p = none) {ds : List D} (h : RDs K H ρ ds vs) :
    Nx K ρ H (ρ ++ [p]) (st ++ [.lst ds]) (upd H p (.lst vs)) ∧ RD K (upd H p (.lst vs)) (ρ ++ [p]) (.ref st.length) (.ref p) := by
  have n := Nx.alloc (o := .lst ds) (u := .lst vs) r hp (.lst upd_same (h.mono (Fr.upd_new (ρ := ρ) hp).z ⟨[p], rfl⟩))
  refine ⟨n, .ref ?_⟩
  rw [← r.len]
  exact getE_snoc_at
/-- the list at a place -/
theorem Rel.lget (r : Rel K ρ st H) {l : Nat} {a : Addr} {ds : List D} (h : lget st l = some ds) (ha : ρ[l]? = some a) : ∃ vs, SqL K H a vs ∧ RDs K H ρ ds vs := by
  unfold Lk.lget at h
  split at h
  · rename_i xs e
    cases h
    have z := r.ob l _ a e ha
    cases z with
    | lst h q => exact ⟨_, .inl (.inl h), q⟩
  · rename_i xs e
    cases h
    have z := r.ob l _ a e ha
    cases z with
    | rol h q => exact ⟨_, .inl (.inr ⟨_, h⟩), q⟩
    | rok h q => exact ⟨_, .inr h, q⟩
  · cases h
theorem Rel.lst (r : Rel K ρ st H) {l : Nat} {a : Addr} {ds : List D} (h : st[l]? = some (.lst ds)) (ha : ρ[l]? = some a) : ∃ vs, H a = some (.lst vs) ∧ RDs K H ρ ds vs := by
  have z := r.ob l _ a h ha
  cases z with
  | lst h q => exact ⟨_, h, q⟩
theorem Rel.dct (r : Rel K ρ st H) {l : Nat} {a : Addr} {ds : List (Ky × D)} (h : st[l]? = some (.dct ds)) (ha : ρ[l]? = some a) : ∃ vs, H a = some (.dK vs) ∧ RKs K H ρ ds vs := by
  have z := r.ob l _ a h ha
  cases z with
  | dct h q => exact ⟨_, h, q⟩
theorem RDs.reps {ds : List D} {vs : List V} (h : RDs K H ρ ds vs) (k : Int) : RDs K H ρ (reps ds k) ((List.replicate k.toNat vs).flatten) := by
  unfold Lk.reps
  induction k.toNat with
  | zero => exact .nil
  | succ n ih => rw [List.replicate_succ, List.replicate_succ, List.flatten_cons, List.flatten_cons]; exact h.append ih
def bop : BO → Operator
  | .add => .Add | .sub => .Sub | .mul => .Mult | .fdiv => .FloorDiv | .mod => .Mod | .pow => .Pow | .shl => .LShift | .shr => .RShift | .band => .BitAnd | .bor => .BitOr
theorem small_iff {i : Int} (h : small i = true) : -(2 ^ 64) < i ∧ i < 2 ^ 64 := by
  unfold small at h
  simp only [Bool.and_eq_true, decide_eq_true_eq] at h
  exact h
theorem small_abs {i : Int} (h : small i = true) : i.natAbs < 2 ^ 64 := by
  have := small_iff h
  omega
theorem mul_strR : OpR X (binaryOp .Mult) (fun x y H Q => ∃ (z : List Nat) (k : Int), x = .str ⟨z.toArray⟩ ∧ y = .int k ∧ -(2 ^ 63) ≤ k ∧ k < 2 ^ 63 ∧ z.length * k.toNat ≤ sizeLine ∧ Q (.str ⟨(reps z k).toArray⟩) H) := by
  intro pins s σ H x y v u Q I rx ry h
  obtain ⟨z, k, rfl, rfl, h1, h2, h3, q⟩ := h
  obtain ⟨t, rfl⟩ := rx
  obtain ⟨t', rfl⟩ := ry
  have hsl := sizeLine_eq
  have hr : (decide (k < -(2 ^ 63 : Int)) || decide (k ≥ 2 ^ 63)) = false := by
    rw [Bool.or_eq_false_iff, decide_eq_false_iff_not, decide_eq_false_iff_not]
    omega
  have hlen : (⟨z.toArray⟩ : Str).length = z.length := str_len z
  have hfl : ∀ n : Nat, (List.replicate n z.toArray).foldl (· ++ ·) #[] = ((List.replicate n z).flatten).toArray := fun n => by
    have e : ∀ (n : Nat) (acc : List Nat), (List.replicate n z.toArray).foldl (· ++ ·) acc.toArray = (acc ++ (List.replicate n z).flatten).toArray := by
      intro n
      induction n with
      | zero => intro acc; simp
      | succ n ih =>
        intro acc
        rw [List.replicate_succ, List.foldl_cons, List.append_toArray, ih, List.replicate_succ, List.flatten_cons, List.append_assoc]
    have := e n []
    simpa using this
  have hsz : ∀ n : Nat, ((List.replicate n z).flatten).length = z.length * n := fun n => by
    rw [List.length_flatten, List.map_replicate, List.sum_replicate_nat, Nat.mul_comm]
  refine PySem.P.mul_str hr (fun h0 _ => ?_) (fun h0 _ => ?_) ?_
  · have h0' : 0 < k := by omega
    have hk : ((k.toNat : Nat) : Int) = k := by omega
    rw [hlen]
    have : (z.length : Int) ≤ (2 ^ 63 - 1) / k := Int.le_ediv_of_mul_le h0' (by rw [← hk, ← Int.natCast_mul]; omega)
    omega
  · rw [hlen]
    unfold PySem.Builtin.Str.tooLong
    rw [decide_eq_false_iff_not]
    omega
  · split
    · rename_i h0
      have e : k.toNat = 0 := by omega
      unfold reps at q
      rw [e] at q
      exact ⟨by rw [hsl]; decide, ⟨.str ⟨#[]⟩, H, I.tok _, ⟨_, rfl⟩, q⟩⟩
    · rename_i h0
      split
      · rename_i h1'
        simp only [Bool.or_eq_true, beq_iff_eq] at h1'
        have e : reps z k = z := by
          unfold reps
          rcases h1' with e | e
          · rw [e]; simp
          · rw [hlen] at e
            have : z = [] := List.length_eq_zero_iff.mp e
            subst this
            simp
        rw [e] at q
        exact ⟨.str _, H, I, ⟨t, rfl⟩, q⟩
      · refine ⟨?_, ⟨.str _, H, I.tok _, ⟨_, rfl⟩, ?_⟩⟩
        · show (((List.replicate k.toNat z.toArray).foldl (· ++ ·) #[])).size ≤ sizeLine
          rw [hfl, List.size_toArray, hsz]
          exact h3
        · show Q (.str ⟨(List.replicate k.toNat z.toArray).foldl (· ++ ·) #[]⟩) H
          rw [hfl]
          exact q
theorem okStr.reps {x : List Nat} (a : okStr x) (k : Int) (h : x.length * k.toNat ≤ SZ) : okStr (reps x k) := by
  refine ⟨?_, fun c hc => ?_⟩
  · unfold Lk.reps
    rw [List.length_flatten, List.map_replicate, List.sum_replicate_nat, Nat.mul_comm]
    exact h
  · unfold Lk.reps at hc
    obtain ⟨l, h1, h2⟩ := List.mem_flatten.mp hc
    rw [(List.mem_replicate.mp h1).2] at h2
    exact a.2 c h2
/-- two values and an operator -/
theorem bin_ok (o : BO) {x y : D} {v w : V} {Q : VK} (r : Rel X.K ρ st H) (hx : RD X.K H ρ x v) (hy : RD X.K H ρ y w)
    (g : Good X.K cA W σ ρ H (binD st o x y) (fun d _ ρ' H' => ∀ v, RD X.K H' ρ' d v → Q v H')) : anyOp X (binaryOp (bop o)) v w H Q := by
  have n0 := Nx.refl r
  have key : ∀ {d : D} {u : V}, binD st o x y = .ok d st → RD X.K H ρ d u → Q u H := fun {d u} e h => by
    rw [e] at g
    exact g ρ H n0 u h
  unfold binD at g
  split at g
  · cases hx; cases hy; exact ⟨_, op_add, _, _, rfl, rfl, g ρ H n0 _ (.int _)⟩
  · cases hx with
    | str hx =>
      cases hy with
      | str hy =>
        obtain ⟨hc, g⟩ := g.chk
        have hc := of_decide_eq_true hc
        refine ⟨_, op_add_str, _, _, rfl, rfl, by rw [str_len, str_len, ← SZ_eq]; exact hc, ?_⟩
        rw [str_append]
        exact g ρ H n0 _ (.str (hx.append hy hc))
  · cases hx with
    | tup hx hxs =>
      cases hy with
      | tup hy hys =>
        obtain ⟨hc, g⟩ := g.chk
        have hc := of_decide_eq_true hc
        rw [hxs.length, hys.length] at hc
        refine ⟨_, op_catF, _, _, _, _, rfl, rfl, hx.1, hy.1, by rw [← SZ_eq]; exact hc, fun e => ?_, fun e e' => ?_, fun e e' p o hp ho => ?_⟩
        · subst e
          cases hxs
          exact g ρ H n0 _ (.tup hy hys)
        · subst e'
          cases hys
          exact g ρ H n0 _ (.tup (by rw [List.append_nil]; exact hx) (by rw [List.append_nil]; exact hxs))
        · obtain ⟨n, rd⟩ := Nx.tupF r hp ho (hxs.append hys)
          exact g ρ _ n _ rd
  · cases hx with
    | ref hx =>
      cases hy with
      | ref hy =>
        split at g
        · rename_i e1 e2
          obtain ⟨hc, g⟩ := g.chk
          have hc := of_decide_eq_true hc
          obtain ⟨vs, k1, q1⟩ := r.lst e1 hx
          obtain ⟨ws, k2, q2⟩ := r.lst e2 hy
          rw [q1.length, q2.length] at hc
          refine ⟨_, op_cat, _, _, _, _, rfl, rfl, k1, k2, by rw [← SZ_eq]; exact hc, fun p hp => ?_⟩
          obtain ⟨n, rd⟩ := Nx.newL r hp (q1.append q2)
          exact g _ _ n _ rd
        · exact g.elim
  · cases hx; cases hy; exact ⟨_, op_sub, _, _, rfl, rfl, g ρ H n0 _ (.int _)⟩
  · cases hx; cases hy
    obtain ⟨hc, g⟩ := g.chk
    have hc' := (Bool.or_eq_true_iff.mp hc).imp small_iff small_iff
    exact ⟨_, op_mul, _, _, rfl, rfl, hc', g ρ H n0 _ (.int _)⟩
  · cases hx with
    | str hx =>
      cases hy
      obtain ⟨hc, g⟩ := g.chk
      simp only [Bool.and_eq_true, decide_eq_true_eq] at hc
      exact ⟨_, mul_strR, _, _, rfl, rfl, hc.1.1, hc.1.2, by rw [← SZ_eq]; exact hc.2, g ρ H n0 _ (.str (hx.reps _ hc.2))⟩
  · cases hx with
    | ref hx =>
      cases hy
      split at g
      · rename_i e1
        obtain ⟨hc, g⟩ := g.chk
        simp only [Bool.and_eq_true, decide_eq_true_eq] at hc
        obtain ⟨vs, k1, q1⟩ := r.lst e1 hx
        rw [q1.length] at hc
        refine ⟨_, op_rep, _, _, _, rfl, rfl, k1, hc.1.1, hc.1.2, by rw [← SZ_eq]; exact hc.2, fun p hp => ?_⟩
        obtain ⟨n, rd⟩ := Nx.newL r hp (q1.reps _)
        exact g _ _ n _ rd
      · exact g.elim
  · cases hx; cases hy
    obtain ⟨hc, g⟩ := g.chk
    simp only [Bool.and_eq_true, decide_eq_true_eq] at hc
    exact ⟨_, op_fdiv, _, _, rfl, rfl, hc, g ρ H n0 _ (.int _)⟩
  · cases hx; cases hy
    obtain ⟨hc, g⟩ := g.chk
    exact ⟨_, op_mod, _, _, rfl, rfl, of_decide_eq_true hc, g ρ H n0 _ (.int _)⟩
  · cases hx; cases hy
    obtain ⟨hc, g⟩ := g.chk
    simp only [Bool.and_eq_true, decide_eq_true_eq] at hc
    exact ⟨_, op_pow, _, _, rfl, rfl, ⟨hc.1.1, hc.1.2, small_abs hc.2⟩, g ρ H n0 _ (.int _)⟩
  · cases hx; cases hy
    obtain ⟨hc, g⟩ := g.chk
    simp only [Bool.and_eq_true, decide_eq_true_eq] at hc
    exact ⟨_, op_shl, _, _, rfl, rfl, ⟨hc.1.1, hc.1.2, small_abs hc.2⟩, g ρ H n0 _ (.int _)⟩
  · cases hx; cases hy
    obtain ⟨hc, g⟩ := g.chk
    exact ⟨_, op_shr, _, _, rfl, rfl, of_decide_eq_true hc, g ρ H n0 _ (.int _)⟩
  · cases hx; cases hy; exact ⟨_, op_and, _, _, rfl, rfl, g ρ H n0 _ (.int _)⟩
  · cases hx; cases hy; exact ⟨_, op_or, _, _, rfl, rfl, g ρ H n0 _ (.int _)⟩
  · exact g.elim
end
end Lk

end
section
set_option linter.all false
set_option maxHeartbeats 1000000
namespace Lk
open PySem PySem.Spec PyProof.Rows L2
section
variable {K : PySem.W.Frag} {X : Cx} {cA : Nat → Option Addr} {W : WX} {σ : L2.St} {ρ : List Addr} {H : Hp} {st : Stt}
theorem strOk_of {x : List Nat} (h : okStr x) : PySem.PyData.strOk ⟨x.toArray⟩ = true := by
  unfold PySem.PyData.strOk
  simp only [List.all_toArray, List.all_eq_true, decide_eq_true_eq]
  exact h.2
mutual
theorem toPy_dp {n : Nat} : ∀ {d : D} {v : V} {p : PyData}, RD K H ρ d v → D.toPy st n d = some p → Dp K H v p ∧ p.canLay0 = true
  | .non, _, _, h, e => by cases h; unfold D.toPy at e; cases e; exact ⟨.non, rfl⟩
  | .bl b, _, _, h, e => by cases h; unfold D.toPy at e; cases e; exact ⟨.bl b, rfl⟩
  | .int i, _, _, h, e => by cases h; unfold D.toPy at e; cases e; exact ⟨.int i, rfl⟩
  | .str x, _, _, h, e => by cases h with | str o => unfold D.toPy at e; cases e; exact ⟨.str _, strOk_of o⟩
  | .tup xs, _, _, h, e => by
    cases h with
    | tup hs hr =>
      unfold D.toPy at e
      cases q : D.toPys st n xs with
      | none => rw [q] at e; cases e
      | some ps =>
        rw [q] at e
        cases e
        obtain ⟨h1, h2⟩ := toPys_dp hr q
        exact ⟨.tup hs.1 h1, h2⟩
  | .ref l, _, _, h, e => by unfold D.toPy at e; cases e
theorem toPys_dp {n : Nat} : ∀ {ds : List D} {vs : List V} {ps : List PyData}, RDs K H ρ ds vs → D.toPys st n ds = some ps → DpAll K H vs ps ∧ PyData.canLayAll0 ps = true
  | [], _, _, h, e => by cases h; unfold D.toPys at e; cases e; exact ⟨.nil, rfl⟩
  | d :: ds, _, _, h, e => by
    cases h with
    | cons h r =>
      unfold D.toPys at e
      cases q : D.toPy st n d with
      | none => rw [q] at e; cases e
      | some p =>
        cases q2 : D.toPys st n ds with
        | none => rw [q, q2] at e; cases e
        | some ps =>
          rw [q, q2] at e
          cases e
          obtain ⟨h1, h2⟩ := toPy_dp h q
          obtain ⟨h3, h4⟩ := toPys_dp r q2
          exact ⟨.cons h1 h3, by unfold PyData.canLayAll0; rw [h2, h4]; rfl⟩
end
theorem listPy_dp (r : Rel K ρ st H) {d : D} {v : V} {p : PyData} (h : RD K H ρ d v) (e : listPy st d = some p) : Dp K H v p ∧ p.canLay0 = true := by
  unfold listPy at e
  split at e
  · cases h with
    | ref h =>
      split at e
      · rename_i xs q
        obtain ⟨vs, h1, h2⟩ := r.lget q h
        cases q2 : D.toPys st 0 xs with
        | none => rw [q2] at e; cases e
        | some ps =>
          rw [q2] at e
          cases e
          obtain ⟨h3, h4⟩ := toPys_dp h2 q2
          exact ⟨.lst h1 h3, h4⟩
      · cases e
  · exact toPy_dp h e
theorem eqG_dp (r : Rel K ρ st H) {x y : D} {v w : V} {b : Bool} (hx : RD K H ρ x v) (hy : RD K H ρ y w) (e : eqG st x y = some b) :
    ∃ d e, Dp K H v d ∧ Dp K H w e ∧ SeqAt.shaped d = true ∧ SeqAt.shaped e = true ∧ PyData.eqv d e = b := by
  unfold eqG at e
  split at e
  · rename_i p q e1 e2
    split at e
    · rename_i hd
      cases e
      obtain ⟨h1, h2⟩ := listPy_dp r hx e1
      obtain ⟨h3, h4⟩ := listPy_dp r hy e2
      refine ⟨p, q, h1, h3, ?_, ?_, rfl⟩
      · unfold SeqAt.shaped; rw [h2, decide_eq_true hd.1]; rfl
      · unfold SeqAt.shaped; rw [h4, decide_eq_true hd.2]; rfl
    · cases e
  · cases e
theorem str_dec (i j : List Nat) : decide (V.str ⟨i.toArray⟩ = V.str ⟨j.toArray⟩) = (i == j) := by
  rw [Bool.eq_iff_iff]
  simp
theorem eq_ok (hu : X.A.units + 64 < cLine) {x y : D} {v w : V} {b : Bool} {Q : VK} (r : Rel X.K ρ st H) (hx : RD X.K H ρ x v) (hy : RD X.K H ρ y w) (e : eqD st x y = some b) :
    (Q (.bl b) H → anyOp X (compareOp .Eq) v w H Q) ∧ (Q (.bl (!b)) H → anyOp X (compareOp .NotEq) v w H Q) := by
  have sc : ∀ {c}, scal v w = true → decide (v = w) = c → some c = some b → (Q (.bl b) H → anyOp X (compareOp .Eq) v w H Q) ∧ (Q (.bl (!b)) H → anyOp X (compareOp .NotEq) v w H Q) := fun {c} h1 h2 h3 => by
    cases h3
    subst h2
    exact ⟨fun q => ⟨_, op_eq, h1, q⟩, fun q => ⟨_, op_ne, h1, q⟩⟩
  unfold eqD at e
  split at e
  case h_15 =>
    obtain ⟨d, f, h1, h2, h3, h4, h5⟩ := eqG_dp r hx hy e
    subst h5
    exact ⟨fun q => ⟨_, op_eqD hu, d, f, h1, h2, h3, h4, q⟩, fun q => ⟨_, op_neD hu, d, f, h1, h2, h3, h4, q⟩⟩
  case h_8 => cases hx; cases hy; exact sc rfl (by rw [dec_int]) e
  case h_9 => cases hx; cases hy; exact sc rfl (by rw [dec_bl]) e
  case h_10 => cases hx; cases hy; exact sc rfl (str_dec _ _) e
  all_goals (cases hx; cases hy; exact sc rfl (by simp) e)
theorem flat_ok {d : D} {v : V} (h : RD K H ρ d v) (f : d.flat = true) : flatV v = true := by
  cases d <;> first
    | (cases h; rfl)
    | cases f
theorem feq_ok {x y : D} {v w : V} (hx : RD K H ρ x v) (hy : RD K H ρ y w) (fx : x.flat = true) (fy : y.flat = true) : eqV v w = x.feq y := by
  cases x <;> first
    | (cases fx; done)
    | (cases y <;> first
        | (cases fy; done)
        | (cases hx; cases hy; first | rfl | (show ((⟨_⟩ : Str) == _) = _; rw [Bool.eq_iff_iff]; simp [D.feq])))
theorem inSeq_ok {x : D} {v : V} (hx : RD K H ρ x v) : ∀ {xs : List D} {vs : List V}, RDs K H ρ xs vs → (x.flat && xs.all D.flat) = true → vs.all flatV = true ∧ inV v vs = xs.any fun y => y.feq x
  | [], _, h, _ => by cases h; exact ⟨rfl, rfl⟩
  | y :: xs, _, h, f => by
    cases h with
    | cons h r =>
      simp only [List.all_cons, Bool.and_eq_true] at f
      obtain ⟨fx, fy, fr⟩ := f
      obtain ⟨h1, h2⟩ := inSeq_ok hx r (by rw [fx, fr]; rfl)
      refine ⟨by rw [List.all_cons, flat_ok h fy, h1]; rfl, ?_⟩
      unfold inV at h2 ⊢
      rw [List.any_cons, List.any_cons, h2, feq_ok h hx fy fx]
/-- a key and its value -/
theorem keyOf_ok {d : D} {v : V} {k : Ky} (h : RD K H ρ d v) (e : keyOf d = some k) : v = kV (kyK k) ∧ okKy k := by
  unfold keyOf at e
  split at e
  · cases e; cases h; exact ⟨rfl, trivial⟩
  · cases e; cases h with | str o => exact ⟨rfl, o⟩
  · cases e
theorem kyK_inj {a b : Ky} (h : kyK a = kyK b) : a = b := by
  cases a <;> cases b <;> simp [kyK] at h ⊢ <;> exact h
theorem kval_ok {k : Ky} : ∀ {kvs : List (Ky × D)} {vs : List (Key × V)}, RKs K H ρ kvs vs → (kval kvs k = none ∧ valV vs (kyK k) = none) ∨ ∃ d v, kval kvs k = some d ∧ valV vs (kyK k) = some v ∧ RD K H ρ d v
  | [], _, h => by cases h; exact .inl ⟨rfl, rfl⟩
  | (j, d) :: kvs, _, h => by
    cases h with
    | cons o h r =>
      by_cases e : j = k
      · subst e
        refine .inr ⟨d, _, ?_, valV_pos rfl, h⟩
        simp [kval]
      · have e' : ¬ kyK j = kyK k := fun z => e (kyK_inj z)
        rcases kval_ok (k := k) r with ⟨h1, h2⟩ | ⟨d', v', h1, h2, h3⟩
        · exact .inl ⟨by simpa [kval, e] using h1, by rw [valV_neg e']; exact h2⟩
        · exact .inr ⟨d', v', by simpa [kval, e] using h1, by rw [valV_neg e']; exact h2, h3⟩
theorem kput_ok {k : Ky} {d : D} {v : V} (hk : okKy k) (hd : RD K H ρ d v) : ∀ {kvs : List (Ky × D)} {vs : List (Key × V)}, RKs K H ρ kvs vs → RKs K H ρ (kput kvs k d) (putK vs (kyK k) v) := by
  have mp : ∀ {kvs : List (Ky × D)} {vs : List (Key × V)}, RKs K H ρ kvs vs → RKs K H ρ (kvs.map fun kv => if kv.1 = k then (kv.1, d) else kv) (vs.map fun kv => if kv.1 = kyK k then (kv.1, v) else kv) := by
    intro kvs vs h
    induction h with
    | nil => exact .nil
    | @cons j e w ds vs o h r ih =>
      rw [List.map_cons, List.map_cons]
      by_cases z : j = k
      · subst z
        rw [if_pos rfl, if_pos rfl]
        exact .cons o hd ih
      · rw [if_neg z, if_neg (fun y => z (kyK_inj y))]
        exact .cons o h ih
  have an : ∀ {kvs : List (Ky × D)} {vs : List (Key × V)}, RKs K H ρ kvs vs → (kvs.any fun kv => decide (kv.1 = k)) = (vs.any fun kv => decide (kv.1 = kyK k)) := by
    intro kvs vs h
    induction h with
    | nil => rfl
    | @cons j e w ds vs o h r ih =>
      rw [List.any_cons, List.any_cons, ih]
      by_cases z : j = k
      · subst z; simp
      · have : ¬ kyK j = kyK k := fun y => z (kyK_inj y)
        simp [z, this]
  have ap : ∀ {kvs : List (Ky × D)} {vs : List (Key × V)}, RKs K H ρ kvs vs → RKs K H ρ (kvs ++ [(k, d)]) (vs ++ [(kyK k, v)]) := by
    intro kvs vs h
    induction h with
    | nil => exact .cons hk hd .nil
    | cons o h r ih => exact .cons o h ih
  intro kvs vs h
  unfold kput putK
  rw [an h]
  split
  · exact mp h
  · exact ap h
def cop : CO → CmpOp
  | .eq => .Eq | .ne => .NotEq | .lt => .Lt | .le => .LtE | .gt => .Gt | .ge => .GtE | .isin => .In | .notin => .NotIn | .isnon => .Is | .notnon => .IsNot
theorem dinR (hu : X.A.units + 1 < cLine) : OpR X (compareOp .In) (fun x y H Q => ∃ a o, y = .ref a ∧ DGet H a x o ∧ Q (.bl o.isSome) H) := by
  intro pins s σ H x y v u Q I rx ry ⟨a, o, ey, g, q⟩
  subst ey
  obtain rfl : u = Value.ref a := ry
  exact d_in hu I g rx fun s3 I3 => ⟨.bl o.isSome, H, I3, rfl, q⟩
theorem dnotinR (hu : X.A.units + 1 < cLine) : OpR X (compareOp .NotIn) (fun x y H Q => ∃ a o, y = .ref a ∧ DGet H a x o ∧ Q (.bl (!o.isSome)) H) := by
  intro pins s σ H x y v u Q I rx ry ⟨a, o, ey, g, q⟩
  subst ey
  obtain rfl : u = Value.ref a := ry
  exact d_notIn hu I g rx fun s3 I3 => ⟨.bl (!o.isSome), H, I3, rfl, q⟩
theorem Rel.dget (r : Rel K ρ st H) {l : Nat} {a : Addr} {kvs : List (Ky × D)} (e : st[l]? = some (.dct kvs)) (ha : ρ[l]? = some a) {d : D} {v : V} {k : Ky} (h : RD K H ρ d v) (ek : keyOf d = some k) :
    ∃ o, DGet H a v o ∧ ((kval kvs k = none ∧ o = none) ∨ ∃ e w, kval kvs k = some e ∧ o = some w ∧ RD K H ρ e w) := by
  obtain ⟨vs, h1, h2⟩ := r.dct e ha
  obtain ⟨ev, ok⟩ := keyOf_ok h ek
  subst ev
  refine ⟨_, DGet.k h1, ?_⟩
  rcases kval_ok (k := k) h2 with ⟨h3, h4⟩ | ⟨d', v', h3, h4, h5⟩
  · exact .inl ⟨h3, h4⟩
  · exact .inr ⟨d', v', h3, h4, h5⟩
theorem mem_ok (hu : X.A.units + 64 < cLine) {x y : D} {v w : V} {b : Bool} {Q : VK} (r : Rel X.K ρ st H) (hx : RD X.K H ρ x v) (hy : RD X.K H ρ y w) (e : memD st x y = some b) :
    (Q (.bl b) H → anyOp X (compareOp .In) v w H Q) ∧ (Q (.bl (!b)) H → anyOp X (compareOp .NotIn) v w H Q) := by
  have sq : ∀ {p : Addr} {ds : List D} {vs : List V}, (SqL X.K H p vs ∨ SqT X.K H p vs) → RDs X.K H ρ ds vs → inSeq x ds = some b → (Q (.bl b) H → anyOp X (compareOp .In) v (.ref p) H Q) ∧ (Q (.bl (!b)) H → anyOp X (compareOp .NotIn) v (.ref p) H Q) := fun {p ds vs} h1 h2 h3 => by
    unfold inSeq at h3
    split at h3
    · rename_i hf
      cases h3
      obtain ⟨h4, h5⟩ := inSeq_ok hx h2 hf
      have fx := flat_ok hx (Bool.and_eq_true_iff.mp hf).1
      refine ⟨fun q => ⟨_, op_in_seq, p, vs, rfl, h1, fx, h4, ?_⟩, fun q => ⟨_, op_notIn_seq, p, vs, rfl, h1, fx, h4, ?_⟩⟩
      · show Q (.bl (inV v vs)) H
        rw [h5]; exact q
      · show Q (.bl (!inV v vs)) H
        rw [h5]; exact q
    · cases h3
  unfold memD at e
  split at e
  · split at e
    · cases e
      cases hx with
      | str ox =>
        cases hy with
        | str oy => exact ⟨fun q => ⟨_, op_in_sign, _, _, rfl, rfl, q⟩, fun q => ⟨_, op_notIn_sign, _, _, rfl, rfl, q⟩⟩
    · cases e
  · cases hy with
    | tup h1 h2 => exact sq (.inr h1.1) h2 e
  · cases hy with
    | ref ha =>
      split at e
      · rename_i q
        obtain ⟨vs, h1, h2⟩ := r.lst q ha
        exact sq (.inl (.of h1)) h2 e
      · rename_i q
        obtain ⟨vs, h1, h2⟩ := r.lget (by unfold Lk.lget; rw [q]) ha
        exact sq (.inl h1) h2 e
      · rename_i kvs q
        cases hk : keyOf x with
        | none => rw [hk] at e; cases e
        | some k =>
          rw [hk] at e
          cases e
          obtain ⟨o, g, ho⟩ := r.dget q ha hx hk
          have eo : (kval kvs k).isSome = o.isSome := by
            rcases ho with ⟨h1, h2⟩ | ⟨_, _, h1, h2, _⟩ <;> rw [h1, h2] <;> rfl
          show (Q (.bl (kval kvs k).isSome) H → _) ∧ (Q (.bl (!(kval kvs k).isSome)) H → _)
          rw [eo]
          exact ⟨fun z => ⟨_, dinR (by omega), _, o, rfl, g, z⟩, fun z => ⟨_, dnotinR (by omega), _, o, rfl, g, z⟩⟩
      · cases e
  · cases e
theorem slt_ok (i j : List Nat) : decide ((⟨i.toArray⟩ : Str).cps.toList < (⟨j.toArray⟩ : Str).cps.toList) = slt i j := rfl
theorem cmp_ok (hu : X.A.units + 64 < cLine) (o : CO) {x y : D} {v w : V} {b : Bool} {Q : VK} (r : Rel X.K ρ st H) (hx : RD X.K H ρ x v) (hy : RD X.K H ρ y w) (e : cmpD st o x y = some b) (q : Q (.bl b) H) :
    anyOp X (compareOp (cop o)) v w H Q := by
  unfold cmpD at e
  split at e
  · exact (eq_ok hu r hx hy e).1 q
  · cases h : eqD st x y with
    | none => rw [h] at e; cases e
    | some c => rw [h] at e; cases e; exact (eq_ok hu r hx hy h).2 q
  · cases e; cases hx; cases hy; exact ⟨_, op_lt, _, _, rfl, rfl, q⟩
  · cases e; cases hx; cases hy; exact ⟨_, op_le, _, _, rfl, rfl, q⟩
  · cases e; cases hx; cases hy; exact ⟨_, op_gt, _, _, rfl, rfl, q⟩
  · cases e; cases hx; cases hy; exact ⟨_, op_ge, _, _, rfl, rfl, q⟩
  · cases e; cases hx; cases hy; exact ⟨_, op_lt_str, _, _, rfl, rfl, q⟩
  · cases e; cases hx; cases hy; exact ⟨_, op_le_str, _, _, rfl, rfl, q⟩
  · cases e; cases hx; cases hy; exact ⟨_, op_gt_str, _, _, rfl, rfl, q⟩
  · cases e; cases hx; cases hy; exact ⟨_, op_ge_str, _, _, rfl, rfl, q⟩
  · exact (mem_ok hu r hx hy e).1 q
  · cases h : memD st x y with
    | none => rw [h] at e; cases e
    | some c => rw [h] at e; cases e; exact (mem_ok hu r hx hy h).2 q
  · cases e
    cases hy
    refine ⟨_, op_isN, rfl, ?_⟩
    cases hx <;> first
      | exact q
      | simpa using q
  · cases e
    cases hy
    refine ⟨_, op_notN, rfl, ?_⟩
    cases hx <;> first
      | exact q
      | simpa using q
  · cases e
theorem truth_ok {x : D} {v : V} {b : Bool} (r : Rel K ρ st H) (hx : RD K H ρ x v) (e : truth st x = some b) : TruV K v H b := by
  unfold truth at e
  split at e
  · cases e; cases hx; exact rfl
  · cases e; cases hx; exact rfl
  · cases e; cases hx; exact rfl
  · cases e
    cases hx with
    | str o =>
      refine ⟨by rw [str_len, ← SZ_eq]; exact o.1, ?_⟩
      rw [str_len]
      rename_i z
      cases z <;> simp
      omega
  · cases e
    cases hx with
    | tup h1 h2 =>
      refine .inr (.inl ⟨_, h1.1, ?_⟩)
      cases h2 <;> rfl
  · cases hx with
    | ref ha =>
      split at e
      · rename_i q
        obtain ⟨vs, h1, h2⟩ := r.lst q ha
        cases e
        exact .inl ⟨vs, .of h1, by cases h2 <;> rfl⟩
      · rename_i q
        obtain ⟨vs, h1, h2⟩ := r.lget (by unfold Lk.lget; rw [q]) ha
        cases e
        exact .inl ⟨vs, h1, by cases h2 <;> rfl⟩
      · rename_i q
        obtain ⟨vs, h1, h2⟩ := r.dct q ha
        cases e
        exact .inr (.inr ⟨vs, h1, by cases h2 <;> rfl⟩)
      · cases e
end
end Lk

end
section
set_option linter.all false
set_option maxHeartbeats 1000000
namespace Lk
open PySem PySem.Spec PyProof.Rows L2
/-! ### sorting -/
theorem insI_perm (x : Int) : ∀ l : List Int, (insI x l).Perm (x :: l)
  | [] => List.Perm.refl _
  | y :: r => by
    unfold insI
    split
    · exact List.Perm.refl _
    · exact ((insI_perm x r).cons y).trans (List.Perm.swap x y r)
theorem sortI_perm : ∀ l : List Int, (sortI l).Perm l
  | [] => List.Perm.refl _
  | x :: r => (insI_perm x (sortI r)).trans ((sortI_perm r).cons x)
theorem insI_sorted (x : Int) : ∀ {l : List Int}, l.Pairwise (· ≤ ·) → (insI x l).Pairwise (· ≤ ·)
  | [], _ => by unfold insI; exact List.pairwise_singleton _ _
  | y :: r, h => by
    unfold insI
    have h' := List.pairwise_cons.mp h
    split
    · rename_i hx
      refine List.pairwise_cons.mpr ⟨fun z hz => ?_, h⟩
      rcases List.mem_cons.mp hz with rfl | hz
      · exact hx
      · exact Int.le_trans hx (h'.1 z hz)
    · rename_i hx
      refine List.pairwise_cons.mpr ⟨fun z hz => ?_, insI_sorted x h'.2⟩
      rcases List.mem_cons.mp ((insI_perm x r).mem_iff.mp hz) with rfl | hz
      · omega
      · exact h'.1 z hz
theorem sortI_sorted : ∀ l : List Int, (sortI l).Pairwise (· ≤ ·)
  | [] => List.Pairwise.nil
  | x :: r => insI_sorted x (sortI_sorted r)
theorem sortI_eq {l m : List Int} (p : m.Perm l) (h : m.Pairwise (· ≤ ·)) : m = sortI l :=
  List.Perm.eq_of_pairwise (le := (· ≤ ·)) (fun _ _ _ _ h1 h2 => Int.le_antisymm h1 h2) h (sortI_sorted l) (p.trans (sortI_perm l).symm)
def sle (x y : List Nat) : Prop := slt y x = false
theorem sle_iff {x y : List Nat} : sle x y ↔ x ≤ y := by
  unfold sle slt
  rw [decide_eq_false_iff_not]
  exact List.not_lt
theorem sle_trans {x y z : List Nat} (a : sle x y) (b : sle y z) : sle x z := sle_iff.mpr (List.le_trans (sle_iff.mp a) (sle_iff.mp b))
theorem sle_antisymm {x y : List Nat} (a : sle x y) (b : sle y x) : x = y := List.le_antisymm (sle_iff.mp a) (sle_iff.mp b)
theorem sle_total {x y : List Nat} (a : slt y x = true) : sle y x := by
  unfold slt at a
  exact sle_iff.mpr (List.le_of_lt (of_decide_eq_true a))
theorem insS_perm (x : List Nat) : ∀ l : List (List Nat), (insS x l).Perm (x :: l)
  | [] => List.Perm.refl _
  | y :: r => by
    unfold insS
    split
    · exact ((insS_perm x r).cons y).trans (List.Perm.swap x y r)
    · exact List.Perm.refl _
theorem sortS_perm : ∀ l : List (List Nat), (sortS l).Perm l
  | [] => List.Perm.refl _
  | x :: r => (insS_perm x (sortS r)).trans ((sortS_perm r).cons x)
theorem insS_sorted (x : List Nat) : ∀ {l : List (List Nat)}, l.Pairwise sle → (insS x l).Pairwise sle
  | [], _ => by unfold insS; exact List.pairwise_singleton _ _
  | y :: r, h => by
    unfold insS
    have h' := List.pairwise_cons.mp h
    split
    · rename_i hx
      refine List.pairwise_cons.mpr ⟨fun z hz => ?_, insS_sorted x h'.2⟩
      rcases List.mem_cons.mp ((insS_perm x r).mem_iff.mp hz) with rfl | hz
      · exact sle_total hx
      · exact h'.1 z hz
    · rename_i hx
      have hx : sle x y := by simpa [sle] using hx
      refine List.pairwise_cons.mpr ⟨fun z hz => ?_, h⟩
      rcases List.mem_cons.mp hz with rfl | hz
      · exact hx
      · exact sle_trans hx (h'.1 z hz)
theorem sortS_sorted : ∀ l : List (List Nat), (sortS l).Pairwise sle
  | [] => List.Pairwise.nil
  | x :: r => insS_sorted x (sortS_sorted r)
theorem sortS_eq {l m : List (List Nat)} (p : m.Perm l) (h : m.Pairwise sle) : m = sortS l :=
  List.Perm.eq_of_pairwise (le := sle) (fun _ _ _ _ h1 h2 => sle_antisymm h1 h2) h (sortS_sorted l) (p.trans (sortS_perm l).symm)
/-- texts and lists of numbers -/
def mkS (x : List Nat) : Str := ⟨x.toArray⟩
theorem mkS_inj {x y : List Nat} (h : mkS x = mkS y) : x = y := by
  have := congrArg (fun z : Str => z.cps.toList) h
  simpa [mkS] using this
theorem risingS_pw : ∀ (l : List (List Nat)) (p : List Nat), risingS (mkS p) (l.map mkS) = true → (p :: l).Pairwise sle
  | [], p, _ => List.pairwise_singleton _ _
  | y :: r, p, h => by
    rw [List.map_cons] at h
    unfold risingS at h
    rw [Bool.and_eq_true] at h
    have h2 := risingS_pw r y h.2
    have h1 : sle p y := by
      have := h.1
      rw [PyProof.Rows.ltCps_eq] at this
      rw [Bool.not_eq_true'] at this
      exact sle_iff.mpr (List.not_lt.mp (of_decide_eq_false this))
    refine List.pairwise_cons.mpr ⟨fun z hz => ?_, h2⟩
    rcases List.mem_cons.mp hz with rfl | hz
    · exact h1
    · exact sle_trans h1 ((List.pairwise_cons.mp h2).1 z hz)
theorem sortedS_pw {l : List (List Nat)} (h : sortedS (l.map mkS) = true) : l.Pairwise sle := by
  cases l with
  | nil => exact List.Pairwise.nil
  | cons x r => exact risingS_pw r x h
theorem sortS_of {l : List (List Nat)} {ys : List Str} (p : ys.Perm (l.map mkS)) (h : sortedS ys = true) : ys = (sortS l).map mkS := by
  have e : ys = (ys.map fun y => y.cps.toList).map mkS := by
    rw [List.map_map]
    conv => lhs; rw [← List.map_id ys]
    refine List.map_congr_left fun y _ => ?_
    simp [mkS]
  rw [e] at h
  have p' : (ys.map fun y => y.cps.toList).Perm l := by
    have := p.map fun y : Str => y.cps.toList
    rw [List.map_map] at this
    have e2 : (l.map ((fun y : Str => y.cps.toList) ∘ mkS)) = l := by
      conv => rhs; rw [← List.map_id l]
      refine List.map_congr_left fun y _ => ?_
      simp [mkS]
    rwa [e2] at this
  rw [e, sortS_eq p' (sortedS_pw h)]
section
variable {K : PySem.W.Frag} {X : Cx} {cA : Nat → Option Addr} {W : WX} {σ : L2.St} {ρ : List Addr} {H : Hp} {st : Stt}
theorem dints_ok : ∀ {xs : List D} {ns : List Int} {vs : List V}, dints xs = some ns → RDs K H ρ xs vs → xs = ns.map .int ∧ vs = ns.map V.int
  | [], ns, vs, e, h => by cases h; unfold dints at e; cases e; exact ⟨rfl, rfl⟩
  | x :: xs, ns, vs, e, h => by
    cases h with
    | cons h r =>
      unfold dints at e
      split at e
      · cases ‹_ :: _ = []›
      · rename_i i q heq
        cases heq
        cases q2 : dints xs with
        | none => rw [q2] at e; cases e
        | some ms =>
          rw [q2] at e
          cases e
          obtain ⟨h1, h2⟩ := dints_ok q2 r
          cases h
          exact ⟨by rw [h1]; rfl, by rw [h2]; rfl⟩
      · cases e
theorem dints_rd (ns : List Int) : RDs K H ρ (ns.map .int) (ns.map V.int) := by
  induction ns with
  | nil => exact .nil
  | cons n ns ih => exact .cons (.int n) ih
theorem dstrs_ok : ∀ {xs : List D} {ns : List (List Nat)} {vs : List V}, dstrs xs = some ns → RDs K H ρ xs vs → xs = ns.map .str ∧ vs = (ns.map mkS).map V.str ∧ ∀ n ∈ ns, okStr n
  | [], ns, vs, e, h => by cases h; unfold dstrs at e; cases e; exact ⟨rfl, rfl, fun _ h => nomatch h⟩
  | x :: xs, ns, vs, e, h => by
    cases h with
    | cons h r =>
      unfold dstrs at e
      split at e
      · cases ‹_ :: _ = []›
      · rename_i i q heq
        cases heq
        cases q2 : dstrs xs with
        | none => rw [q2] at e; cases e
        | some ms =>
          rw [q2] at e
          cases e
          obtain ⟨h1, h2, h3⟩ := dstrs_ok q2 r
          cases h with
          | str o => exact ⟨by rw [h1]; rfl, by rw [h2]; rfl, fun n hn => (List.mem_cons.mp hn).elim (fun z => z ▸ o) (h3 n)⟩
      · cases e
theorem dstrs_rd {ns : List (List Nat)} (h : ∀ n ∈ ns, okStr n) : RDs K H ρ (ns.map .str) ((ns.map mkS).map V.str) := by
  induction ns with
  | nil => exact .nil
  | cons n ns ih => exact .cons (.str (h n (List.mem_cons_self ..))) (ih fun m hm => h m (List.mem_cons_of_mem _ hm))
theorem dbls_ok : ∀ {xs : List D} {ns : List Bool} {vs : List V}, dbls xs = some ns → RDs K H ρ xs vs → vs = ns.map V.bl
  | [], ns, vs, e, h => by cases h; unfold dbls at e; cases e; rfl
  | x :: xs, ns, vs, e, h => by
    cases h with
    | cons h r =>
      unfold dbls at e
      split at e
      · cases ‹_ :: _ = []›
      · rename_i i q heq
        cases heq
        cases q2 : dbls xs with
        | none => rw [q2] at e; cases e
        | some ms =>
          rw [q2] at e
          cases e
          have h2 := dbls_ok q2 r
          cases h
          rw [h2]; rfl
      · cases e
/-- a sequence as it lies -/
inductive SqV (K : PySem.W.Frag) (H : Hp) (ρ : List Addr) : Sq → V → Prop
  | l {a : Addr} {ds : List D} {vs : List V} : SqL K H a vs → RDs K H ρ ds vs → SqV K H ρ (.l ds) (.ref a)
  | t {a : Addr} {ds : List D} {vs : List V} : Tp K H a vs ds → RDs K H ρ ds vs → SqV K H ρ (.t ds) (.ref a)
  | s {x : List Nat} : okStr x → SqV K H ρ (.s x) (.str (mkS x))
theorem seqOf_ok (r : Rel K ρ st H) {d : D} {v : V} {q : Sq} (h : RD K H ρ d v) (e : seqOf st d = some q) : SqV K H ρ q v := by
  unfold seqOf at e
  split at e
  · cases e; cases h with | tup h1 h2 => exact .t h1 h2
  · cases e; cases h with | str o => exact .s o
  · rename_i l
    cases h with
    | ref h =>
      cases q2 : lget st l with
      | none => rw [q2] at e; cases e
      | some xs =>
        rw [q2] at e
        cases e
        obtain ⟨vs, h1, h2⟩ := r.lget q2 h
        exact .l h1 h2
  · cases e
theorem sorted_strR (hc : X.calm = true) : CallR X (.builtin "sorted") (fun vs H Q => ∃ x : List Nat, vs = [V.str (mkS x)] ∧ x.length ≤ sizeLine ∧
    ∀ p, H p = none → Q (.ref p) (upd H p (.lst (((sortS (x.map fun c => [c])).map mkS).map V.str)))) := by
  intro pins s σ H vs us Q I r h
  obtain ⟨x, rfl, hz, q⟩ := h
  obtain ⟨u, rfl, ru⟩ := vals1 r
  obtain ⟨t, rfl⟩ := ru
  refine Calls.call_function_entry kind_sorted plain_sorted entry_sorted (args_sorted1 _) ?_
  unfold Builtin.«sorted»
  refine wpAny_bind (m := PySem.checkCount "sorted" 1 1 _) (wpAny_pure ?_)
  refine wpAny_bind (wpAny_collect_str (A := X.A.in1) (I.ok.hd hc) (mkS x) t (fun s1 acc k g d o hi => ?_) (by show x.toArray.size ≤ sizeLine; rw [List.size_toArray]; exact hz))
  have I1 : Inv X pins σ H s1 := by
    have := I.kept (h' := s1.heap) (t' := s1.toks) k
    obtain ⟨hh, gg, dd, tk, oo⟩ := s1
    simp only at g d o this
    subst g d o
    exact this
  have hacc : acc.toList.length = x.length := by rw [Array.length_toList, hi.1]; show x.toArray.size = _; exact List.size_toArray ..
  have hS : StrsAre acc.toList ((x.map fun c => [c]).map mkS) := by
    have : acc.toList.map strOf = (x.map fun c => [c]).map mkS := by
      refine List.ext_getElem? fun i => ?_
      rw [List.getElem?_map, List.map_map, List.getElem?_map]
      cases q : acc.toList[i]? with
      | none =>
        have : x.length ≤ i := by rw [← hacc]; exact List.getElem?_eq_none_iff.mp q
        rw [List.getElem?_eq_none_iff.mpr this]; rfl
      | some v =>
        obtain ⟨c, u, h1, h2⟩ := hi.2 i v (by rw [← Array.getElem?_toList]; exact q)
        have h1 : x[i]? = some c := by simpa [mkS] using h1
        rw [h1, h2]
        rfl
    rw [← this]
    refine strsAre_map _ fun v hv => ?_
    obtain ⟨i, q⟩ := List.getElem?_of_mem hv
    obtain ⟨c, u, h1, h2⟩ := hi.2 i v (by rw [← Array.getElem?_toList]; exact q)
    exact ⟨_, u, h2⟩
  refine wpAny_bind (wpAny_newList ?_)
  have hoL : (s1.heap.push (seqObj "list" acc.toList.toArray 0)).get? s1.heap.objs.size = some (seqObj "list" acc.toList.toArray 0) := Heap.get?_push_size _ rfl
  have I2 : Inv X pins σ H { s1 with heap := s1.heap.push (seqObj "list" acc.toList.toArray 0) } := I1.kept (t' := s1.toks) fun b ob e => Heap.get?_push_of_some _ e
  refine wpAny_bind (wpAny_holding (wpAny_call_entry slot_list_sort ⟨_, hoL, rfl⟩ entry_list_sort (list_sort_treeKAny strKind_oneLt hoL hS.keysOf (fun v₁ v₂ rest e => keyKind_strs (by rw [← e]; exact hS)) (by rw [hacc]; exact hz) fun st' a1 a2 => ⟨_, rfl, ?_⟩) (args_list_sort _)))
  refine wpAny_pure ⟨_, rfl, ?_⟩
  obtain ⟨ss', h1, h2, h3⟩ := sorted_out_str hS a1 a2
  obtain ⟨ep, he⟩ := sortedHeap_at (out := (arrOf st').map (·.2)) hoL
  have ev := vals_of_strs h1
  have es := sortS_of h2 h3
  rw [es] at ev
  have hlen : (((sortS (x.map fun c => [c])).map mkS).map V.str).length ≤ sizeLine := by
    rw [List.length_map, List.length_map, (sortS_perm _).length_eq, List.length_map]
    exact hz
  refine ⟨.ref _, upd H s1.heap.objs.size (.lst _), I1.laid (t' := s1.toks) (fun b ob e => ?_) (Nat.le_refl _) ⟨hlen, _, ep, ev, he⟩, rfl, q _ (I1.hok.fresh (Nat.le_refl _))⟩
  have hb := Heap.lt_size e
  rw [sortedHeap_old (Nat.ne_of_lt hb) (by rw [Heap.size_push]; exact Nat.lt_succ_of_lt hb)]
  exact Heap.get?_push_of_some _ e
theorem sorted_strsR : CallR X (.builtin "sorted") (fun vs H Q => ∃ (a : Addr) (l : List (List Nat)), vs = [V.ref a] ∧ SqL X.K H a ((l.map mkS).map V.str) ∧ ∀ p, H p = none → Q (.ref p) (upd H p (.lst (((sortS l).map mkS).map V.str)))) := by
  intro pins s σ H vs us Q I r h
  obtain ⟨a, l, rfl, hs, q⟩ := h
  obtain ⟨its, rv, hl, hz⟩ := I.list hs
  rw [Vals.ref1 r]
  have hlen0 := rv.length
  refine PyProof.Rows.sorted_strsAny hl.isList rv.strs (by rw [← hlen0]; exact hz) fun out ys h1 h2 h3 => ?_
  obtain ⟨ep, he'⟩ := PyProof.Rows.sortedAll_at s.heap its out
  have es := sortS_of h2 h3
  subst es
  have hlen : (((sortS l).map mkS).map V.str).length ≤ sizeLine := by
    rw [List.length_map, List.length_map, (sortS_perm _).length_eq]
    rw [List.length_map, List.length_map] at hz
    exact hz
  exact ⟨.ref _, upd H (s.heap.objs.size + 1) (.lst _), I.laid (t' := s.toks) (fun _ _ => PyProof.Rows.sortedAll_old) (Nat.le_succ _) ⟨hlen, out.toList, ep, vals_of_strs h1, he'⟩, rfl, q _ (I.hok.fresh (Nat.le_succ _))⟩
theorem okStr.one {x : List Nat} (h : okStr x) {c : Nat} (hc : c ∈ x) : okStr [c] := ⟨by show 1 ≤ SZ; decide, fun d hd => by
  obtain rfl := List.mem_singleton.mp hd
  exact h.2 d hc⟩
def bname : BS → Value
  | .tuple => .type "tuple" | .list => .type "list" | .any => .builtin "any" | .all => .builtin "all" | .sum => .builtin "sum" | .sorted => .builtin "sorted" | .sortedSet => .none | .lenSet => .none | .min => .builtin "min" | .max => .builtin "max"
theorem bs_ok (hc : X.calm = true) (b : BS) (hb : b ≠ .sortedSet) {q : Sq} {v : V} {Q : VK} (r : Rel X.K ρ st H) (hq : SqV X.K H ρ q v)
    (g : Good X.K cA W σ ρ H (bsD st b q) (fun d _ ρ' H' => ∀ v, RD X.K H' ρ' d v → Q v H')) : anyCall X (bname b) [v] H Q := by
  have n0 := Nx.refl r
  unfold bsD at g
  split at g
  · cases hq with
    | l h1 h2 => exact ⟨_, cr_tupF, _, _, rfl, h1, fun p o hp ho => by
        obtain ⟨n, rd⟩ := Nx.tupF r hp ho h2
        exact g ρ _ n _ rd⟩
  · cases hq with
    | t h1 h2 => exact ⟨_, call_tuple_of, _, _, rfl, .inr ⟨h1.1, g ρ H n0 _ (.tup h1 h2)⟩⟩
  · cases hq with
    | l h1 h2 => exact ⟨_, call_list_of, _, _, rfl, .inl h1, fun p hp => by
        obtain ⟨n, rd⟩ := Nx.newL r hp h2
        exact g _ _ n _ rd⟩
  · cases hq with
    | t h1 h2 => exact ⟨_, call_list_of, _, _, rfl, .inr h1.1, fun p hp => by
        obtain ⟨n, rd⟩ := Nx.newL r hp h2
        exact g _ _ n _ rd⟩
  · cases hq with
    | l h1 h2 =>
      obtain ⟨bs, e, g⟩ := g.bind.ok?_
      have ev := dbls_ok e h2
      subst ev
      exact ⟨_, cr_any hc, _, bs, rfl, h1, g ρ H n0 ρ H n0 _ (.bl _)⟩
  · cases hq with
    | l h1 h2 =>
      obtain ⟨bs, e, g⟩ := g.bind.ok?_
      have ev := dbls_ok e h2
      subst ev
      exact ⟨_, cr_all hc, _, bs, rfl, h1, g ρ H n0 ρ H n0 _ (.bl _)⟩
  · cases hq with
    | l h1 h2 =>
      obtain ⟨ns, e, g⟩ := g.bind.ok?_
      obtain ⟨_, ev⟩ := dints_ok e h2
      subst ev
      exact ⟨_, cr_sum hc, _, ns, rfl, h1, g ρ H n0 ρ H n0 _ (.int _)⟩
  · cases hq with
    | l h1 h2 =>
      split at g
      · rename_i ns e
        obtain ⟨_, ev⟩ := dints_ok e h2
        subst ev
        refine ⟨_, cr_sortedI, _, ns, rfl, h1, fun ns' p hp hs hn => ?_⟩
        rw [sortI_eq hp hs]
        obtain ⟨n, rd⟩ := Nx.newL r hn (dints_rd (K := X.K) (H := H) (ρ := ρ) (sortI ns))
        exact g _ _ n _ rd
      · split at g
        · rename_i ns e
          obtain ⟨_, ev, ok⟩ := dstrs_ok e h2
          subst ev
          refine ⟨_, sorted_strsR, _, ns, rfl, h1, fun p hn => ?_⟩
          obtain ⟨n, rd⟩ := Nx.newL r hn (dstrs_rd (K := X.K) (H := H) (ρ := ρ) (ns := sortS ns) fun m hm => ok m ((sortS_perm ns).mem_iff.mp hm))
          exact g _ _ n _ rd
        · exact g.elim
  · cases hq with
    | s ok =>
      rename_i x
      refine ⟨_, sorted_strR hc, x, rfl, by rw [← SZ_eq]; exact ok.1, fun p hn => ?_⟩
      obtain ⟨n, rd⟩ := Nx.newL r hn (dstrs_rd (K := X.K) (H := H) (ρ := ρ) (ns := sortS (x.map fun c => [c])) fun m hm => by
        obtain ⟨c, hc, e⟩ := List.mem_map.mp ((sortS_perm _).mem_iff.mp hm)
        subst e
        exact ok.one hc)
      exact g _ _ n _ rd
  · exact absurd rfl hb
  · exact g.elim
end
end Lk

end
section
set_option linter.all false
set_option maxHeartbeats 1000000
namespace Lk
open PySem PySem.Spec PyProof.Rows L2
section
variable {K : PySem.W.Frag} {X : Cx} {cA : Nat → Option Addr} {W : WX} {σ : L2.St} {ρ : List Addr} {H : Hp} {st : Stt}
theorem atI_ok {ds : List D} {vs : List V} (h : RDs K H ρ ds vs) {i : Int} {d : D} (e : atI ds i = some d) : ∃ v, atI vs i = some v ∧ RD K H ρ d v := by
  unfold atI at e ⊢
  rw [← h.length]
  cases q : ixN ds.length i with
  | none => rw [q] at e; cases e
  | some j =>
    rw [q] at e
    exact h.get e
/-- a subscript of a list, a tuple, a text -/
theorem idx_ok {x y d : D} {v w : V} {Q : VK} (r : Rel X.K ρ st H) (hx : RD X.K H ρ x v) (hy : RD X.K H ρ y w) (e : idxD st x y = some d) (nd : ∀ l kvs, x = .ref l → st[l]? ≠ some (.dct kvs))
    (q : ∀ u, RD X.K H ρ d u → Q u H) : anyIx X v w H Q := by
  unfold idxD at e
  split at e
  · cases hx with
    | tup h1 h2 =>
      cases hy
      obtain ⟨u, h3, h4⟩ := atI_ok h2 e
      exact ⟨_, ix_tup, _, _, _, _, rfl, rfl, h1.1, h3, q u h4⟩
  · cases hx with
    | str o =>
      cases hy
      rename_i z i
      cases q2 : atI z i with
      | none => rw [q2] at e; cases e
      | some c =>
        rw [q2] at e
        cases e
        refine ⟨_, ix_str, _, _, c, rfl, rfl, by rw [str_len, ← SZ_eq]; exact o.1, by simpa using q2, q _ (.str (o.one ?_))⟩
        unfold atI at q2
        cases q3 : ixN z.length i with
        | none => rw [q3] at q2; cases q2
        | some j => rw [q3] at q2; exact List.mem_of_getElem? q2
  · rename_i l k
    cases hx with
    | ref ha =>
      split at e
      · split at e
        · cases hy
          rename_i q1 _ _
          obtain ⟨vs, h1, h2⟩ := r.lst q1 ha
          obtain ⟨u, h3, h4⟩ := atI_ok h2 e
          exact ⟨_, ix_list, _, _, _, _, rfl, rfl, .of h1, h3, q u h4⟩
        · cases e
      · split at e
        · cases hy
          rename_i q1 _ _
          obtain ⟨vs, h1, h2⟩ := r.lget (by unfold Lk.lget; rw [q1]) ha
          obtain ⟨u, h3, h4⟩ := atI_ok h2 e
          exact ⟨_, ix_list, _, _, _, _, rfl, rfl, h1, h3, q u h4⟩
        · cases e
      · rename_i q1
        exact absurd q1 (nd _ _ rfl)
      · cases e
  · cases e
theorem cut_ok {ds : List D} {vs : List V} (h : RDs K H ρ ds vs) (lo hi : Option Int) : RDs K H ρ (cut ds lo hi) (cutV vs lo hi) := by
  unfold cut cutV
  rw [h.length]
  exact (h.drop _).take _
theorem cut_all {α : Type} {xs : List α} {lo hi : Option Int} (h1 : HT.sIx xs.length 0 lo = 0) (h2 : HT.sIx xs.length xs.length hi = xs.length) : cut xs lo hi = xs := by
  unfold cut
  rw [h1, h2, List.drop_zero, Nat.sub_zero, List.take_length]
theorem cut_len {α : Type} (xs : List α) (lo hi : Option Int) : (cut xs lo hi).length ≤ xs.length := by
  unfold cut
  rw [List.length_take, List.length_drop]
  omega
theorem cut_mem {α : Type} {xs : List α} {lo hi : Option Int} {x : α} (h : x ∈ cut xs lo hi) : x ∈ xs := List.mem_of_mem_drop (List.mem_of_mem_take h)
theorem okStr.cut {x : List Nat} (h : okStr x) (lo hi : Option Int) : okStr (cut x lo hi) := h.sub (cut_len x lo hi) fun _ hc => cut_mem hc
theorem slc_ok {x : D} {lo hi : Option Int} {v : V} {Q : VK} (r : Rel X.K ρ st H) (hx : RD X.K H ρ x v)
    (g : Good X.K cA W σ ρ H (slcD st x lo hi) (fun d _ ρ' H' => ∀ v, RD X.K H' ρ' d v → Q v H')) : anySl X v lo hi H Q := by
  have n0 := Nx.refl r
  unfold slcD at g
  split at g
  · cases hx with
    | tup h1 h2 =>
      refine ⟨_, sl_tupF, _, _, rfl, h1.1, fun e => ?_, fun _ p o hp ho => ?_⟩
      · have h3 := cut_ok h2 lo hi
        unfold cutV at h3
        rw [e.1, e.2, List.drop_zero, Nat.sub_zero, List.take_length] at h3
        have hcut : cut _ lo hi = _ := cut_all (by rw [h2.length]; exact e.1) (by rw [h2.length]; exact e.2)
        exact g ρ H n0 _ (.tup (by rw [hcut]; exact h1) h3)
      · obtain ⟨n, rd⟩ := Nx.tupF r hp ho (cut_ok h2 lo hi)
        exact g ρ _ n _ rd
  · cases hx with
    | str o =>
      rename_i z
      refine ⟨_, sl_str, _, rfl, by rw [str_len, ← SZ_eq]; exact o.1, ?_⟩
      have e : cutS ⟨z.toArray⟩ lo hi = mkS (cut z lo hi) := by
        unfold cutS Lk.cut mkS
        simp [Str.length]
      rw [e]
      exact g ρ H n0 _ (.str (o.cut lo hi))
  · cases hx with
    | ref ha =>
      split at g
      · rename_i q1
        obtain ⟨vs, h1, h2⟩ := r.lget q1 ha
        refine ⟨_, sl_list, _, _, rfl, h1, fun p hp => ?_⟩
        obtain ⟨n, rd⟩ := Nx.newL r hp (cut_ok h2 lo hi)
        exact g _ _ n _ rd
      · exact g.elim
  · exact g.elim
def b1name : B1 → Value
  | .len => .builtin "len" | .abs => .builtin "abs" | .int => .type "int" | .str => .type "str" | .ord => .builtin "ord"
theorem b1_ok (b : B1) {x d : D} {v : V} {Q : VK} (r : Rel X.K ρ st H) (hx : RD X.K H ρ x v) (e : b1D st b x = some d) (q : ∀ u, RD X.K H ρ d u → Q u H) : anyCall X (b1name b) [v] H Q := by
  unfold b1D at e
  split at e
  · cases e
    cases hx with
    | str o => exact ⟨_, call_len_str, _, rfl, by rw [str_len, ← SZ_eq]; exact o.1, by rw [str_len]; exact q _ (.int _)⟩
  · cases e
    cases hx with
    | tup h1 h2 => exact ⟨_, call_len_seq, _, _, rfl, .inr h1.1, by rw [← h2.length]; exact q _ (.int _)⟩
  · cases hx with
    | ref ha =>
      split at e
      · rename_i q1
        cases e
        obtain ⟨vs, h1, h2⟩ := r.lst q1 ha
        exact ⟨_, call_len_seq, _, _, rfl, .inl (.of h1), by rw [← h2.length]; exact q _ (.int _)⟩
      · rename_i q1
        cases e
        obtain ⟨vs, h1, h2⟩ := r.lget (by unfold Lk.lget; rw [q1]) ha
        exact ⟨_, call_len_seq, _, _, rfl, .inl h1, by rw [← h2.length]; exact q _ (.int _)⟩
      · rename_i q1
        cases e
        obtain ⟨vs, h1, h2⟩ := r.dct q1 ha
        exact ⟨_, call_lenD, _, _, rfl, h1, by rw [← h2.length]; exact q _ (.int _)⟩
      · cases e
  · cases e; cases hx; exact ⟨_, call_abs, _, rfl, q _ (.int _)⟩
  · cases e; cases hx; exact ⟨_, call_int1, .inl ⟨_, rfl, q _ (.int _)⟩⟩
  · cases e; cases hx; exact ⟨_, call_int1, .inr ⟨_, rfl, q _ (.int _)⟩⟩
  · cases e
    cases hx with
    | str o => exact ⟨_, call_ord, _, rfl, rfl, q _ (.int _)⟩
  · cases e
/-- isinstance -/
def tyN : Ty → String
  | .tuple => "tuple" | .list => "list" | .bool => "bool" | .int => "int" | .str => "str" | .dict => "dict"
def anyIsi (X : Cx) : List V → Hp → VK → Prop := anyCall X (.builtin "isinstance")
theorem tyx_of (r : Rel K ρ st H) {x : D} {v : V} (hx : RD K H ρ x v) : (∃ l, x = .ref l ∧ st[l]? = none) ∨ ∃ t, TyX K H v (.type t) ∧ ∀ T b, tyIs st x T = some b → kitB t (tyN T) = some b := by
  cases hx with
  | non => exact .inr ⟨"NoneType", .base .non, fun T b e => by cases T <;> (unfold tyIs at e; cases e; decide +kernel)⟩
  | bl b => exact .inr ⟨"bool", .base (.bl b), fun T b e => by cases T <;> (unfold tyIs at e; cases e; decide +kernel)⟩
  | int b => exact .inr ⟨"int", .base (.int b), fun T b e => by cases T <;> (unfold tyIs at e; cases e; decide +kernel)⟩
  | str o => exact .inr ⟨"str", .base (.str _), fun T b e => by cases T <;> (unfold tyIs at e; cases e; decide +kernel)⟩
  | tup h1 h2 =>
    refine .inr ⟨"tuple", ?_, fun T b e => by cases T <;> (unfold tyIs at e; cases e; decide +kernel)⟩
    rcases h1.1 with (h1 | ⟨o, h1⟩) | ⟨o, its, n, h1, h2, _⟩
    · exact .base (.tup h1)
    · exact .fTuple h1
    · exact .kTuple h1 h2
  | @ref l a ha =>
    cases q : st[l]? with
    | none => exact .inl ⟨l, rfl, q⟩
    | some o =>
      have ro := r.ob l o a q ha
      refine .inr ?_
      cases ro with
      | lst h1 h2 => exact ⟨"list", .base (.lst h1), fun T b e => by cases T <;> (simp only [tyIs, q, Option.some.injEq] at e; subst e; decide +kernel)⟩
      | rol h1 h2 => exact ⟨"list", .base (.frz h1), fun T b e => by cases T <;> (simp only [tyIs, q, Option.some.injEq] at e; subst e; decide +kernel)⟩
      | rok h1 h2 =>
        obtain ⟨o, its, n, h1, h3, _⟩ := h1
        exact ⟨"list", .kList h1 h3, fun T b e => by cases T <;> (simp only [tyIs, q, Option.some.injEq] at e; subst e; decide +kernel)⟩
      | dct h1 h2 => exact ⟨"dict", .base (.dK h1), fun T b e => by cases T <;> (simp only [tyIs, q, Option.some.injEq] at e; subst e; decide +kernel)⟩
theorem isi1_ok {x : D} {T : Ty} {v : V} {b : Bool} {Q : VK} (r : Rel X.K ρ st H) (hx : RD X.K H ρ x v) (e : tysIs st x [T] = some b) (q : Q (.bl b) H) : anyIsi X [v, .ty (tyN T)] H Q := by
  unfold tysIs at e
  split at e
  · rename_i a c e1 e2
    unfold tysIs at e2
    cases e2
    cases e
    rcases tyx_of r hx with ⟨l, rfl, h⟩ | ⟨t, h1, h2⟩
    · cases T <;> (simp only [tyIs, h] at e1; cases e1)
    · exact ⟨_, call_isi, v, .ty (tyN T), _, .type (tyN T), a, rfl, .ty _, h1, kit_ty (h2 T a e1), by simpa using q⟩
  · cases e
/-! ### methods -/
def anyMt (X : Cx) (id : String) : V → List V → Hp → VK → Prop := fun x xs H Q => ∃ r, MtR X id r ∧ r x xs H Q
theorem anyMt_ok {id : String} : MtR X id (anyMt X id) := by
  intro pins s σ H x xs v us Q I rx rs ⟨r, h, q⟩
  exact h pins s σ H x xs v us Q I rx rs q
theorem Rel.tyL (r : Rel X.K ρ st H) {l : Nat} {a : Addr} {ds : List D} (h : st[l]? = some (.lst ds)) (ha : ρ[l]? = some a) : tyV X.K "list" (.ref a) H := by
  obtain ⟨vs, h1, _⟩ := r.lst h ha
  exact .inl ⟨rfl, _, .inl (.inl h1)⟩
theorem Rel.tyL' (r : Rel X.K ρ st H) {l : Nat} {a : Addr} {ds : List D} (h : Lk.lget st l = some ds) (ha : ρ[l]? = some a) : tyV X.K "list" (.ref a) H := by
  obtain ⟨vs, h1, _⟩ := r.lget h ha
  exact .inl ⟨rfl, _, h1⟩
theorem RDs.dropLast {ds : List D} {vs : List V} (h : RDs K H ρ ds vs) : RDs K H ρ ds.dropLast vs.dropLast := by
  rw [List.dropLast_eq_take, List.dropLast_eq_take, ← h.length]
  exact h.take _
theorem Rel.nrol {l : Nat} {o : Ob} (h : st[l]? = some o) (ho : ∀ ds, o ≠ .rol ds) : ∀ ds, st[l]? ≠ some (Ob.rol ds) := fun ds e => by
  rw [h] at e
  cases e
  exact ho ds rfl
theorem Rel.succ (r : Rel K ρ st H) {l : Nat} {a : Addr} (ha : ρ[l]? = some a) (hr : ∀ ds, st[l]? ≠ some (Ob.rol ds)) : a ∈ ρ.tail := by
  obtain ⟨z0, e0⟩ := r.zero
  cases l with
  | zero => exact absurd e0 (hr z0)
  | succ m => exact tail_get.mpr ⟨m, ha⟩
theorem Fr.upd_at {a : Addr} {v u : HO} (ha : a ∈ ρ.tail) (hp : H a = some v) (mv : Mut (some v)) : Fr ρ H (upd H a u) :=
  ⟨fun b x e hn => by rw [upd_ne (fun z => hn (by rw [z]; exact ha))]; exact e,
   fun b xs e => by rw [upd_ne (fun z => by rw [z, hp] at e; cases e; exact mv)]; exact e,
   fun b x y e => by rw [upd_ne (fun z => by rw [z, hp] at e; cases e; exact mv)]; exact e⟩
theorem Nx.setL (r : Rel K ρ st H) {l : Nat} {a : Addr} {xs ys : List D} {vs ws : List V} (ha : ρ[l]? = some a) (e : st[l]? = some (.lst xs)) (h1 : H a = some (.lst vs)) (h : RDs K H ρ ys ws) :
    Nx K ρ H ρ (st.set l (.lst ys)) (upd H a (.lst ws)) :=
  Nx.write r ha (Rel.nrol e fun _ z => nomatch z) h1 trivial (.lst upd_same (h.mono (Fr.upd_at (r.succ ha (Rel.nrol e fun _ z => nomatch z)) h1 trivial).z ⟨[], by simp⟩))
theorem Nx.setD (r : Rel K ρ st H) {l : Nat} {a : Addr} {xs ys : List (Ky × D)} {vs ws : List (Key × V)} (ha : ρ[l]? = some a) (e : st[l]? = some (.dct xs)) (h1 : H a = some (.dK vs)) (h : RKs K H ρ ys ws) :
    Nx K ρ H ρ (st.set l (.dct ys)) (upd H a (.dK ws)) :=
  Nx.write r ha (Rel.nrol e fun _ z => nomatch z) h1 trivial (.dct upd_same (h.mono (Fr.upd_at (r.succ ha (Rel.nrol e fun _ z => nomatch z)) h1 trivial).z ⟨[], by simp⟩))
theorem pop_ok {l : Nat} {xs : List D} {y : D} {a : Addr} {Q : VK} (r : Rel X.K ρ st H) (ha : ρ[l]? = some a) (e : st[l]? = some (.lst xs)) (e2 : xs[xs.length - 1]? = some y)
    (g : ∀ ρ' H', Nx X.K ρ H ρ' (st.set l (.lst xs.dropLast)) H' → ∀ v, RD X.K H' ρ' y v → Q v H') : anyMt X "list.pop" (.ref a) [] H Q := by
  obtain ⟨vs, h1, h2⟩ := r.lst e ha
  obtain ⟨v, h3, h4⟩ := h2.get e2
  rw [h2.length] at h3
  refine ⟨_, fun pins s σ H x xs v us Q I rx rs q => mt_pop pins s σ H x xs v us Q I rx rs q, a, vs, v, rfl, rfl, h1, h3, ?_⟩
  have n := Nx.setL r ha e h1 h2.dropLast
  exact g ρ _ n v (h4.nx n)
theorem append_ok {l : Nat} {xs : List D} {y : D} {a : Addr} {w : V} {Q : VK} (r : Rel X.K ρ st H) (ha : ρ[l]? = some a) (e : st[l]? = some (.lst xs)) (hy : RD X.K H ρ y w) (hl : xs.length < SZ)
    (g : ∀ ρ' H', Nx X.K ρ H ρ' (st.set l (.lst (xs ++ [y]))) H' → ∀ v, RD X.K H' ρ' .non v → Q v H') : anyMt X "list.append" (.ref a) [w] H Q := by
  obtain ⟨vs, h1, h2⟩ := r.lst e ha
  refine ⟨_, fun pins s σ H x xs v us Q I rx rs q => mt_append pins s σ H x xs v us Q I rx rs q, a, vs, w, rfl, rfl, h1, by rw [← h2.length, ← SZ_eq]; exact hl, ?_⟩
  have n := Nx.setL r ha e h1 (h2.append (.cons hy .nil))
  exact g ρ _ n .non .non
theorem upper_ok {x : List Nat} {Q : VK} (r : Rel X.K ρ st H) (o : okStr x) (h1 : ∀ c ∈ x, c < 128) (h2 : x.length ≤ 5592405) (q : ∀ v, RD X.K H ρ (.str (x.map PyProof.Rows.up1)) v → Q v H) : anyMt X "str.upper" (.str (mkS x)) [] H Q := by
  refine ⟨_, mt_upper, mkS x, rfl, rfl, by rw [show (mkS x).length = x.length from str_len x]; exact h2, ?_⟩
  rw [PyProof.Rows.upper_ascii (by simpa [mkS] using h1)]
  have e : (⟨(mkS x).cps.map PyProof.Rows.up1⟩ : Str) = mkS (x.map PyProof.Rows.up1) := by simp [mkS]
  rw [e]
  refine q _ (.str ⟨by rw [List.length_map]; exact o.1, fun c hc => ?_⟩)
  obtain ⟨d, hd, e⟩ := List.mem_map.mp hc
  have := h1 d hd
  unfold PyProof.Rows.up1 at e
  split at e <;> omega
theorem firstAt_ok {x : D} {w : V} (hx : RD K H ρ x w) (fx : x.flat = true) : ∀ {xs : List D} {vs : List V} {k j : Nat}, RDs K H ρ xs vs → xs.all D.flat = true → firstAt x k xs = some j → ∃ (m : Nat) (z : V), j = k + m ∧ vs[m]? = some z ∧ eqV z w = true ∧ ∀ (i : Nat) (z' : V), i < m → vs[i]? = some z' → eqV z' w = false
  | [], _, _, _, h, _, e => by unfold firstAt at e; cases e
  | y :: xs, _, k, j, h, f, e => by
    cases h with
    | cons h r =>
      rw [List.all_cons, Bool.and_eq_true] at f
      unfold firstAt at e
      have hq := feq_ok h hx f.1 fx
      split at e
      · rename_i he
        cases e
        exact ⟨0, _, rfl, rfl, by rw [hq]; exact he, fun i _ hi => absurd hi (Nat.not_lt_zero _)⟩
      · rename_i he
        obtain ⟨m, z, h1, h2, h3, h4⟩ := firstAt_ok hx fx r f.2 e
        refine ⟨m + 1, z, by omega, by simpa using h2, h3, fun i z' hi hz => ?_⟩
        cases i with
        | zero =>
          simp at hz
          subst hz
          rw [hq]
          simpa using he
        | succ i => exact h4 i z' (by omega) (by simpa using hz)
theorem indexL_ok {l j : Nat} {xs : List D} {y : D} {a : Addr} {w : V} {Q : VK} (r : Rel X.K ρ st H) (ha : ρ[l]? = some a) (e : lget st l = some xs) (hy : RD X.K H ρ y w) (f : (y.flat && xs.all D.flat) = true) (e2 : firstAt y 0 xs = some j)
    (q : ∀ v, RD X.K H ρ (.int (j : Nat)) v → Q v H) : anyMt X "list.index" (.ref a) [w] H Q := by
  obtain ⟨vs, h1, h2⟩ := r.lget e ha
  rw [Bool.and_eq_true] at f
  obtain ⟨m, z, h3, h4, h5, h6⟩ := firstAt_ok hy f.1 h2 f.2 e2
  have fl : vs.all flatV = true := (inSeq_ok hy h2 (by rw [f.1, f.2]; rfl)).1
  have hj : j = m := by omega
  subst hj
  exact ⟨_, mt_index, a, vs, w, _, z, rfl, rfl, h1, flat_ok hy f.1, fl, h4, h5, h6, q _ (.int _)⟩
theorem indexT_ok {j : Nat} {xs : List D} {ys : List (List Nat)} {y : List Nat} {a : Addr} {vs : List V} {Q : VK} (h1 : SqT X.K H a vs) (h2 : RDs X.K H ρ xs vs) (e : dstrs xs = some ys) (e2 : firstAt (.str y) 0 xs = some j)
    (q : ∀ v, RD X.K H ρ (.int (j : Nat)) v → Q v H) : anyMt X "tuple.index" (.ref a) [.str (mkS y)] H Q := by
  obtain ⟨ex, ev, ok⟩ := dstrs_ok e h2
  subst ev
  have key : ∀ (ys : List (List Nat)) (k j : Nat), firstAt (.str y) k (ys.map .str) = some j → ∃ m, j = k + m ∧ ys[m]? = some y ∧ ∀ i, i < m → ys[i]? ≠ some y := by
    intro ys
    induction ys with
    | nil => intro k j e; simp only [List.map_nil, firstAt] at e; cases e
    | cons z zs ih =>
      intro k j e
      simp only [List.map_cons, firstAt] at e
      by_cases hf : D.feq (.str z) (.str y) = true
      · have he : (z == y) = true := hf
        rw [if_pos hf] at e
        cases e
        exact ⟨0, rfl, by simpa using he, fun i hi => absurd hi (Nat.not_lt_zero _)⟩
      · have he : ¬ (z == y) = true := hf
        rw [if_neg hf] at e
        obtain ⟨m, h1, h2, h3⟩ := ih _ _ e
        refine ⟨m + 1, by omega, by simpa using h2, fun i hi => ?_⟩
        cases i with
        | zero => simpa using he
        | succ i => simpa using h3 i (by omega)
  rw [ex] at e2
  obtain ⟨m, h3, h4, h5⟩ := key ys 0 j e2
  have hj : j = m := by omega
  subst hj
  refine ⟨_, mt_tup_index, a, ys.map mkS, mkS y, j, rfl, rfl, h1, by rw [List.getElem?_map, h4]; rfl, fun i hi => ?_, q _ (.int _)⟩
  rw [List.getElem?_map]
  cases q2 : ys[i]? with
  | none => intro z; cases z
  | some z =>
    intro h
    have h : mkS z = mkS y := Option.some.inj h
    exact h5 i hi (by rw [q2, mkS_inj h])
theorem joinL_eq (sep : List Nat) (ys : List (List Nat)) : Txt.join (mkS sep) (ys.map mkS) = mkS (joinL sep ys) := by
  have e : ∀ ys : List (List Nat), TL.joinL sep ys = Lk.joinL sep ys := by
    intro ys
    induction ys with
    | nil => rfl
    | cons x r ih =>
      cases r with
      | nil => rfl
      | cons y r =>
        show x ++ (sep ++ TL.joinL sep (y :: r)) = x ++ sep ++ Lk.joinL sep (y :: r)
        rw [ih, List.append_assoc]
  have h2 : TL.tl (Txt.join (mkS sep) (ys.map mkS)) = joinL sep ys := by
    rw [TL.join_eq, TL.tl_join, ← e]
    congr 1
    induction ys with
    | nil => rfl
    | cons x r ih => rw [List.map_cons, List.map_cons, ih]; rfl
  generalize Txt.join (mkS sep) (ys.map mkS) = z at h2 ⊢
  rw [← h2]
  cases z
  simp [mkS, TL.tl]
theorem joinL_mem (sep : List Nat) : ∀ ys : List (List Nat), ∀ c ∈ joinL sep ys, c ∈ sep ∨ ∃ y ∈ ys, c ∈ y
  | [], c, h => by cases h
  | [x], c, h => .inr ⟨x, List.mem_singleton.mpr rfl, h⟩
  | x :: y :: r, c, h => by
    have h : c ∈ x ++ sep ++ joinL sep (y :: r) := h
    rcases List.mem_append.mp h with h | h
    · rcases List.mem_append.mp h with h | h
      · exact .inr ⟨x, List.mem_cons_self .., h⟩
      · exact .inl h
    · rcases joinL_mem sep (y :: r) c h with h | ⟨z, h1, h2⟩
      · exact .inl h
      · exact .inr ⟨z, List.mem_cons_of_mem _ h1, h2⟩
theorem joinL_len (sep : List Nat) : ∀ ys : List (List Nat), (joinL sep ys).length ≤ (ys.map List.length).sum + ys.length * sep.length
  | [] => by simp [joinL]
  | [x] => by simp [joinL]
  | x :: y :: r => by
    have h := joinL_len sep (y :: r)
    show (x ++ sep ++ joinL sep (y :: r)).length ≤ _
    rw [List.length_append, List.length_append, List.map_cons, List.sum_cons, List.length_cons, Nat.add_mul, Nat.one_mul]
    omega
theorem join_ok {sep : List Nat} {ys : List (List Nat)} {ds : List D} {q : V} {p : Addr} {vs : List V} {Q : VK} (os : okStr sep) (hq : q = .ref p) (hp : SqL X.K H p vs ∨ SqT X.K H p vs) (hd : RDs X.K H ρ ds vs) (e : dstrs ds = some ys)
    (hz : (ys.map List.length).sum + ys.length * sep.length ≤ SZ) (k : ∀ v, RD X.K H ρ (.str (joinL sep ys)) v → Q v H) : anyMt X "str.join" (.str (mkS sep)) [q] H Q := by
  obtain ⟨ex, ev, ok⟩ := dstrs_ok e hd
  subst ev hq
  have e2 : (ys.map mkS).map (fun s : Str => s.length) = ys.map List.length := by
    rw [List.map_map]
    exact List.map_congr_left fun x _ => str_len x
  refine ⟨_, mt_join, mkS sep, p, ys.map mkS, rfl, rfl, hp, ?_, ?_⟩
  · rw [e2, List.length_map, show (mkS sep).length = sep.length from str_len sep]
    exact hz
  · rw [joinL_eq]
    refine k _ (.str ⟨Nat.le_trans (joinL_len sep ys) hz, fun c hc => ?_⟩)
    rcases joinL_mem sep ys c hc with h | ⟨y, h1, h2⟩
    · exact os.2 c h
    · exact (ok y h1).2 c h2
end
end Lk

end
section
set_option linter.all false
set_option maxHeartbeats 1000000
namespace Lk
open PySem PySem.Spec PyProof.Rows L2
section
variable {K : PySem.W.Frag} {X : Cx} {cA : Nat → Option Addr} {W : WX} {σ : L2.St} {ρ : List Addr} {H : Hp} {st : Stt}
/-! ### x[::-1] of a text -/
theorem revS_eq (z : List Nat) (u : Tok) : ⟨((slicePicked (mkS z) none none (some (-1, u))).filterMap ((mkS z).cps[·]?)).toArray⟩ = mkS z.reverse := by
  have h := step_rev_list (mkS z) u
  have e : Txt.sliceBy (mkS z) none none (-1, u) = ⟨((slicePicked (mkS z) none none (some (-1, u))).filterMap ((mkS z).cps[·]?)).toArray⟩ := by
    unfold Txt.sliceBy
    rw [if_neg]
    rw [show ((some ((-1 : Int), u)).map (·.1)).getD 1 = -1 from rfl]
    simp
  rw [← e]
  generalize Txt.sliceBy (mkS z) none none (-1, u) = w at h ⊢
  obtain ⟨⟨w⟩⟩ := w
  have h : w = (List.range (mkS z).length).map fun k => (mkS z).cps.getD ((mkS z).length - 1 - k) 0 := h
  have hl : (mkS z).length = z.length := str_len z
  rw [hl] at h
  show mkS w = mkS z.reverse
  congr 1
  rw [h]
  apply List.ext_getElem
  · simp
  · intro i h1 h2
    rw [List.getElem_map, List.getElem_range, List.getElem_reverse]
    simp at h1
    simp [mkS, Array.getD]
    split
    · rfl
    · omega
def tRevS (te : TE) : TE := fun σ H Q => te σ H fun x H1 => ∃ z : List Nat, x = .str (mkS z) ∧ z.length ≤ sizeLine ∧ Q (.str (mkS z.reverse)) H1
theorem pe_revS {e : Expr} {te : TE} {k : Nat} {p1 p2 p3 pos : Pos} (he : PE X e te) : PE X (.Subscript e (.Slice none none (some (.UnaryOp .USub (.Constant (.int 1) k p1) p2)) p3) pos) (tRevS te) := by
  constructor
  intro pins s σ H Q I h
  refine Subscript_ (thn (he.run pins s σ H _ I h) fun v s1 q0 => ?_)
  obtain ⟨x, H1, I1, r1, z, ez, hz, q⟩ := q0
  subst ez
  obtain ⟨t, rfl⟩ := r1
  have hst : PO X (some (.UnaryOp .USub (.Constant (.int 1) k p1) p2)) (tPart (tUn (rU fun i => .int (-i)) (L2.tC (.int 1)))) := po_some (pe_un un_neg pe_int)
  refine wpAny_Slice (thn (po_none.run pins s1 σ H1 (fun o H2 => o = none ∧ H2 = H1) I1 ⟨rfl, rfl⟩) fun vl s2 w2 => ?_)
  obtain ⟨l, H2, I2, pl, el, e2⟩ := w2
  subst el e2
  refine thn (po_none.run pins s2 σ H2 (fun o H3 => o = none ∧ H3 = H2) I2 ⟨rfl, rfl⟩) fun vu s3 w3 => ?_
  obtain ⟨u, H3, I3, pu, eu, e3⟩ := w3
  subst eu e3
  refine thn (hst.run pins s3 σ H3 (fun o H4 => o = some (-1) ∧ H4 = H3) I3 ⟨1, rfl, -1, rfl, rfl, rfl⟩) fun vs s4 w4 => ?_
  obtain ⟨o, H4, I4, ps, eo, e4⟩ := w4
  subst eo e4
  have I5 : Inv X pins σ H4 { s4 with heap := s4.heap.push { cls := .type "slice", data := .fields #[vl, vu, vs] } } := I4.kept (t' := s4.toks) fun b ob q => Heap.get?_push_of_some _ q
  refine tail_any (ops := [.str (mkS z) t, .ref s4.heap.objs.size]) (typeIs_str _ _ _) F.slot_str_getitem.lookup ?_ (by with_unfolding_all rfl)
  obtain ⟨l', rfl, el'⟩ := IsPart.raw pl
  obtain ⟨u', rfl, eu'⟩ := IsPart.raw pu
  obtain ⟨s', rfl, es'⟩ := IsPart.raw ps
  cases l' with
  | some _ => cases el'
  | none => cases u' with
    | some _ => cases eu'
    | none => cases s' with
      | none => cases es'
      | some sv =>
        obtain ⟨i, u⟩ := sv
        have : i = -1 := Option.some.inj es'
        subst this
        refine wpAny_getItem_str_slice (l := none) (u := none) (st := some (-1, u)) ⟨_, Heap.get?_push_size _ rfl, rfl, rfl⟩ rfl ?_
        unfold sliceMade
        rw [if_neg (by rw [show ((some ((-1 : Int), u)).map (·.1)).getD 1 = -1 from rfl]; simp), revS_eq]
        have hl : (mkS z.reverse).length = z.length := by rw [show (mkS z.reverse).length = z.reverse.length from str_len _, List.length_reverse]
        exact ⟨by rw [hl]; exact hz, .str _, _, I5.tok _, ⟨_, rfl⟩, q⟩
end
end Lk

end
section
set_option linter.all false
set_option maxHeartbeats 1000000
namespace Lk
open PySem PySem.Spec PyProof.Rows L2
/-! slots -/
structure SlR (K : PySem.W.Frag) (H : Hp) (ρ : List Addr) (e : Ev) (σ : L2.St) : Prop where
  len : e.length = σ.length
  at' : ∀ (i : Nat) (d : D), e[i]? = some (some d) → ∃ v, σ[i]? = some (some v) ∧ RD K H ρ d v
/-- the exception that a suite holds -/
structure XI where
  x : Xn
  slot : Nat
  a : Addr
  cls : Value
  d : Option Addr
structure SR (K : PySem.W.Frag) (cA : Nat → Option Addr) (xi : Option XI) (ρ : List Addr) (st : Stt) (H : Hp) (e : Ev) (σ : L2.St) : Prop where
  rel : Rel K ρ st H
  sl : SlR K H ρ e σ
  xr : ∀ z, xi = some z → σ[z.slot]? = some (some (.ref z.a)) ∧ XR K cA ρ H z.x z.cls z.d
abbrev xo (xi : Option XI) : Option Xn := xi.map (·.x)
section
variable {K : PySem.W.Frag} {cA : Nat → Option Addr} {xi : Option XI} {ρ ρ' : List Addr} {st st' : Stt} {H H' : Hp} {e : Ev} {σ : L2.St}
theorem SlR.nx (s : SlR K H ρ e σ) (n : Nx K ρ H ρ' st' H') : SlR K H' ρ' e σ :=
  ⟨s.len, fun i d h => let ⟨v, h1, h2⟩ := s.at' i d h; ⟨v, h1, h2.nx n⟩⟩
theorem XR.nx {x : Xn} {cls : Value} {d : Option Addr} (h : XR K cA ρ H x cls d) (n : Nx K ρ H ρ' st' H') : XR K cA ρ' H' x cls d := by
  obtain ⟨h1, dd, gs, e, hn, hd, hf⟩ := h
  refine ⟨h1, dd, gs, e, fun hm => ?_, n.fr.keep _ _ hd hn, fun f d hl => ?_⟩
  · have z := n.new dd hm hn
    rw [hd] at z; cases z
  · obtain ⟨v, h2, h3⟩ := hf f d hl
    exact ⟨v, h2, h3.nx n⟩
theorem SR.nx (s : SR K cA xi ρ st H e σ) (n : Nx K ρ H ρ' st' H') : SR K cA xi ρ' st' H' e σ :=
  ⟨n.rel, s.sl.nx n, fun z hz => ⟨(s.xr z hz).1, (s.xr z hz).2.nx n⟩⟩
end
abbrev kD (K : PySem.W.Frag) (Q : VK) : D → Stt → List Addr → Hp → Prop := fun d _ ρ' H' => ∀ v, RD K H' ρ' d v → Q v H'
abbrev kB (Q : Bool → Hp → Prop) : Bool → Stt → List Addr → Hp → Prop := fun b _ _ H' => Q b H'
abbrev kDs (K : PySem.W.Frag) (Q : List V → Hp → Prop) : List D → Stt → List Addr → Hp → Prop := fun d _ ρ' H' => ∀ v, RDs K H' ρ' d v → Q v H'
/-- a sequence and where it lies -/
inductive VQ (K : PySem.W.Frag) (H : Hp) (ρ : List Addr) : D × Sq → V → Prop
  | new {p : Addr} {vs : List V} {ds : List D} : p ∉ ρ.tail → H p = some (.lst vs) → RDs K H ρ ds vs → VQ K H ρ (.non, .l ds) (.ref p)
  | pl {l : Nat} {a : Addr} {vs : List V} {ds : List D} : ρ[l]? = some a → SqL K H a vs → RDs K H ρ ds vs → VQ K H ρ (.ref l, .l ds) (.ref a)
  | tu {a : Addr} {vs : List V} {ds : List D} : Tp K H a vs ds → RDs K H ρ ds vs → VQ K H ρ (.tup ds, .t ds) (.ref a)
  | st {x : List Nat} : okStr x → VQ K H ρ (.str x, .s x) (.str (mkS x))
theorem VQ.sq {K : PySem.W.Frag} {H : Hp} {ρ : List Addr} {q : D × Sq} {v : V} (h : VQ K H ρ q v) : SqV K H ρ q.2 v := by
  cases h with
  | new _ h r => exact .l (.of h) r
  | pl _ h r => exact .l h r
  | tu h r => exact .t h r
  | st o => exact .s o
abbrev kQ (K : PySem.W.Frag) (Q : VK) : D × Sq → Stt → List Addr → Hp → Prop := fun d _ ρ' H' => ∀ v, VQ K H' ρ' d v → Q v H'
section
variable (K : PySem.W.Frag) (cA : Nat → Option Addr) (W : WX) (k : Cal) (xi : Option XI)
def tE (c : C) : TE := fun σ H Q => ∃ e st ρ, SR K cA xi ρ st H e σ ∧ Good K cA W σ ρ H (iE k (xo xi) c e st) (kD K Q)
def tT (c : T) : TT := fun σ H Q => ∃ e st ρ, SR K cA xi ρ st H e σ ∧ Good K cA W σ ρ H (iT k (xo xi) c e st) (kB Q)
def tA (c : CL) : TA := fun σ H Q => ∃ e st ρ, SR K cA xi ρ st H e σ ∧ Good K cA W σ ρ H (iA k (xo xi) c e st) (kDs K Q)
def tP (c : P) : TO := fun σ H Q => ∃ e st ρ, SR K cA xi ρ st H e σ ∧ Good K cA W σ ρ H (iP k (xo xi) c e st) (fun o _ _ H' => Q o H')
def tQ (c : SQ) : TE := fun σ H Q => ∃ e st ρ, SR K cA xi ρ st H e σ ∧ Good K cA W σ ρ H (iQ k (xo xi) c e st) (kQ K Q)
end
section
variable {X : Cx} {cA : Nat → Option Addr} {W : WX} {k : Cal} {xi : Option XI} {a b c : Expr} {pos : Pos} {ca cb cc : C} {ct cu : T}
theorem pei {t u : TE} {e : Expr} (h : PE X e t) (i : ∀ σ H Q, u σ H Q → t σ H Q) : PE X e u := PE.of fun σ H Q q => ⟨t, h, i σ H Q q⟩
theorem pti {t u : TT} {e : Expr} (h : PT X e t) (i : ∀ σ H Q, u σ H Q → t σ H Q) : PT X e u := PT.of fun σ H Q q => ⟨t, h, i σ H Q q⟩
theorem pai {t u : TA} {es : List Expr} (h : PA X es t) (i : ∀ σ H Q, u σ H Q → t σ H Q) : PA X es u := ⟨fun pos pins s σ H Q I q => h.run pos pins s σ H Q I (i σ H Q q)⟩
theorem poi {t u : TO} {es : Option Expr} (h : PO X es t) (i : ∀ σ H Q, u σ H Q → t σ H Q) : PO X es u := ⟨fun pins s σ H Q I q => h.run pins s σ H Q I (i σ H Q q)⟩

theorem s_var {i : Nat} {x : Str} (hN : X.N[i]? = some x) (hv : Vis X.env.scope x) (hd : (x == ("__debug__" : Str)) = false) (hcd : (x == ("__classdict__" : Str)) = false) : PE X (.Name x pos) (tE X.K cA W k xi (.var i)) :=
  pei (pe_var hN hv hd hcd) fun σ H Q ⟨e, st, ρ, r, g⟩ => by
    unfold iE at g
    split at g
    · rename_i d he
      obtain ⟨v, h1, h2⟩ := r.sl.at' i d he
      exact ⟨v, h1, g ρ H (Nx.refl r.rel) v h2⟩
    · exact g.elim
theorem s_non {j} : PE X (.Constant .none j pos) (tE X.K cA W k xi .non) := pei pe_non fun σ H Q ⟨e, st, ρ, r, g⟩ => g ρ H (Nx.refl r.rel) _ .non
theorem s_bl {b j} : PE X (.Constant (.bool b) j pos) (tE X.K cA W k xi (.bl b)) := pei pe_bl fun σ H Q ⟨e, st, ρ, r, g⟩ => g ρ H (Nx.refl r.rel) _ (.bl b)
theorem s_int {i j} : PE X (.Constant (.int i) j pos) (tE X.K cA W k xi (.int i)) := pei pe_int fun σ H Q ⟨e, st, ρ, r, g⟩ => g ρ H (Nx.refl r.rel) _ (.int i)
theorem s_str {x : List Nat} {j} (h : okStr x) : PE X (.Constant (.str (mkS x)) j pos) (tE X.K cA W k xi (.str x)) := pei pe_str fun σ H Q ⟨e, st, ρ, r, g⟩ => g ρ H (Nx.refl r.rel) _ (.str h)
theorem s_two {o : D → D → Stt → R D} {r2 : R2} {cc : C} {t : TE} {x : Expr} (h : PE X x (tOp r2 (tE X.K cA W k xi ca) (tE X.K cA W k xi cb))) (hc : ∀ e s, iE k (xo xi) cc e s = (iE k (xo xi) ca e s).bind fun x s => (iE k (xo xi) cb e s).bind fun y s => o x y s)
    (hr : ∀ {σ ρ st H Q x y v w}, Rel X.K ρ st H → RD X.K H ρ x v → RD X.K H ρ y w → Good X.K cA W σ ρ H (o x y st) (kD X.K Q) → r2 v w H Q) : PE X x (tE X.K cA W k xi cc) := pei h fun σ H Q ⟨e, st, ρ, r, g⟩ => by
  rw [hc] at g
  refine ⟨e, st, ρ, r, g.bind.mono fun x st1 ρ1 H1 _ n1 g v rv => ⟨e, st1, ρ1, r.nx n1, g.bind.mono fun y st2 ρ2 H2 _ n2 g w rw => ?_⟩⟩
  exact hr n2.rel (rv.nx n2) rw g
theorem s_bin (o : BO) (ha : PE X a (tE X.K cA W k xi ca)) (hb : PE X b (tE X.K cA W k xi cb)) : PE X (.BinOp a (bop o) b pos) (tE X.K cA W k xi (.bin o ca cb)) :=
  s_two (t := tE X.K cA W k xi ca) (pe_op anyOp_ok ha hb) (fun e s => by rw [iE]) fun r h1 h2 g => bin_ok o r h1 h2 g
theorem s_neg (ha : PE X a (tE X.K cA W k xi ca)) : PE X (.UnaryOp .USub a pos) (tE X.K cA W k xi (.neg ca)) := pei (pe_un un_neg ha) fun σ H Q ⟨e, st, ρ, r, g⟩ => by
  rw [iE] at g
  refine ⟨e, st, ρ, r, g.bind.mono fun x st1 ρ1 H1 _ n1 g v rv => ?_⟩
  split at g
  · cases rv
    exact ⟨_, rfl, g ρ1 H1 (Nx.refl n1.rel) _ (.int _)⟩
  · exact g.elim
theorem s_not (ha : PT X a (tT X.K cA W k xi ct)) : PT X (.UnaryOp .Not a pos) (tT X.K cA W k xi (.not ct)) := pti (pt_not ha) fun σ H Q ⟨e, st, ρ, r, g⟩ => by
  rw [iT] at g
  exact ⟨e, st, ρ, r, g.bind.mono fun b st1 ρ1 H1 _ n1 g => g ρ1 H1 (Nx.refl n1.rel)⟩
end
end Lk

end
section
set_option linter.all false
set_option maxHeartbeats 1000000
namespace Lk
open PySem PySem.Spec PyProof.Rows L2
/-! shapes -/
def noStar : Expr → Bool
  | .Starred _ _ => false
  | _ => true
def noStars : List Expr → Bool
  | [] => true
  | e :: es => noStar e && noStars es
def noSlice : Expr → Bool
  | .Slice _ _ _ _ => false
  | _ => true
def noSet : Expr → Bool
  | .Set _ _ _ => false
  | _ => true
def noComp : Expr → Bool
  | .ListComp _ _ _ _ => false
  | .SetComp _ _ _ _ => false
  | .DictComp _ _ _ _ _ => false
  | _ => true
def plainT : Expr → Bool
  | .UnaryOp _ _ _ => false
  | .BoolOp _ _ _ => false
  | .IfExp _ _ _ _ => false
  | .Compare _ _ _ _ => false
  | _ => true
def plainO : Expr → Bool
  | .Call _ [] [] _ => false
  | _ => true
theorem star_cons {e : Expr} {es : List Expr} {env : Env} (h : noStar e = true) : starEach (e :: es) env = (false, eval e env) :: starEach es env := by
  cases e <;> first | rfl | cases h
theorem star_any {pos : Pos} {env : Env} : ∀ {es : List Expr}, noStars es = true → (backTo pos (starEach es env)).any (·.1) = false
  | [], _ => by first | rfl | (unfold starEach; rfl)
  | e :: es, h => by
    unfold noStars at h
    rw [Bool.and_eq_true] at h
    rw [star_cons h.1]
    show (false || (backTo pos (starEach es env)).any (·.1)) = false
    rw [star_any h.2]; rfl
theorem star_all {pos : Pos} {env : Env} : ∀ {es : List Expr}, noStars es = true → (backTo pos (starEach es env)).all (fun x => !x.1) = true
  | [], _ => by first | rfl | (unfold starEach; rfl)
  | e :: es, h => by
    unfold noStars at h
    rw [Bool.and_eq_true] at h
    rw [star_cons h.1]
    show (true && (backTo pos (starEach es env)).all (fun x => !x.1)) = true
    rw [star_all h.2]; rfl
theorem few_of {cpos : Pos} {env : Env} {es : List Expr} (h : noStars es = true) (hl : es.length < 30) :
    ((backTo cpos (starEach es env)).all (fun x => !x.1) && (backToKw cpos (keywordEach [] env)).all (fun x => x.1.isSome) && decide (es.length + ([] : List Keyword).length + (if ([] : List Keyword).isEmpty then 0 else 1) < 30)) = true := by
  rw [star_all h]
  have : (backToKw cpos (keywordEach [] env)).all (fun x => x.1.isSome) = true := by first | rfl | (unfold keywordEach; rfl)
  rw [this]
  simpa using hl
theorem slice_no {b : Expr} (h : noSlice b = true) : PlainIx b := by
  intro o i
  cases b <;> first | rfl | cases h
theorem slice_no' {b : Expr} (h : noSlice b = true) : NoSl b := by
  intro o i
  cases b <;> first | rfl | cases h
theorem set_no {b : Expr} (op : CmpOp) (h : noSet b = true) : behindInMarks op b = false := by
  cases b <;> first | rfl | cases h
theorem comp_no {e : Expr} {t : Option Expr} {n : Nat} {env : Env} (h : noComp e = true) : swapsWith e t n env = pure false := by
  cases e <;> first | rfl | cases h
theorem comp_no1 {e t : Expr} {n : Nat} {env : Env} (h : noComp e = true) : swapsWithSole [t] e n env = pure false := comp_no h
theorem base_no {o : Expr} {name : Str} {env : Env} (h : plainO o = true) : attributeBase o name env (eval o env) = eval o env := by
  cases o with
  | Call f es kws p =>
    unfold plainO at h
    cases es with
    | nil => cases kws with
      | nil => cases h
      | cons k ks => cases f <;> rfl
    | cons x xs => cases f <;> rfl
  | _ => rfl
theorem true_no {a : Expr} {env : Env} (h : plainT a = true) : ∀ whole, isTrue a env whole = (do let v ← whole; standAt a.pos; holding [v] (truthy v)) := by
  intro whole
  cases a <;> first | rfl | cases h
theorem fold_no {e : Expr} {env : Env} (h : noSet e = true) : ∀ x, foldedSetIterable e env x = pure x := by
  intro x
  cases e <;> first | rfl | cases h
end Lk

end
section
set_option linter.all false
set_option maxHeartbeats 1000000
namespace Lk
open PySem PySem.Spec PyProof.Rows L2
section
variable {X : Cx} {cA : Nat → Option Addr} {W : WX} {k : Cal} {xi : Option XI} {a b c : Expr} {pos : Pos} {ca cb cc : C} {ct cu : T} {es : List Expr} {cs : CL} {cp cq : P}
theorem s_notv (ha : PE X a (tE X.K cA W k xi ca)) : PE X (.UnaryOp .Not a pos) (tE X.K cA W k xi (.not ca)) := pei (pe_notT ha) fun σ H Q ⟨e, st, ρ, r, g⟩ => by
  rw [iE] at g
  refine ⟨e, st, ρ, r, g.bind.mono fun x st1 ρ1 H1 _ n1 g v rv => ?_⟩
  obtain ⟨b, hb, g⟩ := g.bind.ok?_
  exact ⟨b, truth_ok n1.rel rv hb, g ρ1 H1 (Nx.refl n1.rel) ρ1 H1 (Nx.refl n1.rel) _ (.bl _)⟩
theorem s_cmp (hu : X.A.units + 64 < cLine) (o : CO) (ha : PE X a (tE X.K cA W k xi ca)) (hb : PE X b (tE X.K cA W k xi cb)) (hs : noSet b = true) : PE X (.Compare a [cop o] [b] pos) (tE X.K cA W k xi (.cmp o ca cb)) :=
  s_two (t := tE X.K cA W k xi ca) (o := fun x y s => (ok? (cmpD s o x y) s).bind fun b s => .ok (.bl b) s) (pe_cmpR anyOp_ok ha hb (set_no _ hs)) (fun e s => by rw [iE]) fun r h1 h2 g => by
    obtain ⟨b, e, g⟩ := g.bind.ok?_
    exact cmp_ok hu o r h1 h2 e (g _ _ (Nx.refl r) _ _ (Nx.refl r) _ (.bl b))
theorem s_cmpT (hu : X.A.units + 64 < cLine) (o : CO) (ha : PE X a (tE X.K cA W k xi ca)) (hb : PE X b (tE X.K cA W k xi cb)) (hs : noSet b = true) : PT X (.Compare a [cop o] [b] pos) (tT X.K cA W k xi (.val (.cmp o ca cb))) :=
  pti (pt_cmpR anyOp_ok ha hb (set_no _ hs)) fun σ H Q ⟨e, st, ρ, r, g⟩ => by
    rw [iT, iE] at g
    refine ⟨e, st, ρ, r, g.bind.bind.mono fun x st1 ρ1 H1 _ n1 g v rv => ⟨e, st1, ρ1, r.nx n1, g.bind.mono fun y st2 ρ2 H2 _ n2 g w rw => ?_⟩⟩
    obtain ⟨b, e, g⟩ := g.bind.ok?_
    exact cmp_ok hu o n2.rel (rv.nx n2) rw e ⟨b, rfl, g _ _ (Nx.refl n2.rel) _ _ (Nx.refl n2.rel) _ _ (Nx.refl n2.rel)⟩
theorem last_no {op op' : CmpOp} (hc : noSet c = true) (hb : noSet b = true) : lastMarks [op, op'] [b, c] = false := by
  show behindInMarks op' c = false
  exact set_no _ hc
theorem chain_ok {r : R D} {σ : L2.St} {ρ : List Addr} {st : Stt} {H : Hp} {Q : VK} (hu : X.A.units + 64 < cLine) (o p : CO) {e : Ev} (sr : SR X.K cA xi ρ st H e σ)
    (g : Good X.K cA W σ ρ H (iE k (xo xi) (.chain o p ca cb cc) e st) (kD X.K Q)) : tChain (anyOp X (compareOp (cop o))) (anyOp X (compareOp (cop p))) (tE X.K cA W k xi ca) (tE X.K cA W k xi cb) (tE X.K cA W k xi cc) σ H Q := by
  rw [iE] at g
  refine ⟨e, st, ρ, sr, g.bind.mono fun x st1 ρ1 H1 _ n1 g v rv => ⟨e, st1, ρ1, sr.nx n1, g.bind.mono fun y st2 ρ2 H2 _ n2 g w rw => ?_⟩⟩
  obtain ⟨b, eb, g⟩ := g.bind.ok?_
  refine cmp_ok hu o n2.rel (rv.nx n2) rw eb ⟨b, rfl, ?_⟩
  have g := g _ _ (Nx.refl n2.rel)
  cases b with
  | true =>
    rw [if_pos rfl]
    have g : Good X.K cA W σ ρ2 H2 (if true = true then (iE k (xo xi) cc e st2).bind fun z s => (ok? (cmpD s p y z) s).bind fun b s => .ok (.bl b) s else .ok (.bl false) st2) (kD X.K Q) := g
    rw [if_pos rfl] at g
    refine ⟨e, st2, ρ2, (sr.nx n1).nx n2, g.bind.mono fun z st3 ρ3 H3 _ n3 g u ru => ?_⟩
    obtain ⟨b, eb, g⟩ := g.bind.ok?_
    exact cmp_ok hu p n3.rel (rw.nx n3) ru eb (g _ _ (Nx.refl n3.rel) _ _ (Nx.refl n3.rel) _ (.bl b))
  | false =>
    rw [if_neg Bool.false_ne_true]
    have g : Good X.K cA W σ ρ2 H2 (if false = true then (iE k (xo xi) cc e st2).bind fun z s => (ok? (cmpD s p y z) s).bind fun b s => .ok (.bl b) s else .ok (.bl false) st2) (kD X.K Q) := g
    rw [if_neg Bool.false_ne_true] at g
    exact g _ _ (Nx.refl n2.rel) _ (.bl false)
theorem s_chain (hu : X.A.units + 64 < cLine) (o p : CO) (ha : PE X a (tE X.K cA W k xi ca)) (hb : PE X b (tE X.K cA W k xi cb)) (hc : PE X c (tE X.K cA W k xi cc)) (hs : noSet b = true) (hs' : noSet c = true) : PE X (.Compare a [cop o, cop p] [b, c] pos) (tE X.K cA W k xi (.chain o p ca cb cc)) :=
  pei (pe_chain anyOp_ok anyOp_ok ha hb hc (last_no hs' hs)) fun σ H Q ⟨e, st, ρ, r, g⟩ => chain_ok (r := .err) hu o p r g
theorem good_val {σ : L2.St} {ρ : List Addr} {st : Stt} {H : Hp} {Q : Bool → Hp → Prop} {e : Ev} (g : Good X.K cA W σ ρ H (iT k (xo xi) (.val cc) e st) (kB Q)) (hb : ∀ d s, iE k (xo xi) cc e st = .ok d s → ∃ b, d = .bl b) :
    Good X.K cA W σ ρ H (iE k (xo xi) cc e st) (kD X.K fun v H' => ∃ b, v = .bl b ∧ Q b H') := by
  rw [iT] at g
  refine g.bind.mono fun d st1 ρ1 H1 e1 n1 g v rv => ?_
  obtain ⟨b, rfl⟩ := hb d st1 e1
  cases rv
  exact ⟨b, rfl, g ρ1 H1 (Nx.refl n1.rel)⟩
theorem bind_bl {r : R Bool} {d : D} {s : Stt} (h : (r.bind fun b s => .ok (.bl b) s) = .ok d s) : ∃ b, d = .bl b := by
  cases r with
  | ok b s' => cases h; exact ⟨b, rfl⟩
  | exc x s' => cases h
  | err => cases h
theorem bind_inv {α β : Type} {r : R α} {f : α → Stt → R β} {d : β} {s : Stt} (h : r.bind f = .ok d s) : ∃ a s1, r = .ok a s1 ∧ f a s1 = .ok d s := by
  cases r with
  | ok b s' => exact ⟨b, s', rfl, h⟩
  | exc x s' => cases h
  | err => cases h
theorem s_chainT (hu : X.A.units + 64 < cLine) (o p : CO) (ha : PE X a (tE X.K cA W k xi ca)) (hb : PE X b (tE X.K cA W k xi cb)) (hc : PE X c (tE X.K cA W k xi cc)) (hs : noSet b = true) (hs' : noSet c = true) : PT X (.Compare a [cop o, cop p] [b, c] pos) (tT X.K cA W k xi (.val (.chain o p ca cb cc))) :=
  pti (pt_chain anyOp_ok anyOp_ok ha hb hc (last_no hs' hs)) fun σ H Q ⟨e, st, ρ, r, g⟩ => chain_ok (r := .err) hu o p r (good_val g fun d s h => by
    rw [iE] at h
    obtain ⟨x, s1, _, h⟩ := bind_inv h
    obtain ⟨y, s2, _, h⟩ := bind_inv h
    obtain ⟨t, s3, _, h⟩ := bind_inv h
    split at h
    · obtain ⟨z, s4, _, h⟩ := bind_inv h
      exact bind_bl h
    · cases h; exact ⟨_, rfl⟩)
/-! and, or -/
variable {rest : List Expr}
theorem s_and (ha : PE X a (tE X.K cA W k xi ca)) (hb : PE X (.BoolOp .And (b :: rest) pos) (tE X.K cA W k xi cb)) : PE X (.BoolOp .And (a :: b :: rest) pos) (tE X.K cA W k xi (.and ca cb)) := pei (pe_andT ha hb) fun σ H Q ⟨e, st, ρ, r, g⟩ => by
  rw [iE] at g
  refine ⟨e, st, ρ, r, g.bind.mono fun x st1 ρ1 H1 _ n1 g v rv => ?_⟩
  obtain ⟨b, hb, g⟩ := g.bind.ok?_
  refine ⟨b, truth_ok n1.rel rv hb, ?_⟩
  have g := g ρ1 H1 (Nx.refl n1.rel)
  cases b with
  | true => exact ⟨e, st1, ρ1, r.nx n1, g⟩
  | false => exact g ρ1 H1 (Nx.refl n1.rel) v rv
theorem s_or (ha : PE X a (tE X.K cA W k xi ca)) (hb : PE X (.BoolOp .Or (b :: rest) pos) (tE X.K cA W k xi cb)) : PE X (.BoolOp .Or (a :: b :: rest) pos) (tE X.K cA W k xi (.or ca cb)) := pei (pe_orT ha hb) fun σ H Q ⟨e, st, ρ, r, g⟩ => by
  rw [iE] at g
  refine ⟨e, st, ρ, r, g.bind.mono fun x st1 ρ1 H1 _ n1 g v rv => ?_⟩
  obtain ⟨b, hb, g⟩ := g.bind.ok?_
  refine ⟨b, truth_ok n1.rel rv hb, ?_⟩
  have g := g ρ1 H1 (Nx.refl n1.rel)
  cases b with
  | true => exact g ρ1 H1 (Nx.refl n1.rel) v rv
  | false => exact ⟨e, st1, ρ1, r.nx n1, g⟩
theorem pwi {t u : TT} {e : Expr} (h : PW X e t) (i : ∀ σ H Q, u σ H Q → t σ H Q) : PW X e u := ⟨fun wh pins s σ H Q I q => h.run wh pins s σ H Q I (i σ H Q q)⟩
theorem s_andT (ha : PT X a (tT X.K cA W k xi ct)) (hb : PW X (.BoolOp .And (b :: rest) pos) (tT X.K cA W k xi cu)) : PW X (.BoolOp .And (a :: b :: rest) pos) (tT X.K cA W k xi (.and ct cu)) := pwi (pw_and ha hb) fun σ H Q ⟨e, st, ρ, r, g⟩ => by
  rw [iT] at g
  refine ⟨e, st, ρ, r, g.bind.mono fun t st1 ρ1 H1 _ n1 g => ?_⟩
  cases t with
  | true => exact ⟨e, st1, ρ1, r.nx n1, g⟩
  | false => exact g ρ1 H1 (Nx.refl n1.rel)
theorem s_orT (ha : PT X a (tT X.K cA W k xi ct)) (hb : PW X (.BoolOp .Or (b :: rest) pos) (tT X.K cA W k xi cu)) : PW X (.BoolOp .Or (a :: b :: rest) pos) (tT X.K cA W k xi (.or ct cu)) := pwi (pw_or ha hb) fun σ H Q ⟨e, st, ρ, r, g⟩ => by
  rw [iT] at g
  refine ⟨e, st, ρ, r, g.bind.mono fun t st1 ρ1 H1 _ n1 g => ?_⟩
  cases t with
  | true => exact g ρ1 H1 (Nx.refl n1.rel)
  | false => exact ⟨e, st1, ρ1, r.nx n1, g⟩
theorem s_ite (hc : PT X c (tT X.K cA W k xi ct)) (ha : PE X a (tE X.K cA W k xi ca)) (hb : PE X b (tE X.K cA W k xi cb)) : PE X (.IfExp c a b pos) (tE X.K cA W k xi (.ite ct ca cb)) := pei (pe_ifExp hc ha hb) fun σ H Q ⟨e, st, ρ, r, g⟩ => by
  rw [iE] at g
  refine ⟨e, st, ρ, r, g.bind.mono fun t st1 ρ1 H1 _ n1 g => ?_⟩
  cases t with
  | true => exact ⟨e, st1, ρ1, r.nx n1, g⟩
  | false => exact ⟨e, st1, ρ1, r.nx n1, g⟩
theorem s_val (ha : PE X a (tE X.K cA W k xi ca)) (h : plainT a = true) : PT X a (tT X.K cA W k xi (.val ca)) := pti (pt_truth ha (true_no h)) fun σ H Q ⟨e, st, ρ, r, g⟩ => by
  rw [iT] at g
  refine ⟨e, st, ρ, r, g.bind.mono fun x st1 ρ1 H1 _ n1 g v rv => ?_⟩
  obtain ⟨b, hb, g⟩ := g.ok?_
  exact ⟨b, truth_ok n1.rel rv hb, g ρ1 H1 (Nx.refl n1.rel)⟩
/-! lists of expressions -/
theorem s_nil : PA X [] (tA X.K cA W k xi .nil) := pai pa_nil fun σ H Q ⟨e, st, ρ, r, g⟩ => g ρ H (Nx.refl r.rel) [] .nil
theorem s_cons (ha : PE X a (tE X.K cA W k xi ca)) (hr : PA X es (tA X.K cA W k xi cs)) (h : noStar a = true) : PA X (a :: es) (tA X.K cA W k xi (.cons ca cs)) := pai (pa_cons ha hr (star_cons h)) fun σ H Q ⟨e, st, ρ, r, g⟩ => by
  rw [iA] at g
  refine ⟨e, st, ρ, r, g.bind.mono fun x st1 ρ1 H1 _ n1 g v rv => ⟨e, st1, ρ1, r.nx n1, g.bind.mono fun xs st2 ρ2 H2 _ n2 g vs rvs => ?_⟩⟩
  exact g ρ2 H2 (Nx.refl n2.rel) _ (.cons (rv.nx n2) rvs)
theorem s_tup {j} (h : PA X es (tA X.K cA W k xi cs)) : PE X (.Tuple es j pos) (tE X.K cA W k xi (.tup cs)) := pei (pe_tupF h) fun σ H Q ⟨e, st, ρ, r, g⟩ => by
  rw [iE] at g
  refine ⟨e, st, ρ, r, g.bind.mono fun xs st1 ρ1 H1 _ n1 g vs rvs => ?_⟩
  obtain ⟨hc, g⟩ := g.chk
  refine ⟨by rw [← rvs.length, ← SZ_eq]; exact of_decide_eq_true hc, fun p o hp ho => ?_⟩
  obtain ⟨n, rd⟩ := Nx.tupF n1.rel hp ho rvs
  exact g ρ1 _ n _ rd
theorem s_lstq (h : PA X es (tA X.K cA W k xi cs)) : PE X (.List es pos) (tQ X.K cA W k xi (.lst cs)) := pei (pe_lst h) fun σ H Q ⟨e, st, ρ, r, g⟩ => by
  rw [iQ] at g
  refine ⟨e, st, ρ, r, g.bind.mono fun xs st1 ρ1 H1 _ n1 g vs rvs => ?_⟩
  obtain ⟨hc, g⟩ := g.chk
  refine ⟨by rw [← rvs.length, ← SZ_eq]; exact of_decide_eq_true hc, fun p hp => ?_⟩
  have n := Nx.side (o := .lst vs) n1.rel hp
  exact g ρ1 _ n (.ref p) (.new (n1.rel.out hp) upd_same (rvs.nx n))
theorem s_valq (h : PE X a (tE X.K cA W k xi ca)) : PE X a (tQ X.K cA W k xi (.val ca)) := pei h fun σ H Q ⟨e, st, ρ, r, g⟩ => by
  rw [iQ] at g
  refine ⟨e, st, ρ, r, g.bind.mono fun x st1 ρ1 H1 _ n1 g v rv => ?_⟩
  obtain ⟨q, hq, g⟩ := g.bind.ok?_
  refine g ρ1 H1 (Nx.refl n1.rel) ρ1 H1 (Nx.refl n1.rel) v ?_
  have z := seqOf_ok n1.rel rv hq
  cases rv with
  | tup h1 h2 => simp only [seqOf] at hq; cases hq; exact .tu h1 h2
  | str o => simp only [seqOf] at hq; cases hq; exact .st o
  | @ref l a ha =>
    simp only [seqOf] at hq
    cases hl : lget st1 l with
    | none => rw [hl] at hq; cases hq
    | some ds =>
      rw [hl] at hq
      cases hq
      obtain ⟨vs, h1, h2⟩ := n1.rel.lget hl ha
      exact .pl ha h1 h2
  | _ => cases hq
/-- a new list, a place of ours -/
theorem s_newl {q : SQ} (h : PE X a (tE X.K cA W k xi (.newl q))) : PE X a (tE X.K cA W k xi (.newl q)) := h
/-! subscripts and slices -/
theorem s_none : PO X none (tP X.K cA W k xi .none) := poi po_none fun σ H Q ⟨e, st, ρ, r, g⟩ => g ρ H (Nx.refl r.rel)
theorem s_some (ha : PE X a (tE X.K cA W k xi ca)) : PO X (some a) (tP X.K cA W k xi (.some ca)) := poi (po_some ha) fun σ H Q ⟨e, st, ρ, r, g⟩ => by
  rw [iP] at g
  refine ⟨e, st, ρ, r, g.bind.mono fun x st1 ρ1 H1 _ n1 g v rv => ?_⟩
  split at g
  · cases rv
    exact ⟨_, rfl, g ρ1 H1 (Nx.refl n1.rel)⟩
  · exact g.elim
theorem s_slc {lo hi : Option Expr} {p2 : Pos} (ha : PE X a (tE X.K cA W k xi ca)) (hl : PO X lo (tP X.K cA W k xi cp)) (hh : PO X hi (tP X.K cA W k xi cq)) : PE X (.Subscript a (.Slice lo hi none p2) pos) (tE X.K cA W k xi (.slc ca cp cq)) :=
  pei (pe_slice anySl_ok ha hl hh) fun σ H Q ⟨e, st, ρ, r, g⟩ => by
    rw [iE] at g
    refine ⟨e, st, ρ, r, g.bind.mono fun x st1 ρ1 H1 _ n1 g v rv => ⟨e, st1, ρ1, r.nx n1, g.bind.mono fun l st2 ρ2 H2 _ n2 g => ⟨e, st2, ρ2, (r.nx n1).nx n2, g.bind.mono fun u st3 ρ3 H3 _ n3 g => ?_⟩⟩⟩
    exact slc_ok n3.rel ((rv.nx n2).nx n3) g
theorem s_rev {j : Nat} {p1 p2 p3 : Pos} (ha : PE X a (tE X.K cA W k xi ca)) : PE X (.Subscript a (.Slice none none (some (.UnaryOp .USub (.Constant (.int 1) j p1) p2)) p3) pos) (tE X.K cA W k xi (.rev ca)) := PE.of fun σ H Q ⟨e, st, ρ, r, g⟩ => by
  rw [iE] at g
  have ht : ∀ Q', Good X.K cA W σ ρ H (iE k (xo xi) ca e st) (kD X.K Q') → tE X.K cA W k xi ca σ H Q' := fun Q' q => ⟨e, st, ρ, r, q⟩
  have g := g.bind
  generalize iE k (xo xi) ca e st = rr at g ht
  cases rr with
  | err => exact g.elim
  | exc x s1 => exact ⟨_, pe_revS ha, ht _ g⟩
  | ok d s1 =>
    cases d with
    | str z =>
      refine ⟨_, pe_revS ha, ht _ fun ρ1 H1 n1 v rv => ?_⟩
      have g := g ρ1 H1 n1
      cases rv with
      | str o => exact ⟨z, rfl, by rw [← SZ_eq]; exact o.1, g ρ1 H1 (Nx.refl n1.rel) _ (.str ⟨by rw [List.length_reverse]; exact o.1, fun c hc => o.2 c (List.mem_reverse.mp hc)⟩)⟩
    | ref l =>
      refine ⟨_, pe_revL ha, ht _ fun ρ1 H1 n1 v rv => ?_⟩
      have g : Good X.K cA W σ ρ1 H1 (revD s1 (.ref l)) (kD X.K Q) := g ρ1 H1 n1
      cases rv with
      | ref h =>
        simp only [revD] at g
        split at g
        · rename_i q1
          obtain ⟨vs, h1, h2⟩ := n1.rel.lget q1 h
          refine ⟨_, vs, rfl, h1, fun p hp => ?_⟩
          obtain ⟨n, rd⟩ := Nx.newL n1.rel hp h2.reverse
          exact g _ _ n _ rd
        · exact g.elim
    | _ => exact ⟨_, pe_revS ha, ht _ fun ρ1 H1 n1 v rv => (g ρ1 H1 n1).elim⟩
theorem s_idx (hu : X.A.units + 64 < cLine) (ha : PE X a (tE X.K cA W k xi ca)) (hb : PE X b (tE X.K cA W k xi cb)) (h : noSlice b = true) : PE X (.Subscript a b pos) (tE X.K cA W k xi (.idx ca cb)) := PE.of fun σ H Q ⟨e, st, ρ, r, g⟩ => by
  rw [iE] at g
  have ht : ∀ Q', Good X.K cA W σ ρ H (iE k (xo xi) ca e st) (kD X.K Q') → tE X.K cA W k xi ca σ H Q' := fun Q' q => ⟨e, st, ρ, r, q⟩
  have g := g.bind
  have norm : (∀ d s1, iE k (xo xi) ca e st = .ok d s1 → ∀ y s2, iE k (xo xi) cb e s1 = .ok y s2 → ∀ l kvs, d = .ref l → s2[l]? ≠ some (.dct kvs)) → ∃ u, PE X (.Subscript a b pos) u ∧ u σ H Q := fun hn =>
    ⟨_, pe_ix anyIx_ok ha hb (slice_no h), ht _ (g.mono fun x st1 ρ1 H1 e1 n1 g v rv => ⟨e, st1, ρ1, r.nx n1, g.bind.mono fun y st2 ρ2 H2 e2 n2 g w rw => by
      obtain ⟨d, hd, g⟩ := g.ok?_
      exact idx_ok n2.rel (rv.nx n2) rw hd (hn x st1 e1 y st2 e2) fun u ru => g ρ2 H2 (Nx.refl n2.rel) u ru⟩)⟩
  by_cases hq : ∃ l s1 y s2 kvs, iE k (xo xi) ca e st = .ok (.ref l) s1 ∧ iE k (xo xi) cb e s1 = .ok y s2 ∧ s2[l]? = some (.dct kvs)
  · obtain ⟨l, s1, y, s2, kvs, e1, e2, e3⟩ := hq
    refine ⟨_, pe_dget (by omega) ha hb (slice_no' h), ht _ ?_⟩
    rw [e1] at g ⊢
    refine g.mono fun x st1 ρ1 H1 he n1 g v rv => ?_
    cases he
    refine ⟨e, s1, ρ1, r.nx n1, ?_⟩
    have g := g.bind
    rw [e2] at g ⊢
    refine g.mono fun z st2 ρ2 H2 he n2 g w rw => ?_
    cases he
    obtain ⟨d, hd, g⟩ := g.ok?_
    have rv := rv.nx n2
    cases rv with
    | @ref _ p hp =>
      simp only [idxD, e3] at hd
      cases hk : keyOf y with
      | none => rw [hk] at hd; cases hd
      | some ky =>
        rw [hk] at hd
        have hd : kval kvs ky = some d := hd
        obtain ⟨o, h1, h2⟩ := n2.rel.dget e3 hp rw hk
        rcases h2 with ⟨h3, _⟩ | ⟨d', u, h3, rfl, h4⟩
        · rw [h3] at hd; cases hd
        · rw [h3] at hd
          cases hd
          exact ⟨p, u, rfl, h1, g ρ2 H2 (Nx.refl n2.rel) u h4⟩
  · exact norm fun d s1 e1 y s2 e2 l kvs hd hl => hq ⟨l, s1, y, s2, kvs, by rw [e1, hd], e2, hl⟩
end
end Lk

end
section
set_option linter.all false
set_option maxHeartbeats 1000000
namespace Lk
open PySem PySem.Spec PyProof.Rows L2
section
variable {X : Cx} {cA : Nat → Option Addr} {W : WX} {k : Cal} {xi : Option XI} {a b c : Expr} {p pos apos : Pos} {ca cb cc : C} {ct cu : T} {es : List Expr} {cs : CL} {cq : SQ} {x : Str}
theorem callv {f : Value} {t : TA} (hf : (∃ id, f = .builtin id) ∨ ∃ T, f = .type T) (hg : Gl X x) (hm : X.mg x = none) (hv : bootBuiltins x = some f) (hn : x ≠ "__name__") (hdb : (x == ("__debug__" : Str)) = false) (ha : PA X (a :: es) t)
    (h1 : noStar a = true) (h2 : noStars es = true) : PE X (.Call (.Name x p) (a :: es) [] pos) (tCB (anyCall X f) t) := by
  rcases hf with ⟨id, rfl⟩ | ⟨T, rfl⟩
  · exact pe_callB anyCall_ok hg hm hv ha hn hdb (star_cons h1) (star_any h2)
  · exact pe_callTy anyCall_ok hg hm hv ha hn hdb (star_cons h1) (star_any h2)
def isBT : Value → Bool
  | .builtin _ => true
  | .type _ => true
  | _ => false
theorem isBT_ok {f : Value} (h : isBT f = true) : (∃ id, f = .builtin id) ∨ ∃ T, f = .type T := by
  cases f <;> first | exact .inl ⟨_, rfl⟩ | exact .inr ⟨_, rfl⟩ | cases h
theorem pa1 {t : TE} (ha : PE X a t) (h1 : noStar a = true) : PA X [a] (tCons t tNil) := pa_cons ha pa_nil (star_cons h1)
theorem s_b1 (o : B1) (hg : Gl X x) (hm : X.mg x = none) (hv : bootBuiltins x = some (b1name o)) (hn : x ≠ "__name__") (hdb : (x == ("__debug__" : Str)) = false) (ha : PE X a (tE X.K cA W k xi ca)) (h1 : noStar a = true) : PE X (.Call (.Name x p) [a] [] pos) (tE X.K cA W k xi (.b1 o ca)) :=
  pei (callv (by cases o <;> first | exact .inl ⟨_, rfl⟩ | exact .inr ⟨_, rfl⟩) hg hm hv hn hdb (pa1 ha h1) h1 rfl) fun σ H Q ⟨e, st, ρ, r, g⟩ => by
    rw [iE] at g
    refine ⟨e, st, ρ, r, g.bind.mono fun x st1 ρ1 H1 _ n1 g v rv => ?_⟩
    obtain ⟨d, hd, g⟩ := g.ok?_
    exact b1_ok o n1.rel rv hd fun u ru => g ρ1 H1 (Nx.refl n1.rel) u ru
theorem s_bs (hc : X.calm = true) (o : BS) (ho : isBT (bname o) = true) (hg : Gl X x) (hm : X.mg x = none) (hv : bootBuiltins x = some (bname o)) (hn : x ≠ "__name__") (hdb : (x == ("__debug__" : Str)) = false) (ha : PE X a (tQ X.K cA W k xi cq)) (h1 : noStar a = true) : PE X (.Call (.Name x p) [a] [] pos) (tE X.K cA W k xi (.bs o cq)) :=
  pei (callv (isBT_ok ho) hg hm hv hn hdb (pa1 ha h1) h1 rfl) fun σ H Q ⟨e, st, ρ, r, g⟩ => by
    rw [iE] at g
    refine ⟨e, st, ρ, r, g.bind.mono fun x st1 ρ1 H1 _ n1 g v hq => ?_⟩
    exact bs_ok hc o (fun e => by subst e; cases ho) n1.rel hq.sq g
theorem sortI_lt {l : List Int} (h : l.Nodup) : (sortI l).Pairwise (· < ·) := by
  have h1 := sortI_sorted l
  have h2 : (sortI l).Nodup := (sortI_perm l).nodup_iff.2 h
  exact (List.pairwise_and_iff.2 ⟨h1, h2⟩).imp fun ⟨a, b⟩ => by omega
/-- sorted(set(ints)) -/
theorem s_srtset {y : Str} {p' p2 : Pos} (hc : X.calm = true) (hg : Gl X x) (hm : X.mg x = none) (hv : bootBuiltins x = some (.builtin "sorted")) (hn : x ≠ "__name__") (hdb : (x == ("__debug__" : Str)) = false)
    (hg' : Gl X y) (hm' : X.mg y = none) (hv' : bootBuiltins y = some (.type "set")) (hn' : y ≠ "__name__") (hdb' : (y == ("__debug__" : Str)) = false) (ha : PE X a (tQ X.K cA W k xi cq)) (h1 : noStar a = true) : PE X (.Call (.Name x p) [.Call (.Name y p') [a] [] p2] [] pos) (tE X.K cA W k xi (.bs .sortedSet cq)) :=
  pei (callv (.inl ⟨_, rfl⟩) hg hm hv hn hdb (pa1 (callv (.inr ⟨_, rfl⟩) hg' hm' hv' hn' hdb' (pa1 ha h1) h1 rfl) rfl) rfl rfl) fun σ H Q ⟨e, st, ρ, r, g⟩ => by
    rw [iE] at g
    refine ⟨e, st, ρ, r, g.bind.mono fun z st1 ρ1 H1 _ n1 g v hq => ?_⟩
    obtain ⟨zd, zs⟩ := z
    have hs : SqV X.K H1 ρ1 zs v := hq.sq
    cases hs with
    | t _ _ => exact g.elim
    | s _ => exact g.elim
    | l h1 h2 =>
      have g : Good X.K cA W σ ρ1 H1 (bsD st1 .sortedSet (.l _)) (kD X.K Q) := g
      unfold bsD at g
      simp only at g
      split at g
      · rename_i ns e1
        obtain ⟨hk, g⟩ := g.chk
        rw [Bool.and_eq_true, decide_eq_true_eq, decide_eq_true_eq] at hk
        obtain ⟨_, ev⟩ := dints_ok e1 h2
        subst ev
        refine ⟨_, cr_setI hc, _, ns, rfl, h1, hk.1, fun q hq => ⟨_, cr_sortedSet hc, q, _, _, rfl, upd_same, hk.2, fun ns' p hs hm hl hp => ?_⟩⟩
        have es : ns' = sortI (dedI ns) := lt_pw_eq hs (sortI_lt (dedI_nodup ns)) fun x => by
          rw [hm x, decide_eq_true_eq, (sortI_perm _).mem_iff, dedI_mem]
        subst es
        have n2 := Nx.side (o := SetO X.w q (fun j => decide (j ∈ ns)) (dedI ns).length) n1.rel hq
        obtain ⟨n3, rd⟩ := Nx.newL n2.rel hp (dints_rd (K := X.K) (H := upd H1 q (SetO X.w q (fun j => decide (j ∈ ns)) (dedI ns).length)) (ρ := ρ1) (sortI (dedI ns)))
        exact g _ _ (n2.trans n3) _ rd
      · exact g.elim
theorem s_min2 (hc : X.calm = true) (hg : Gl X x) (hm : X.mg x = none) (hv : bootBuiltins x = some (.builtin "min")) (hn : x ≠ "__name__") (hdb : (x == ("__debug__" : Str)) = false) (ha : PE X a (tE X.K cA W k xi ca)) (hb : PE X b (tE X.K cA W k xi cb)) (h1 : noStar a = true) (h2 : noStar b = true) : PE X (.Call (.Name x p) [a, b] [] pos) (tE X.K cA W k xi (.min2 ca cb)) :=
  pei (callv (.inl ⟨_, rfl⟩) hg hm hv hn hdb (pa_cons ha (pa1 hb h2) (star_cons h1)) h1 (by simp [noStars, h2])) fun σ H Q ⟨e, st, ρ, r, g⟩ => by
    rw [iE] at g
    refine ⟨e, st, ρ, r, g.bind.mono fun x st1 ρ1 H1 _ n1 g v rv => ⟨e, st1, ρ1, r.nx n1, g.bind.mono fun y st2 ρ2 H2 _ n2 g w rw => ?_⟩⟩
    split at g
    · have rv := rv.nx n2
      cases rv; cases rw
      exact ⟨_, call_min2 hc, _, _, rfl, g ρ2 H2 (Nx.refl n2.rel) _ (.int _)⟩
    · exact g.elim
theorem s_max2 (hc : X.calm = true) (hg : Gl X x) (hm : X.mg x = none) (hv : bootBuiltins x = some (.builtin "max")) (hn : x ≠ "__name__") (hdb : (x == ("__debug__" : Str)) = false) (ha : PE X a (tE X.K cA W k xi ca)) (hb : PE X b (tE X.K cA W k xi cb)) (h1 : noStar a = true) (h2 : noStar b = true) : PE X (.Call (.Name x p) [a, b] [] pos) (tE X.K cA W k xi (.max2 ca cb)) :=
  pei (callv (.inl ⟨_, rfl⟩) hg hm hv hn hdb (pa_cons ha (pa1 hb h2) (star_cons h1)) h1 (by simp [noStars, h2])) fun σ H Q ⟨e, st, ρ, r, g⟩ => by
    rw [iE] at g
    refine ⟨e, st, ρ, r, g.bind.mono fun x st1 ρ1 H1 _ n1 g v rv => ⟨e, st1, ρ1, r.nx n1, g.bind.mono fun y st2 ρ2 H2 _ n2 g w rw => ?_⟩⟩
    split at g
    · have rv := rv.nx n2
      cases rv; cases rw
      exact ⟨_, call_max2 hc, _, _, rfl, g ρ2 H2 (Nx.refl n2.rel) _ (.int _)⟩
    · exact g.elim
theorem s_isi {y : Str} {T : Ty} {p' : Pos} (hg : Gl X x) (hm : X.mg x = none) (hv : bootBuiltins x = some (.builtin "isinstance")) (hn : x ≠ "__name__") (hdb : (x == ("__debug__" : Str)) = false)
    (hg' : Gl X y) (hm' : X.mg y = none) (hv' : bootBuiltins y = some (.type (tyN T))) (hn' : y ≠ "__name__") (hdb' : (y == ("__debug__" : Str)) = false) (ha : PE X a (tE X.K cA W k xi ca)) (h1 : noStar a = true) : PE X (.Call (.Name x p) [a, .Name y p'] [] pos) (tE X.K cA W k xi (.isi ca [T])) :=
  pei (callv (.inl ⟨_, rfl⟩) hg hm hv hn hdb (pa_cons ha (pa1 (pe_bltn (v := .ty (tyN T)) hg' hm' hv' rfl hn' hdb') rfl) (star_cons h1)) h1 rfl) fun σ H Q ⟨e, st, ρ, r, g⟩ => by
    rw [iE] at g
    refine ⟨e, st, ρ, r, g.bind.mono fun x st1 ρ1 H1 _ n1 g v rv => ?_⟩
    obtain ⟨d, hd, g⟩ := g.bind.ok?_
    exact isi1_ok n1.rel rv hd (g ρ1 H1 (Nx.refl n1.rel) ρ1 H1 (Nx.refl n1.rel) _ (.bl _))
theorem s_newlst {j : List Expr} (h : PA X j (tA X.K cA W k xi cs)) : PE X (.List j pos) (tE X.K cA W k xi (.newl (.lst cs))) := pei (pe_lst h) fun σ H Q ⟨e, st, ρ, r, g⟩ => by
  rw [iE, iQ] at g
  refine ⟨e, st, ρ, r, g.bind.bind.mono fun xs st1 ρ1 H1 _ n1 g vs rvs => ?_⟩
  obtain ⟨hc, g⟩ := g.chk
  refine ⟨by rw [← rvs.length, ← SZ_eq]; exact of_decide_eq_true hc, fun p hp => ?_⟩
  obtain ⟨n, rd⟩ := Nx.newL n1.rel hp rvs
  exact g ρ1 H1 (Nx.refl n1.rel) _ _ n _ rd
/-! ### dicts -/
def trsOf (K : PySem.W.Frag) (cA : Nat → Option Addr) (W : WX) (k : Cal) (xi : Option XI) : List Ky → CL → List (TE × TE)
  | y :: ys, .cons a r => (L2.tC (kV (kyK y)), tE K cA W k xi a) :: trsOf K cA W k xi ys r
  | _, _ => []
theorem kmerge_ok {K : PySem.W.Frag} {H : Hp} {ρ : List Addr} : ∀ {more kvs : List (Ky × D)} {ms vs : List (Key × V)}, RKs K H ρ more ms → RKs K H ρ kvs vs → RKs K H ρ (kmerge kvs more) (mergeK vs ms)
  | [], _, _, _, h, q => by cases h; exact q
  | (k', d) :: more, kvs, _, vs, h, q => by
    cases h with
    | cons o h r =>
      have z := kmerge_ok r (kput_ok o h q)
      exact z
def clen : CL → Nat
  | .nil => 0
  | .cons _ r => clen r + 1
theorem pairs_ok {σ : L2.St} {e : Ev} : ∀ {cs : CL} {ks : List Ky} {ρ : List Addr} {st : Stt} {H : Hp} {Q : List (V × V) → Hp → Prop}, clen cs = ks.length → SR X.K cA xi ρ st H e σ →
    Good X.K cA W σ ρ H (iA k (xo xi) cs e st) (fun ds _ ρ' H' => ∀ vs, RDs X.K H' ρ' ds vs → Q ((ks.zip vs).map fun kv => (kV (kyK kv.1), kv.2)) H') → tPairs (trsOf X.K cA W k xi ks cs) σ H Q
  | .nil, ks, ρ, st, H, Q, hl, r, g => by
    rw [iA] at g
    have : ks = [] := List.length_eq_zero_iff.mp hl.symm
    subst this
    exact g ρ H (Nx.refl r.rel) [] .nil
  | .cons a cs, [], ρ, st, H, Q, hl, r, g => by cases hl
  | .cons a cs, y :: ks, ρ, st, H, Q, hl, r, g => by
    rw [iA] at g
    refine ⟨e, st, ρ, r, g.bind.mono fun d st1 ρ1 H1 _ n1 g v rv => pairs_ok (Nat.succ.inj hl) (r.nx n1) (g.bind.mono fun ds st2 ρ2 H2 _ n2 g vs rvs => ?_)⟩
    exact g ρ2 H2 (Nx.refl n2.rel) (v :: vs) (.cons (rv.nx n2) rvs)
theorem zip_rel {K : PySem.W.Frag} {H : Hp} {ρ : List Addr} : ∀ {ks : List Ky} {ds : List D} {vs : List V}, (∀ y ∈ ks, okKy y) → RDs K H ρ ds vs → RKs K H ρ (ks.zip ds) ((ks.map kyK).zip vs)
  | [], _, _, _, _ => by simp; exact .nil
  | y :: ks, [], _, _, h => by cases h; exact .nil
  | y :: ks, d :: ds, _, o, h => by
    cases h with
    | cons h r => exact .cons (o y (List.mem_cons_self ..)) h (zip_rel (fun z hz => o z (List.mem_cons_of_mem _ hz)) r)
theorem Nx.untrack {K : PySem.W.Frag} {ρ ρ' : List Addr} {H H' : Hp} {st' : Stt} {p : Addr} {u : HO} (hp : H p = none) (hn : p ∉ ρ.tail) (n : Nx K ρ (upd H p u) ρ' st' H') : Nx K ρ H ρ' st' H' ∧ p ∉ ρ'.tail ∧ H' p = some u := by
  have hq : p ∉ ρ'.tail := fun hm => by
    have z := n.new p hm hn
    rw [upd_same] at z; cases z
  refine ⟨⟨n.pre, fun a ha h => ?_, n.rel, ⟨fun a o h hm => n.fr.keep a o (by rw [upd_ne (ne_of_none h hp)]; exact h) hm, fun a xs h => n.fr.tup a xs (by rw [upd_ne (ne_of_none h hp)]; exact h), fun a o u' h => n.fr.frz a o u' (by rw [upd_ne (ne_of_none h hp)]; exact h)⟩⟩, hq, n.fr.keep p u upd_same hn⟩
  have z := n.new a ha h
  by_cases e : a = p
  · subst e; rw [upd_same] at z; cases z
  · rw [upd_ne e] at z; exact z
theorem Good.under {α : Type} {K : PySem.W.Frag} {ρ : List Addr} {H : Hp} {σ : L2.St} {p : Addr} {u : HO} {r : R α} {kk : α → Stt → List Addr → Hp → Prop} (hp : H p = none) (hn : p ∉ ρ.tail) (g : Good K cA W σ ρ H r kk) :
    Good K cA W σ ρ (upd H p u) r (fun a st' ρ' H' => kk a st' ρ' H' ∧ Nx K ρ H ρ' st' H' ∧ p ∉ ρ'.tail ∧ H' p = some u) := by
  cases r with
  | err => exact g
  | exc x s => exact fun ρ' H' c d n xr => g ρ' H' c d (n.untrack hp hn).1 xr
  | ok a s => exact fun ρ' H' n => let z := n.untrack hp hn; ⟨g ρ' H' z.1, z⟩
theorem Good.bind0 {α β : Type} {K : PySem.W.Frag} {ρ : List Addr} {H : Hp} {σ : L2.St} {r : R α} {f : α → Stt → R β} {kk : β → Stt → List Addr → Hp → Prop} (g : Good K cA W σ ρ H (r.bind f) kk) :
    Good K cA W σ ρ H r (fun a st1 _ _ => Good K cA W σ ρ H (f a st1) kk) := by
  cases r with
  | err => exact g
  | exc x s => exact g
  | ok a s => exact fun _ _ _ => g
theorem Rel.upd_out {K : PySem.W.Frag} {ρ : List Addr} {H : Hp} {st : Stt} {p : Addr} {v u : HO} (r : Rel K ρ st H) (hn : p ∉ ρ.tail) (hp : H p = some v) (mv : Mut (some v)) : Rel K ρ st (upd H p u) := by
  have f : Fz H (upd H p u) := ⟨fun b xs e => by rw [upd_ne (fun z => by rw [z, hp] at e; cases e; exact mv)]; exact e,
    fun b x y e => by rw [upd_ne (fun z => by rw [z, hp] at e; cases e; exact mv)]; exact e⟩
  refine ⟨r.len, r.zero, r.inj, fun l a h => ?_, fun l o a h1 h2 => ?_⟩
  · by_cases e : a = p
    · subst e; rw [upd_same]; exact fun z => nomatch z
    · rw [upd_ne e]; exact r.tr l a h
  · cases l with
    | zero =>
      obtain ⟨z0, e0⟩ := r.zero
      rw [e0] at h1
      cases h1
      cases r.ob 0 _ a e0 h2 with
      | rol q d => exact .rol (f.frz _ _ _ q) (d.mono f ⟨[], by simp⟩)
      | rok q d => exact .rok q (d.mono f ⟨[], by simp⟩)
    | succ l =>
      refine (r.ob _ o a h1 h2).mono f ⟨[], by simp⟩ fun x e _ => ?_
      rw [upd_ne fun z => hn (tail_get.mpr ⟨l, by rw [← z]; exact h2⟩)]
      exact e
theorem Fz.upd_out {H : Hp} {p : Addr} {v u : HO} (hp : H p = some v) (mv : Mut (some v)) : Fz H (upd H p u) := ⟨fun b xs e => by rw [upd_ne (fun z => by rw [z, hp] at e; cases e; exact mv)]; exact e,
    fun b x y e => by rw [upd_ne (fun z => by rw [z, hp] at e; cases e; exact mv)]; exact e⟩
/-- an object that was made on the way is written -/
theorem Nx.stay {K : PySem.W.Frag} {ρ ρ2 : List Addr} {H H2 : Hp} {st2 : Stt} {p : Addr} {v u : HO} (n : Nx K ρ H ρ2 st2 H2) (hp : H p = none) (hn : p ∉ ρ2.tail) (h2 : H2 p = some v) (mv : Mut (some v)) : Nx K ρ H ρ2 st2 (upd H2 p u) :=
  ⟨n.pre, n.new, n.rel.upd_out hn h2 mv, ⟨fun a o h hm => by rw [upd_ne (ne_of_none h hp)]; exact n.fr.keep a o h hm, fun a xs h => by rw [upd_ne (ne_of_none h hp)]; exact n.fr.tup a xs h, fun a o u' h => by rw [upd_ne (ne_of_none h hp)]; exact n.fr.frz a o u' h⟩⟩
/-- .. and becomes a place -/
theorem Nx.land {K : PySem.W.Frag} {ρ ρ2 : List Addr} {H H2 : Hp} {st2 : Stt} {p : Addr} {v u : HO} {o : Ob} (n : Nx K ρ H ρ2 st2 H2) (hp : H p = none) (hn : p ∉ ρ2.tail) (h2 : H2 p = some v) (mv : Mut (some v)) (h : RO K (upd H2 p u) (ρ2 ++ [p]) o p) :
    Nx K ρ H (ρ2 ++ [p]) (st2 ++ [o]) (upd H2 p u) := by
  have s := n.stay (u := u) hp hn h2 mv
  obtain ⟨m, e⟩ := n.pre
  refine ⟨⟨m ++ [p], by rw [e, List.append_assoc]⟩, fun a ha hm => ?_, Nx.adopt s.rel hn (by rw [upd_same]; exact fun z => nomatch z) h, s.fr⟩
  obtain ⟨i, e⟩ := tail_get.mp ha
  rcases getE_snoc e with z | ⟨_, z⟩
  · exact n.new a (tail_get.mpr ⟨i, z⟩) hm
  · subst z; exact hp
theorem s_disp {keys : List (Option Expr)} {values : List Expr} {ks : List Ky} (h : PPs X pos keys values (trsOf X.K cA W k xi ks cs)) (hall : keys.all (·.isSome) = true) (hl : keys.length = values.length) (h0 : keys ≠ []) (h15 : keys.length ≤ 15) (hc : clen cs = ks.length) (ok : ∀ y ∈ ks, okKy y) :
    PE X (.Dict keys values pos) (tE X.K cA W k xi (.dct ks cs)) := pei (pe_disp h hall hl h0 h15) fun σ H Q ⟨e, st, ρ, r, g⟩ => by
  rw [iE] at g
  intro p hp
  have n1 := Nx.side (o := .dK []) r.rel hp
  refine pairs_ok hc (r.nx n1) ((g.bind0.under (u := .dK []) hp (r.rel.out hp)).mono fun ds st2 ρ2 H2 _ _ g vs rvs => ?_)
  obtain ⟨g, n, hn, h2⟩ := g
  obtain ⟨hb, g⟩ := g.chk
  rw [Bool.and_eq_true, decide_eq_true_eq, decide_eq_true_eq] at hb
  refine ⟨h2, (ks.map kyK).zip vs, ?_, ?_, ?_⟩
  · rw [List.zip_map_left, List.map_map]; rfl
  · rw [List.length_zip, List.length_map]; omega
  · have z := kmerge_ok (zip_rel ok rvs) (.nil : RKs X.K H2 ρ2 [] [])
    have n2 := Nx.land (u := .dK (mergeK [] ((ks.map kyK).zip vs))) (o := .dct (kmerge [] (ks.zip ds))) n hp hn h2 trivial (.dct upd_same (z.mono (Fz.upd_out h2 trivial) ⟨[p], rfl⟩))
    refine g _ _ n2 (.ref p) (.ref ?_)
    rw [← n.rel.len]
    exact getE_snoc_at
theorem s_dict0 : PE X (.Dict [] [] pos) (tE X.K cA W k xi (.dct [] .nil)) := pei pe_dnewK fun σ H Q ⟨e, st, ρ, r, g⟩ => by
  rw [iE, iA] at g
  intro p hp
  have n2 := Nx.alloc (u := .dK []) (o := .dct []) r.rel hp (.dct upd_same .nil)
  refine g _ _ n2 (.ref p) (.ref ?_)
  rw [← r.rel.len]
  exact getE_snoc_at
end
end Lk

end
section
set_option linter.all false
set_option maxHeartbeats 1000000
namespace Lk
open PySem PySem.Spec PyProof.Rows L2
section
variable {K : PySem.W.Frag} {ρ ρ' : List Addr} {H H' : Hp} {st st' : Stt} {e : Ev} {σ : L2.St}
theorem SlR.none (s : SlR K H ρ e σ) (i : Nat) : SlR K H ρ (e.set i none) (σ.set i none) := ⟨by rw [List.length_set, List.length_set]; exact s.len, fun j d h => by
  by_cases hj : i = j
  · subst hj
    by_cases hl : i < e.length
    · rw [List.getElem?_set_self hl] at h; cases h
    · rw [List.getElem?_eq_none (by rw [List.length_set]; omega)] at h; cases h
  · rw [List.getElem?_set_ne hj] at h ⊢
    exact s.at' j d h⟩
theorem SlR.set (s : SlR K H ρ e σ) {i : Nat} {d : D} {v : V} (h : RD K H ρ d v) : SlR K H ρ (e.set i (some d)) (σ.set i (some v)) := ⟨by rw [List.length_set, List.length_set]; exact s.len, fun j d' h' => by
  by_cases hj : i = j
  · subst hj
    by_cases hl : i < e.length
    · rw [List.getElem?_set_self hl] at h'
      cases h'
      exact ⟨v, by rw [List.getElem?_set_self (by rw [← s.len]; exact hl)], h⟩
    · rw [List.getElem?_eq_none (by rw [List.length_set]; omega)] at h'; cases h'
  · rw [List.getElem?_set_ne hj] at h' ⊢
    exact s.at' j d' h'⟩
theorem SlR.wipe (s : SlR K H ρ e σ) : ∀ vs : List Nat, SlR K H ρ (wipeE e vs) (L2.wipe σ vs)
  | [] => s
  | v :: vs => (SlR.wipe s vs).none v
theorem wipe_at (σ : L2.St) (j : Nat) : ∀ {vs : List Nat}, j ∈ vs → ∀ x, (L2.wipe σ vs)[j]? ≠ some (some x) := fun {vs} h x e => by
  exact (L2.wipe_some e).2 h
theorem wipe_out (σ : L2.St) (j : Nat) : ∀ {vs : List Nat}, j ∉ vs → (L2.wipe σ vs)[j]? = σ[j]?
  | [], _ => rfl
  | v :: vs, h => by
    unfold L2.wipe
    rw [List.getElem?_set_ne (fun z => h (by rw [z]; exact List.mem_cons_self ..))]
    exact wipe_out σ j fun z => h (List.mem_cons_of_mem _ z)
theorem wipe_eq {σ2 : L2.St} {vs ts : List Nat} (h : ∀ j, j ∉ ts → σ2[j]? = (L2.wipe σ vs)[j]?) (hs : ∀ j ∈ ts, j ∈ vs) (hl : σ2.length = σ.length) : L2.wipe σ2 vs = L2.wipe σ vs := by
  apply List.ext_getElem?
  intro j
  by_cases hj : j ∈ vs
  · have key : ∀ σ' : L2.St, σ'.length = σ.length → (L2.wipe σ' vs)[j]? = if j < σ.length then some none else none := fun σ' hl' => by
      by_cases hlt : j < σ.length
      · rw [if_pos hlt]
        have h1 : j < (L2.wipe σ' vs).length := by rw [L2.wipe_length, hl']; exact hlt
        have := wipe_at σ' j hj
        cases q : (L2.wipe σ' vs)[j] with
        | none => rw [List.getElem?_eq_getElem h1, q]
        | some x => exact absurd (by rw [List.getElem?_eq_getElem h1, q]) (this x)
      · rw [if_neg hlt]
        exact List.getElem?_eq_none (by rw [L2.wipe_length, hl']; omega)
    rw [key σ2 hl, key σ rfl]
  · rw [wipe_out _ _ hj, h j fun z => hj (hs j z)]
theorem Nx.kept {p : Addr} {o : HO} (n : Nx K ρ H ρ' st' H') (hn : p ∉ ρ.tail) (h : H p = some o) : p ∉ ρ'.tail ∧ H' p = some o := ⟨fun hm => (nomatch h.symm.trans (n.new p hm hn)), n.fr.keep p o h hn⟩
theorem Nx.back {p : Addr} (r : Rel K ρ st H) (n : Nx K ρ H ρ' st' H') (hp : H' p = none) : H p = none := by
  cases q : H p with
  | none => rfl
  | some o =>
    by_cases hm : p ∈ ρ.tail
    · obtain ⟨i, e⟩ := tail_get.mp hm
      obtain ⟨m, rfl⟩ := n.pre
      exact absurd hp (n.rel.tr i p (getE_pre e))
    · have z := n.fr.keep p o q hm
      rw [hp] at z; cases z
theorem wipeE_length (e : Ev) : ∀ vs, (wipeE e vs).length = e.length
  | [] => rfl
  | v :: vs => by unfold wipeE; rw [List.length_set, wipeE_length e vs]
theorem setTg_length : ∀ {tg : Tg} {d : D} {e e' : Ev}, setTg tg d e = some e' → e'.length = e.length
  | .var i, d, e, e', h => by unfold setTg at h; cases h; exact List.length_set
  | .nil, d, e, e', h => by
    cases d with
    | tup ds =>
      cases ds with
      | nil => unfold setTg at h; cases h; rfl
      | cons x xs => unfold setTg at h; cases h
    | _ => unfold setTg at h; cases h
  | .cons a r, d, e, e', h => by
    cases d with
    | tup ds =>
      cases ds with
      | nil => unfold setTg at h; cases h
      | cons x xs =>
        unfold setTg at h
        cases q1 : setTg a x e with
        | none => rw [q1] at h; cases h
        | some e1 =>
          rw [q1] at h
          have h : setTg r (.tup xs) e1 = some e' := h
          rw [setTg_length h, setTg_length q1]
    | _ => unfold setTg at h; cases h
/-! targets -/
def tgs : Tg → List Nat
  | .var i => [i]
  | .nil => []
  | .cons a r => tgs a ++ tgs r
def tlen : Tg → Nat
  | .cons _ r => tlen r + 1
  | _ => 0
def istup : Tg → Bool
  | .var _ => false
  | .nil => true
  | .cons _ r => istup r
def gT (K : PySem.W.Frag) (tg : Tg) : TG := fun v σ H Q => ∃ d e e' ρ, RD K H ρ d v ∧ SlR K H ρ e σ ∧ setTg tg d e = some e' ∧ ∀ σ', SlR K H ρ e' σ' → (∀ j, j ∉ tgs tg → σ'[j]? = σ[j]?) → Q σ' H
def gTs (K : PySem.W.Frag) (tg : Tg) : TGs := fun vs σ H Q => ∃ ds e e' ρ, RDs K H ρ ds vs ∧ SlR K H ρ e σ ∧ setTg tg (.tup ds) e = some e' ∧ ∀ σ', SlR K H ρ e' σ' → (∀ j, j ∉ tgs tg → σ'[j]? = σ[j]?) → Q σ' H
end
section
variable {X : Cx} {cA : Nat → Option Addr} {W : WX} {k : Cal} {xi : Option XI} {a b c : Expr} {p pos apos : Pos} {ca cb cc : C} {ct cu : T} {es : List Expr} {cs : CL} {cq : SQ} {x : Str} {ta tr : Tg}
theorem pgi {g h : TG} {e : Expr} (q : PG X e g) (i : ∀ v σ H Q, h v σ H Q → g v σ H Q) : PG X e h := ⟨fun pins s σ H v u Q I r z => q.run pins s σ H v u Q I r (i v σ H Q z)⟩
theorem pgsi {g h : TGs} {e : List Expr} (q : PGs X e g) (i : ∀ v σ H Q, h v σ H Q → g v σ H Q) : PGs X e h := ⟨fun pins s σ H v u Q I r z => q.run pins s σ H v u Q I r (i v σ H Q z)⟩
theorem s_tgvar {i : Nat} (hN : X.N.Nodup) (hi : X.N[i]? = some x) (hx : Loc X.env.scope x) (hf : X.fn x = true ∨ X.env.scope.names.lookup x = some .local) : PG X (.Name x pos) (gT X.K (.var i)) :=
  pgi (pg_name hN hi hx hf) fun v σ H Q ⟨d, e, e', ρ, rd, sl, he, q⟩ => by
    unfold setTg at he
    cases he
    exact q _ (sl.set rd) fun j hj => List.getElem?_set_ne fun z => hj (by rw [← z]; exact List.mem_singleton.mpr rfl)
theorem s_tgnil : PGs X [] (gTs X.K .nil) := pgsi pgs_nil fun v σ H Q ⟨d, e, e', ρ, rd, sl, he, q⟩ => by
  cases d with
  | nil =>
    unfold setTg at he
    cases he
    cases rd
    exact ⟨rfl, q σ sl fun _ _ => rfl⟩
  | cons x y => unfold setTg at he; cases he
theorem assign_cons {e : Expr} {es : List Expr} {env : Env} (h : noStar e = true) : assignEach (e :: es) env = (false, assign e env) :: assignEach es env := by
  cases e <;> first | rfl | cases h
theorem s_tgcons (h1 : PG X a (gT X.K ta)) (h2 : PGs X es (gTs X.K tr)) (hs : noStar a = true) : PGs X (a :: es) (gTs X.K (.cons ta tr)) := pgsi (pgs_cons h1 h2 (by rw [assign_cons hs]; rfl)) fun vs σ H Q ⟨ds, e, e', ρ, rd, sl, he, q⟩ => by
  cases ds with
  | nil => unfold setTg at he; cases he
  | cons d ds =>
    cases rd with
    | cons r1 r2 =>
      unfold setTg at he
      cases q1 : setTg ta d e with
      | none => rw [q1] at he; cases he
      | some e1 =>
        rw [q1] at he
        have he : setTg tr (.tup ds) e1 = some e' := he
        refine ⟨_, _, rfl, d, e, e1, ρ, r1, sl, q1, fun σ1 sl1 k1 => ⟨ds, e1, e', ρ, r2, sl1, he, fun σ2 sl2 k2 => q σ2 sl2 fun j hj => ?_⟩⟩
        unfold tgs at hj
        rw [List.mem_append, not_or] at hj
        rw [k2 j hj.2, k1 j hj.1]
theorem setTg_len : ∀ {tg : Tg} {ds : List D} {e e' : Ev}, istup tg = true → setTg tg (.tup ds) e = some e' → ds.length = tlen tg
  | .var _, _, _, _, h, _ => by cases h
  | .nil, [], _, _, _, _ => rfl
  | .nil, _ :: _, _, _, _, h => by unfold setTg at h; cases h
  | .cons _ _, [], _, _, _, h => by unfold setTg at h; cases h
  | .cons a r, d :: ds, e, e', hi, h => by
    unfold setTg at h
    cases q1 : setTg a d e with
    | none => rw [q1] at h; cases h
    | some e1 =>
      rw [q1] at h
      have h : setTg r (.tup ds) e1 = some e' := h
      show ds.length + 1 = tlen r + 1
      have hi : istup r = true := hi
      rw [setTg_len hi h]
theorem star_idx : ∀ {es : List Expr} {env : Env}, noStars es = true → (assignEach es env).findIdx? (·.1) = none ∧ (assignEach es env).length = es.length
  | [], env, _ => by
    have : assignEach [] env = [] := by first | rfl | (unfold assignEach; rfl)
    rw [this]
    exact ⟨rfl, rfl⟩
  | e :: es, env, h => by
    unfold noStars at h
    rw [Bool.and_eq_true] at h
    rw [assign_cons h.1]
    obtain ⟨h1, h2⟩ := star_idx (env := env) h.2
    refine ⟨?_, by rw [List.length_cons, h2, List.length_cons]⟩
    rw [List.findIdx?_cons]
    simp [h1]
theorem s_tgtup {j : Nat} (hc : X.calm = true) (h : PGs X es (gTs X.K ta)) (hi : istup ta = true) (hl : tlen ta = es.length) (hs : noStars es = true) : PG X (.Tuple es j pos) (gT X.K ta) :=
  pgi (pg_tup (n := es.length) hc h (star_idx hs).2 (star_idx hs).1) fun v σ H Q ⟨d, e, e', ρ, rd, sl, he, q⟩ => by
    have : ∃ ds, d = .tup ds := by
      cases ta with
      | var i => cases hi
      | nil => cases d <;> first | exact ⟨_, rfl⟩ | (unfold setTg at he; cases he)
      | cons x y => cases d <;> first | exact ⟨_, rfl⟩ | (unfold setTg at he; cases he)
    obtain ⟨ds, rfl⟩ := this
    cases rd with
    | tup h1 h2 =>
      exact ⟨_, _, rfl, h1.1, by rw [← h2.length, setTg_len hi he, hl], ds, e, e', ρ, h2, sl, he, q⟩
end
end Lk

end
section
set_option linter.all false
set_option maxHeartbeats 1000000
namespace Lk
open PySem PySem.Spec PyProof.Rows L2
theorem ite_trueP {a b : Prop} (h : a) : if true = true then a else b := by rw [if_pos rfl]; exact h
theorem ite_falseP {a b : Prop} (h : b) : if false = true then a else b := by rw [if_neg Bool.false_ne_true]; exact h
/-- what is walked: the items ds, while the lists gd stand -/
structure WkI (K : PySem.W.Frag) (ρ0 : List Addr) (H0 : Hp) (J : It) (ds : List D) (gd : Gd) : Prop where
  go : ∀ i ρ st H, Nx K ρ0 H0 ρ st H → gd.stand st → i < ds.length → J.go i H
  stop : ∀ ρ st H, Nx K ρ0 H0 ρ st H → gd.stand st → J.stop ds.length H
  yld : ∀ i ρ st H x H' d, Nx K ρ0 H0 ρ st H → gd.stand st → ds[i]? = some d → J.yld i H x H' → Nx K ρ H ρ st H' ∧ RD K H' ρ d x
def tI (K : PySem.W.Frag) (cA : Nat → Option Addr) (W : WX) (k : Cal) (xi : Option XI) (c : IT) : TI := fun σ H R => ∃ e st ρ, SR K cA xi ρ st H e σ ∧ Good K cA W σ ρ H (iI k (xo xi) c e st) (fun q _ ρ' H' => ∀ J, WkI K ρ' H' J q.1 q.2 → R J H')
abbrev W0 : WX := fun _ _ _ _ => False
abbrev cStep (k : Cal) (xn : Option Xn) (vs : List Nat) (tg : Tg) (cd : T) (el : C) (e : Ev) : D → Stt → R (Option D) := fun d s => match setTg tg d (wipeE e vs) with
    | some e => (iT k xn cd e s).bind fun b s => if b = true then (iE k xn el e s).bind fun x s => .ok (some x) s else .ok none s
    | none => .err
theorem quiet_ok' {α : Type} {r : R α} {a : α} {s : Stt} (h : r.quiet = .ok a s) : r = .ok a s := by
  cases r <;> first | exact h | cases h
theorem guard_inv {α : Type} {s s' : Stt} {g : Gd} {r : R α} {a : α} (h : guard s g r = .ok a s') : g.stand s ∧ r = .ok a s' := by
  unfold guard at h
  split at h
  · rename_i hs
    exact ⟨hs, h⟩
  · cases h
section
variable {K : PySem.W.Frag} {cA : Nat → Option Addr} {W : WX} {k : Cal}
/-- the state of a comprehension's turn -/
structure CW (K : PySem.W.Frag) (k : Cal) (vs : List Nat) (tg : Tg) (cd : T) (el : C) (e : Ev) (ds : List D) (gd : Gd) (out : List D) (s2 : Stt) (ρ1 : List Addr) (H1 : Hp) (p : Addr) (i : Nat) (H : Hp) : Prop where
  ex : ∃ ρ st acc dacc r, Nx K ρ1 H1 ρ st H ∧ p ∉ ρ.tail ∧ H p = some (.lst acc) ∧ RDs K H ρ dacc acc ∧ acc.length ≤ i ∧ loopL gd (cStep k none vs tg cd el e) (ds.drop i) st = .ok r s2 ∧ out = dacc ++ r
theorem comp_core {vs : List Nat} {tg : Tg} {it : IT} {cd : T} {el : C} {e : Ev} {st : Stt} {ρ : List Addr} {H : Hp} {σ : L2.St} {Q : VK} (sr : SR K cA none ρ st H e σ) (hv : ∀ j ∈ tgs tg, j ∈ vs)
    (g : Good K cA W σ ρ H (iQ k none (.comp vs tg it cd el) e st) (fun q st' ρ' H2 => ∀ p acc ds, H p = none → p ∉ ρ'.tail → H2 p = some (.lst acc) → q = (.non, .l ds) → RDs K H2 ρ' ds acc → Q (.ref p) H2)) :
    tLc (tI K cA W k none it) (gT K tg) (tT K cA W0 k none cd) (tE K cA W0 k none el) vs σ H Q := by
  rw [iQ] at g
  refine ⟨e, st, ρ, sr, g.bind.bind.mono fun q st1 ρ1 H1 _ n1 g J w p hp => ?_⟩
  obtain ⟨hb, g⟩ := g.chk
  have hb := of_decide_eq_true hb
  have hp0 : H p = none := Nx.back sr.rel n1 hp
  cases hL : (loopL q.2 (cStep k none vs tg cd el e) q.1 st1).quiet with
  | err =>
    have g : Good K cA W σ ρ1 H1 ((loopL q.2 (cStep k none vs tg cd el e) q.1 st1).quiet) _ := g
    rw [hL] at g; exact g.elim
  | exc x s =>
    exfalso
    cases hq : loopL q.2 (cStep k none vs tg cd el e) q.1 st1 <;> (rw [hq] at hL; cases hL)
  | ok out s2 =>
    have g : Good K cA W σ ρ1 H1 ((loopL q.2 (cStep k none vs tg cd el e) q.1 st1).quiet) _ := g
    rw [hL] at g
    have hL := quiet_ok' hL
    have nD := Nx.side (o := .lst []) n1.rel hp
    refine ⟨fun i m H' => m = q.1.length - i ∧ i ≤ q.1.length ∧ CW K k vs tg cd el e q.1 q.2 out s2 ρ1 H1 p i H', ⟨q.1.length, by simp, Nat.zero_le _, ρ1, st1, [], [], out, nD, n1.rel.out hp, upd_same, .nil, Nat.le_refl _, by rw [List.drop_zero]; exact hL, rfl⟩, ?_⟩
    rintro i m Hc ⟨rfl, hi, ⟨ρc, sc, acc, dacc, r, nc, pc, hc, rc, lc, Lc, eo⟩⟩
    by_cases hlt : i < q.1.length
    · rw [List.drop_eq_getElem_cons hlt] at Lc
      unfold loopL at Lc
      obtain ⟨hst, Lc⟩ := guard_inv Lc
      obtain ⟨o, s3, e3, Lc⟩ := bind_inv Lc
      obtain ⟨r', s4, e4, Lc⟩ := bind_inv Lc
      cases Lc
      have hd : q.1[i]? = some q.1[i] := List.getElem?_eq_getElem hlt
      refine .inr ⟨w.go i ρc sc Hc nc hst hlt, fun H' => CW K k vs tg cd el e q.1 q.2 out s2 ρ1 H1 p (i + 1) H', fun H' z => ⟨_, by omega, rfl, hlt, z⟩, fun x H' y => ?_⟩
      obtain ⟨n2, rd⟩ := w.yld i ρc sc Hc x H' _ nc hst hd y
      have p2 := n2.kept pc hc
      have e3 : cStep k none vs tg cd el e q.1[i] sc = .ok o s3 := e3
      unfold cStep at e3
      cases hs : setTg tg q.1[i] (wipeE e vs) with
      | none => rw [hs] at e3; cases e3
      | some e' =>
        rw [hs] at e3
        obtain ⟨b, s5, e5, e3⟩ := bind_inv e3
        have sl : SlR K H' ρc (wipeE e vs) (L2.wipe σ vs) := (((sr.sl.wipe vs).nx n1).nx nc).nx n2
        refine ⟨_, _, e', ρc, rd, sl, hs, fun σ2 sl2 k2 => ⟨wipe_eq k2 hv (by rw [← sl2.len, ← sr.sl.len]; exact (setTg_length hs).trans (wipeE_length e vs)), e', sc, ρc, ⟨n2.rel, sl2, fun _ z => nomatch z⟩, ?_⟩⟩
        show Good K cA W0 σ2 ρc H' (iT k none cd e' sc) _
        rw [e5]
        intro ρ3 H3 n3
        have p3 := n3.kept p2.1 p2.2
        cases b with
        | true =>
          refine ite_trueP ?_
          rw [if_pos rfl] at e3
          obtain ⟨xv, s6, e6, e3⟩ := bind_inv e3
          cases e3
          refine ⟨e', s5, ρ3, ⟨n3.rel, sl2.nx n3, fun _ z => nomatch z⟩, ?_⟩
          show Good K cA W0 σ2 ρ3 H3 (iE k none el e' s5) _
          rw [e6]
          intro ρ4 H4 n4 v rv
          have p4 := n4.kept p3.1 p3.2
          have n14 := ((nc.trans n2).trans n3).trans n4
          refine ⟨acc, p4.2, ?_, ρ4, s3, acc ++ [v], dacc ++ [xv], r', n14.stay hp p4.1 p4.2 trivial, p4.1, upd_same, ?_, ?_, e4, ?_⟩
          · have := SZ_eq
            omega
          · exact (((rc.nx n2).nx n3).nx n4 |>.append (.cons rv .nil)).mono (Fz.upd_out p4.2 trivial) ⟨[], by simp⟩
          · rw [List.length_append]; simp; exact lc
          · rw [eo, List.append_assoc]; rfl
        | false =>
          refine ite_falseP ?_
          rw [if_neg Bool.false_ne_true] at e3
          cases e3
          exact ⟨ρ3, s3, acc, dacc, r', (nc.trans n2).trans n3, p3.1, p3.2, (rc.nx n2).nx n3, by omega, e4, eo⟩
    · have hn : i = q.1.length := by omega
      subst hn
      rw [List.drop_length] at Lc
      unfold loopL at Lc
      obtain ⟨hst, Lc⟩ := guard_inv Lc
      cases Lc
      refine .inl ⟨w.stop ρc _ Hc nc hst, ?_⟩
      have g := g ρc Hc nc
      exact g ρc Hc (Nx.refl nc.rel) p acc out hp0 pc hc rfl (by rw [eo, List.append_nil]; exact rc)
end
section
variable {X : Cx} {cA : Nat → Option Addr} {W : WX} {k : Cal} {xi : Option XI} {a b c elt tg iter : Expr} {ifs : List Expr} {p pos apos : Pos} {ca cb cc : C} {ct cu : T} {es : List Expr} {cs : CL} {cq : SQ} {x : Str} {ta tr : Tg} {it : IT} {cd : T} {el : C} {scope : Scope} {own : List (Str × Nat)}
/-- what a comprehension's parts must be -/
structure CP (X : Cx) (cA : Nat → Option Addr) (W : WX) (k : Cal) (elt tg iter : Expr) (ifs : List Expr) (scope : Scope) (own : List (Str × Nat)) (ta : Tg) (it : IT) (cd : T) (el : C) : Prop where
  hc : X.calm = true
  hN : X.N.Nodup
  hi : PI X tg iter (tI X.K cA W k none it)
  ok : BlkOk X.N X.env.scope scope own
  hg : ∀ (s : Shared) (H : Hp) (C : Addr) (cl : List (Str × Addr)) (fp : List Addr), PG (X.blk s H scope (compEnvC scope cl C X.env) fp) tg (gT X.K ta)
  ht : ∀ (s : Shared) (H : Hp) (C : Addr) (cl : List (Str × Addr)) (fp : List Addr), PTs (X.blk s H scope (compEnvC scope cl C X.env) fp) ifs (tT X.K cA W0 k none cd)
  he : ∀ (s : Shared) (H : Hp) (C : Addr) (cl : List (Str × Addr)) (fp : List Addr), PE (X.blk s H scope (compEnvC scope cl C X.env) fp) elt (tE X.K cA W0 k none el)
  hv : ∀ j ∈ tgs ta, j ∈ own.map (·.2)
  hs : noSet iter = true
theorem CP.pe (h : CP X cA W k elt tg iter ifs scope own ta it cd el) : PE X (.ListComp elt [⟨tg, iter, ifs, 0⟩] scope pos) (tLc (tI X.K cA W k none it) (gT X.K ta) (tT X.K cA W0 k none cd) (tE X.K cA W0 k none el) (own.map (·.2))) :=
  pe_lc h.hc h.hN h.hi h.ok h.hg h.ht h.he (fold_no h.hs)
theorem lc_q {σ : L2.St} {H : Hp} {Q : VK} {vs : List Nat} (hv : ∀ j ∈ tgs ta, j ∈ vs) : tQ X.K cA W k none (.comp vs ta it cd el) σ H Q → tLc (tI X.K cA W k none it) (gT X.K ta) (tT X.K cA W0 k none cd) (tE X.K cA W0 k none el) vs σ H Q := fun ⟨e, st, ρ, r, g⟩ =>
  comp_core r hv (g.mono fun q st' ρ' H2 _ n g p acc ds hp hn h2 eq rd => by
    subst eq
    exact g (.ref p) (.new hn h2 rd))
theorem lc_e {σ : L2.St} {H : Hp} {Q : VK} {vs : List Nat} (hv : ∀ j ∈ tgs ta, j ∈ vs) : tE X.K cA W k none (.newl (.comp vs ta it cd el)) σ H Q → tLc (tI X.K cA W k none it) (gT X.K ta) (tT X.K cA W0 k none cd) (tE X.K cA W0 k none el) vs σ H Q := fun ⟨e, st, ρ, r, g⟩ => by
  rw [iE] at g
  refine comp_core r hv (g.bind0.mono fun q st' ρ' H2 _ n g p acc ds hp hn h2 eq rd => ?_)
  subst eq
  have eu : upd H2 p (.lst acc) = H2 := funext fun b => by
    by_cases hb : b = p
    · subst hb; rw [upd_same, h2]
    · rw [upd_ne hb]
  have z := n.land (u := .lst acc) (o := .lst ds) hp hn h2 trivial (by rw [eu]; exact .lst h2 (rd.mono ⟨fun _ _ e => e, fun _ _ _ e => e⟩ ⟨[p], rfl⟩))
  rw [eu] at z
  refine g _ _ z (.ref p) (.ref ?_)
  rw [← n.rel.len]
  exact getE_snoc_at
theorem s_compq (h : CP X cA W k elt tg iter ifs scope own ta it cd el) : PE X (.ListComp elt [⟨tg, iter, ifs, 0⟩] scope pos) (tQ X.K cA W k none (.comp (own.map (·.2)) ta it cd el)) := pei h.pe fun _ _ _ q => lc_q h.hv q
theorem s_compe (h : CP X cA W k elt tg iter ifs scope own ta it cd el) : PE X (.ListComp elt [⟨tg, iter, ifs, 0⟩] scope pos) (tE X.K cA W k none (.newl (.comp (own.map (·.2)) ta it cd el))) := pei h.pe fun _ _ _ q => lc_e h.hv q
theorem s_yes : PTs X [] (tT X.K cA W k xi .yes) := ⟨fun pins s σ H Q I ⟨e, st, ρ, r, g⟩ => pts_nil.run pins s σ H Q I (by rw [iT] at g; exact g ρ H (Nx.refl r.rel))⟩
/-! ### what is walked -/
theorem pii {u v : TI} {tg e : Expr} (h : PI X tg e u) (i : ∀ σ H R, v σ H R → u σ H R) : PI X tg e v := ⟨fun pins s σ H R I q => h.run pins s σ H R I (i σ H R q)⟩
theorem pi_of {v : TI} {tg e : Expr} (h : ∀ σ H R, v σ H R → ∃ u, PI X tg e u ∧ u σ H R) : PI X tg e v := ⟨fun pins s σ H R I q => let ⟨_, p, z⟩ := h σ H R q; p.run pins s σ H R I z⟩
theorem small62_ok {i : Int} (h : small62 i = true) : -(2 ^ 62) ≤ i ∧ i < 2 ^ 62 := by
  unfold small62 at h
  simp only [Bool.and_eq_true, decide_eq_true_eq] at h
  exact h
theorem rngL_len (c : Int) : ∀ (n : Nat) (lo : Int), (rngL lo c n).length = n
  | 0, _ => rfl
  | n + 1, lo => by show (rngL (lo + c) c n).length + 1 = n + 1; rw [rngL_len c n]
theorem rngL_get (c : Int) : ∀ (n : Nat) (lo : Int) (i : Nat), i < n → (rngL lo c n)[i]? = some (.int (lo + i * c))
  | 0, _, _, h => by omega
  | n + 1, lo, 0, _ => by simp [rngL]
  | n + 1, lo, i + 1, h => by
    show (rngL (lo + c) c n)[i]? = _
    rw [rngL_get c n (lo + c) i (by omega)]
    have e : lo + c + (i : Int) * c = lo + ((i + 1 : Nat) : Int) * c := by
      rw [Int.natCast_succ, Int.add_mul]; omega
    rw [e]
theorem rng_wk {K : PySem.W.Frag} {ρ : List Addr} {H : Hp} (lo : Int) (n : Nat) : WkI K ρ H (Itr lo n) (rngL lo 1 n) [] := by
  have hl : (rngL lo 1 n).length = n := rngL_len 1 n lo
  refine ⟨fun i ρ st H _ _ hi => by rw [hl] at hi; exact hi, fun ρ st H _ _ => by rw [hl]; exact Nat.le_refl _, fun i ρ st H x H' d nx _ hd y => ?_⟩
  obtain ⟨rfl, rfl⟩ := y
  refine ⟨Nx.refl nx.rel, ?_⟩
  have hi : i < n := by rw [← hl]; exact (List.getElem?_eq_some_iff.mp hd).1
  rw [rngL_get 1 n lo i hi, Int.mul_one] at hd
  cases hd
  exact .int _
theorem s_rng1 (hg : Gl X "range") (hm : X.mg "range" = none) (ha : PE X a (tE X.K cA W k xi ca)) (h1 : noStar a = true) : PI X tg (.Call (.Name "range" p) [a] [] pos) (tI X.K cA W k xi (.rng1 ca)) :=
  pii (pi_range1 hg hm (pa1 ha h1) (by rw [star_cons h1]; rfl)) fun σ H R ⟨e, st, ρ, r, g⟩ => by
    rw [iI] at g
    refine ⟨e, st, ρ, r, g.bind.mono fun x st1 ρ1 H1 _ n1 g v rv => ?_⟩
    split at g
    · cases rv
      obtain ⟨hb, g⟩ := g.chk
      rw [Bool.and_eq_true] at hb
      obtain ⟨b1, b2⟩ := small62_ok hb.1
      exact ⟨_, rfl, b1, b2, g ρ1 H1 (Nx.refl n1.rel) _ (rng_wk 0 _)⟩
    · exact g.elim
theorem s_rng2 (hg : Gl X "range") (hm : X.mg "range" = none) (ha : PE X a (tE X.K cA W k xi ca)) (hb : PE X b (tE X.K cA W k xi cb)) (h1 : noStar a = true) (h2 : noStar b = true) : PI X tg (.Call (.Name "range" p) [a, b] [] pos) (tI X.K cA W k xi (.rng2 ca cb)) :=
  pii (pi_range2 hg hm (pa_cons ha (pa1 hb h2) (star_cons h1)) (by rw [star_cons h1, star_cons h2]; rfl) (by rw [star_cons h2]; rfl)) fun σ H R ⟨e, st, ρ, r, g⟩ => by
    rw [iI] at g
    refine ⟨e, st, ρ, r, g.bind.mono fun x st1 ρ1 H1 _ n1 g v rv => ⟨e, st1, ρ1, r.nx n1, g.bind.mono fun y st2 ρ2 H2 _ n2 g w rw => ?_⟩⟩
    split at g
    · have rv := rv.nx n2
      cases rv; cases rw
      obtain ⟨hb, g⟩ := g.chk
      rw [Bool.and_eq_true, Bool.and_eq_true] at hb
      obtain ⟨b1, b2⟩ := small62_ok hb.1.1
      obtain ⟨b3, b4⟩ := small62_ok hb.1.2
      exact ⟨_, _, rfl, ⟨b1, b2, b3, b4⟩, g ρ2 H2 (Nx.refl n2.rel) _ (rng_wk _ _)⟩
    · exact g.elim
theorem list_wk {K : PySem.W.Frag} {ρ : List Addr} {st : Stt} {H : Hp} {l : Nat} {p : Addr} {ds : List D} (hp : ρ[l]? = some p) : WkI K ρ H (Itl K p) ds [(l, ds)] := by
  have key : ∀ {ρ' st' H'}, Nx K ρ H ρ' st' H' → Gd.stand st' [(l, ds)] → ∃ vs, SqL K H' p vs ∧ RDs K H' ρ' ds vs := fun {ρ' st' H'} n s => by
    obtain ⟨m, e⟩ := n.pre
    exact n.rel.lget s.1 (by rw [e]; exact getE_pre hp)
  refine ⟨fun i ρ' st' H' n s hi => ?_, fun ρ' st' H' n s => ?_, fun i ρ' st' H' x H2 d n s hd y => ?_⟩
  · obtain ⟨vs, h1, h2⟩ := key n s
    obtain ⟨v, h3, _⟩ := h2.get (List.getElem?_eq_getElem hi)
    exact ⟨vs, v, h1, h3⟩
  · obtain ⟨vs, h1, h2⟩ := key n s
    exact ⟨vs, h1, by rw [← h2.length]; exact Nat.le_refl _⟩
  · obtain ⟨vs, h1, h2⟩ := key n s
    obtain ⟨rfl, y⟩ := y
    obtain ⟨v, h3, h4⟩ := h2.get hd
    rw [y vs h1] at h3
    cases h3
    exact ⟨Nx.refl n.rel, h4⟩
end
end Lk

end
section
set_option linter.all false
set_option maxHeartbeats 1000000
namespace Lk
open PySem PySem.Spec PyProof.Rows L2
/-! enumerate over a tuple -/
abbrev enC (a : Addr) : Obj := { cls := .type "enumerate", data := .fields #[.none, .bool false, .ref a, rawInt 0, .none, .none] }
theorem en_new {u : Value} {ob : Obj} {Hq : Heap → Prop} (B : Begins u ob Hq) :
    Meets (Builtin.«enumerate.__new__» ⟨[.type "enumerate", u], []⟩) (fun _ R s0 => Hq s0.heap ∧ R (.ok (.ret (.ref (s0.heap.push ob).objs.size))) { s0 with heap := (s0.heap.push ob).push (enC s0.heap.objs.size) }) :=
  .of_wp fun prog w A R s0 hh => by
    obtain ⟨hp, gg, dd, tt, oo⟩ := s0
    obtain ⟨k1, k2⟩ := hh
    have hsub := sub_enumerate
    have it : ∀ {A' : Around} {F : Value → Shared → Prop} {Q : Value → Shared → Prop}, Q (.ref hp.objs.size) ⟨hp.push ob, gg, dd, tt, oo⟩ → wpAny (model prog w) A' (pyIter u) Q F ⟨hp, gg, dd, tt, oo⟩ := fun z => B.iter prog w _ _ ⟨hp, gg, dd, tt, oo⟩ _ k1 z
    wp_walk using it
    refine wpAny_stack_any fun sk => wpAny_pure ?_
    split
    · rename_i cc _ _ _ _ _
      cases (cc == Value.type "enumerate") <;> (wp_walk using it; exact ⟨_, rfl, k2⟩)
    · wp_walk using it
      exact ⟨_, rfl, k2⟩
theorem en_call {prog : Program} {w : World} {A : Around} {F : Value → Shared → Prop} {s0 : Shared} {u : Value} {ob : Obj} {Hq : Heap → Prop} {Q : Value → Shared → Prop} (B : Begins u ob Hq) (k1 : Hq s0.heap)
    (k2 : ∀ h2, IsEnum h2 (s0.heap.objs.size + 1) s0.heap.objs.size 0 .none → h2.get? s0.heap.objs.size = some ob → (∀ b z, s0.heap.get? b = some z → h2.get? b = some z) → Q (.ref (s0.heap.objs.size + 1)) { s0 with heap := h2 }) :
    wpAny (model prog w) A (call (.type "enumerate") [u]) Q F s0 := by
  have sz : (s0.heap.push ob).objs.size = s0.heap.objs.size + 1 := Heap.size_push ..
  have ie : IsEnum ((s0.heap.push ob).push (enC s0.heap.objs.size)) (s0.heap.objs.size + 1) s0.heap.objs.size 0 .none := by
    have z := Heap.get?_push_size (s0.heap.push ob) (o := enC s0.heap.objs.size) rfl
    rw [sz] at z
    exact z
  refine callType_new PySem.F.called_enumerate (by decide) (PySem.F.typeCall_enumerate_1 _) (PySem.F.newCall_enumerate_1 _) (fun y => PySem.F.args_object_init_2 y _) PySem.F.entry_enumerate_new (en_new B) ⟨k1, ?_⟩
  show _ ∧ _
  rw [sz]
  exact ⟨⟨_, ie, rfl⟩, k2 _ ie (Heap.get?_push_of_some _ (Heap.get?_push_size _ B.free)) fun b z q => Heap.get?_push_of_some _ (Heap.get?_push_of_some _ q)⟩
theorem en_end {prog : Program} {w : World} {A : Around} {F : Value → Shared → Prop} {s0 : Shared} {en it a : Addr} {j : Int} {i : Nat} {old : Value} {items : Array Value} {Q : Option Value → Shared → Prop} (calm : A.handled = none)
    (e1 : IsEnum s0.heap en it j old) (e2 : s0.heap.IsTupleIter it a i) (e3 : s0.heap.IsTuple a items) (e4 : items[i]? = none) (k : ∀ h2, Heap.ExtBut it s0.heap h2 → Q none { s0 with heap := h2 }) : wpAny (model prog w) A (pyNext (.ref en)) Q F s0 := by
  have DR : Draws prog w A.in1 it [it, a] i (fun _ _ => False) (fun j h => j = i ∧ h.IsTupleIter it a i ∧ h.IsTuple a items) :=
    ⟨fun _ _ st => let ⟨o, z, _⟩ := st.2.1; ⟨o, z⟩, fun _ _ _ st kp => ⟨st.1, st.2.1.at fun o q => kp it (List.mem_cons_self ..) o q, st.2.2.at fun o q => kp a (List.mem_cons_of_mem _ (List.mem_cons_self ..)) o q⟩,
      fun j _ _ _ lt st _ => absurd st.1 (Nat.ne_of_lt lt), fun s1 _ _ st kk => wpAny_nextOf_tuple_end (A := A.in1) (show A.in1.handled = none from calm) st.2.1 st.2.2 e4 kk⟩
  exact wpAny_pyNext_enum_endD DR e1 ⟨rfl, e2, e3⟩ k
/-- the tuple at a, each item in a new pair -/
def IteT (K : PySem.W.Frag) (a : Addr) : It where
  go := fun i H => ∃ (vs : List V) (v : V), SqT K H a vs ∧ vs[i]? = some v
  yld := fun i H z H' => ∃ t v, z = .ref t ∧ H t = none ∧ H' = upd H t (.tup [.int (i : Nat), v]) ∧ ∀ vs, SqT K H a vs → vs[i]? = some v
  stop := fun i H => ∃ vs : List V, SqT K H a vs ∧ vs.length ≤ i
abbrev enTn (a en it : Addr) : Nat → Heap → Prop := fun i h => (∃ old, IsEnum h en it ((i : Nat) : Int) old) ∧ h.IsTupleIter it a i ∧ en ≠ it ∧ en ≠ a ∧ it ≠ a
theorem enTn_ob {a en it : Addr} {i : Nat} {h : Heap} (t : enTn a en it i h) : (∃ old, h.get? en = some { cls := .type "enumerate", data := .fields old }) ∧ ∃ o, h.get? it = some o ∧ ∀ v, o.data ≠ .cell v := by
  obtain ⟨⟨old, e1⟩, ⟨o, e2, _, e3⟩, _⟩ := t
  exact ⟨⟨_, e1⟩, o, e2, fun v q => by rw [e3] at q; cases q⟩
theorem turn_enT {P : Program} {w : World} {K : PySem.W.Frag} {tgs : List Expr} {kk : Nat} {tp : Pos} (a en it : Addr) : Turn P w K (.Tuple tgs kk tp) (IteT K a) [en, it] en (enTn a en it) where
  mem := List.mem_cons_self ..
  obj := fun i h t b hb => by
    obtain ⟨⟨_, e1⟩, o, e2, e3⟩ := enTn_ob t
    rcases List.mem_cons.mp hb with rfl | hb
    · exact ⟨_, e1, fun _ q => nomatch q⟩
    · obtain rfl := List.mem_singleton.mp hb
      exact ⟨o, e2, e3⟩
  keep := fun i h h' t kp => by
    obtain ⟨⟨old, e1⟩, e2, e3⟩ := t
    exact ⟨⟨old, kp en (List.mem_cons_self ..) _ e1⟩, e2.at fun o q => kp it (List.mem_cons_of_mem _ (List.mem_cons_self ..)) o q, e3⟩
  item := by
    intro X eP ew eK calm i pins s0 σ H F I ff t gg
    subst eP ew eK
    have t0 := t
    obtain ⟨⟨old, e1⟩, e2, e3, e4, e5⟩ := t
    obtain ⟨vs, v, sq, ev⟩ := gg
    obtain ⟨us, rr, tt, lz⟩ := I.tuple sq
    obtain ⟨u, eu, ru⟩ := rr.get ev
    have l1 : en < s0.heap.objs.size := Heap.lt_size e1
    have l2 : it < s0.heap.objs.size := by obtain ⟨o, q, _⟩ := e2; exact Heap.lt_size q
    have DR := Draws.tuple (prog := X.prog) (w := X.w) (A := X.A.in1) (show X.A.in1.handled = none from I.ok.hd calm) it a (Ne.symm e5) us.toArray
    have hi : i < us.toArray.size := by
      have := (List.getElem?_eq_some_iff.mp eu).1
      simpa using this
    refine wpAny_pyNext_enum_itemD DR e1 ⟨e2, tt⟩ hi e3 (fun q => ?_) fun x h1 tk px ho hst hT hsz hk => ?_
    · rcases List.mem_cons.mp q with q | q
      · exact e3 q
      · exact e4 (List.mem_singleton.mp q)
    have ex : x = u := by
      have px : us.toArray[i]? = some x := px
      rw [List.getElem?_toArray, eu] at px
      exact (Option.some.inj px).symm
    subst ex
    refine ⟨_, rfl, wpAny_letOwnedTupleGo_enum (s := { s0 with heap := h1, toks := tk + 1 }) ho fun h2 he sb => ?_⟩
    have n0 : s0.heap.objs.size ≠ en := Nat.ne_of_gt l1
    have tup : h2.get? s0.heap.objs.size = some { cls := .type "tuple", data := .seq #[.int i tk, x] } := (sb.2 _ n0).trans hT
    have nw : ObjOk X.prog X.w (upd H s0.heap.objs.size (.tup [.int (i : Nat), v])) h2 s0.heap.objs.size (.tup [.int (i : Nat), v]) :=
      ⟨by show 2 ≤ sizeLine; decide, [.int i tk, x], .cons ⟨_, rfl⟩ (.cons ru .nil), ⟨_, tup, rfl, _, rfl⟩⟩
    have old2 : ∀ b o, b ∉ [en, it] → s0.heap.get? b = some o → h2.get? b = some o := fun b o nb q => by
      have b1 : b ≠ en := fun z => nb (by rw [z]; exact List.mem_cons_self ..)
      have b2 : b ≠ it := fun z => nb (by rw [z]; exact List.mem_cons_of_mem _ (List.mem_cons_self ..))
      exact (sb.2 b b1).trans (hk b o b1 b2 q)
    have J := I.turnedNew (t' := tk + 1) (ch := [en, it]) old2 ff (Nat.le_refl _) nw
    refine ⟨.ref s0.heap.objs.size, _, J, rfl, ⟨_, v, rfl, I.hok.fresh (Nat.le_refl _), rfl, fun ws hw => by rw [I.tuple_inj hw sq]; exact ev⟩, ⟨⟨x, ?_⟩, hst.1.at fun o q => (sb.2 it (Ne.symm e3)).trans q, e3, e4, e5⟩, fun b hb => ?_⟩
    · have z : ((i + 1 : Nat) : Int) = (i : Int) + 1 := rfl
      rw [z]; exact he
    · have lb : b < s0.heap.objs.size := by
        rcases List.mem_cons.mp hb with rfl | hb
        · exact l1
        · obtain rfl := List.mem_singleton.mp hb
          exact l2
      rw [upd_ne (Nat.ne_of_lt lb)]
      exact (ff b hb).1
  done := by
    intro X eP ew eK calm i pins s0 σ H F I ff t gg
    subst eP ew eK
    obtain ⟨⟨old, e1⟩, e2, e3, e4, e5⟩ := t
    obtain ⟨vs, sq, le⟩ := gg
    obtain ⟨us, rr, tt, lz⟩ := I.tuple sq
    have DR := Draws.tuple (prog := X.prog) (w := X.w) (A := X.A.in1) (show X.A.in1.handled = none from I.ok.hd calm) it a (Ne.symm e5) us.toArray
    obtain ⟨f0, f1, f2, f3, f4, f5⟩ := ff it (List.mem_cons_of_mem _ (List.mem_cons_self ..))
    have hl := rr.length
    exact en_end (I.ok.hd calm) e1 e2 tt (by simp; omega) fun h2 kp => ⟨rfl, I.turned (t' := s0.toks) (fun b o nb q => kp b o nb q) f0 f1 f3 f4 f5⟩
  self := fun A i s0 Q F t q => by
    obtain ⟨⟨_, e1⟩, _⟩ := t
    exact wpAny_pyIter_enum e1 q
def iEnT (K : PySem.W.Frag) (ta : TA) : TI := fun σ H R => ta σ H fun vs H1 => ∃ a xs, vs = [.ref a] ∧ SqT K H1 a xs ∧ R (IteT K a) H1
theorem pi_enT {X : Cx} {ex : Expr} {ta : TA} {p pos tp : Pos} {tgs : List Expr} {kk : Nat} (hg : Gl X "enumerate") (hm : X.mg "enumerate" = none) (ha : PA X [ex] ta) (hs : starEach [ex] X.env = [(false, eval ex X.env)]) :
    PI X (.Tuple tgs kk tp) (.Call (.Name "enumerate" p) [ex] [] pos) (iEnT X.K ta) := by
  constructor
  intro pins s σ H R I hw
  refine Call_ (ld_blt I hg hm PyProof.Rows.boot_enumerate (PyProof.Rows.callWith_type1 (thn (ha.run pos pins s σ H _ I hw) fun us s1 w1 => ?_) hs rfl))
  obtain ⟨vs, H1, I1, r1, a, xs, ev, sq, q⟩ := w1
  subst ev
  cases r1 with
  | cons r rr =>
    cases rr
    cases r
    obtain ⟨its, rv, tt, hz⟩ := I1.tuple sq
    have la : a < s1.heap.objs.size := by obtain ⟨o, z, _⟩ := tt; exact Heap.lt_size z
    refine en_call (begins_tuple a its.toArray) tt fun h2 ie it2 kp => wpAny_pyIter_enum ie ?_
    have I2 : Inv X pins σ H1 { s1 with heap := h2 } := I1.kept (t' := s1.toks) kp
    refine ⟨s1.heap.objs.size + 1, [s1.heap.objs.size + 1, s1.heap.objs.size], _, _, H1, rfl, I2, turn_enT a (s1.heap.objs.size + 1) s1.heap.objs.size, ⟨⟨.none, ie⟩, ⟨_, it2, rfl, rfl⟩, Nat.succ_ne_self _, Nat.ne_of_gt (Nat.lt_succ_of_lt la), Nat.ne_of_gt la⟩, fun b hb => ?_, q⟩
    have lb : s1.heap.objs.size ≤ b := by
      rcases List.mem_cons.mp hb with z | z
      · rw [z]; exact Nat.le_add_right _ _
      · rw [List.mem_singleton.mp z]; exact Nat.le_refl _
    exact I1.fpOk lb (I1.hok.fresh lb)
/-! enumerate over a text -/
def IteS (x : Str) : It where
  go := fun i _ => i < x.cps.size
  yld := fun i H z H' => ∃ t c, z = .ref t ∧ H t = none ∧ x.cps[i]? = some c ∧ H' = upd H t (.tup [.int (i : Nat), .str ⟨#[c]⟩])
  stop := fun i _ => x.cps.size ≤ i
abbrev enSn (x : Str) (u : Tok) (en it : Addr) : Nat → Heap → Prop := fun i h => (∃ old, IsEnum h en it ((i : Nat) : Int) old) ∧ h.IsStrIter it (strIterType x) x u i ∧ en ≠ it ∧ i ≤ x.cps.size
theorem turn_enS {P : Program} {w : World} {K : PySem.W.Frag} {tgs : List Expr} {kk : Nat} {tp : Pos} (x : Str) (u : Tok) (en it : Addr) : Turn P w K (.Tuple tgs kk tp) (IteS x) [en, it] en (enSn x u en it) where
  mem := List.mem_cons_self ..
  obj := fun i h t b hb => by
    obtain ⟨⟨old, e1⟩, ⟨o, e2, _, e3⟩, _⟩ := t
    rcases List.mem_cons.mp hb with rfl | hb
    · exact ⟨_, e1, fun _ q => nomatch q⟩
    · obtain rfl := List.mem_singleton.mp hb
      exact ⟨o, e2, fun v q => by rw [e3] at q; cases q⟩
  keep := fun i h h' t kp => by
    obtain ⟨⟨old, e1⟩, e2, e3⟩ := t
    exact ⟨⟨old, kp en (List.mem_cons_self ..) _ e1⟩, (let ⟨o, z1, z2, z3⟩ := e2; ⟨o, kp it (List.mem_cons_of_mem _ (List.mem_cons_self ..)) o z1, z2, z3⟩), e3⟩
  item := by
    intro X eP ew eK calm i pins s0 σ H F I ff t gg
    subst eP ew eK
    obtain ⟨⟨old, e1⟩, e2, e3, e4⟩ := t
    have l1 : en < s0.heap.objs.size := Heap.lt_size e1
    have l2 : it < s0.heap.objs.size := by obtain ⟨o, q, _⟩ := e2; exact Heap.lt_size q
    have DR := Draws.text (prog := X.prog) (w := X.w) (A := X.A.in1) (show X.A.in1.handled = none from I.ok.hd calm) it x u
    refine wpAny_pyNext_enum_itemD DR e1 e2 gg e3 (fun q => e3 (List.mem_singleton.mp q)) fun y h1 tk px ho hst hT hsz hk => ?_
    obtain ⟨c, tc, hc, rfl⟩ := px
    refine ⟨_, rfl, wpAny_letOwnedTupleGo_enum (s := { s0 with heap := h1, toks := tk + 1 }) ho fun h2 he sb => ?_⟩
    have n0 : s0.heap.objs.size ≠ en := Nat.ne_of_gt l1
    have tup : h2.get? s0.heap.objs.size = some { cls := .type "tuple", data := .seq #[.int i tk, .str ⟨#[c]⟩ tc] } := (sb.2 _ n0).trans hT
    have nw : ObjOk X.prog X.w (upd H s0.heap.objs.size (.tup [.int (i : Nat), .str ⟨#[c]⟩])) h2 s0.heap.objs.size (.tup [.int (i : Nat), .str ⟨#[c]⟩]) :=
      ⟨by show 2 ≤ sizeLine; decide, [.int i tk, .str ⟨#[c]⟩ tc], .cons ⟨_, rfl⟩ (.cons ⟨_, rfl⟩ .nil), ⟨_, tup, rfl, _, rfl⟩⟩
    have old2 : ∀ b o, b ∉ [en, it] → s0.heap.get? b = some o → h2.get? b = some o := fun b o nb q => by
      have b1 : b ≠ en := fun z => nb (by rw [z]; exact List.mem_cons_self ..)
      have b2 : b ≠ it := fun z => nb (by rw [z]; exact List.mem_cons_of_mem _ (List.mem_cons_self ..))
      exact (sb.2 b b1).trans (hk b o b1 b2 q)
    have J := I.turnedNew (t' := tk + 1) (ch := [en, it]) old2 ff (Nat.le_refl _) nw
    refine ⟨.ref s0.heap.objs.size, _, J, rfl, ⟨_, c, rfl, I.hok.fresh (Nat.le_refl _), hc, rfl⟩, ⟨⟨.str ⟨#[c]⟩ tc, ?_⟩, (let ⟨o, z1, z2, z3⟩ := hst; ⟨o, (sb.2 it (Ne.symm e3)).trans z1, z2, z3⟩), e3, gg⟩, fun b hb => ?_⟩
    · have z : ((i + 1 : Nat) : Int) = (i : Int) + 1 := rfl
      rw [z]; exact he
    · have lb : b < s0.heap.objs.size := by
        rcases List.mem_cons.mp hb with rfl | hb
        · exact l1
        · obtain rfl := List.mem_singleton.mp hb
          exact l2
      rw [upd_ne (Nat.ne_of_lt lb)]
      exact (ff b hb).1
  done := by
    intro X eP ew eK calm i pins s0 σ H F I ff t gg
    subst eP ew eK
    obtain ⟨⟨old, e1⟩, e2, e3, e4⟩ := t
    have ei : i = x.cps.size := Nat.le_antisymm e4 gg
    have DR := Draws.text (prog := X.prog) (w := X.w) (A := X.A.in1) (show X.A.in1.handled = none from I.ok.hd calm) it x u
    obtain ⟨f0, f1, f2, f3, f4, f5⟩ := ff it (List.mem_cons_of_mem _ (List.mem_cons_self ..))
    exact wpAny_pyNext_enum_endD DR e1 (by rw [← ei]; exact e2) fun h2 kp => ⟨rfl, I.turned (t' := s0.toks) (fun b o nb q => kp b o nb q) f0 f1 f3 f4 f5⟩
  self := fun A i s0 Q F t q => by
    obtain ⟨⟨_, e1⟩, _⟩ := t
    exact wpAny_pyIter_enum e1 q
def iEnS (ta : TA) : TI := fun σ H R => ta σ H fun vs H1 => ∃ x, vs = [.str x] ∧ R (IteS x) H1
theorem pi_enS {X : Cx} {ex : Expr} {ta : TA} {p pos tp : Pos} {tgs : List Expr} {kk : Nat} (hg : Gl X "enumerate") (hm : X.mg "enumerate" = none) (ha : PA X [ex] ta) (hs : starEach [ex] X.env = [(false, eval ex X.env)]) :
    PI X (.Tuple tgs kk tp) (.Call (.Name "enumerate" p) [ex] [] pos) (iEnS ta) := by
  constructor
  intro pins s σ H R I hw
  refine Call_ (ld_blt I hg hm PyProof.Rows.boot_enumerate (PyProof.Rows.callWith_type1 (thn (ha.run pos pins s σ H _ I hw) fun us s1 w1 => ?_) hs rfl))
  obtain ⟨vs, H1, I1, r1, x, ev, q⟩ := w1
  subst ev
  cases r1 with
  | cons r rr =>
    cases rr
    obtain ⟨u, rfl⟩ := r
    refine en_call (begins_text x u) trivial fun h2 ie it2 kp => wpAny_pyIter_enum ie ?_
    have I2 : Inv X pins σ H1 { s1 with heap := h2 } := I1.kept (t' := s1.toks) kp
    refine ⟨s1.heap.objs.size + 1, [s1.heap.objs.size + 1, s1.heap.objs.size], _, _, H1, rfl, I2, turn_enS x u (s1.heap.objs.size + 1) s1.heap.objs.size, ⟨⟨.none, ie⟩, ⟨_, it2, rfl, rfl⟩, Nat.succ_ne_self _, Nat.zero_le _⟩, fun b hb => ?_, q⟩
    have lb : s1.heap.objs.size ≤ b := by
      rcases List.mem_cons.mp hb with z | z
      · rw [z]; exact Nat.le_add_right _ _
      · rw [List.mem_singleton.mp z]; exact Nat.le_refl _
    exact I1.fpOk lb (I1.hok.fresh lb)
end Lk

end
section
set_option linter.all false
set_option maxHeartbeats 1000000
namespace Lk
open PySem PySem.Spec PyProof.Rows L2 RZ RT
section
variable {K : PySem.W.Frag} {ρ : List Addr} {H : Hp} {p : Addr} {vs ws : List V} {ds es : List D}
/-- what a list that is walked shows at every turn -/
def Lw (K : PySem.W.Frag) (ρ : List Addr) (H : Hp) (p : Addr) (ds : List D) (gd : Gd) : Prop := ∀ {ρ' st' H'}, Nx K ρ H ρ' st' H' → gd.stand st' → ∃ vs, SqL K H' p vs ∧ RDs K H' ρ' ds vs
def Tw (K : PySem.W.Frag) (ρ : List Addr) (H : Hp) (p : Addr) (ds : List D) : Prop := ∀ {ρ' st' H'}, Nx K ρ H ρ' st' H' → ∃ vs, SqT K H' p vs ∧ RDs K H' ρ' ds vs
theorem lw_pl {l : Nat} (hp : ρ[l]? = some p) : Lw K ρ H p ds [(l, ds)] := fun {ρ' st' H'} n s => by
  obtain ⟨m, e⟩ := n.pre
  exact n.rel.lget s.1 (by rw [e]; exact getE_pre hp)
theorem lw_new (hn : p ∉ ρ.tail) (h : H p = some (.lst vs)) (r : RDs K H ρ ds vs) : Lw K ρ H p ds [] := fun {ρ' st' H'} n s => ⟨vs, .of (n.kept hn h).2, r.nx n⟩
theorem tw_of (h : SqT K H p vs) (r : RDs K H ρ ds vs) : Tw K ρ H p ds := fun {ρ' st' H'} n => ⟨vs, SqT.fr n.fr.z h, r.nx n⟩
theorem wk_list {gd : Gd} (key : Lw K ρ H p ds gd) : WkI K ρ H (Itl K p) ds gd := by
  refine ⟨fun i ρ' st' H' n s hi => ?_, fun ρ' st' H' n s => ?_, fun i ρ' st' H' x H2 d n s hd y => ?_⟩
  · obtain ⟨vs, h1, h2⟩ := key n s
    obtain ⟨v, h3, _⟩ := h2.get (List.getElem?_eq_getElem hi)
    exact ⟨vs, v, h1, h3⟩
  · obtain ⟨vs, h1, h2⟩ := key n s
    exact ⟨vs, h1, by rw [← h2.length]; exact Nat.le_refl _⟩
  · obtain ⟨vs, h1, h2⟩ := key n s
    obtain ⟨rfl, y⟩ := y
    obtain ⟨v, h3, h4⟩ := h2.get hd
    rw [y vs h1] at h3
    cases h3
    exact ⟨Nx.refl n.rel, h4⟩
theorem wk_tup {gd : Gd} (key : Tw K ρ H p ds) : WkI K ρ H (Itt K p) ds gd := by
  refine ⟨fun i ρ' st' H' n s hi => ?_, fun ρ' st' H' n s => ?_, fun i ρ' st' H' x H2 d n s hd y => ?_⟩
  · obtain ⟨vs, h1, h2⟩ := key n
    obtain ⟨v, h3, _⟩ := h2.get (List.getElem?_eq_getElem hi)
    exact ⟨vs, v, h1, h3⟩
  · obtain ⟨vs, h1, h2⟩ := key n
    exact ⟨vs, h1, by rw [← h2.length]; exact Nat.le_refl _⟩
  · obtain ⟨vs, h1, h2⟩ := key n
    obtain ⟨rfl, y⟩ := y
    obtain ⟨v, h3, h4⟩ := h2.get hd
    rw [y vs h1] at h3
    cases h3
    exact ⟨Nx.refl n.rel, h4⟩
theorem enumD_get : ∀ (ds : List D) (k i : Nat), (enumD k ds)[i]? = (ds[i]?).map fun d => .tup [.int (k + i : Nat), d]
  | [], _, _ => by simp [enumD]
  | d :: ds, k, 0 => by simp [enumD]
  | d :: ds, k, i + 1 => by
    show (enumD (k + 1) ds)[i]? = _
    rw [enumD_get ds (k + 1) i]
    have : k + 1 + i = k + (i + 1) := by omega
    rw [this]; rfl
theorem enumD_len : ∀ (ds : List D) (k : Nat), (enumD k ds).length = ds.length
  | [], _ => rfl
  | d :: ds, k => by show (enumD (k + 1) ds).length + 1 = ds.length + 1; rw [enumD_len ds]
theorem pair_rd {st : Stt} {x y : V} {d e : D} {t : Addr} (r : Rel K ρ st H) (hn : H t = none) (hx : RD K H ρ d x) (hy : RD K H ρ e y) (hd : dstrs [d, e] = none) : Nx K ρ H ρ st (upd H t (.tup [x, y])) ∧ RD K (upd H t (.tup [x, y])) ρ (.tup [d, e]) (.ref t) :=
  Nx.tup r hn (.cons hx (.cons hy .nil)) hd
theorem wk_enum {gd : Gd} (key : Lw K ρ H p ds gd) : WkI K ρ H (Ite K p) (enumD 0 ds) gd := by
  refine ⟨fun i ρ' st' H' n s hi => ?_, fun ρ' st' H' n s => ?_, fun i ρ' st' H' x H2 d n s hd y => ?_⟩
  · obtain ⟨vs, h1, h2⟩ := key n s
    rw [enumD_len] at hi
    obtain ⟨v, h3, _⟩ := h2.get (List.getElem?_eq_getElem hi)
    exact ⟨vs, v, h1, h3⟩
  · obtain ⟨vs, h1, h2⟩ := key n s
    exact ⟨vs, h1, by rw [← h2.length, enumD_len]; exact Nat.le_refl _⟩
  · obtain ⟨vs, h1, h2⟩ := key n s
    rw [enumD_get] at hd
    cases q : ds[i]? with
    | none => rw [q] at hd; cases hd
    | some d0 =>
      rw [q] at hd
      cases hd
      obtain ⟨T, z, rfl, hT, rfl, y⟩ := y
      obtain ⟨v, h3, h4⟩ := h2.get q
      rw [y vs h1] at h3
      cases h3
      have e : 0 + i = i := Nat.zero_add i
      rw [e]
      exact pair_rd n.rel hT (.int _) h4 rfl
theorem wk_enumT {gd : Gd} (key : Tw K ρ H p ds) : WkI K ρ H (IteT K p) (enumD 0 ds) gd := by
  refine ⟨fun i ρ' st' H' n s hi => ?_, fun ρ' st' H' n s => ?_, fun i ρ' st' H' x H2 d n s hd y => ?_⟩
  · obtain ⟨vs, h1, h2⟩ := key n
    rw [enumD_len] at hi
    obtain ⟨v, h3, _⟩ := h2.get (List.getElem?_eq_getElem hi)
    exact ⟨vs, v, h1, h3⟩
  · obtain ⟨vs, h1, h2⟩ := key n
    exact ⟨vs, h1, by rw [← h2.length, enumD_len]; exact Nat.le_refl _⟩
  · obtain ⟨vs, h1, h2⟩ := key n
    rw [enumD_get] at hd
    cases q : ds[i]? with
    | none => rw [q] at hd; cases hd
    | some d0 =>
      rw [q] at hd
      cases hd
      obtain ⟨T, z, rfl, hT, rfl, y⟩ := y
      obtain ⟨v, h3, h4⟩ := h2.get q
      rw [y vs h1] at h3
      cases h3
      have e : 0 + i = i := Nat.zero_add i
      rw [e]
      exact pair_rd n.rel hT (.int _) h4 rfl
theorem zipD_get : ∀ (ds es : List D) (i : Nat), (zipD ds es)[i]? = match ds[i]?, es[i]? with
    | some d, some e => some (.tup [d, e])
    | _, _ => none
  | [], es, i => by cases es <;> simp [zipD]
  | d :: ds, [], i => by
    show ([] : List D)[i]? = _
    cases (d :: ds)[i]? <;> simp
  | d :: ds, e :: es, 0 => by simp [zipD]
  | d :: ds, e :: es, i + 1 => by
    show (zipD ds es)[i]? = _
    rw [zipD_get ds es i]; simp
theorem zipD_len : ∀ (ds es : List D), (zipD ds es).length = min ds.length es.length
  | [], es => by cases es <;> simp [zipD]
  | d :: ds, [] => by simp [zipD]
  | d :: ds, e :: es => by
    show (zipD ds es).length + 1 = _
    rw [zipD_len ds es, List.length_cons, List.length_cons]; omega
theorem zip_noS {ds es : List D} {i : Nat} {d e : D} (hz : (zipD ds es).all D.noS = true) (q1 : ds[i]? = some d) (q2 : es[i]? = some e) : dstrs [d, e] = none := by
  have h := zipD_get ds es i
  rw [q1, q2] at h
  have := List.all_eq_true.1 hz _ (List.mem_of_getElem? h)
  exact Option.isNone_iff_eq_none.1 this
theorem wk_zip {q : Addr} {gd ge : Gd} (key : Lw K ρ H p ds gd) (kez : Lw K ρ H q es ge) (hg : ∀ s, (gd ++ ge : Gd).stand s → gd.stand s ∧ ge.stand s) (hz : (zipD ds es).all D.noS = true) : WkI K ρ H (Itz K p q) (zipD ds es) (gd ++ ge) := by
  refine ⟨fun i ρ' st' H' n s hi => ?_, fun ρ' st' H' n s => ?_, fun i ρ' st' H' x H2 d n s hd y => ?_⟩
  · obtain ⟨vs, h1, h2⟩ := key n (hg _ s).1
    obtain ⟨ws, k1, k2⟩ := kez n (hg _ s).2
    rw [zipD_len] at hi
    obtain ⟨v, h3, _⟩ := h2.get (List.getElem?_eq_getElem (show i < ds.length by omega))
    obtain ⟨w, k3, _⟩ := k2.get (List.getElem?_eq_getElem (show i < es.length by omega))
    exact ⟨vs, ws, v, w, h1, k1, h3, k3⟩
  · obtain ⟨vs, h1, h2⟩ := key n (hg _ s).1
    obtain ⟨ws, k1, k2⟩ := kez n (hg _ s).2
    refine ⟨vs, ws, h1, k1, ?_⟩
    rw [← h2.length, ← k2.length, zipD_len]
    omega
  · obtain ⟨vs, h1, h2⟩ := key n (hg _ s).1
    obtain ⟨ws, k1, k2⟩ := kez n (hg _ s).2
    rw [zipD_get] at hd
    split at hd
    · rename_i d0 e0 q1 q2
      cases hd
      obtain ⟨T, z, u, rfl, hT, rfl, y1, y2⟩ := y
      obtain ⟨v, h3, h4⟩ := h2.get q1
      obtain ⟨w, k3, k4⟩ := k2.get q2
      rw [y1 vs h1] at h3
      rw [y2 ws k1] at k3
      cases h3; cases k3
      exact pair_rd n.rel hT h4 k4 (zip_noS hz q1 q2)
    · cases hd
theorem wk_zipT {q : Addr} {gd : Gd} (key : Tw K ρ H p ds) (kez : Tw K ρ H q es) (hz : (zipD ds es).all D.noS = true) : WkI K ρ H (ItzT K p q) (zipD ds es) gd := by
  refine ⟨fun i ρ' st' H' n s hi => ?_, fun ρ' st' H' n s => ?_, fun i ρ' st' H' x H2 d n s hd y => ?_⟩
  · obtain ⟨vs, h1, h2⟩ := key n
    obtain ⟨ws, k1, k2⟩ := kez n
    rw [zipD_len] at hi
    obtain ⟨v, h3, _⟩ := h2.get (List.getElem?_eq_getElem (show i < ds.length by omega))
    obtain ⟨w, k3, _⟩ := k2.get (List.getElem?_eq_getElem (show i < es.length by omega))
    exact ⟨vs, ws, v, w, h1, k1, h3, k3⟩
  · obtain ⟨vs, h1, h2⟩ := key n
    obtain ⟨ws, k1, k2⟩ := kez n
    refine ⟨vs, ws, h1, k1, ?_⟩
    rw [← h2.length, ← k2.length, zipD_len]
    omega
  · obtain ⟨vs, h1, h2⟩ := key n
    obtain ⟨ws, k1, k2⟩ := kez n
    rw [zipD_get] at hd
    split at hd
    · rename_i d0 e0 q1 q2
      cases hd
      obtain ⟨T, z, u, rfl, hT, rfl, y1, y2⟩ := y
      obtain ⟨v, h3, h4⟩ := h2.get q1
      obtain ⟨w, k3, k4⟩ := k2.get q2
      rw [y1 vs h1] at h3
      rw [y2 ws k1] at k3
      cases h3; cases k3
      exact pair_rd n.rel hT h4 k4 (zip_noS hz q1 q2)
    · cases hd
theorem wk_str {x : List Nat} (o : okStr x) : WkI K ρ H (Its (mkS x)) (chars x) [] := by
  have hl : (chars x).length = (mkS x).cps.size := by unfold chars; rw [List.length_map]; simp [mkS]
  refine ⟨fun i ρ st H _ _ hi => by rw [hl] at hi; exact hi, fun ρ st H _ _ => by rw [hl]; exact Nat.le_refl _, fun i ρ st H v H' d nx _ hd y => ?_⟩
  obtain ⟨rfl, c, hc, rfl⟩ := y
  refine ⟨Nx.refl nx.rel, ?_⟩
  unfold chars at hd
  rw [List.getElem?_map] at hd
  have hc : x[i]? = some c := by simpa [mkS] using hc
  rw [hc] at hd
  have hd : D.str [c] = d := Option.some.inj hd
  rw [← hd]
  exact .str (o.one (List.mem_of_getElem? hc))
theorem wk_enumS {x : List Nat} (o : okStr x) : WkI K ρ H (IteS (mkS x)) (enumD 0 (chars x)) [] := by
  have hl : (chars x).length = (mkS x).cps.size := by unfold chars; rw [List.length_map]; simp [mkS]
  refine ⟨fun i ρ st H _ _ hi => by rw [enumD_len, hl] at hi; exact hi, fun ρ st H _ _ => by rw [enumD_len, hl]; exact Nat.le_refl _, fun i ρ st H v H' d nx _ hd y => ?_⟩
  obtain ⟨t, c, rfl, ht, hc, rfl⟩ := y
  rw [enumD_get] at hd
  have hc : x[i]? = some c := by simpa [mkS] using hc
  have hch : (chars x)[i]? = some (.str [c]) := by unfold chars; rw [List.getElem?_map, hc]; rfl
  rw [hch] at hd
  cases hd
  have e : 0 + i = i := Nat.zero_add i
  rw [e]
  exact pair_rd nx.rel ht (.int _) (.str (o.one (List.mem_of_getElem? hc))) rfl
theorem rev_get {α : Type} {xs : List α} {i : Nat} {x : α} (h : xs.reverse[i]? = some x) : i < xs.length ∧ xs[xs.length - 1 - i]? = some x := by
  have hi : i < xs.length := by
    have := (List.getElem?_eq_some_iff.mp h).1
    rwa [List.length_reverse] at this
  rw [List.getElem?_reverse hi] at h
  exact ⟨hi, h⟩
theorem wk_rev {gd : Gd} {n : Nat} (key : Lw K ρ H p ds gd) (hn : n = ds.length) : WkI K ρ H (Itv K p n) ds.reverse gd := by
  subst hn
  refine ⟨fun i ρ' st' H' n s hi => ?_, fun ρ' st' H' n s => ?_, fun i ρ' st' H' x H2 d n s hd y => ?_⟩
  · rw [List.length_reverse] at hi
    obtain ⟨vs, h1, h2⟩ := key n s
    obtain ⟨v, h3, _⟩ := h2.get (List.getElem?_eq_getElem (show ds.length - 1 - i < ds.length by omega))
    exact ⟨hi, vs, v, h1, h3⟩
  · rw [List.length_reverse]; exact Nat.le_refl _
  · obtain ⟨hi, hd⟩ := rev_get hd
    obtain ⟨vs, h1, h2⟩ := key n s
    obtain ⟨rfl, y⟩ := y
    obtain ⟨v, h3, h4⟩ := h2.get hd
    rw [y vs h1] at h3
    cases h3
    exact ⟨Nx.refl n.rel, h4⟩
theorem wk_revT {gd : Gd} {n : Nat} (key : Tw K ρ H p ds) (hn : n = ds.length) : WkI K ρ H (ItvT K p n) ds.reverse gd := by
  subst hn
  refine ⟨fun i ρ' st' H' n s hi => ?_, fun ρ' st' H' n s => ?_, fun i ρ' st' H' x H2 d n s hd y => ?_⟩
  · rw [List.length_reverse] at hi
    obtain ⟨vs, h1, h2⟩ := key n
    obtain ⟨v, h3, _⟩ := h2.get (List.getElem?_eq_getElem (show ds.length - 1 - i < ds.length by omega))
    exact ⟨hi, vs, v, h1, h3⟩
  · rw [List.length_reverse]; exact Nat.le_refl _
  · obtain ⟨hi, hd⟩ := rev_get hd
    obtain ⟨vs, h1, h2⟩ := key n
    obtain ⟨rfl, y⟩ := y
    obtain ⟨v, h3, h4⟩ := h2.get hd
    rw [y vs h1] at h3
    cases h3
    exact ⟨Nx.refl n.rel, h4⟩
end
section
variable {X : Cx} {cA : Nat → Option Addr} {W : WX} {k : Cal} {xi : Option XI} {a b tg : Expr} {p pos : Pos} {cq cr : SQ}
theorem lw_of {K : PySem.W.Frag} {H : Hp} {ρ : List Addr} {d : D} {ds : List D} {v : V} (h : VQ K H ρ (d, .l ds) v) : ∃ a vs, v = .ref a ∧ SqL K H a vs ∧ RDs K H ρ ds vs ∧ Lw K ρ H a ds (gdOf d (.l ds)) := by
  cases h with
  | new h1 h2 h3 => exact ⟨_, _, rfl, .of h2, h3, lw_new h1 h2 h3⟩
  | pl h1 h2 h3 => exact ⟨_, _, rfl, h2, h3, lw_pl h1⟩
theorem s_itval (ha : PE X a (tQ X.K cA W k xi cq)) : PI X tg a (tI X.K cA W k xi (.val cq)) := pi_of fun σ H R ⟨e, st, ρ, r, g⟩ => by
  rw [iI] at g
  have g := g.bind
  have ht : ∀ Q', Good X.K cA W σ ρ H (iQ k (xo xi) cq e st) (kQ X.K Q') → tQ X.K cA W k xi cq σ H Q' := fun Q' q => ⟨e, st, ρ, r, q⟩
  generalize iQ k (xo xi) cq e st = rr at g ht
  cases rr with
  | err => exact g.elim
  | exc x s1 => exact ⟨_, pi_list ha, ht _ g⟩
  | ok q s1 =>
    obtain ⟨d, q⟩ := q
    cases q with
    | l ds =>
      refine ⟨_, pi_list ha, ht _ fun ρ1 H1 n1 v hv => ?_⟩
      obtain ⟨p, vs, rfl, h1, h2, lw⟩ := lw_of hv
      exact ⟨p, rfl, ⟨vs, h1⟩, g ρ1 H1 n1 ρ1 H1 (Nx.refl n1.rel) _ (wk_list lw)⟩
    | t ds =>
      refine ⟨_, pi_tup ha, ht _ fun ρ1 H1 n1 v hv => ?_⟩
      cases hv with
      | tu h1 h2 => exact ⟨_, rfl, ⟨_, h1.1⟩, g ρ1 H1 n1 ρ1 H1 (Nx.refl n1.rel) _ (wk_tup (tw_of h1.1 h2))⟩
    | s x =>
      refine ⟨_, pi_str ha, ht _ fun ρ1 H1 n1 v hv => ?_⟩
      cases hv with
      | st o => exact ⟨_, rfl, g ρ1 H1 n1 ρ1 H1 (Nx.refl n1.rel) _ (wk_str o)⟩
variable {es : List Expr} {kk : Nat} {tp : Pos}
theorem s_enm (hg : Gl X "enumerate") (hm : X.mg "enumerate" = none) (ha : PE X a (tQ X.K cA W k xi cq)) (h1 : noStar a = true) : PI X (.Tuple es kk tp) (.Call (.Name "enumerate" p) [a] [] pos) (tI X.K cA W k xi (.enm cq)) := pi_of fun σ H R ⟨e, st, ρ, r, g⟩ => by
  rw [iI] at g
  have g := g.bind
  have hs : starEach [a] X.env = [(false, eval a X.env)] := by rw [star_cons h1]; rfl
  have ht : ∀ Q' : List V → Hp → Prop, Good X.K cA W σ ρ H (iQ k (xo xi) cq e st) (kQ X.K fun v H' => Q' [v] H') → tCons (tQ X.K cA W k xi cq) tNil σ H Q' := fun Q' q => ⟨e, st, ρ, r, q⟩
  generalize iQ k (xo xi) cq e st = rr at g ht
  cases rr with
  | err => exact g.elim
  | exc x s1 => exact ⟨_, pi_enum hg hm (pa1 ha h1) hs, ht _ g⟩
  | ok q s1 =>
    obtain ⟨d, q⟩ := q
    cases q with
    | l ds =>
      refine ⟨_, pi_enum hg hm (pa1 ha h1) hs, ht _ fun ρ1 H1 n1 v hv => ?_⟩
      obtain ⟨p, vs, rfl, h1, h2, lw⟩ := lw_of hv
      exact ⟨p, vs, rfl, h1, g ρ1 H1 n1 ρ1 H1 (Nx.refl n1.rel) _ (wk_enum lw)⟩
    | t ds =>
      refine ⟨_, pi_enT hg hm (pa1 ha h1) hs, ht _ fun ρ1 H1 n1 v hv => ?_⟩
      cases hv with
      | tu h1 h2 => exact ⟨_, _, rfl, h1.1, g ρ1 H1 n1 ρ1 H1 (Nx.refl n1.rel) _ (wk_enumT (tw_of h1.1 h2))⟩
    | s x =>
      refine ⟨_, pi_enS hg hm (pa1 ha h1) hs, ht _ fun ρ1 H1 n1 v hv => ?_⟩
      cases hv with
      | st o => exact ⟨_, rfl, g ρ1 H1 n1 ρ1 H1 (Nx.refl n1.rel) _ (wk_enumS o)⟩
theorem s_rev_it (hg : Gl X "reversed") (hm : X.mg "reversed" = none) (ha : PE X a (tQ X.K cA W k xi cq)) (h1 : noStar a = true) : PI X tg (.Call (.Name "reversed" p) [a] [] pos) (tI X.K cA W k xi (.rev cq)) := pii (pi_revA hg hm ha (star_cons h1)) fun σ H R ⟨e, st, ρ, r, g⟩ => by
  rw [iI] at g
  refine ⟨e, st, ρ, r, g.bind.mono fun q st1 ρ1 H1 _ n1 g v hv => ?_⟩
  obtain ⟨d, q⟩ := q
  cases q with
  | l ds =>
    obtain ⟨p, vs, rfl, h1, h2, lw⟩ := lw_of hv
    exact ⟨p, vs, rfl, .inl ⟨h1, g ρ1 H1 (Nx.refl n1.rel) _ (wk_rev lw h2.length.symm)⟩⟩
  | t ds =>
    cases hv with
    | tu h1 h2 => exact ⟨_, _, rfl, .inr ⟨h1.1, g ρ1 H1 (Nx.refl n1.rel) _ (wk_revT (tw_of h1.1 h2) h2.length.symm)⟩⟩
  | s x => exact g.elim
theorem stand_app : ∀ {g h : Gd} {s : Stt}, (g ++ h : Gd).stand s → g.stand s ∧ h.stand s
  | [], h, s, q => ⟨trivial, q⟩
  | (l, xs) :: g, h, s, q => let z := stand_app (g := g) q.2; ⟨⟨q.1, z.1⟩, z.2⟩
theorem VQ.nx {K : PySem.W.Frag} {ρ ρ' : List Addr} {H H' : Hp} {st' : Stt} {q : D × Sq} {v : V} (h : VQ K H ρ q v) (n : Nx K ρ H ρ' st' H') (hs : (gdOf q.1 q.2).stand st') : VQ K H' ρ' q v := by
  cases h with
  | new h1 h2 h3 => exact .new (n.kept h1 h2).1 (n.kept h1 h2).2 (h3.nx n)
  | pl h1 h2 h3 =>
    obtain ⟨m, e⟩ := n.pre
    have e' := getE_pre (m := m) h1
    rw [← e] at e'
    obtain ⟨vs, k1, k2⟩ := n.rel.lget hs.1 e'
    exact .pl e' k1 k2
  | tu h1 h2 => exact .tu (Tp.fr n.fr.z h1) (h2.nx n)
  | st o => exact .st o
theorem Good.guard {α : Type} {K : PySem.W.Frag} {cA : Nat → Option Addr} {W : WX} {σ : L2.St} {ρ : List Addr} {H : Hp} {s : Stt} {g : Gd} {r : R α} {kk : α → Stt → List Addr → Hp → Prop} (h : Good K cA W σ ρ H (guard s g r) kk) : g.stand s ∧ Good K cA W σ ρ H r kk := by
  unfold Lk.guard at h
  split at h
  · rename_i hs
    exact ⟨hs, h⟩
  · exact h.elim
theorem s_zip (hg : Gl X "zip") (hm : X.mg "zip" = none) (ha : PE X a (tQ X.K cA W k xi cq)) (hb : PE X b (tQ X.K cA W k xi cr)) (h1 : noStar a = true) (h2 : noStar b = true) : PI X (.Tuple es kk tp) (.Call (.Name "zip" p) [a, b] [] pos) (tI X.K cA W k xi (.zip cq cr)) :=
  pii (pi_zipA hg hm (pa_cons ha (pa1 hb h2) (star_cons h1)) (star_cons h1) (star_any (by simp [noStars, h2]))) fun σ H R ⟨e, st, ρ, r, g⟩ => by
    rw [iI] at g
    refine ⟨e, st, ρ, r, g.bind.mono fun q st1 ρ1 H1 _ n1 g v hv => ⟨e, st1, ρ1, r.nx n1, g.bind.mono fun q2 st2 ρ2 H2 _ n2 g w hw => ?_⟩⟩
    obtain ⟨d, q⟩ := q
    obtain ⟨d2, q2⟩ := q2
    cases q with
    | l ds =>
      cases q2 with
      | l es =>
        obtain ⟨hs, g⟩ := g.guard
        obtain ⟨hz, g⟩ := g.chk
        obtain ⟨p, vs, rfl, h1, h2, lw⟩ := lw_of (hv.nx n2 hs)
        obtain ⟨p2, vs2, rfl, k1, k2, lw2⟩ := lw_of hw
        exact ⟨p, p2, vs, vs2, rfl, .inl ⟨h1, k1, g ρ2 H2 (Nx.refl n2.rel) _ (wk_zip lw lw2 (fun s => stand_app) hz)⟩⟩
      | _ => exact g.elim
    | t ds =>
      cases q2 with
      | t es =>
        cases hv with
        | tu h1 h2 =>
          cases hw with
          | tu k1 k2 =>
            have g2 : Good X.K cA W σ ρ2 H2 (chk ((zipD ds es).all D.noS) (.ok (zipD ds es, []) st2)) _ := g
            obtain ⟨hz, g⟩ := g2.chk
            exact ⟨_, _, _, _, rfl, .inr ⟨SqT.fr n2.fr.z h1.1, k1.1, g ρ2 H2 (Nx.refl n2.rel) _ (wk_zipT (tw_of (SqT.fr n2.fr.z h1.1) (h2.nx n2)) (tw_of k1.1 k2) hz)⟩⟩
      | _ => exact g.elim
    | s x => exact g.elim
end
end Lk

end
section
set_option linter.all false
set_option maxHeartbeats 1000000
namespace Lk
open PySem PySem.Spec PyProof.Rows L2
/-! ### calls -/
/-- what a def promises: what k f computes -/
def spF (K : PySem.W.Frag) (cA : Nat → Option Addr) (k : Cal) (f n : Nat) : Sp := fun vs H Q E => vs.length = n ∧ ∃ ds ρ st, Rel K ρ st H ∧ RDs K H ρ ds vs ∧ Good K cA (fun c d _ H' => E c d H') [] ρ H (k f ds st) (kD K Q)
theorem spF_len {K : PySem.W.Frag} {cA : Nat → Option Addr} {k : Cal} {f n : Nat} (vs : List V) (H : Hp) (Q : VK) (E : XK) (h : spF K cA k f n vs H Q E) : vs.length = n := h.1
/-- the f-th def, by its name x, of the parameters ps -/
structure FnA (X : Cx) (cA : Nat → Option Addr) (kws : List (Nat × Nat × List Str × List Nat)) (k : Cal) (f : Nat) (x : Str) (ps : List Str) (j : Nat) (fa : Addr) (fd : FuncData) : Prop where
  ok : FnOk X.prog X.w X.K X.mg X.base (L2.CX X.prog X.w) j fa fd ps (spF X.K cA k f ps.length)
  room : Room j X.A
  hm : X.mg x = some (.ref fa)
  kp : PySem.W.keepIn X.K (.ref fa) = true
  bd : Binds X.K fd ps []
  kb : ∀ m ks pm, (f, m, ks, pm) ∈ kws → KBinds X.K fd ps ks (gK m ks.length pm) (gK m ks.length pm)
theorem Good.sig {α : Type} {K : PySem.W.Frag} {cA : Nat → Option Addr} {W : WX} {σ σ' : L2.St} {ρ : List Addr} {H : Hp} {r : R α} {kk : α → Stt → List Addr → Hp → Prop} (g : Good K cA W σ ρ H r kk) : Good K cA (fun c d _ H' => W c d σ H') σ' ρ H r kk := by
  cases r <;> exact g
section
variable {X : Cx} {cA : Nat → Option Addr} {W : WX} {k : Cal} {xi : Option XI} {a b c : Expr} {p pos apos : Pos} {ca cb cc : C} {es : List Expr} {cs : CL} {cq : SQ} {x : Str} {f j : Nat} {ps : List Str} {fa : Addr} {fd : FuncData} {kws : List (Nat × Nat × List Str × List Nat)}
theorem call_sp {σ : L2.St} {H : Hp} {Q : VK} {n : Nat} (hn : ∀ e st ds s, iA k (xo xi) cs e st = .ok ds s → ds.length = n) : tE X.K cA W k xi (.call f cs) σ H Q → tA X.K cA W k xi cs σ H (fun vs H1 => spF X.K cA k f n vs H1 Q (WE W σ)) := fun ⟨e, st, ρ, r, g⟩ => by
  rw [iE] at g
  refine ⟨e, st, ρ, r, g.bind.mono fun ds st1 ρ1 H1 e1 n1 g vs rv => ⟨by rw [← rv.length]; exact hn _ _ _ _ e1, ds, ρ1, st1, n1.rel, rv, ?_⟩⟩
  exact g.sig
theorem iA_len {xn : Option Xn} : ∀ {cs : CL} {e : Ev} {st : Stt} {ds : List D} {s : Stt}, iA k xn cs e st = .ok ds s → ds.length = clen cs
  | .nil, e, st, ds, s, h => by rw [iA] at h; cases h; rfl
  | .cons c r, e, st, ds, s, h => by
    rw [iA] at h
    obtain ⟨d, s1, _, h⟩ := bind_inv h
    obtain ⟨ds', s2, h2, h⟩ := bind_inv h
    cases h
    show ds'.length + 1 = clen r + 1
    rw [iA_len h2]
theorem s_call (F : FnA X cA kws k f x ps j fa fd) (hg : Gl X x) (hx : ∀ σ, PassesAt (L2.CX X.prog X.w) X σ (WE W σ)) (hdb : (x == ("__debug__" : Str)) = false) (ha : PA X (a :: es) (tA X.K cA W k xi cs)) (hl : clen cs = ps.length) (h1 : noStar a = true) (h2 : noStars es = true) :
    PE X (.Call (.Name x p) (a :: es) [] pos) (tE X.K cA W k xi (.call f cs)) :=
  pei (pe_callS F.ok F.room hg F.hm F.kp F.bd hx ha hdb (star_cons h1) (star_any h2)) fun σ H Q q => call_sp (fun e st ds s h => (iA_len h).trans hl) q
/-- f() -/
theorem pe_call0S {sp : Sp} {F : L2.St → XK} (fn : FnOk X.prog X.w X.K X.mg X.base (L2.CX X.prog X.w) j fa fd ps sp) (rm : Room j X.A) (hg : Gl X x) (hm : X.mg x = some (.ref fa)) (kp : PySem.W.keepIn X.K (.ref fa) = true) (bd : Binds X.K fd ps [])
    (hx : ∀ σ, PassesAt (L2.CX X.prog X.w) X σ (F σ)) (hdb : (x == ("__debug__" : Str)) = false) : PE X (.Call (.Name x p) [] [] pos) (tCallS sp F tNil) := by
  constructor
  intro pins s σ H Q I h
  have step : wpAny (model X.prog X.w) X.A (call (.ref fa) ([] ++ [])) (EP X pins σ Q) X.xe s := run_fnS (us := []) fn rm bd (hx σ) I .nil h
  exact wpAny_Call_Name_kw (ld_glob I hg hm (PySem.W.callWith_K0 I.kIn kp step) hdb)
theorem s_call0 (F : FnA X cA kws k f x [] j fa fd) (hg : Gl X x) (hx : ∀ σ, PassesAt (L2.CX X.prog X.w) X σ (WE W σ)) (hdb : (x == ("__debug__" : Str)) = false) : PE X (.Call (.Name x p) [] [] pos) (tE X.K cA W k xi (.call f .nil)) :=
  pei (pe_call0S F.ok F.room hg F.hm F.kp F.bd hx hdb) fun σ H Q ⟨e, st, ρ, r, g⟩ => by
    rw [iE, iA] at g
    exact ⟨rfl, [], ρ, st, r.rel, .nil, g.sig⟩
/-! ### f(.., k = v, ..) -/
def kwOk : List Keyword → Bool
  | [] => true
  | ⟨some _, _, _⟩ :: r => kwOk r
  | _ :: _ => false
def kwNm : List Keyword → List Str
  | [] => []
  | ⟨some n, _, _⟩ :: r => n :: kwNm r
  | _ :: r => kwNm r
theorem kw_ok {pos : Pos} {env : Env} : ∀ {kw : List Keyword}, kwOk kw = true → (backToKw pos (keywordEach kw env)).all (·.1.isSome) = true ∧ (backToKw pos (keywordEach kw env)).filterMap (·.1) = kwNm kw ∧ (backToKw pos (keywordEach kw env)).any (·.1.isNone) = false
  | [], _ => by
    have e : backToKw pos (keywordEach [] env) = [] := by first | rfl | (unfold keywordEach; rfl)
    rw [e]
    exact ⟨rfl, rfl, rfl⟩
  | ⟨some n, v, q⟩ :: r, h => by
    have e : backToKw pos (keywordEach (⟨some n, v, q⟩ :: r) env) = (some n, (do let v ← eval v env; standAt pos; pure v)) :: backToKw pos (keywordEach r env) := by
      rw [keywordEach]; rfl
    rw [e]
    obtain ⟨h1, h2, h3⟩ := kw_ok (pos := pos) (env := env) (kw := r) h
    refine ⟨by rw [List.all_cons, h1]; rfl, ?_, by rw [List.any_cons, h3]; rfl⟩
    show n :: (backToKw pos (keywordEach r env)).filterMap (·.1) = n :: kwNm r
    rw [h2]
  | ⟨none, v, q⟩ :: r, h => by cases h
theorem run_fnkS {σ : L2.St} {H : Hp} {s : Shared} {pins : List (Addr × Obj)} {Q : VK} {us ws : List Value} {vs zs : List V} {ks : List Str} {sp : Sp} {F : XK} {g : List Value → List Value → List Value} {gV : List V → List V → List V} (fn : FnOk X.prog X.w X.K X.mg X.base (L2.CX X.prog X.w) j fa fd ps sp) (rm : Room j X.A)
    (hb : KBinds X.K fd ps ks g gV) (hx : PassesAt (L2.CX X.prog X.w) X σ F) (I : Inv X pins σ H s) (r : Vals vs us) (rz : Vals zs ws) (h : sp (gV vs zs) H Q F) : wpAny (model X.prog X.w) X.A (call (.ref fa) us (ks.zip ws)) (EP X pins σ Q) X.xe s := by
  have r2 := hb.rel r rz
  have ll : (g us ws).length = ps.length := by rw [← r2.length]; exact fn.len _ _ _ _ h
  refine wpAny_call (codeAny_mono (fn.run X.A X.stack s H ⟨us, ks.zip ws⟩ (g us ws) (gV vs zs) Q F rm I.env0 (hb.to s us ws I.kIn ll) r2 h) fun res s2 hq => ?_)
  cases res with
  | error e => exact hx pins H s e s2 I hq
  | ok fl =>
    cases fl with
    | ret u => exact I.after hq
    | next => exact hq.elim
    | brk => exact hq.elim
    | cont => exact hq.elim
def tCallKS (sp : Sp) (gV : List V → List V → List V) (F : L2.St → XK) (t tk : TA) : TE := fun σ H Q => t σ H fun vs H1 => tk σ H1 fun zs H2 => sp (gV vs zs) H2 Q (F σ)
theorem pe_callKS {kw : List Keyword} {sp : Sp} {F : L2.St → XK} {g : List Value → List Value → List Value} {gV : List V → List V → List V} {t tk : TA} (fn : FnOk X.prog X.w X.K X.mg X.base (L2.CX X.prog X.w) j fa fd ps sp) (rm : Room j X.A) (hg : Gl X x) (hm : X.mg x = some (.ref fa)) (kp : PySem.W.keepIn X.K (.ref fa) = true)
    (hb : KBinds X.K fd ps (kwNm kw) g gV) (hx : ∀ σ, PassesAt (L2.CX X.prog X.w) X σ (F σ)) (ha : PA X (a :: es) t) (hk : PK X kw tk) (ho : kwOk kw = true) (h2 : noStars (a :: es) = true) (hdb : (x == ("__debug__" : Str)) = false) : PE X (.Call (.Name x p) (a :: es) kw pos) (tCallKS sp gV F t tk) := by
  constructor
  intro pins s σ H Q I h
  obtain ⟨k1, k2, k3⟩ := kw_ok (pos := pos) (env := X.env) ho
  refine wpAny_Call_Name_kw (ld_glob I hg hm ?_ hdb)
  have h3 := h2
  unfold noStars at h3
  rw [Bool.and_eq_true] at h3
  refine PySem.W.callWith_KW (h₀ := X.base) I.ok.mod.kin kp k1 (thn (ha.run pos pins s σ H _ I h) fun us s1 w1 => ?_) (by rw [star_any (es := a :: es) h2, k3]; rfl) (star_cons h3.1)
  obtain ⟨vs, H1, I1, r1, q⟩ := w1
  refine thn (hk.run pos pins s1 σ H1 _ I1 q) fun ws s2 w2 => ?_
  obtain ⟨zs, H2, I2, rz, q2⟩ := w2
  refine ⟨I2.kIn, ?_⟩
  rw [k2]
  exact run_fnkS fn rm hb (hx σ) I2 r1 rz q2
theorem pe_callKS0 {kw : List Keyword} {sp : Sp} {F : L2.St → XK} {g : List Value → List Value → List Value} {gV : List V → List V → List V} {tk : TA} (fn : FnOk X.prog X.w X.K X.mg X.base (L2.CX X.prog X.w) j fa fd ps sp) (rm : Room j X.A) (hg : Gl X x) (hm : X.mg x = some (.ref fa)) (kp : PySem.W.keepIn X.K (.ref fa) = true)
    (hb : KBinds X.K fd ps (kwNm kw) g gV) (hx : ∀ σ, PassesAt (L2.CX X.prog X.w) X σ (F σ)) (hk : PK X kw tk) (ho : kwOk kw = true) (hdb : (x == ("__debug__" : Str)) = false) : PE X (.Call (.Name x p) [] kw pos) (tCallKS sp gV F tNil tk) := by
  constructor
  intro pins s σ H Q I h
  obtain ⟨k1, k2, k3⟩ := kw_ok (pos := pos) (env := X.env) ho
  refine wpAny_Call_Name_kw (ld_glob I hg hm ?_ hdb)
  refine PySem.W.callWith_KW0 (h₀ := X.base) I.ok.mod.kin kp k1 (thn (hk.run pos pins s σ H _ I h) fun ws s2 w2 => ?_) (by rw [star_any (es := []) rfl, k3]; rfl)
  obtain ⟨zs, H2, I2, rz, q2⟩ := w2
  refine ⟨I2.kIn, ?_⟩
  rw [k2]
  exact run_fnkS (us := []) fn rm hb (hx σ) I2 .nil rz q2
theorem s_knil : PK X [] (tA X.K cA W k xi .nil) := ⟨fun pos pins s σ H Q I ⟨e, st, ρ, r, g⟩ => pk_nil.run pos pins s σ H Q I (by rw [iA] at g; exact g ρ H (Nx.refl r.rel) [] .nil)⟩
theorem s_kcons {nm : Option Str} {q : Pos} {kw : List Keyword} (ha : PE X a (tE X.K cA W k xi ca)) (hr : PK X kw (tA X.K cA W k xi cs)) : PK X (⟨nm, a, q⟩ :: kw) (tA X.K cA W k xi (.cons ca cs)) := ⟨fun pos pins s σ H Q I ⟨e, st, ρ, r, g⟩ => (pk_cons ha hr).run pos pins s σ H Q I (by
  rw [iA] at g
  refine ⟨e, st, ρ, r, g.bind.mono fun x st1 ρ1 H1 _ n1 g v rv => ⟨e, st1, ρ1, r.nx n1, g.bind.mono fun xs st2 ρ2 H2 _ n2 g vs rvs => ?_⟩⟩
  exact g ρ2 H2 (Nx.refl n2.rel) _ (.cons (rv.nx n2) rvs))⟩
theorem pick_rel {K : PySem.W.Frag} {H : Hp} {ρ : List Addr} {xs : List D} {vs : List V} (h : RDs K H ρ xs vs) : ∀ pm : List Nat, RDs K H ρ (pm.filterMap (xs[·]?)) (pm.filterMap (vs[·]?))
  | [] => .nil
  | i :: pm => by
    rw [List.filterMap_cons, List.filterMap_cons]
    cases q : xs[i]? with
    | none =>
      have : vs[i]? = none := by rw [List.getElem?_eq_none_iff] at q ⊢; rw [← h.length]; exact q
      rw [this]
      exact pick_rel h pm
    | some d =>
      obtain ⟨v, h1, h2⟩ := h.get q
      rw [h1]
      exact .cons h2 (pick_rel h pm)
theorem gK_rel {K : PySem.W.Frag} {H : Hp} {ρ : List Addr} {m l : Nat} {pm : List Nat} {xs ys : List D} {vs ws : List V} (h1 : RDs K H ρ xs vs) (h2 : RDs K H ρ ys ws) : RDs K H ρ (gK m l pm xs ys) (gK m l pm vs ws) := by
  unfold gK
  rw [h1.length, h2.length]
  split
  · exact pick_rel (h1.append h2) pm
  · exact .nil
theorem callk_sp {m l : Nat} {pm : List Nat} {ks : CL} {σ : L2.St} {H : Hp} {Q : VK} {n : Nat} (hn : ∀ e st xs s ys s', iA k (xo xi) cs e st = .ok xs s → iA k (xo xi) ks e s = .ok ys s' → (gK m l pm xs ys).length = n) : tE X.K cA W k xi (.callk f m l pm cs ks) σ H Q → tCallKS (spF X.K cA k f n) (gK m l pm) (WE W) (tA X.K cA W k xi cs) (tA X.K cA W k xi ks) σ H Q := fun ⟨e, st, ρ, r, g⟩ => by
  rw [iE] at g
  refine ⟨e, st, ρ, r, g.bind.mono fun xs st1 ρ1 H1 e1 n1 g vs rv => ⟨e, st1, ρ1, r.nx n1, g.bind.mono fun ys st2 ρ2 H2 e2 n2 g ws rw => ?_⟩⟩
  have rr := gK_rel (m := m) (l := l) (pm := pm) (rv.nx n2) rw
  exact ⟨by rw [← rr.length]; exact hn _ _ _ _ _ _ e1 e2, _, ρ2, st2, n2.rel, rr, g.sig⟩
theorem gK_len {α : Type} {m l : Nat} {pm : List Nat} {us ws : List α} (h1 : us.length = m) (h2 : ws.length = l) (hp : pm.all (fun i => decide (i < m + l)) = true) : (gK m l pm us ws).length = pm.length := by
  unfold gK
  rw [if_pos ⟨h1, h2⟩]
  have hl : (us ++ ws).length = m + l := by rw [List.length_append, h1, h2]
  generalize us ++ ws = zs at hl
  induction pm with
  | nil => rfl
  | cons i pm ih =>
    rw [List.all_cons, Bool.and_eq_true, decide_eq_true_eq] at hp
    rw [List.filterMap_cons, List.getElem?_eq_getElem (by omega : i < zs.length)]
    show (_ :: _).length = _
    rw [List.length_cons, ih hp.2, List.length_cons]
theorem s_callk {m : Nat} {pm : List Nat} {ks : CL} {kw : List Keyword} (F : FnA X cA kws k f x ps j fa fd) (hin : (f, m, kwNm kw, pm) ∈ kws) (hg : Gl X x) (hx : ∀ σ, PassesAt (L2.CX X.prog X.w) X σ (WE W σ)) (hdb : (x == ("__debug__" : Str)) = false) (ha : PA X es (tA X.K cA W k xi cs)) (hk : PK X kw (tA X.K cA W k xi ks)) (ho : kwOk kw = true) (h2 : noStars es = true)
    (l1 : clen cs = m) (l2 : clen ks = (kwNm kw).length) (l3 : es.length = m) (hp : pm.all (fun i => decide (i < m + (kwNm kw).length)) = true) (hl : pm.length = ps.length) : PE X (.Call (.Name x p) es kw pos) (tE X.K cA W k xi (.callk f m (kwNm kw).length pm cs ks)) := by
  have key : ∀ {σ H Q}, tE X.K cA W k xi (.callk f m (kwNm kw).length pm cs ks) σ H Q → tCallKS (spF X.K cA k f ps.length) (gK m (kwNm kw).length pm) (WE W) (tA X.K cA W k xi cs) (tA X.K cA W k xi ks) σ H Q := fun {σ H Q} q =>
    callk_sp (fun e st xs s ys s' e1 e2 => by rw [gK_len ((iA_len e1).trans l1) ((iA_len e2).trans l2) hp, hl]) q
  cases es with
  | nil =>
    have : cs = .nil := by
      cases cs with
      | nil => rfl
      | cons _ _ => exact absurd (l1.trans l3.symm) (by unfold clen; simp)
    subst this
    refine pei (pe_callKS0 F.ok F.room hg F.hm F.kp (F.kb _ _ _ hin) hx hk ho hdb) fun σ H Q q => ?_
    obtain ⟨e, st, ρ, r, g⟩ := key q
    rw [iA] at g
    exact g ρ H (Nx.refl r.rel) [] .nil
  | cons a es => exact pei (pe_callKS F.ok F.room hg F.hm F.kp (F.kb _ _ _ hin) hx ha hk ho h2 hdb) fun σ H Q q => key q
/-! ### join, methods -/
theorem s_join (ha : PE X a (tE X.K cA W k xi ca)) (hb : PE X b (tQ X.K cA W k xi cq)) (h1 : noStar b = true) (h2 : plainO a = true) (hl : (apos.endLine == pos.line) = true) : PE X (.Call (.Attribute a "join" apos) [b] [] pos) (tE X.K cA W k xi (.join ca cq)) :=
  pei (pe_m1 PySem.F.slot_str_join PySem.F.type_str_join anyMt_ok ha hb (by rw [star_cons h1]; rfl) (base_no h2) hl) fun σ H Q ⟨e, st, ρ, r, g⟩ => by
    rw [iE] at g
    refine ⟨e, st, ρ, r, g.bind.mono fun d st1 ρ1 H1 _ n1 g v rv => ?_⟩
    cases d with
    | str sep =>
      cases rv with
      | str os =>
        have g : Good X.K cA W σ ρ1 H1 ((iQ k (xo xi) cq e st1).bind fun ys s => match ys.2 with
          | .l ys => (ok? (dstrs ys) s).bind fun ys s => chk (decide ((ys.map List.length).sum + ys.length * sep.length ≤ SZ)) (.ok (.str (joinL sep ys)) s)
          | .t ys => (ok? (dstrs ys) s).bind fun ys s => chk (decide ((ys.map List.length).sum + ys.length * sep.length ≤ SZ)) (.ok (.str (joinL sep ys)) s)
          | .s _ => .err) (kD X.K Q) := g
        refine ⟨⟨_, rfl⟩, e, st1, ρ1, r.nx n1, g.bind.mono fun q st2 ρ2 H2 _ n2 g w hw => ?_⟩
        obtain ⟨d2, q⟩ := q
        have hs := hw.sq
        cases q with
        | l ys =>
          cases hs with
          | l h1 h2 =>
            obtain ⟨zs, hz, g⟩ := g.bind.ok?_
            obtain ⟨hc, g⟩ := (g ρ2 H2 (Nx.refl n2.rel)).chk
            exact join_ok os rfl (.inl h1) h2 hz (of_decide_eq_true hc) fun v rv => g ρ2 H2 (Nx.refl n2.rel) v rv
        | t ys =>
          cases hs with
          | t h1 h2 =>
            obtain ⟨zs, hz, g⟩ := g.bind.ok?_
            obtain ⟨hc, g⟩ := (g ρ2 H2 (Nx.refl n2.rel)).chk
            exact join_ok os rfl (.inr h1.1) h2 hz (of_decide_eq_true hc) fun v rv => g ρ2 H2 (Nx.refl n2.rel) v rv
        | s x => exact g.elim
    | _ => exact g.elim
theorem s_pop (ha : PE X a (tE X.K cA W k xi ca)) (h2 : plainO a = true) (hl : (apos.endLine == pos.line) = true) : PE X (.Call (.Attribute a "pop" apos) [] [] pos) (tE X.K cA W k xi (.m0 .pop ca)) :=
  pei (pe_bm0 PySem.F.plainAttrs_list PySem.F.slot_list_pop PySem.F.type_list_pop anyMt_ok ha (base_no h2) hl) fun σ H Q ⟨e, st, ρ, r, g⟩ => by
    rw [iE] at g
    refine ⟨e, st, ρ, r, g.bind.mono fun d st1 ρ1 H1 _ n1 g v rv => ?_⟩
    cases d with
    | ref l =>
      simp only [m0D] at g
      split at g
      · rename_i xs e1
        split at g
        · rename_i y e2
          cases rv with
          | ref ha => exact ⟨n1.rel.tyL e1 ha, pop_ok n1.rel ha e1 e2 fun ρ2 H2 n2 v rv => g ρ2 H2 n2 v rv⟩
        · exact g.elim
      · exact g.elim
    | _ => exact g.elim
theorem s_upper (ha : PE X a (tE X.K cA W k xi ca)) (h2 : plainO a = true) (hl : (apos.endLine == pos.line) = true) : PE X (.Call (.Attribute a "upper" apos) [] [] pos) (tE X.K cA W k xi (.m0 .upper ca)) :=
  pei (pe_m0 PySem.F.slot_str_upper PySem.F.type_str_upper anyMt_ok ha (base_no h2) hl) fun σ H Q ⟨e, st, ρ, r, g⟩ => by
    rw [iE] at g
    refine ⟨e, st, ρ, r, g.bind.mono fun d st1 ρ1 H1 _ n1 g v rv => ?_⟩
    cases d with
    | str x =>
      cases rv with
      | str os =>
        simp only [m0D] at g
        obtain ⟨hc, g⟩ := g.chk
        rw [Bool.and_eq_true, decide_eq_true_eq] at hc
        refine ⟨⟨_, rfl⟩, upper_ok n1.rel os (fun c hc' => ?_) hc.2 fun v rv => g ρ1 H1 (Nx.refl n1.rel) v rv⟩
        have := List.all_eq_true.mp hc.1 c hc'
        exact of_decide_eq_true this
    | _ => exact g.elim
theorem s_append (ha : PE X a (tE X.K cA W k xi ca)) (hb : PE X b (tE X.K cA W k xi cb)) (h1 : noStar b = true) (h2 : plainO a = true) (hl : (apos.endLine == pos.line) = true) : PE X (.Call (.Attribute a "append" apos) [b] [] pos) (tE X.K cA W k xi (.m1 .append ca cb)) :=
  pei (pe_bm PySem.F.plainAttrs_list PySem.F.slot_list_append PySem.F.type_list_append anyMt_ok ha (pa1 hb h1) (base_no h2) (few_of (by simp [noStars, h1]) (by show 1 < 30; decide)) hl (star_cons h1) rfl) fun σ H Q ⟨e, st, ρ, r, g⟩ => by
    rw [iE] at g
    refine ⟨e, st, ρ, r, g.bind.mono fun d st1 ρ1 H1 _ n1 g v rv => ?_⟩
    obtain ⟨hr, g⟩ := g.chk
    cases d with
    | ref l =>
      obtain ⟨xs, e0⟩ := Option.isSome_iff_exists.mp hr
      cases rv with
      | ref ha =>
        refine ⟨n1.rel.tyL' e0 ha, e, st1, ρ1, r.nx n1, g.bind.mono fun y st2 ρ2 H2 _ n2 g w rw => ?_⟩
        have ha2 := (RD.ref ha : RD X.K H1 ρ1 (.ref l) _).nx n2
        cases ha2 with
        | ref ha2 =>
          simp only [m1D] at g
          split at g
          · rename_i ys e1
            obtain ⟨hc, g⟩ := g.chk
            exact append_ok n2.rel ha2 e1 rw (of_decide_eq_true hc) fun ρ3 H3 n3 v rv => g ρ3 H3 n3 v rv
          · exact g.elim
    | _ => cases hr
theorem s_indexL (ha : PE X a (tE X.K cA W k xi ca)) (hb : PE X b (tE X.K cA W k xi cb)) (h1 : noStar b = true) (h2 : plainO a = true) (hl : (apos.endLine == pos.line) = true) : PE X (.Call (.Attribute a "index" apos) [b] [] pos) (tE X.K cA W k xi (.m1 .index ca cb)) :=
  pei (pe_bmx PySem.F.plainAttrs_list PySem.F.plainAttrs_tuple PySem.F.slot_list_index PySem.F.slot_tuple_index PySem.F.type_list_index PySem.F.type_tuple_index anyMt_ok anyMt_ok ha (pa1 hb h1) (base_no h2) (few_of (by simp [noStars, h1]) (by show 1 < 30; decide)) hl (star_cons h1)) fun σ H Q ⟨e, st, ρ, r, g⟩ => by
    rw [iE] at g
    refine ⟨e, st, ρ, r, g.bind.mono fun d st1 ρ1 H1 _ n1 g v rv => ?_⟩
    obtain ⟨hr, g⟩ := g.chk
    cases d with
    | ref l =>
      obtain ⟨xs, e0⟩ := Option.isSome_iff_exists.mp hr
      cases rv with
      | ref ha =>
        refine .inl ⟨n1.rel.tyL' e0 ha, e, st1, ρ1, r.nx n1, g.bind.mono fun y st2 ρ2 H2 _ n2 g w rw => ?_⟩
        have ha2 := (RD.ref ha : RD X.K H1 ρ1 (.ref l) _).nx n2
        cases ha2 with
        | ref ha2 =>
          simp only [m1D] at g
          split at g
          · rename_i ys e1
            split at g
            · rename_i hf
              split at g
              · rename_i i e2
                exact indexL_ok n2.rel ha2 e1 rw hf e2 fun v rv => g ρ2 H2 (Nx.refl n2.rel) v rv
              · exact g.elim
            · exact g.elim
          · exact g.elim
    | tup xs =>
      cases rv with
      | tup t1 t2 =>
        rcases t1.2 with hd | nd
        · have hr : (dstrs xs).isSome = true := hr
          rw [hd] at hr; cases hr
        · refine .inr ⟨⟨_, rfl, nd⟩, e, st1, ρ1, r.nx n1, g.bind.mono fun y st2 ρ2 H2 _ n2 g w rw => ?_⟩
          cases y with
          | str y =>
            cases rw with
            | str oy =>
              simp only [m1D] at g
              split at g
              · rename_i ys e1
                split at g
                · rename_i i e2
                  exact indexT_ok (SqT.fr n2.fr.z t1.1) (t2.nx n2) e1 e2 fun v rv => g ρ2 H2 (Nx.refl n2.rel) v rv
                · exact g.elim
              · exact g.elim
          | _ => exact g.elim
    | _ => cases hr
end
end Lk

end
section
set_option linter.all false
set_option maxHeartbeats 1000000
namespace Lk
open PySem PySem.Spec PyProof.Rows L2
/-! ### statements -/
def GoodS (K : PySem.W.Frag) (cA : Nat → Option Addr) (W : WX) (ρ : List Addr) (H : Hp) (r : RS) (D : Ends) : Prop := match r with
  | .ok (.nx e) st' => ∀ ρ' H' σ', Nx K ρ H ρ' st' H' → SlR K H' ρ' e σ' → D.nx σ' H'
  | .ok (.bk e) st' => ∀ ρ' H' σ', Nx K ρ H ρ' st' H' → SlR K H' ρ' e σ' → D.bk σ' H'
  | .ok (.ct e) st' => ∀ ρ' H' σ', Nx K ρ H ρ' st' H' → SlR K H' ρ' e σ' → D.ct σ' H'
  | .ok (.rt d) st' => ∀ ρ' H' v, Nx K ρ H ρ' st' H' → RD K H' ρ' d v → D.rt v H'
  | .exc x e st' => ∀ ρ' H' σ' cls d, Nx K ρ H ρ' st' H' → SlR K H' ρ' e σ' → XR K cA ρ' H' x cls d → W cls d σ' H'
  | .err => False
def tS (K : PySem.W.Frag) (cA : Nat → Option Addr) (W : WX) (k : Cal) (c : S) : TS := fun D σ H => ∃ e st ρ, SR K cA none ρ st H e σ ∧ GoodS K cA W ρ H (iS k none c e st) D
section
variable {K : PySem.W.Frag} {cA : Nat → Option Addr} {W : WX} {k : Cal} {ρ ρ1 : List Addr} {H H1 : Hp} {st1 : Stt} {r : RS} {D : Ends} {e : Ev} {σ : L2.St}
theorem GoodS.step (n : Nx K ρ H ρ1 st1 H1) (g : GoodS K cA W ρ H r D) : GoodS K cA W ρ1 H1 r D := by
  cases r with
  | err => exact g
  | exc x e s => exact fun ρ' H' σ' c d n' sl xr => g ρ' H' σ' c d (n.trans n') sl xr
  | ok f s => cases f with
    | nx e => exact fun ρ' H' σ' n' sl => g ρ' H' σ' (n.trans n') sl
    | bk e => exact fun ρ' H' σ' n' sl => g ρ' H' σ' (n.trans n') sl
    | ct e => exact fun ρ' H' σ' n' sl => g ρ' H' σ' (n.trans n') sl
    | rt d => exact fun ρ' H' v n' rd => g ρ' H' v (n.trans n') rd
theorem GoodS.to {α : Type} {q : R α} {f : α → Stt → RS} (sl : SlR K H ρ e σ) (g : GoodS K cA W ρ H (q.to e f) D) : Good K cA W σ ρ H q (fun a st' ρ' H' => GoodS K cA W ρ' H' (f a st') D) := by
  cases q with
  | err => exact g
  | exc x s => exact fun ρ' H' c d n xr => g ρ' H' σ c d n (sl.nx n) xr
  | ok a s => exact fun ρ' H' n => GoodS.step n g
theorem GoodS.nxt {F : Ev → Stt → RS} (g : GoodS K cA W ρ H (r.nxt F) D) (N : L2.St → Hp → Prop) (h : ∀ e st' ρ' H' σ', Nx K ρ H ρ' st' H' → SlR K H' ρ' e σ' → GoodS K cA W ρ' H' (F e st') D → N σ' H') : GoodS K cA W ρ H r { D with nx := N } := by
  cases r with
  | err => exact g
  | exc x e s => exact g
  | ok f s => cases f with
    | nx e => exact fun ρ' H' σ' n sl => h e s ρ' H' σ' n sl (GoodS.step n g)
    | bk e => exact g
    | ct e => exact g
    | rt d => exact g
theorem GoodS.turn {F : Ev → Stt → RS} (g : GoodS K cA W ρ H (r.turn F) D) (N : L2.St → Hp → Prop) (h : ∀ e st' ρ' H' σ', Nx K ρ H ρ' st' H' → SlR K H' ρ' e σ' → GoodS K cA W ρ' H' (F e st') D → N σ' H') : GoodS K cA W ρ H r { D with nx := N, ct := N, bk := D.nx } := by
  cases r with
  | err => exact g
  | exc x e s => exact g
  | ok f s => cases f with
    | nx e => exact fun ρ' H' σ' n sl => h e s ρ' H' σ' n sl (GoodS.step n g)
    | ct e => exact fun ρ' H' σ' n sl => h e s ρ' H' σ' n sl (GoodS.step n g)
    | bk e => exact g
    | rt d => exact g
end
section
variable {X : Cx} {cA : Nat → Option Addr} {W : WX} {k : Cal} {a b c : Expr} {p pos apos : Pos} {ca cb cc : C} {ct : T} {es : List Expr} {cs : CL} {cq : SQ} {x : Str} {s1 s2 : Stmt} {ss : List Stmt} {sa sb : S} {ta : Tg} {it : IT}
theorem psi {t u : TS} {e : Stmt} (h : PS X e t) (i : ∀ D σ H, u D σ H → t D σ H) : PS X e u := PS.of fun D σ H q => ⟨t, h, i D σ H q⟩
theorem pssi {t u : TS} {e : List Stmt} (h : PSs X e t) (i : ∀ D σ H, u D σ H → t D σ H) : PSs X e u := ⟨fun pins s σ H D I q => h.run pins s σ H D I (i D σ H q)⟩
theorem s_pass : PS X (.Pass pos) (tS X.K cA W k .skip) := psi ps_pass fun D σ H ⟨e, st, ρ, r, g⟩ => g ρ H σ (Nx.refl r.rel) r.sl
theorem s_doc {z : Str} {j : Nat} {p2 : Pos} : PS X (.Expr (.Constant (.str z) j pos) p2) (tS X.K cA W k .skip) := psi ps_doc fun D σ H ⟨e, st, ρ, r, g⟩ => g ρ H σ (Nx.refl r.rel) r.sl
theorem s_break : PS X (.Break pos) (tS X.K cA W k .brk) := psi ps_break fun D σ H ⟨e, st, ρ, r, g⟩ => g ρ H σ (Nx.refl r.rel) r.sl
theorem s_cont : PS X (.Continue pos) (tS X.K cA W k .cont) := psi ps_continue fun D σ H ⟨e, st, ρ, r, g⟩ => g ρ H σ (Nx.refl r.rel) r.sl
theorem s_snil : PSs X [] (tS X.K cA W k .skip) := pssi pss_nil fun D σ H ⟨e, st, ρ, r, g⟩ => g ρ H σ (Nx.refl r.rel) r.sl
theorem s_scons (h1 : PS X s1 (tS X.K cA W k sa)) (h2 : PSs X ss (tS X.K cA W k sb)) : PSs X (s1 :: ss) (tS X.K cA W k (.seq sa sb)) := pssi (pss_cons h1 h2) fun D σ H ⟨e, st, ρ, r, g⟩ => by
  rw [iS] at g
  exact ⟨e, st, ρ, r, g.nxt _ fun e' st' ρ' H' σ' n sl g => ⟨e', st', ρ', ⟨n.rel, sl, fun _ z => nomatch z⟩, g⟩⟩
theorem s_sone (h1 : PS X s1 (tS X.K cA W k sa)) : PSs X [s1] (tS X.K cA W k sa) := pss_one h1
theorem s_exp (ha : PE X a (tE X.K cA W k none ca)) (h : noComp a = true) : PS X (.Expr a pos) (tS X.K cA W k (.exp ca)) := psi (ps_expr ha (comp_no h)) fun D σ H ⟨e, st, ρ, r, g⟩ => by
  rw [iS] at g
  exact ⟨e, st, ρ, r, (g.to r.sl).mono fun d st1 ρ1 H1 _ n1 g v rv => g ρ1 H1 σ (Nx.refl n1.rel) (r.sl.nx n1)⟩
theorem s_ret (ha : PE X a (tE X.K cA W k none ca)) : PS X (.Return (some a) pos) (tS X.K cA W k (.ret ca)) := psi (ps_ret ha) fun D σ H ⟨e, st, ρ, r, g⟩ => by
  rw [iS] at g
  exact ⟨e, st, ρ, r, (g.to r.sl).mono fun d st1 ρ1 H1 _ n1 g v rv => g ρ1 H1 v (Nx.refl n1.rel) rv⟩
theorem s_retN : PS X (.Return none pos) (tS X.K cA W k (.ret .non)) := psi ps_retN fun D σ H ⟨e, st, ρ, r, g⟩ => by
  rw [iS, iE] at g
  exact g ρ H .non (Nx.refl r.rel) .non
theorem s_if (hc : PT X c (tT X.K cA W k none ct)) (ha : PSs X ss (tS X.K cA W k sa)) {tt : List Stmt} (hb : PSs X tt (tS X.K cA W k sb)) : PS X (.If c ss tt pos) (tS X.K cA W k (.ite ct sa sb)) := psi (ps_if hc ha hb) fun D σ H ⟨e, st, ρ, r, g⟩ => by
  rw [iS] at g
  refine ⟨e, st, ρ, r, (g.to r.sl).mono fun t st1 ρ1 H1 _ n1 g => ?_⟩
  cases t with
  | true => exact ite_trueP ⟨e, st1, ρ1, r.nx n1, g⟩
  | false => exact ite_falseP ⟨e, st1, ρ1, r.nx n1, g⟩
/-! stores -/
theorem s_asg {tg : Expr} (ha : PE X a (tE X.K cA W k none ca)) (hg : PG X tg (gT X.K ta)) (h1 : noComp a = true) (h2 : noStar tg = true) (hw : swappedStores [tg] a X.env = pure none) : PS X (.Assign [tg] a pos) (tS X.K cA W k (.asg ta ca)) :=
  psi (ps_asg ha hg (comp_no1 h1) hw (by rw [assign_cons h2]; rfl)) fun D σ H ⟨e, st, ρ, r, g⟩ => by
    rw [iS] at g
    refine ⟨e, st, ρ, r, (g.to r.sl).mono fun d st1 ρ1 H1 _ n1 g v rv => ?_⟩
    cases hs : setTg ta d e with
    | none => simp only [hs] at g; exact g.elim
    | some e' =>
      simp only [hs] at g
      exact ⟨d, e, e', ρ1, rv, r.sl.nx n1, hs, fun σ' sl _ => g ρ1 H1 σ' (Nx.refl n1.rel) sl⟩
theorem s_set {i : Nat} {p2 : Pos} (hN : X.N.Nodup) (hi : X.N[i]? = some x) (hx : Loc X.env.scope x) (hf : X.fn x = true ∨ X.env.scope.names.lookup x = some .local) (ha : PE X a (tE X.K cA W k none ca)) (h1 : noComp a = true) : PS X (.Assign [.Name x p2] a pos) (tS X.K cA W k (.asg (.var i) ca)) :=
  psi (ps_set hN hi hx ha (comp_no h1) hf) fun D σ H ⟨e, st, ρ, r, g⟩ => by
    rw [iS] at g
    refine ⟨e, st, ρ, r, (g.to r.sl).mono fun d st1 ρ1 H1 _ n1 g v rv => ?_⟩
    simp only [setTg] at g
    exact g ρ1 H1 _ (Nx.refl n1.rel) ((r.sl.nx n1).set rv)
theorem comp_set {D : Ends} {σ : L2.St} {H : Hp} {i : Nat} {vs : List Nat} {cd : T} {el : C} (hv : ∀ j ∈ tgs ta, j ∈ vs) : tS X.K cA W k (.asg (.var i) (.newl (.comp vs ta it cd el))) D σ H → tAsg (tLc (tI X.K cA W k none it) (gT X.K ta) (tT X.K cA W0 k none cd) (tE X.K cA W0 k none el) vs) (gName i) D σ H := fun ⟨e, st, ρ, r, g⟩ => by
  rw [iS] at g
  refine lc_e hv ⟨e, st, ρ, r, (g.to r.sl).mono fun d st1 ρ1 H1 _ n1 g v rv => ?_⟩
  simp only [setTg] at g
  exact g ρ1 H1 _ (Nx.refl n1.rel) ((r.sl.nx n1).set rv)
/-- name = [..], on one line -/
theorem s_setc {i : Nat} {p2 spos : Pos} {elt tg iter : Expr} {ifs : List Expr} {scope : Scope} {own : List (Str × Nat)} {cd : T} {el : C} (h : CP X cA W k elt tg iter ifs scope own ta it cd el) (hi : X.N[i]? = some x) (hx : X.env.scope.names.lookup x = some .local)
    (hsw : swapsWith (.ListComp elt [⟨tg, iter, ifs, 0⟩] scope pos) (some (.Name x p2)) spos.line X.env = pure true) : PS X (.Assign [.Name x p2] (.ListComp elt [⟨tg, iter, ifs, 0⟩] scope pos) spos) (tS X.K cA W k (.asg (.var i) (.newl (.comp (own.map (·.2)) ta it cd el)))) :=
  psi (ps_setLc h.hc h.hN hi hx hsw h.hi h.ok h.hg h.ht h.he (fold_no h.hs)) fun D σ H q => comp_set h.hv q
/-- .. where the name is no plain local -/
theorem s_setcN {i : Nat} {p2 spos : Pos} {elt tg iter : Expr} {ifs : List Expr} {scope : Scope} {own : List (Str × Nat)} {cd : T} {el : C} (h : CP X cA W k elt tg iter ifs scope own ta it cd el) (hi : X.N[i]? = some x) (hx : Loc X.env.scope x) (hf : X.fn x = true ∨ X.env.scope.names.lookup x = some .local)
    (hsw : swapsWith (.ListComp elt [⟨tg, iter, ifs, 0⟩] scope pos) (some (.Name x p2)) spos.line X.env = pure false) : PS X (.Assign [.Name x p2] (.ListComp elt [⟨tg, iter, ifs, 0⟩] scope pos) spos) (tS X.K cA W k (.asg (.var i) (.newl (.comp (own.map (·.2)) ta it cd el)))) :=
  psi (ps_set h.hN hi hx h.pe hsw hf) fun D σ H q => comp_set h.hv q
theorem s_par2 {i j : Nat} {y : Str} {px py pt : Pos} {kt k2 : Nat} {pt2 : Pos} (hc : X.calm = true) (hN : X.N.Nodup) (hi : X.N[i]? = some x) (hj : X.N[j]? = some y) (hij : i ≠ j) (hx : X.env.scope.names.lookup x = some .local) (hy : X.env.scope.names.lookup y = some .local)
    (ha : PA X [a, b] (tA X.K cA W k none cs)) (hw : swappedStores [.Tuple [.Name x px, .Name y py] kt pt] (.Tuple [a, b] k2 pt2) X.env = pure (some [x, y])) : PS X (.Assign [.Tuple [.Name x px, .Name y py] kt pt] (.Tuple [a, b] k2 pt2) pos) (tS X.K cA W k (.par [i, j] cs)) :=
  psi (ps_par hc hN hi hj hij hx hy ha hw rfl) fun D σ H ⟨e, st, ρ, r, g⟩ => by
    rw [iS] at g
    refine ⟨e, st, ρ, r, (g.to r.sl).mono fun ds st1 ρ1 H1 _ n1 g vs rv => ?_⟩
    cases rv with
    | nil => exact g.elim
    | cons r1 rv =>
      cases rv with
      | nil => exact g.elim
      | cons r2 rv =>
        cases rv with
        | nil => exact ⟨_, _, rfl, g ρ1 H1 _ (Nx.refl n1.rel) (((r.sl.nx n1).set r1).set r2)⟩
        | cons _ _ => exact g.elim
theorem s_par3 {i j l : Nat} {y z : Str} {px py pz pt : Pos} {kt k2 : Nat} {pt2 : Pos} (hc : X.calm = true) (hN : X.N.Nodup) (hi : X.N[i]? = some x) (hj : X.N[j]? = some y) (hl : X.N[l]? = some z) (hij : i ≠ j) (hil : i ≠ l) (hjl : j ≠ l)
    (hx : X.env.scope.names.lookup x = some .local) (hy : X.env.scope.names.lookup y = some .local) (hz : X.env.scope.names.lookup z = some .local)
    (ha : PA X [a, b, c] (tA X.K cA W k none cs)) (hw : swappedStores [.Tuple [.Name x px, .Name y py, .Name z pz] kt pt] (.Tuple [a, b, c] k2 pt2) X.env = pure (some [x, y, z])) : PS X (.Assign [.Tuple [.Name x px, .Name y py, .Name z pz] kt pt] (.Tuple [a, b, c] k2 pt2) pos) (tS X.K cA W k (.par [i, j, l] cs)) :=
  psi (ps_par3 hc hN hi hj hl hij hil hjl hx hy hz ha hw rfl) fun D σ H ⟨e, st, ρ, r, g⟩ => by
    rw [iS] at g
    refine ⟨e, st, ρ, r, (g.to r.sl).mono fun ds st1 ρ1 H1 _ n1 g vs rv => ?_⟩
    cases rv with
    | nil => exact g.elim
    | cons r1 rv =>
      cases rv with
      | nil => exact g.elim
      | cons r2 rv =>
        cases rv with
        | nil => exact g.elim
        | cons r3 rv =>
          cases rv with
          | nil => exact ⟨_, _, _, rfl, g ρ1 H1 _ (Nx.refl n1.rel) ((((r.sl.nx n1).set r1).set r2).set r3)⟩
          | cons _ _ => exact g.elim
end
end Lk

end
section
set_option linter.all false
set_option maxHeartbeats 1000000
namespace Lk
open PySem PySem.Spec PyProof.Rows L2
section
variable {X : Cx} {cA : Nat → Option Addr} {W : WX} {σ : L2.St} {ρ : List Addr} {H : Hp} {st : Stt}
/-- a store, by the rule that the values want -/
def anySet (X : Cx) : TSet := fun o i v H Q => ∃ r, PSet X r ∧ r o i v H Q
theorem anySet_ok {X : Cx} : PSet X (anySet X) := by
  intro pins s σ H o i v ov iv u Q I ro ri rv h
  obtain ⟨r, h1, h2⟩ := h
  exact h1 pins s σ H o i v ov iv u Q I ro ri rv h2
def anyGet (X : Cx) : V → V → Hp → VK → Prop := fun o i H Q => ∃ r, PGet X r ∧ r o i H Q
theorem anyGet_ok {X : Cx} : PGet X (anyGet X) := by
  intro pins s σ H o i ov iv Q I ro ri h
  obtain ⟨r, h1, h2⟩ := h
  exact h1 pins s σ H o i ov iv Q I ro ri h2
theorem get_dict (hu : X.A.units + 64 < cLine) : PGet X (fun o i H Q => ∃ a v, o = .ref a ∧ DGet H a i (some v) ∧ Q v H) := by
  intro pins s σ H o i ov iv Q I ro ri h
  obtain ⟨a, v, rfl, g, q⟩ := h
  obtain rfl : ov = .ref a := ro
  exact d_getItem (by omega) I g ri fun w s' J rw => ⟨v, H, J, rw, q⟩
theorem put_ok (hu : X.A.units + 64 < cLine) {x y w : D} {o i v : V} {st' : Stt} {Q : Hp → Prop} (r : Rel X.K ρ st H) (hx : RD X.K H ρ x o) (hy : RD X.K H ρ y i) (hw : RD X.K H ρ w v) (e : putD st x y w = some st') (q : ∀ H', Nx X.K ρ H ρ st' H' → Q H') : anySet X o i v H Q := by
  unfold putD at e
  split at e
  · rename_i l k w'
    cases hx with
    | ref ha =>
      split at e
      · rename_i xs e1
        split at e
        · rename_i i
          cases hy
          obtain ⟨vs, h1, h2⟩ := r.lst e1 ha
          cases hj : ixN xs.length i with
          | none => rw [hj] at e; cases e
          | some j =>
            rw [hj] at e
            cases e
            exact ⟨_, set_list, _, vs, i, j, rfl, rfl, h1, by rw [← h2.length]; exact hj, q _ (Nx.setL r ha e1 h1 (h2.set hw))⟩
        · cases e
      · rename_i kvs e1
        split at e
        · rename_i ky hk
          split at e
          · rename_i hl
            cases e
            obtain ⟨vs, h1, h2⟩ := r.dct e1 ha
            obtain ⟨ev, ok⟩ := keyOf_ok hy hk
            subst ev
            have hl' : vs.length < sizeLine := by rw [← h2.length, ← SZ_eq]; exact hl
            exact ⟨_, set_dict (by omega), _, _, rfl, DPut.k h1 hl', q _ (Nx.setD r ha e1 h1 (kput_ok ok hw h2))⟩
          · cases e
        · cases e
      · cases e
  · cases e
/-- a op= b of ints, of texts -/
theorem aug_ok (o : BO) {x y : D} {v w : V} {Q : VK} (r : Rel X.K ρ st H) (hx : RD X.K H ρ x v) (hy : RD X.K H ρ y w)
    (g : Good X.K cA W σ ρ H (augD st o x y) (kD X.K Q)) : anyOp X (inplaceOp (bop o)) v w H Q := by
  have n0 := Nx.refl r
  unfold augD at g
  split at g
  · cases hx; cases hy
    cases o with
    | pow => exact g.elim
    | add => exact ⟨_, iop_add, _, _, rfl, rfl, g ρ H n0 _ (.int _)⟩
    | sub => exact ⟨_, iop_sub, _, _, rfl, rfl, g ρ H n0 _ (.int _)⟩
    | mul =>
      obtain ⟨hc, g⟩ := Good.chk g
      have hc' := (Bool.or_eq_true_iff.mp hc).imp small_iff small_iff
      exact ⟨_, iop_mul, _, _, rfl, rfl, hc', g ρ H n0 _ (.int _)⟩
    | fdiv =>
      obtain ⟨hc, g⟩ := Good.chk g
      simp only [Bool.and_eq_true, decide_eq_true_eq] at hc
      exact ⟨_, iop_fdiv, _, _, rfl, rfl, hc, g ρ H n0 _ (.int _)⟩
    | mod =>
      obtain ⟨hc, g⟩ := Good.chk g
      exact ⟨_, iop_mod, _, _, rfl, rfl, of_decide_eq_true hc, g ρ H n0 _ (.int _)⟩
    | shl =>
      obtain ⟨hc, g⟩ := Good.chk g
      simp only [Bool.and_eq_true, decide_eq_true_eq] at hc
      exact ⟨_, iop_shl, _, _, rfl, rfl, ⟨hc.1.1, hc.1.2, small_abs hc.2⟩, g ρ H n0 _ (.int _)⟩
    | shr =>
      obtain ⟨hc, g⟩ := Good.chk g
      exact ⟨_, iop_shr, _, _, rfl, rfl, of_decide_eq_true hc, g ρ H n0 _ (.int _)⟩
    | band => exact ⟨_, iop_and, _, _, rfl, rfl, g ρ H n0 _ (.int _)⟩
    | bor => exact ⟨_, iop_or, _, _, rfl, rfl, g ρ H n0 _ (.int _)⟩
  · cases hx with
    | str hx =>
      cases hy with
      | str hy =>
        cases o with
        | add =>
          obtain ⟨hc, g⟩ := Good.chk g
          have hc := of_decide_eq_true hc
          refine ⟨_, iop_add_str, _, _, rfl, rfl, by rw [str_len, str_len, ← SZ_eq]; exact hc, ?_⟩
          rw [str_append]
          exact g ρ H n0 _ (.str (hx.append hy hc))
        | _ => exact g.elim
  · exact g.elim
end
section
variable {X : Cx} {cA : Nat → Option Addr} {W : WX} {k : Cal} {a b c : Expr} {p pos apos : Pos} {ca cb cc : C} {ct : T} {es : List Expr} {cs : CL} {cq : SQ} {x : Str} {s1 s2 : Stmt} {ss : List Stmt} {sa sb : S} {ta : Tg} {it : IT}
theorem sub_no {o i e : Expr} {n : Nat} {q : Pos} {env : Env} : swapsWithSole [.Subscript o i q] e n env = pure false := by
  cases e <;> rfl
theorem sub_assign {o i : Expr} {env : Env} (h : noSlice i = true) : ∀ v, assign (.Subscript o i pos) env v = (do
      let ov ← holding [v] (eval o env)
      let iv ← holding [v, ov] (eval i env)
      standAt pos
      holding [v, ov, iv] (setItem ov iv v)
      release [v, ov, iv] []) := by
  intro v
  cases i <;> first | rfl | cases h
theorem aug_store {i : Expr} (h : noSlice i = true) : ∀ ov iv new, augStore i ov iv new = (do holding [new, ov, iv] (setItem ov iv new); release [new, ov, iv] []; pure .next) := by
  intro ov iv new
  cases i <;> first | rfl | cases h
theorem s_sub {q : Pos} (hu : X.A.units + 64 < cLine) (ha : PE X a (tE X.K cA W k none ca)) (hb : PE X b (tE X.K cA W k none cb)) (hc : PE X c (tE X.K cA W k none cc)) (h1 : noSlice b = true) (hw : swappedStores [.Subscript a b q] c X.env = pure none) : PS X (.Assign [.Subscript a b q] c pos) (tS X.K cA W k (.sub ca cb cc)) :=
  psi (ps_asg hc (pg_sub ha hb anySet_ok (sub_assign h1)) sub_no hw (by rfl)) fun D σ H ⟨e, st, ρ, r, g⟩ => by
    rw [iS] at g
    refine ⟨e, st, ρ, r, (g.to r.sl).mono fun w st1 ρ1 H1 _ n1 g v rv => ⟨e, st1, ρ1, r.nx n1, (g.to (r.sl.nx n1)).mono fun x st2 ρ2 H2 _ n2 g o ro => ⟨e, st2, ρ2, (r.nx n1).nx n2, (g.to ((r.sl.nx n1).nx n2)).mono fun y st3 ρ3 H3 _ n3 g i ri => ?_⟩⟩⟩
    cases hp : putD st3 x y w with
    | none => simp only [hp] at g; exact g.elim
    | some s =>
      simp only [hp] at g
      exact put_ok hu n3.rel (ro.nx n3) ri ((rv.nx n2).nx n3) hp fun H4 n4 => g ρ3 H4 σ n4 ((((r.sl.nx n1).nx n2).nx n3).nx n4)
theorem s_aug {i : Nat} {p2 : Pos} (o : BO) (hN : X.N.Nodup) (hi : X.N[i]? = some x) (hx : Loc X.env.scope x) (hf : X.fn x = true ∨ X.env.scope.names.lookup x = some .local) (ha : PE X a (tE X.K cA W k none ca)) : PS X (.AugAssign (.Name x p2) (bop o) a pos) (tS X.K cA W k (.aug i o ca)) :=
  psi (ps_aug hN hi hx ha anyOp_ok hf) fun D σ H ⟨e, st, ρ, r, g⟩ => by
    rw [iS] at g
    split at g
    · rename_i d hd
      obtain ⟨v, h1, h2⟩ := r.sl.at' i d hd
      refine ⟨v, h1, e, st, ρ, r, (g.to r.sl).mono fun y st1 ρ1 H1 _ n1 g w rw => ?_⟩
      exact aug_ok o n1.rel (h2.nx n1) rw ((g.to (r.sl.nx n1)).mono fun z st2 ρ2 H2 _ n2 g u ru => g ρ2 H2 _ (Nx.refl n2.rel) (((r.sl.nx n1).nx n2).set ru))
    · exact g.elim
theorem s_augs {q : Pos} (o : BO) (hu : X.A.units + 64 < cLine) (ha : PE X a (tE X.K cA W k none ca)) (hb : PE X b (tE X.K cA W k none cb)) (hc : PE X c (tE X.K cA W k none cc)) (h1 : noSlice b = true) : PS X (.AugAssign (.Subscript a b q) (bop o) c pos) (tS X.K cA W k (.augs ca cb o cc)) :=
  psi (ps_augS ha hb anyGet_ok hc anyOp_ok anySet_ok (aug_store h1)) fun D σ H ⟨e, st, ρ, r, g⟩ => by
    rw [iS] at g
    refine ⟨e, st, ρ, r, (g.to r.sl).mono fun x st1 ρ1 H1 _ n1 g v rv => ⟨e, st1, ρ1, r.nx n1, (g.to (r.sl.nx n1)).mono fun y st2 ρ2 H2 _ n2 g w rw => ?_⟩⟩
    have sl2 := (r.sl.nx n1).nx n2
    obtain ⟨d, hd, g⟩ := (g.to sl2).ok?_
    have rv := rv.nx n2
    have g := g ρ2 H2 (Nx.refl n2.rel)
    have fin : ∀ u, RD X.K H2 ρ2 d u → tE X.K cA W k none cc σ H2 fun y2 H3 => anyOp X (inplaceOp (bop o)) u y2 H3 fun z H4 => anySet X v w z H4 fun H5 => D.nx σ H5 := fun u ru =>
      ⟨e, st2, ρ2, (r.nx n1).nx n2, (g.to sl2).mono fun w2 st3 ρ3 H3 _ n3 g u2 ru2 => aug_ok o n3.rel (ru.nx n3) ru2 ((g.to (sl2.nx n3)).mono fun z st4 ρ4 H4 _ n4 g uz rz => by
        cases hp : putD st4 x y z with
        | none => simp only [hp] at g; exact g.elim
        | some s =>
          simp only [hp] at g
          exact put_ok hu n4.rel ((rv.nx n3).nx n4) ((rw.nx n3).nx n4) rz hp fun H5 n5 => g ρ4 H5 σ n5 (((sl2.nx n3).nx n4).nx n5))⟩
    cases rv with
    | @ref l p hp =>
      simp only [dgetD] at hd
      split at hd
      · rename_i kvs e3
        cases hk : keyOf y with
        | none => rw [hk] at hd; cases hd
        | some ky =>
          rw [hk] at hd
          have hd : kval kvs ky = some d := hd
          obtain ⟨o', h1, h2⟩ := n2.rel.dget e3 hp rw hk
          rcases h2 with ⟨h3, _⟩ | ⟨d', u, h3, rfl, h4⟩
          · rw [h3] at hd; cases hd
          · rw [h3] at hd
            cases hd
            exact ⟨_, get_dict hu, p, u, rfl, h1, fin u h4⟩
      · cases hd
    | _ => cases hd
/-! ### loops -/
theorem s_for {tg iter : Expr} (hp : PassesOwn (model X.prog X.w) X.A X.env X.xe) (hc : X.calm = true) (hi : PI X tg iter (tI X.K cA W k none it)) (hg : PG X tg (gT X.K ta)) (hb : PSs X ss (tS X.K cA W k sb)) (hs : noSet iter = true) : PS X (.For tg iter ss [] pos) (tS X.K cA W k (.for_ ta it sb)) :=
  psi (ps_for hp hc hi hg hb (fold_no hs)) fun D σ H ⟨e, st, ρ, r, g⟩ => by
    rw [iS] at g
    refine ⟨e, st, ρ, r, (g.to r.sl).mono fun q st1 ρ1 H1 _ n1 g J w => ?_⟩
    obtain ⟨ds, gd⟩ := q
    refine ⟨fun i m σ H => m = ds.length - i ∧ i ≤ ds.length ∧ ∃ e st ρ, Nx X.K ρ1 H1 ρ st H ∧ SlR X.K H ρ e σ ∧ GoodS X.K cA W ρ H (loopF gd (fun d e s => match setTg ta d e with
      | some e => iS k none sb e s
      | none => .err) (ds.drop i) e st) D, ⟨ds.length, by simp, Nat.zero_le _, e, st1, ρ1, Nx.refl n1.rel, r.sl.nx n1, by rw [List.drop_zero]; exact g⟩, ?_⟩
    rintro i m σc Hc ⟨rfl, hi, ec, sc, ρc, nc, sl, g⟩
    by_cases hlt : i < ds.length
    · rw [List.drop_eq_getElem_cons hlt] at g
      unfold loopF at g
      split at g
      · rename_i hst
        refine .inr ⟨w.go i ρc sc Hc nc hst hlt, _, fun σ' H' z => ⟨ds.length - (i + 1), by omega, z⟩, fun x H' y => ?_⟩
        obtain ⟨n2, rd⟩ := w.yld i ρc sc Hc x H' _ nc hst (List.getElem?_eq_getElem hlt) y
        cases hs : setTg ta ds[i] ec with
        | none => simp only [hs] at g; exact g.elim
        | some e' =>
          simp only [hs] at g
          refine ⟨_, ec, e', ρc, rd, sl.nx n2, hs, fun σ2 sl2 _ => ⟨e', sc, ρc, ⟨n2.rel, sl2, fun _ z => nomatch z⟩, ?_⟩⟩
          exact (GoodS.step n2 g).turn _ fun e3 s3 ρ3 H3 σ3 n3 sl3 g3 => ⟨rfl, hlt, e3, s3, ρ3, (nc.trans n2).trans n3, sl3, g3⟩
      · exact g.elim
    · have hn : i = ds.length := by omega
      subst hn
      rw [List.drop_length] at g
      unfold loopF at g
      split at g
      · rename_i hst
        exact .inl ⟨w.stop ρc sc Hc nc hst, g ρc Hc σc (Nx.refl nc.rel) sl⟩
      · exact g.elim
theorem s_while (hp : PassesOwn (model X.prog X.w) X.A X.env X.xe) (hc : PT X c (tT X.K cA W k none ct)) (hb : PSs X ss (tS X.K cA W k sb)) : PS X (.While c ss [] pos) (tS X.K cA W k (.whil ct sb)) :=
  psi (ps_while hp hc hb) fun D σ H ⟨e, st, ρ, r, g⟩ => by
    rw [iS] at g
    refine ⟨fun m σ H => ∃ e st ρ, SR X.K cA none ρ st H e σ ∧ GoodS X.K cA W ρ H (loopW (iT k none ct) (iS k none sb) m e st) D, ⟨_, e, st, ρ, r, g⟩, ?_⟩
    rintro m σc Hc ⟨ec, sc, ρc, rc, g⟩
    cases m with
    | zero => exact g.elim
    | succ m =>
      unfold loopW at g
      refine ⟨ec, sc, ρc, rc, (g.to rc.sl).mono fun t st1 ρ1 H1 _ n1 g => ?_⟩
      cases t with
      | true =>
        refine ite_trueP ⟨fun σ' H' => ∃ e st ρ, SR X.K cA none ρ st H' e σ' ∧ GoodS X.K cA W ρ H' (loopW (iT k none ct) (iS k none sb) m e st) D, fun σ' H' z => ⟨m, Nat.lt_succ_self m, z⟩, ec, st1, ρ1, rc.nx n1, ?_⟩
        exact GoodS.turn g _ fun e3 s3 ρ3 H3 σ3 n3 sl3 g3 => ⟨e3, s3, ρ3, ⟨n3.rel, sl3, fun _ z => nomatch z⟩, g3⟩
      | false => exact ite_falseP (g ρ1 H1 σc (Nx.refl n1.rel) (rc.sl.nx n1))
end
end Lk

end
section
set_option linter.all false
set_option maxHeartbeats 1000000
namespace Lk
open PySem PySem.Spec PyProof.Rows L2
/-! ### exceptions: their making -/
/-- __init__ stores its parameters under fs -/
def spI (C : Addr) (fs : List Str) : Sp := fun vs H Q _ => vs.length = fs.length + 1 ∧ ∃ a ws, vs = .ref a :: ws ∧ H a = some (exo a C none) ∧ ∀ d, H d = none → d ≠ a → Q .non (upd (upd H d (exd d (fs.zip ws).reverse)) a (exo a C (some d)))
def tIn (K : PySem.W.Frag) : List (Str × Nat) → TS
  | [] => tNext
  | (f, i) :: r => tSeq (tOst K f (tVar 0) (tVar i)) (tIn K r)
section
variable {K : PySem.W.Frag} {C a d : Addr} {σ : L2.St} {D : Ends}
theorem in_old (T : OexC K C) (h0 : σ[0]? = some (some (.ref a))) (hda : d ≠ a) : ∀ (l : List (Str × Nat)) (vs : List V) (gs : List (Str × V)) (H : Hp), (∀ p ∈ l, PySem.W.findIn K (.ref C) p.1 = some none) → (∀ (j : Nat) (p : Str × Nat), l[j]? = some p → ∃ v, vs[j]? = some v ∧ σ[p.2]? = some (some v)) → l.length = vs.length →
    gs.length + l.length ≤ 900 → H a = some (exo a C (some d)) → H d = some (exd d gs) → D.nx σ (upd H d (exd d (((l.map (·.1)).zip vs).reverse ++ gs))) → tIn K l D σ H
  | [], vs, gs, H, _, _, hl, _, ha, hd, q => by
    have : vs = [] := List.length_eq_zero_iff.mp hl.symm
    subst this
    have e : upd H d (exd d gs) = H := funext fun b => by
      by_cases hb : b = d
      · subst hb; rw [upd_same, hd]
      · rw [upd_ne hb]
    have q : D.nx σ (upd H d (exd d gs)) := q
    rw [e] at q
    exact q
  | (f, i) :: l, [], gs, H, _, _, hl, _, _, _, _ => by cases hl
  | (f, i) :: l, v :: vs, gs, H, hf, hv, hl, hz, ha, hd, q => by
    obtain ⟨v', e1, e2⟩ := hv 0 (f, i) rfl
    have e1 : v = v' := Option.some.inj e1
    subst e1
    refine ⟨v, e2, .ref a, h0, a, C, rfl, T, hf _ (List.mem_cons_self ..), .inr ⟨d, gs, ha, hd, by rw [List.length_cons] at hz; omega, ?_⟩⟩
    refine in_old T h0 hda l vs ((f, v) :: gs) _ (fun p hp => hf p (List.mem_cons_of_mem _ hp)) (fun j p hj => hv (j + 1) p hj) (Nat.succ.inj hl) (by rw [List.length_cons] at hz ⊢; omega) (by rw [upd_ne (Ne.symm hda)]; exact ha) upd_same ?_
    rw [upd_upd]
    have e : ((((f, i) :: l).map (·.1)).zip (v :: vs)).reverse ++ gs = ((l.map (·.1)).zip vs).reverse ++ (f, v) :: gs := by simp
    rw [e] at q
    exact q
theorem in_new (T : OexC K C) (h0 : σ[0]? = some (some (.ref a))) (l : List (Str × Nat)) (vs : List V) (H : Hp) (hne : l ≠ []) (hf : ∀ p ∈ l, PySem.W.findIn K (.ref C) p.1 = some none) (hv : ∀ (j : Nat) (p : Str × Nat), l[j]? = some p → ∃ v, vs[j]? = some v ∧ σ[p.2]? = some (some v)) (hl : l.length = vs.length)
    (hz : l.length ≤ 900) (ha : H a = some (exo a C none)) (q : ∀ d, H d = none → d ≠ a → D.nx σ (upd (upd H d (exd d ((l.map (·.1)).zip vs).reverse)) a (exo a C (some d)))) : tIn K l D σ H := by
  cases l with
  | nil => exact absurd rfl hne
  | cons p l =>
    obtain ⟨f, i⟩ := p
    cases vs with
    | nil => cases hl
    | cons v vs =>
      obtain ⟨v', e1, e2⟩ := hv 0 (f, i) rfl
      have e1 : v = v' := Option.some.inj e1
      subst e1
      refine ⟨v, e2, .ref a, h0, a, C, rfl, T, hf _ (List.mem_cons_self ..), .inl ⟨ha, fun d hd hda => ?_⟩⟩
      refine in_old (d := d) T h0 hda l vs [(f, v)] _ (fun p hp => hf p (List.mem_cons_of_mem _ hp)) (fun j p hj => hv (j + 1) p hj) (Nat.succ.inj hl) (by rw [List.length_cons] at hz ⊢; simp; omega) upd_same (by rw [upd_ne hda]; exact upd_same) ?_
      have q := q d hd hda
      have e : ((((f, i) :: l).map (·.1)).zip (v :: vs)).reverse = ((l.map (·.1)).zip vs).reverse ++ [(f, v)] := by simp
      rw [e] at q
      have e2 : upd (upd (upd H d (exd d [(f, v)])) a (exo a C (some d))) d (exd d (((l.map (·.1)).zip vs).reverse ++ [(f, v)])) = upd (upd H d (exd d (((l.map (·.1)).zip vs).reverse ++ [(f, v)]))) a (exo a C (some d)) := funext fun b => by
        by_cases hb : b = d
        · subst hb
          rw [upd_same, upd_ne hda, upd_same]
        · rw [upd_ne hb]
          by_cases hc : b = a
          · subst hc; rw [upd_same, upd_same]
          · rw [upd_ne hc, upd_ne hc, upd_ne hb, upd_ne hb]
      rw [e2]
      exact q
end
/-- the parts of an assignment self.f = p -/
def inPart (N : List Str) : Stmt → Option (Str × Nat)
  | .Assign [.Attribute (.Name s _) f _] (.Name p _) _ => if N[0]? = some s then (match N.findIdx? (· == p) with
    | some i => some (f, i)
    | none => none) else none
  | _ => none
def inParts (N : List Str) : List Stmt → Option (List (Str × Nat))
  | [] => some []
  | s :: r => match inPart N s, inParts N r with
    | some p, some q => some (p :: q)
    | _, _ => none
def visAll (sc : Scope) (N : List Str) : Bool := N.all fun x => (sc.names.lookup x == some .local) && !(x == ("__debug__" : Str)) && !(x == ("__classdict__" : Str))
theorem in_pss {X : Cx} (hN : visAll X.env.scope X.N = true) : ∀ (ss : List Stmt) (l : List (Str × Nat)), inParts X.N ss = some l → PSs X ss (tIn X.K l)
  | [], l, h => by unfold inParts at h; cases h; exact pss_nil
  | s :: ss, l, h => by
    unfold inParts at h
    split at h
    · rename_i p q h1 h2
      cases h
      refine pss_cons ?_ (in_pss hN ss q h2)
      unfold inPart at h1
      split at h1
      · rename_i sx _ f _ px _ _
        split at h1
        · rename_i h3
          split at h1
          · rename_i i h4
            cases h1
            have hat : X.N[i]? = some px := by
              obtain ⟨hlt, he, _⟩ := List.findIdx?_eq_some_iff_getElem.mp h4
              rw [List.getElem?_eq_getElem hlt]
              simpa using he
            have ok : ∀ {j : Nat} {y : Str} {ps : Pos}, X.N[j]? = some y → PE X (.Name y ps) (tVar j) := fun {j y ps} hj => by
              have := List.all_eq_true.mp hN y (List.mem_of_getElem? hj)
              simp only [Bool.and_eq_true, beq_iff_eq, Bool.not_eq_true'] at this
              exact pe_var hj (.inl this.1.1) this.1.2 this.2
            exact ps_ost (ok h3) (ok hat) (comp_no rfl)
          · cases h1
        · cases h1
      · cases h1
    · cases h
end Lk

end
section
set_option linter.all false
set_option maxHeartbeats 1000000
namespace Lk
open PySem PySem.Spec PyProof.Rows L2
theorem start_at {N : List Str} {vs : List V} {i : Nat} {v : V} (h : vs[i]? = some v) : (L2.start N vs)[i]? = some (some v) := by
  unfold L2.start
  have hi : i < vs.length := (List.getElem?_eq_some_iff.mp h).1
  rw [List.getElem?_append_left (by rw [List.length_map]; exact hi), List.getElem?_map, h]; rfl
/-- __init__ keeps its word -/
theorem init_ok {P : Program} {w : World} {K : PySem.W.Frag} {mg : Str → Option Value} {base : Heap} {qual : Str} {st : Stmt} {f C : Addr} {fd : FuncData} {N : List Str} {k : Nat} {l : List (Str × Nat)} (F : Fun K "__init__" qual st f fd) (S : FnScope N N (defScope st)) (T : OexC K C)
    (hv : visAll (defScope st) N = true) (hb : inParts N (defBody st) = some l) (hne : l ≠ []) (hl : l.length + 1 = N.length) (hs : l.map (·.2) = (List.range l.length).map (· + 1)) (hz : l.length ≤ 900) (hf : ∀ p ∈ l, PySem.W.findIn K (.ref C) p.1 = some none) :
    FnOk P w K mg base (L2.CX P w) (k + 1) f fd N (spI C (l.map (·.1))) := by
  refine Fun.okX F S (fun vs H Q E h => by rw [h.1, List.length_map]; exact hl) fun cdv A outer s H vs Q E hr hsp => ?_
  refine ⟨tIn K l, in_pss (X := cxOf (L2.CX P w) P w K mg base N qual (defScope st) f cdv A outer s H E) hv (defBody st) l hb, ?_⟩
  obtain ⟨hlen, a, ws, rfl, ha, q⟩ := hsp
  rw [List.length_map] at hlen
  have hw : ws.length = l.length := Nat.succ.inj hlen
  refine in_new T (start_at rfl) l ws H hne hf (fun j p hj => ?_) hw.symm hz ha fun d h1 h2 => q d h1 h2
  have hjl : j < l.length := (List.getElem?_eq_some_iff.mp hj).1
  have e2 : p.2 = j + 1 := by
    have z : (l.map (·.2))[j]? = some p.2 := by rw [List.getElem?_map, hj]; rfl
    rw [hs, List.getElem?_map, List.getElem?_range hjl] at z
    exact (Option.some.inj z).symm
  refine ⟨ws[j]'(by omega), List.getElem?_eq_getElem _, ?_⟩
  rw [e2]
  exact start_at (by simp)
/-- an exception class: its number c, its name x, its fields -/
structure EcA (X : Cx) (cA : Nat → Option Addr) (c : Nat) (x : Str) (fs : List (List Nat)) (C fI : Addr) (fd : FuncData) (ps : List Str) (j : Nat) : Prop where
  hc : cA c = some C
  T : OexC X.K C
  iC : PySem.W.findIn X.K (.ref C) "__init__" = some (some (.ref fI))
  tI : PySem.W.typeIn X.K (.ref fI) = some (.type "function")
  F : FnOk X.prog X.w X.K X.mg X.base (L2.CX X.prog X.w) j fI fd ps (spI C (fs.map mkS))
  room : Room (j + 1) X.A
  bd : Binds X.K fd ps []
  hm : X.mg x = some (.ref C)
theorem look_map {K : PySem.W.Frag} {H : Hp} {ρ : List Addr} : ∀ (l : List (List Nat × D × V)), (∀ t ∈ l, RD K H ρ t.2.1 t.2.2) → ∀ (f : List Nat) (e : D), (l.map fun t => (t.1, t.2.1)).lookup f = some e → ∃ v, (l.map fun t => (mkS t.1, t.2.2)).lookup ⟨f.toArray⟩ = some v ∧ RD K H ρ e v
  | [], _, f, e, h => by cases h
  | (g, d, v) :: l, hl, f, e, h => by
    rw [List.map_cons, List.lookup_cons] at h
    rw [List.map_cons, List.lookup_cons]
    by_cases hb : f = g
    · subst hb
      have e1 : (f == f) = true := beq_self_eq_true f
      simp only [e1] at h
      cases h
      have e2 : ((⟨f.toArray⟩ : Str) == mkS f) = true := beq_self_eq_true _
      simp only [e2]
      exact ⟨v, rfl, hl _ (List.mem_cons_self ..)⟩
    · have e1 : (f == g) = false := beq_eq_false_iff_ne.mpr hb
      simp only [e1] at h
      have e2 : ((⟨f.toArray⟩ : Str) == mkS g) = false := beq_eq_false_iff_ne.mpr fun z => hb (mkS_inj z)
      simp only [e2]
      exact look_map l (fun t ht => hl t (List.mem_cons_of_mem _ ht)) f e h
theorem zip3 : ∀ (fs : List (List Nat)) (ds : List D) (vs : List V), ds.length = vs.length → fs.zip ds = (fs.zip (ds.zip vs)).map (fun t => (t.1, t.2.1)) ∧ (fs.map mkS).zip vs = (fs.zip (ds.zip vs)).map (fun t => (mkS t.1, t.2.2))
  | [], ds, vs, _ => by simp
  | f :: fs, [], [], _ => by simp
  | f :: fs, [], v :: vs, h => by cases h
  | f :: fs, d :: ds, [], h => by cases h
  | f :: fs, d :: ds, v :: vs, h => by
    obtain ⟨h1, h2⟩ := zip3 fs ds vs (Nat.succ.inj h)
    simp [h1, h2]
theorem zip_mem {K : PySem.W.Frag} {H : Hp} {ρ : List Addr} : ∀ {fs : List (List Nat)} {ds : List D} {vs : List V}, RDs K H ρ ds vs → ∀ t ∈ fs.zip (ds.zip vs), RD K H ρ t.2.1 t.2.2
  | [], _, _, _, t, h => by simp at h
  | f :: fs, [], _, r, t, h => by cases r; simp at h
  | f :: fs, d :: ds, _, r, t, h => by
    cases r with
    | cons r1 r2 =>
      rcases List.mem_cons.mp h with rfl | h
      · exact r1
      · exact zip_mem r2 t h
section
variable {X : Cx} {cA : Nat → Option Addr} {W : WX} {k : Cal} {a b c : Expr} {p pos apos : Pos} {ca cb cc : C} {ct : T} {es : List Expr} {cs : CL} {x : Str} {ss : List Stmt} {sa sb : S} {cn j : Nat} {fs : List (List Nat)} {Ca fI : Addr} {fd : FuncData} {ps : List Str}
theorem s_raise {p2 : Pos} (hc : X.calm = true) (tk : Takes X W) (ec : EcA X cA cn x fs Ca fI fd ps j) (hg : Gl X x) (hdb : (x == ("__debug__" : Str)) = false) (ha : PA X (a :: es) (tA X.K cA W k none cs)) (h1 : noStar a = true) (h2 : noStars es = true) (hz : fs.length ≤ 900) :
    PS X (.Raise (some (.Call (.Name x p) (a :: es) [] p2)) none pos) (tS X.K cA W k (.rais cn fs cs)) :=
  psi (ps_raise hc tk (pmk_oex ec.T ec.iC ec.tI ec.F ec.room ec.bd .nil passL hg ec.hm ha hdb (star_cons h1) (star_any h2))) fun D σ H ⟨e, st, ρ, r, g⟩ => by
    rw [iS] at g
    refine ⟨e, st, ρ, r, (g.to r.sl).mono fun ds st1 ρ1 H1 _ n1 g vs rv => ?_⟩
    split at g
    · rename_i hl
      have hlv : vs.length = fs.length := by rw [← rv.length, hl]
      refine ⟨by omega, fun q hq => ⟨by rw [List.append_nil, List.length_cons, List.length_map, hlv], q, vs, by rw [List.append_nil], upd_same, fun d hd hdq => ⟨rfl, d, _, upd_same, by rw [upd_ne hdq]; exact upd_same, ?_, ?_⟩⟩⟩
      · rw [upd_ne hdq] at hd; exact hd
      · have hd1 : H1 d = none := by rw [upd_ne hdq] at hd; exact hd
        have eh : upd (del (upd (upd (upd H1 q (exo q Ca none)) d (exd d ((fs.map mkS).zip vs).reverse)) q (exo q Ca (some d))) q) d (.xd ((fs.map mkS).zip vs).reverse) = upd H1 d (.xd ((fs.map mkS).zip vs).reverse) := funext fun b => by
          by_cases hb : b = d
          · subst hb; rw [upd_same, upd_same]
          · rw [upd_ne hb, upd_ne hb]
            by_cases hbq : b = q
            · subst hbq; rw [del_same, hq]
            · rw [del_ne hbq, upd_ne hbq, upd_ne hb, upd_ne hbq]
        rw [eh]
        have n2 := Nx.side (o := .xd ((fs.map mkS).zip vs).reverse) n1.rel hd1
        refine g ρ1 _ σ _ _ n2 ((r.sl.nx n1).nx n2) ⟨⟨Ca, ec.hc, rfl⟩, d, _, rfl, n1.rel.out hd1, upd_same, fun f e' he => ?_⟩
        obtain ⟨z1, z2⟩ := zip3 fs ds vs rv.length
        rw [z1, ← List.map_reverse] at he
        have key := look_map _ (fun t ht => (zip_mem rv t (List.mem_reverse.mp ht)).nx n2) f e' he
        rw [List.map_reverse, ← z2] at key
        exact key
    · exact g.elim
/-! ### try -/
/-- a suite: it stores no name -/
def tH (K : PySem.W.Frag) (cA : Nat → Option Addr) (k : Cal) (i : Nat) (c : S) (a : Addr) (cls : Value) (d : Option Addr) : TS := fun D σ H => ∃ x e st ρ, SR K cA (some ⟨x, i, a, cls, d⟩) ρ st H e σ ∧ GoodS K cA W0 ρ H (iS k (some x) c e st) D
theorem GoodS.wish {K : PySem.W.Frag} {W W' : WX} {ρ : List Addr} {H : Hp} {r : RS} {D : Ends} (g : GoodS K cA W ρ H r D) (h : ∀ x e s, r ≠ .exc x e s) : GoodS K cA W' ρ H r D := by
  cases r with
  | err => exact g
  | exc x e s => exact absurd rfl (h x e s)
  | ok f s => cases f <;> exact g
/-- a statement list that only asks and returns: what it does not do -/
def quietS : S → Bool
  | .skip => true
  | .ret _ => true
  | .ite _ a b => quietS a && quietS b
  | .seq a b => quietS a && quietS b
  | _ => false
theorem quiet_nx {xn : Option Xn} : ∀ {c : S} {e e' : Ev} {s s' : Stt}, quietS c = true → iS k xn c e s = .ok (.nx e') s' → e' = e
  | .skip, e, e', s, s', _, h => by rw [iS] at h; cases h; rfl
  | .ret a, e, e', s, s', _, h => by
    rw [iS] at h
    cases q : iE k xn a e s with
    | ok d s1 => rw [q] at h; cases h
    | exc x s1 => rw [q] at h; cases h
    | err => rw [q] at h; cases h
  | .ite t a b, e, e', s, s', hq, h => by
    unfold quietS at hq
    rw [Bool.and_eq_true] at hq
    rw [iS] at h
    cases q : iT k xn t e s with
    | ok d s1 =>
      rw [q] at h
      cases d with
      | true => exact quiet_nx hq.1 h
      | false => exact quiet_nx hq.2 h
    | exc x s1 => rw [q] at h; cases h
    | err => rw [q] at h; cases h
  | .seq a b, e, e', s, s', hq, h => by
    unfold quietS at hq
    rw [Bool.and_eq_true] at hq
    rw [iS] at h
    cases q : iS k xn a e s with
    | ok f s1 =>
      rw [q] at h
      cases f with
      | nx e1 =>
        have h : iS k xn b e1 s1 = .ok (.nx e') s' := h
        rw [quiet_nx hq.2 h, quiet_nx hq.1 q]
      | _ => cases h
    | exc x e1 s1 => rw [q] at h; cases h
    | err => rw [q] at h; cases h
  | .asg _ _, _, _, _, _, hq, _ => by cases hq
  | .par _ _, _, _, _, _, hq, _ => by cases hq
  | .sub _ _ _, _, _, _, _, hq, _ => by cases hq
  | .aug _ _ _, _, _, _, _, hq, _ => by cases hq
  | .augs _ _ _ _, _, _, _, _, hq, _ => by cases hq
  | .del _ _, _, _, _, _, hq, _ => by cases hq
  | .exp _, _, _, _, _, hq, _ => by cases hq
  | .whil _ _, _, _, _, _, hq, _ => by cases hq
  | .for_ _ _ _, _, _, _, _, hq, _ => by cases hq
  | .brk, _, _, _, _, hq, _ => by cases hq
  | .cont, _, _, _, _, hq, _ => by cases hq
  | .rais _ _ _, _, _, _, _, hq, _ => by cases hq
  | .tryy _ _ _ _, _, _, _, _, hq, _ => by cases hq
theorem set_none_twice (e : Ev) (i : Nat) : (e.set i none).set i none = e.set i none := by simp
theorem s_try {sh : S} (hqs : quietS sh = true) {i : Nat} {n : Str} {b₀ : Stmt} {suite body : List Stmt} {np pos' : Pos} {c : Value} {cs : List Nat} (hc : X.stack = X.env :: X.outer) (hf : X.env.frame = some X.env.locals) (hN : X.N.Nodup) (hi : X.N[i]? = some n) (hln : X.env.kindOf n = some .local) (hx : Names X x c) (tk : Takes X W)
    (hm : ∀ j C, cA j = some C → PySem.W.exmOne X.K (.ref C) c = some (cs.contains j))
    (hb : ∀ (W : WX) (pn : List (Addr × Obj)) (xe : Value → Shared → Prop), Takes (X.tr pn xe) W → PassesOwn (model X.prog X.w) X.A X.env xe → PSs (X.tr pn xe) body (tS X.K cA W k sb))
    (hsu : ∀ (a : Addr) (oe : Obj) (cls : Value) (d : Option Addr) (pn : List (Addr × Obj)), Zc cls d oe → (∃ vs, oe.data = .fields vs) → PSs (X.suite a ((a, oe) :: pn)) (b₀ :: suite) (tH X.K cA k i sh a cls d)) :
    PS X (.Try body [.ExceptHandler (some (.Name x np)) (some n) (b₀ :: suite) pos'] [] [] pos) (tS X.K cA W k (.tryy i cs sh sb)) :=
  psi (ps_try_as (ts := tH X.K cA k i sh) (tb := fun W => tS X.K cA W k sb) hc hf hN hi hln hx tk hb hsu) fun D σ H ⟨e, st, ρ, r, g⟩ => by
    rw [iS] at g
    refine ⟨e, st, ρ, r, ?_⟩
    cases hr : iS k none sb e st with
    | err => rw [hr] at g; exact g
    | ok f s => rw [hr] at g; exact GoodS.wish (W := W) g fun x e s z => by cases z
    | exc x e' s =>
      rw [hr] at g
      intro ρ1 H1 σ1 cls d n1 sl xr
      obtain ⟨⟨C, hC, rfl⟩, _⟩ := id xr
      refine ⟨cs.contains x.cls, hm _ _ hC, fun hy q hq => ?_, fun hn => ?_⟩
      · have g : GoodS X.K cA W ρ H (if cs.contains x.cls = true then (if i < e'.length then (iS k (some x) sh (e'.set i none) s).hush else .err) else .exc x e' s) D := g
        rw [if_pos hy] at g
        split at g
        case isFalse => exact g.elim
        rename_i hle
        have hlt : i < σ1.length := by rw [← sl.len]; exact hle
        have sl0 : SlR X.K H1 ρ1 (e'.set i none) (σ1.set i (some (.ref q))) := ⟨by rw [List.length_set, List.length_set]; exact sl.len, fun j d hj => by
          by_cases hij : i = j
          · subst hij
            by_cases hl : i < e'.length
            · rw [List.getElem?_set_self hl] at hj; cases hj
            · rw [List.getElem?_eq_none (by rw [List.length_set]; omega)] at hj; cases hj
          · rw [List.getElem?_set_ne hij] at hj ⊢
            exact sl.at' j d hj⟩
        refine ⟨x, e'.set i none, s, ρ1, ⟨n1.rel, sl0, fun z hz => ?_⟩, ?_⟩
        · cases hz
          exact ⟨List.getElem?_set_self hlt, xr⟩
        · have g := GoodS.step n1 g
          cases hs : iS k (some x) sh (e'.set i none) s with
          | err => rw [hs] at g; exact g
          | exc y e2 s2 => rw [hs] at g; exact g.elim
          | ok f s2 =>
            rw [hs] at g
            cases f with
            | nx e2 =>
              have ee := quiet_nx hqs hs
              subst ee
              intro ρ2 H2 σ2 n2 sl2
              refine g ρ2 H2 _ n2 ?_
              have z := sl2.none i
              rw [set_none_twice] at z
              exact z
            | rt d => exact fun ρ2 H2 v n2 rv => g ρ2 H2 v n2 rv
            | _ => exact g.elim
      · have g : GoodS X.K cA W ρ H (if cs.contains x.cls = true then (if i < e'.length then (iS k (some x) sh (e'.set i none) s).hush else .err) else .exc x e' s) D := g
        rw [if_neg (by rw [hn]; exact Bool.false_ne_true)] at g
        exact g ρ1 H1 σ1 _ d n1 sl xr
end
end Lk

end
section
set_option linter.all false
set_option maxHeartbeats 1000000
namespace Lk
open PySem PySem.Spec PyProof.Rows L2
/-! ### except suites -/
def tSx (K : PySem.W.Frag) (cA : Nat → Option Addr) (k : Cal) (xi : XI) (c : S) : TS := fun D σ H => ∃ e st ρ, SR K cA (some xi) ρ st H e σ ∧ GoodS K cA W0 ρ H (iS k (some xi.x) c e st) D
section
variable {X : Cx} {cA : Nat → Option Addr} {k : Cal} {a b c : Expr} {p pos apos : Pos} {ca cb cc : C} {ct : T} {ss tt : List Stmt} {s1 : Stmt} {sa sb : S} {xi : XI}
theorem h_of {i : Nat} {q : Addr} {cls : Value} {d : Option Addr} (h : ∀ x, PSs X ss (tSx X.K cA k ⟨x, i, q, cls, d⟩ sa)) : PSs X ss (tH X.K cA k i sa q cls d) := ⟨fun pins s σ H D I ⟨x, z⟩ => (h x).run pins s σ H D I z⟩
theorem h_pass : PS X (.Pass pos) (tSx X.K cA k xi .skip) := psi ps_pass fun D σ H ⟨e, st, ρ, r, g⟩ => g ρ H σ (Nx.refl r.rel) r.sl
theorem h_snil : PSs X [] (tSx X.K cA k xi .skip) := pssi pss_nil fun D σ H ⟨e, st, ρ, r, g⟩ => g ρ H σ (Nx.refl r.rel) r.sl
theorem h_ret (ha : PE X a (tE X.K cA W0 k (some xi) ca)) : PS X (.Return (some a) pos) (tSx X.K cA k xi (.ret ca)) := psi (ps_ret ha) fun D σ H ⟨e, st, ρ, r, g⟩ => by
  rw [iS] at g
  exact ⟨e, st, ρ, r, (g.to r.sl).mono fun d st1 ρ1 H1 _ n1 g v rv => g ρ1 H1 v (Nx.refl n1.rel) rv⟩
theorem h_sone (h1 : PS X s1 (tSx X.K cA k xi sa)) : PSs X [s1] (tSx X.K cA k xi sa) := pss_one h1
theorem h_if (hc : PT X c (tT X.K cA W0 k (some xi) ct)) (ha : PSs X ss (tSx X.K cA k xi sa)) (hb : PSs X tt (tSx X.K cA k xi sb)) : PS X (.If c ss tt pos) (tSx X.K cA k xi (.ite ct sa sb)) := psi (ps_if hc ha hb) fun D σ H ⟨e, st, ρ, r, g⟩ => by
  rw [iS] at g
  refine ⟨e, st, ρ, r, (g.to r.sl).mono fun t st1 ρ1 H1 _ n1 g => ?_⟩
  cases t with
  | true => exact ite_trueP ⟨e, st1, ρ1, r.nx n1, g⟩
  | false => exact ite_falseP ⟨e, st1, ρ1, r.nx n1, g⟩
end
section
variable {X : Cx} {cA : Nat → Option Addr} {k : Cal} {a b c : Expr} {p p2 p3 pos apos : Pos} {q : Addr} {oe : Obj} {pn : List (Addr × Obj)} {xi : XI} {n y : Str}
/-- error.f -/
theorem s_xfld {f : List Nat} (hz : Zc xi.cls xi.d oe) (hf : ∃ vs, oe.data = .fields vs) (hx : ∀ j C, cA j = some C → XfC X.K C ∧ PySem.W.findIn X.K (.ref C) (mkS f) = some none) (hN : X.N[xi.slot]? = some n) (hv : Vis X.env.scope n) (hd : (n == ("__debug__" : Str)) = false) (hcd : (n == ("__classdict__" : Str)) = false) :
    PE (X.suite xi.a ((xi.a, oe) :: pn)) (.Attribute (.Name n p) (mkS f) pos) (tE X.K cA W0 k (some xi) (.xfld f)) := PE.of fun σ H Q ⟨e, st, ρ, r, g⟩ => by
  obtain ⟨hs, hxr⟩ := r.xr xi rfl
  obtain ⟨⟨C, hC, hcls⟩, dd, gs, ed, hn, hH, hl⟩ := hxr
  obtain ⟨T, hno⟩ := hx _ C hC
  refine ⟨_, pe_xf (C := C) T hno hz hf (pe_var (X := X.suite xi.a ((xi.a, oe) :: pn)) hN hv hd hcd) (base_no rfl), ?_⟩
  have g : Good X.K cA W0 σ ρ H (iE k (some xi.x) (.xfld f) e st) (kD X.K Q) := g
  rw [iE] at g
  obtain ⟨d, h1, g⟩ := g.ok?_
  obtain ⟨v, h2, h3⟩ := hl f d h1
  exact ⟨_, hs, rfl, hcls, dd, gs, v, ed, hH, h2, g ρ H (Nx.refl r.rel) v h3⟩
theorem call_isX {D : Addr} {dd : Addr} (C : ExcC X.K D) (hz : Zc (.ref D) (some dd) oe) (hf : ∃ vs, oe.data = .fields vs) : CallR (X.suite q ((q, oe) :: pn)) (.builtin "isinstance") (fun xs H Q => ∃ (c : V) (cv : Value) (b : Bool) (gs : List (Str × V)), xs = [.ref q, c] ∧ (∀ u, RelV c u → u = cv) ∧ PySem.W.kitOne X.K (.ref D) cv = some b ∧ H dd = some (.xd gs) ∧ Q (.bl b) H) := by
  intro pins s σ H xs us Q I r h
  obtain ⟨c, cv, b, gs, rfl, hcv, e, hd, q1⟩ := h
  cases r with
  | cons rx rr =>
    cases rr with
    | cons rt rr =>
      cases rr
      cases rx
      have ec := hcv _ rt
      subst ec
      obtain ⟨hget, _⟩ := I.pin (q, oe) (List.mem_append.mpr (.inl List.mem_cons_self))
      obtain ⟨vs, hv⟩ := hf
      obtain ⟨mA, hns, hr⟩ : ObjOk X.prog X.w H s.heap dd (.xd gs) := I.hok dd _ hd
      obtain ⟨od, ho, _⟩ := lookIn_ns hns
      have J : PySem.W.InstAt s.heap q oe D (some od) := ⟨hget, hz.1, by unfold PySem.W.notCls; rw [hv] <;> rfl, by rw [hz.2]; exact ho⟩
      have hcl : (PySem.W.clsIn X.K D).isSome = true := by
        obtain ⟨cd, hc, _⟩ := PySem.W.any_some C.hd
        rw [hc]; rfl
      exact PySem.W.kia_one (PySem.W.kitx_exc hcl C.hg C.hk C.hs C.ha C.hn C.ht C.hm) I.kIn J e (fun z => nomatch z) fun tk => ⟨.bl b, H, I.kept (t' := tk) fun _ _ z => z, rfl, q1⟩
/-- isinstance(error, D) -/
theorem s_xis {cs : List Nat} {D : Addr} (hz : Zc xi.cls xi.d oe) (hf : ∃ vs, oe.data = .fields vs) (hx : ∀ j C, cA j = some C → ExcC X.K C ∧ PySem.W.kitOne X.K (.ref C) (.ref D) = some (cs.contains j)) (hN : X.N[xi.slot]? = some n) (hv : Vis X.env.scope n) (hd : (n == ("__debug__" : Str)) = false) (hcd : (n == ("__classdict__" : Str)) = false)
    (hg : Gl X "isinstance") (hm : X.mg "isinstance" = none) (hgy : Gl X y) (hmy : X.mg y = some (.ref D)) (hdy : (y == ("__debug__" : Str)) = false) :
    PE (X.suite xi.a ((xi.a, oe) :: pn)) (.Call (.Name "isinstance" p) [.Name n p2, .Name y p3] [] pos) (tE X.K cA W0 k (some xi) (.xis cs)) := PE.of fun σ H Q ⟨e, st, ρ, r, g⟩ => by
  obtain ⟨hs, hxr⟩ := r.xr xi rfl
  obtain ⟨⟨C, hC, hcls⟩, dd, gs, ed, hn, hH, hl⟩ := hxr
  obtain ⟨T, hk⟩ := hx _ C hC
  have hz' : Zc (.ref C) (some dd) oe := by rw [← hcls, ← ed]; exact hz
  refine ⟨_, pe_callB (X := X.suite xi.a ((xi.a, oe) :: pn)) (call_isX (q := xi.a) (pn := pn) T hz' hf) hg hm PyProof.Rows.boot_isinstance (pa_cons (pe_var (X := X.suite xi.a ((xi.a, oe) :: pn)) hN hv hd hcd) (pa_cons (pe_glob (X := X.suite xi.a ((xi.a, oe) :: pn)) (v := .ref D) hgy hmy rfl hdy) pa_nil (by rfl)) (by rfl)) (by decide) (by decide) (by rfl) (by rfl), ?_⟩
  have g : Good X.K cA W0 σ ρ H (iE k (some xi.x) (.xis cs) e st) (kD X.K Q) := g
  rw [iE] at g
  exact ⟨_, hs, .ref D, .ref D, _, gs, rfl, fun u hu => hu, hk, hH, g ρ H (Nx.refl r.rel) _ (.bl _)⟩
end
end Lk

end
section
set_option linter.all false
set_option maxHeartbeats 1000000
namespace Lk
open PySem PySem.Spec PyProof.Rows L2
/-! ### from the text to the small language -/
structure SC where
  N : List Str
  sc : Scope
  fn : List Str
  calm : Bool
  fns : List (Str × List Str)
  kws : List (Nat × Nat × List Str × List Nat)
  bl : List Str
  cn : List (Str × D)
  ecs : List (Str × List (List Nat))
  exm : List (Str × List Nat)
  exv : Option (Str × Nat)
def plainN (x : Str) : Bool := !(x == ("__debug__" : Str)) && !(x == ("__classdict__" : Str)) && !(x == ("__name__" : Str))
def vSlot (sc : SC) (x : Str) : Option Nat := if plainN x = true then (match sc.sc.names.lookup x with
  | some .local => sc.N.findIdx? (· == x)
  | some .cell => sc.N.findIdx? (· == x)
  | some .free => sc.N.findIdx? (· == x)
  | _ => none) else none
def sSlot (sc : SC) (x : Str) : Option Nat := match sc.sc.names.lookup x with
  | some .local => sc.N.findIdx? (· == x)
  | some .cell => if sc.fn.contains x = true then sc.N.findIdx? (· == x) else none
  | _ => none
def isGl (sc : SC) (x : Str) : Bool := plainN x && (sc.sc.names.lookup x == some .globalImplicit)
def bltn (sc : SC) (x : Str) : Bool := isGl sc x && sc.bl.contains x
def guardO {α : Type} (b : Bool) (o : Option α) : Option α := if b = true then o else none
def unbop : Operator → Option BO
  | .Add => some .add | .Sub => some .sub | .Mult => some .mul | .FloorDiv => some .fdiv | .Mod => some .mod | .Pow => some .pow | .LShift => some .shl | .RShift => some .shr | .BitAnd => some .band | .BitOr => some .bor | _ => none
def uncop : CmpOp → Option CO
  | .Eq => some .eq | .NotEq => some .ne | .Lt => some .lt | .LtE => some .le | .Gt => some .gt | .GtE => some .ge | .In => some .isin | .NotIn => some .notin | .Is => some .isnon | .IsNot => some .notnon
theorem unbop_ok {o : Operator} {b : BO} (h : unbop o = some b) : bop b = o := by cases o <;> (cases h; try rfl)
theorem uncop_ok {o : CmpOp} {b : CO} (h : uncop o = some b) : cop b = o := by cases o <;> (cases h; try rfl)
def okS (s : Str) : Bool := decide (s.cps.toList.length ≤ SZ) && s.cps.toList.all fun c => decide (c < 1114112)
def b1of (x : Str) : Option B1 := if x = "len" then some .len else if x = "abs" then some .abs else if x = "int" then some .int else if x = "ord" then some .ord else none
def bsof (x : Str) : Option BS := if x = "tuple" then some .tuple else if x = "list" then some .list else if x = "any" then some .any else if x = "all" then some .all else if x = "sum" then some .sum else if x = "sorted" then some .sorted else none
def tyof (x : Str) : Option Ty := if x = "tuple" then some .tuple else if x = "list" then some .list else if x = "bool" then some .bool else if x = "int" then some .int else if x = "str" then some .str else if x = "dict" then some .dict else none
def fnIx (sc : SC) (x : Str) (n : Nat) : Option Nat := (sc.fns.findIdx? fun f => f.1 == x).bind fun i => (sc.fns[i]?).bind fun f => guardO (decide (f.2.length = n)) (some i)
def keyC : Expr → Option Ky
  | .Constant (.str s) _ _ => guardO (okS s) (some (.inr s.cps.toList))
  | .Constant (.int i) _ _ => some (.inl i)
  | _ => none
def keysC : List (Option Expr) → Option (List Ky)
  | [] => some []
  | some k :: r => (keyC k).bind fun k => (keysC r).bind fun r => some (k :: r)
  | none :: _ => none
def ownOf (N : List Str) (scope : Scope) : List (Str × Nat) := scope.names.filterMap fun y => if (y.2 == .local || y.2 == .cell) = true then (N.findIdx? (· == y.1)).map fun i => (y.1, i) else none
/-- the context of a comprehension's block -/
def SC.blk (sc : SC) (scope : Scope) : SC := { sc with sc := relS scope sc.sc, fn := scope.names.filterMap fun y => if (scope.names.lookup y.1 == some .cell) = true then some y.1 else none, exv := none }
/-- sorted(set(b)) -/
def srtSet (sc : SC) (x : Str) : Expr → Option Expr
  | .Call (.Name y _) [b] [] _ => if x = "sorted" ∧ y = "set" ∧ bltn sc y = true ∧ noStar b = true then some b else none
  | _ => none
mutual
def cE : Nat → SC → Expr → Option C
  | 0, _, _ => none
  | n + 1, sc, e => match e with
    | .Name x _ => match vSlot sc x with
      | some i => some (.var i)
      | none => guardO (isGl sc x) ((sc.cn.lookup x).map .cst)
    | .Constant k _ _ => match k with
      | .none => some .non
      | .bool b => some (.bl b)
      | .int i => some (.int i)
      | .str s => guardO (okS s) (some (.str s.cps.toList))
      | _ => none
    | .BinOp a o b _ => (unbop o).bind fun o => (cE n sc a).bind fun a => (cE n sc b).bind fun b => some (.bin o a b)
    | .UnaryOp .USub a _ => (cE n sc a).bind fun a => some (.neg a)
    | .UnaryOp .Not a _ => (cE n sc a).bind fun a => some (.not a)
    | .Compare a [o] [b] _ => (uncop o).bind fun o => guardO (noSet b) ((cE n sc a).bind fun a => (cE n sc b).bind fun b => some (.cmp o a b))
    | .Compare a [o, p] [b, c] _ => (uncop o).bind fun o => (uncop p).bind fun p => guardO (noSet b && noSet c) ((cE n sc a).bind fun a => (cE n sc b).bind fun b => (cE n sc c).bind fun c => some (.chain o p a b c))
    | .BoolOp .And [a] _ => cE n sc a
    | .BoolOp .And (a :: b :: r) p => (cE n sc a).bind fun a => (cE n sc (.BoolOp .And (b :: r) p)).bind fun b => some (.and a b)
    | .BoolOp .Or [a] _ => cE n sc a
    | .BoolOp .Or (a :: b :: r) p => (cE n sc a).bind fun a => (cE n sc (.BoolOp .Or (b :: r) p)).bind fun b => some (.or a b)
    | .IfExp c a b _ => (cT n sc c).bind fun c => (cE n sc a).bind fun a => (cE n sc b).bind fun b => some (.ite c a b)
    | .Tuple es _ _ => (cArgs n sc es).bind fun es => some (.tup es)
    | .List es _ => (cArgs n sc es).bind fun es => some (.newl (.lst es))
    | .ListComp elt gs scope _ => (cLC n sc elt gs scope).bind fun q => some (.newl q)
    | .Dict [] [] _ => some (.dct [] .nil)
    | .Dict (k :: ks) vs _ => (keysC (k :: ks)).bind fun ys => (cArgs n sc vs).bind fun cs => guardO (decide (ys.length = vs.length) && decide (ys.length ≤ 15)) (some (.dct ys cs))
    | .Subscript a (.Slice lo hi none _) _ => (cE n sc a).bind fun a => (cP n sc lo).bind fun lo => (cP n sc hi).bind fun hi => some (.slc a lo hi)
    | .Subscript a (.Slice none none (some (.UnaryOp .USub (.Constant (.int 1) _ _) _)) _) _ => (cE n sc a).bind fun a => some (.rev a)
    | .Subscript a i _ => guardO (noSlice i) ((cE n sc a).bind fun a => (cE n sc i).bind fun i => some (.idx a i))
    | .Call (.Name x _) args [] _ => if bltn sc x = true then cB n sc x args else guardO (isGl sc x && sc.calm && noStars args) ((fnIx sc x args.length).bind fun f => (cArgs n sc args).bind fun cs => some (.call f cs))
    | .Call (.Name x _) args (w :: ws) _ => guardO (isGl sc x && sc.calm && noStars args && kwOk (w :: ws)) ((sc.fns.findIdx? fun f => f.1 == x).bind fun f => (sc.fns[f]?).bind fun fx => (sc.kws.find? fun q => decide (q.1 = f ∧ q.2.1 = args.length ∧ q.2.2.1 = kwNm (w :: ws))).bind fun q => (cArgs n sc args).bind fun cs => (cK n sc (w :: ws)).bind fun ks =>
        guardO (decide (q.2.2.2.length = fx.2.length) && (q.2.2.2.all fun i => decide (i < args.length + (kwNm (w :: ws)).length))) (some (.callk f args.length (kwNm (w :: ws)).length q.2.2.2 cs ks)))
    | .Call (.Attribute o name apos) args [] pos => guardO (plainO o && (apos.endLine == pos.line) && noStars args) (match args with
      | [] => if name = "pop" then (cE n sc o).bind fun o => some (.m0 .pop o) else if name = "upper" then (cE n sc o).bind fun o => some (.m0 .upper o) else none
      | [a] => if name = "join" then (cE n sc o).bind fun o => (cQ n sc a).bind fun q => some (.join o q) else if name = "append" then (cE n sc o).bind fun o => (cE n sc a).bind fun a => some (.m1 .append o a) else if name = "index" then (cE n sc o).bind fun o => (cE n sc a).bind fun a => some (.m1 .index o a) else none
      | _ => none)
    | .Attribute (.Name x _) f _ => match sc.exv with
      | some (y, _) => guardO ((x == y) && okS f && plainN x && sc.ecs.any fun c => c.2.contains f.cps.toList) (some (.xfld f.cps.toList))
      | none => none
    | _ => none
/-- a built-in's call -/
def cB : Nat → SC → Str → List Expr → Option C
  | 0, _, _, _ => none
  | n + 1, sc, x, args => guardO (noStars args) (match args with
    | [a] => match srtSet sc x a with
      | some b => guardO sc.calm ((cQ n sc b).bind fun q => some (.bs .sortedSet q))
      | none => match b1of x with
        | some o => (cE n sc a).bind fun a => some (.b1 o a)
        | none => guardO sc.calm ((bsof x).bind fun o => (cQ n sc a).bind fun q => some (.bs o q))
    | [a, b] => if x = "min" then guardO sc.calm ((cE n sc a).bind fun a => (cE n sc b).bind fun b => some (.min2 a b))
      else if x = "max" then guardO sc.calm ((cE n sc a).bind fun a => (cE n sc b).bind fun b => some (.max2 a b))
      else if x = "isinstance" then (match b with
        | .Name y _ => if bltn sc y = true then (tyof y).bind fun t => (cE n sc a).bind fun a => some (.isi a [t]) else (match a, sc.exv with
          | .Name z _, some (w, _) => guardO ((z == w) && plainN z && isGl sc y) ((sc.exm.lookup y).map .xis)
          | _, _ => none)
        | _ => none)
      else none
    | _ => none)
def cT : Nat → SC → Expr → Option T
  | 0, _, _ => none
  | n + 1, sc, e => match e with
    | .UnaryOp .Not a _ => (cT n sc a).bind fun a => some (.not a)
    | .BoolOp .And [a] _ => cT n sc a
    | .BoolOp .And (a :: b :: r) p => (cT n sc a).bind fun a => (cT n sc (.BoolOp .And (b :: r) p)).bind fun b => some (.and a b)
    | .BoolOp .Or [a] _ => cT n sc a
    | .BoolOp .Or (a :: b :: r) p => (cT n sc a).bind fun a => (cT n sc (.BoolOp .Or (b :: r) p)).bind fun b => some (.or a b)
    | .Compare a [o] [b] _ => (uncop o).bind fun o => guardO (noSet b) ((cE n sc a).bind fun a => (cE n sc b).bind fun b => some (.val (.cmp o a b)))
    | .Compare a [o, p] [b, c] _ => (uncop o).bind fun o => (uncop p).bind fun p => guardO (noSet b && noSet c) ((cE n sc a).bind fun a => (cE n sc b).bind fun b => (cE n sc c).bind fun c => some (.val (.chain o p a b c)))
    | e => guardO (plainT e) ((cE n sc e).bind fun c => some (.val c))
def cP : Nat → SC → Option Expr → Option P
  | 0, _, _ => none
  | n + 1, sc, e => match e with
    | none => some .none
    | some e => (cE n sc e).bind fun c => some (.some c)
def cArgs : Nat → SC → List Expr → Option CL
  | 0, _, _ => none
  | n + 1, sc, es => match es with
    | [] => some .nil
    | e :: r => guardO (noStar e) ((cE n sc e).bind fun c => (cArgs n sc r).bind fun r => some (.cons c r))
def cK : Nat → SC → List Keyword → Option CL
  | 0, _, _ => none
  | n + 1, sc, es => match es with
    | [] => some .nil
    | ⟨_, e, _⟩ :: r => (cE n sc e).bind fun c => (cK n sc r).bind fun r => some (.cons c r)
def cQ : Nat → SC → Expr → Option SQ
  | 0, _, _ => none
  | n + 1, sc, e => match e with
    | .ListComp elt gs scope _ => cLC n sc elt gs scope
    | .List es _ => (cArgs n sc es).bind fun es => some (.lst es)
    | e => (cE n sc e).bind fun c => some (.val c)
def cLC : Nat → SC → Expr → List Comprehension → Scope → Option SQ
  | 0, _, _, _, _ => none
  | n + 1, sc, elt, gs, scope => match gs with
    | [⟨tg, iter, ifs, 0⟩] => guardO (sc.calm && blkC sc.N sc.sc scope (ownOf sc.N scope) && noSet iter) ((cI n sc tg iter).bind fun it => (cG n (sc.blk scope) tg).bind fun ta => (cIf n (sc.blk scope) ifs).bind fun cd => (cE n (sc.blk scope) elt).bind fun el =>
        guardO ((tgs ta).all fun j => ((ownOf sc.N scope).map (·.2)).contains j) (some (.comp ((ownOf sc.N scope).map (·.2)) ta it cd el)))
    | _ => none
def cIf : Nat → SC → List Expr → Option T
  | 0, _, _ => none
  | n + 1, sc, ifs => match ifs with
    | [] => some .yes
    | [c] => cT n sc c
    | _ => none
def cG : Nat → SC → Expr → Option Tg
  | 0, _, _ => none
  | n + 1, sc, e => match e with
    | .Name x _ => (sSlot sc x).bind fun i => some (.var i)
    | .Tuple es _ _ => guardO (sc.calm && noStars es) ((cGs n sc es).bind fun t => guardO (istup t && decide (tlen t = es.length)) (some t))
    | _ => none
def cGs : Nat → SC → List Expr → Option Tg
  | 0, _, _ => none
  | n + 1, sc, es => match es with
    | [] => some .nil
    | e :: r => guardO (noStar e) ((cG n sc e).bind fun t => (cGs n sc r).bind fun r => some (.cons t r))
def cI : Nat → SC → Expr → Expr → Option IT
  | 0, _, _, _ => none
  | n + 1, sc, tg, e => match e with
    | .Call (.Name x _) args [] _ => if bltn sc x = true then guardO (noStars args) (match args with
        | [a] => if x = "range" then (cE n sc a).bind fun a => some (.rng1 a)
          else if x = "enumerate" then (match tg with
            | .Tuple _ _ _ => (cQ n sc a).bind fun q => some (.enm q)
            | _ => none)
          else if x = "reversed" then (cQ n sc a).bind fun q => some (.rev q)
          else (cQ n sc e).bind fun q => some (.val q)
        | [a, b] => if x = "range" then (cE n sc a).bind fun a => (cE n sc b).bind fun b => some (.rng2 a b)
          else if x = "zip" then (match tg with
            | .Tuple _ _ _ => (cQ n sc a).bind fun q => (cQ n sc b).bind fun r => some (.zip q r)
            | _ => none)
          else (cQ n sc e).bind fun q => some (.val q)
        | _ => none) else (cQ n sc e).bind fun q => some (.val q)
    | e => (cQ n sc e).bind fun q => some (.val q)
end
end Lk

end
section
set_option linter.all false
set_option maxHeartbeats 2000000
namespace Lk
open PySem PySem.Spec PyProof.Rows L2
theorem gO {α : Type} {b : Bool} {o : Option α} {a : α} (h : guardO b o = some a) : b = true ∧ o = some a := by
  unfold guardO at h
  split at h
  · rename_i hb
    exact ⟨hb, h⟩
  · cases h
theorem bO {α β : Type} {o : Option α} {f : α → Option β} {b : β} (h : o.bind f = some b) : ∃ a, o = some a ∧ f a = some b := Option.bind_eq_some_iff.mp h
/-- what the module and the depth give (no part of the frame) -/
structure Wf (X : Cx) (sc : SC) (k : Cal) (cA : Nat → Option Addr) : Prop where
  hu : X.A.units + 64 < cLine
  bl : ∀ x ∈ sc.bl, X.mg x = none
  cn : ∀ x d, sc.cn.lookup x = some d → ∃ u v, X.mg x = some u ∧ RelV v u ∧ ∀ H ρ, RD X.K H ρ d v
  fns : sc.calm = true → ∀ f x ps, sc.fns[f]? = some (x, ps) → ∃ j fa fd, FnA X cA sc.kws k f x ps j fa fd
/-- the frame and the wish -/
structure CtxL (X : Cx) (sc : SC) (W : WX) (k : Cal) (cA : Nat → Option Addr) (xi : Option XI) : Prop where
  wf : Wf X sc k cA
  hN : X.N = sc.N
  nd : X.N.Nodup
  hs : X.env.scope = sc.sc
  fn : ∀ x ∈ sc.fn, X.fn x = true
  calm : sc.calm = true → X.calm = true ∧ xi = none
  pa : ∀ σ, PassesAt (L2.CX X.prog X.w) X σ (WE W σ)
  ex : ∀ y i, sc.exv = some (y, i) → ∃ (z : XI) (X0 : Cx) (oe : Obj) (pn : List (Addr × Obj)), xi = some z ∧ W = W0 ∧ X = X0.suite z.a ((z.a, oe) :: pn) ∧ Zc z.cls z.d oe ∧ (∃ vs, oe.data = .fields vs) ∧ z.slot = i ∧ X.N[i]? = some y ∧ X.env.scope.names.lookup y = some .local ∧
    (∀ j C, cA j = some C → XfC X.K C ∧ ExcC X.K C ∧ ∀ f : Str, (∃ c ∈ sc.ecs, f.cps.toList ∈ c.2) → PySem.W.findIn X.K (.ref C) f = some none) ∧
    (∀ y cs, sc.exm.lookup y = some cs → ∃ D, X.mg y = some (.ref D) ∧ ∀ j C, cA j = some C → PySem.W.kitOne X.K (.ref C) (.ref D) = some (cs.contains j))
section
variable {X : Cx} {sc : SC} {W : WX} {k : Cal} {cA : Nat → Option Addr} {xi : Option XI}
theorem plainN_ok {x : Str} (h : plainN x = true) : (x == ("__debug__" : Str)) = false ∧ (x == ("__classdict__" : Str)) = false ∧ x ≠ "__name__" := by
  unfold plainN at h
  simp only [Bool.and_eq_true, Bool.not_eq_true'] at h
  exact ⟨h.1.1, h.1.2, fun e => by rw [e] at h; exact absurd h.2 (by decide)⟩
theorem idx_at {N : List Str} {x : Str} {i : Nat} (h : N.findIdx? (· == x) = some i) : N[i]? = some x := by
  obtain ⟨hlt, he, _⟩ := List.findIdx?_eq_some_iff_getElem.mp h
  rw [List.getElem?_eq_getElem hlt]
  simpa using he
theorem vSlot_ok (cx : CtxL X sc W k cA xi) {x : Str} {i : Nat} (h : vSlot sc x = some i) : X.N[i]? = some x ∧ Vis X.env.scope x ∧ (x == ("__debug__" : Str)) = false ∧ (x == ("__classdict__" : Str)) = false := by
  unfold vSlot at h
  split at h
  · rename_i hp
    obtain ⟨p1, p2, _⟩ := plainN_ok hp
    rw [cx.hN, cx.hs]
    split at h
    · rename_i hl; exact ⟨idx_at h, .inl hl, p1, p2⟩
    · rename_i hl; exact ⟨idx_at h, .inr (.inl hl), p1, p2⟩
    · rename_i hl; exact ⟨idx_at h, .inr (.inr hl), p1, p2⟩
    · cases h
  · cases h
theorem sSlot_ok (cx : CtxL X sc W k cA xi) {x : Str} {i : Nat} (h : sSlot sc x = some i) : X.N[i]? = some x ∧ Loc X.env.scope x ∧ (X.fn x = true ∨ X.env.scope.names.lookup x = some .local) := by
  unfold sSlot at h
  rw [cx.hN, cx.hs]
  split at h
  · rename_i hl; exact ⟨idx_at h, .inl hl, .inr hl⟩
  · rename_i hl
    split at h
    · rename_i hc
      exact ⟨idx_at h, .inr hl, .inl (cx.fn x (by simpa using hc))⟩
    · cases h
  · cases h
theorem isGl_ok (cx : CtxL X sc W k cA xi) {x : Str} (h : isGl sc x = true) : Gl X x ∧ (x == ("__debug__" : Str)) = false ∧ x ≠ "__name__" := by
  unfold isGl at h
  rw [Bool.and_eq_true, beq_iff_eq] at h
  obtain ⟨p1, _, p3⟩ := plainN_ok h.1
  refine ⟨?_, p1, p3⟩
  unfold Gl Env.kindOf
  rw [cx.hs]; exact h.2
theorem bltn_ok (cx : CtxL X sc W k cA xi) {x : Str} (h : bltn sc x = true) : Gl X x ∧ X.mg x = none ∧ x ≠ "__name__" ∧ (x == ("__debug__" : Str)) = false := by
  unfold bltn at h
  rw [Bool.and_eq_true] at h
  obtain ⟨h1, h2, h3⟩ := isGl_ok cx h.1
  exact ⟨h1, cx.wf.bl x (by simpa using h.2), h3, h2⟩
theorem b1of_ok {x : Str} {o : B1} (h : b1of x = some o) : bootBuiltins x = some (b1name o) := by
  unfold b1of at h
  repeat' split at h
  all_goals first
    | (cases h; subst_vars; decide +kernel)
    | cases h
theorem srtSet_ok {sc : SC} {x : Str} {a b : Expr} (h : srtSet sc x a = some b) : ∃ p p2, a = .Call (.Name "set" p) [b] [] p2 ∧ x = "sorted" ∧ bltn sc "set" = true ∧ noStar b = true := by
  unfold srtSet at h
  split at h
  · split at h
    · rename_i hh
      cases h
      obtain ⟨h1, rfl, h3, h4⟩ := hh
      exact ⟨_, _, rfl, h1, h3, h4⟩
    · cases h
  · cases h
theorem bsof_ok {x : Str} {o : BS} (h : bsof x = some o) : bootBuiltins x = some (bname o) ∧ isBT (bname o) = true := by
  unfold bsof at h
  repeat' split at h
  all_goals first
    | (cases h; subst_vars; exact ⟨by decide +kernel, rfl⟩)
    | cases h
theorem tyof_ok {x : Str} {t : Ty} (h : tyof x = some t) : bootBuiltins x = some (.type (tyN t)) := by
  unfold tyof at h
  repeat' split at h
  all_goals first
    | (cases h; subst_vars; decide +kernel)
    | cases h
theorem boot_min : bootBuiltins "min" = some (.builtin "min") := by decide +kernel
theorem boot_srt : bootBuiltins "sorted" = some (.builtin "sorted") := by decide +kernel
theorem boot_set2 : bootBuiltins "set" = some (.type "set") := by decide +kernel
theorem boot_max : bootBuiltins "max" = some (.builtin "max") := by decide +kernel
theorem boot_isi : bootBuiltins "isinstance" = some (.builtin "isinstance") := by decide +kernel
theorem okS_ok {s : Str} (h : okS s = true) : okStr s.cps.toList ∧ s = mkS s.cps.toList := by
  unfold okS at h
  simp only [Bool.and_eq_true, decide_eq_true_eq, List.all_eq_true] at h
  exact ⟨⟨h.1, h.2⟩, by cases s; simp [mkS]⟩
theorem fnIx_ok {x : Str} {n f : Nat} (h : fnIx sc x n = some f) : ∃ ps, sc.fns[f]? = some (x, ps) ∧ ps.length = n := by
  unfold fnIx at h
  obtain ⟨i, h1, h⟩ := bO h
  obtain ⟨p, h2, h⟩ := bO h
  obtain ⟨h3, h⟩ := gO h
  cases h
  obtain ⟨hlt, he, _⟩ := List.findIdx?_eq_some_iff_getElem.mp h1
  rw [List.getElem?_eq_getElem hlt] at h2
  cases h2
  have he : (sc.fns[f]).1 = x := by simpa using he
  refine ⟨(sc.fns[f]).2, ?_, of_decide_eq_true h3⟩
  rw [List.getElem?_eq_getElem hlt, ← he]
theorem clen_cK : ∀ {n : Nat} {es : List Keyword} {cs : CL}, kwOk es = true → cK n sc es = some cs → clen cs = (kwNm es).length := by
  intro n
  induction n with
  | zero => intro es cs _ h; rw [cK] at h; cases h
  | succ n ih =>
    intro es cs ho h
    cases es with
    | nil => rw [Lk.cK] at h; cases h; rfl
    | cons e r =>
      obtain ⟨nm, e, q⟩ := e
      cases nm with
      | none => cases ho
      | some nm =>
        rw [Lk.cK] at h
        obtain ⟨c, _, h⟩ := bO h
        obtain ⟨r', h2, h⟩ := bO h
        cases h
        have ho : kwOk r = true := ho
        show clen r' + 1 = (kwNm r).length + 1
        rw [ih ho h2]
theorem clen_cA : ∀ {n : Nat} {es : List Expr} {cs : CL}, cArgs n sc es = some cs → clen cs = es.length := by
  intro n
  induction n with
  | zero => intro es cs h; rw [Lk.cArgs] at h; cases h
  | succ n ih =>
    intro es cs h
    cases es with
    | nil => rw [Lk.cArgs] at h; cases h; rfl
    | cons e r =>
      rw [Lk.cArgs] at h
      obtain ⟨_, h⟩ := gO h
      obtain ⟨c, _, h⟩ := bO h
      obtain ⟨r', h2, h⟩ := bO h
      cases h
      show clen r' + 1 = r.length + 1
      rw [ih h2]
/-! the context of a comprehension's block -/
theorem Wf.blk (w : Wf X sc k cA) {s : Shared} {H : Hp} {scope : Scope} {cenv : Env} {fp : List Addr} : Wf (X.blk s H scope cenv fp) (sc.blk scope) k cA :=
  ⟨w.hu, w.bl, w.cn, fun hc f x ps h => by
    obtain ⟨j, fa, fd, F⟩ := w.fns hc f x ps h
    exact ⟨j, fa, fd, F.ok, F.room, F.hm, F.kp, F.bd, F.kb⟩⟩
theorem Ctx.blk (cx : CtxL X sc W k cA xi) {s : Shared} {H : Hp} {scope : Scope} {C : Addr} {cl : List (Str × Addr)} {fp : List Addr} : CtxL (X.blk s H scope (compEnvC scope cl C X.env) fp) (sc.blk scope) W0 k cA none where
  wf := cx.wf.blk
  hN := cx.hN
  nd := cx.nd
  hs := by show relS scope X.env.scope = relS scope sc.sc; rw [cx.hs]
  fn := fun x hx => by
    obtain ⟨y, h1, h2⟩ := List.mem_filterMap.mp hx
    split at h2
    · rename_i h3
      cases h2
      exact h3
    · cases h2
  calm := fun h => ⟨(cx.calm h).1, rfl⟩
  pa := fun σ pins H s e s' I c => passL pins σ H s e s' I c
  ex := fun y i h => by cases h
/-- all that is said of the n-th turn -/
structure Snd (n : Nat) : Prop where
  kk : ∀ {X sc W k cA xi}, CtxL X sc W k cA xi → ∀ e c, cK n sc e = some c → PK X e (tA X.K cA W k xi c)
  e : ∀ {X sc W k cA xi}, CtxL X sc W k cA xi → ∀ e c, cE n sc e = some c → PE X e (tE X.K cA W k xi c)
  b : ∀ {X sc W k cA xi}, CtxL X sc W k cA xi → ∀ x args c p pos, bltn sc x = true → cB n sc x args = some c → PE X (.Call (.Name x p) args [] pos) (tE X.K cA W k xi c)
  t : ∀ {X sc W k cA xi}, CtxL X sc W k cA xi → ∀ e c, cT n sc e = some c → PT X e (tT X.K cA W k xi c) ∧ (∀ op vs pos, e = .BoolOp op vs pos → PW X e (tT X.K cA W k xi c))
  p : ∀ {X sc W k cA xi}, CtxL X sc W k cA xi → ∀ e c, cP n sc e = some c → PO X e (tP X.K cA W k xi c)
  a : ∀ {X sc W k cA xi}, CtxL X sc W k cA xi → ∀ e c, cArgs n sc e = some c → PA X e (tA X.K cA W k xi c)
  q : ∀ {X sc W k cA xi}, CtxL X sc W k cA xi → ∀ e c, cQ n sc e = some c → PE X e (tQ X.K cA W k xi c)
  l : ∀ {X sc W k cA xi}, CtxL X sc W k cA xi → ∀ elt gs scope pos c, cLC n sc elt gs scope = some c → PE X (.ListComp elt gs scope pos) (tQ X.K cA W k xi c) ∧ PE X (.ListComp elt gs scope pos) (tE X.K cA W k xi (.newl c))
  f : ∀ {X sc W k cA xi}, CtxL X sc W k cA xi → ∀ ifs c, cIf n sc ifs = some c → PTs X ifs (tT X.K cA W k xi c)
  g : ∀ {X sc W k cA xi}, CtxL X sc W k cA xi → ∀ e c, cG n sc e = some c → PG X e (gT X.K c)
  gs : ∀ {X sc W k cA xi}, CtxL X sc W k cA xi → ∀ e c, cGs n sc e = some c → PGs X e (gTs X.K c)
  i : ∀ {X sc W k cA xi}, CtxL X sc W k cA xi → ∀ tg e c, cI n sc tg e = some c → PI X tg e (tI X.K cA W k xi c)
  d : ∀ {X sc W k cA xi}, CtxL X sc W k cA xi → ∀ pos keys vals ys cs, keysC keys = some ys → cArgs n sc vals = some cs → ys.length = vals.length → PPs X pos keys vals (trsOf X.K cA W k xi ys cs)
theorem snd0 : Snd 0 := by
  refine ⟨?_, ?_, ?_, ?_, ?_, ?_, ?_, ?_, ?_, ?_, ?_, ?_, ?_⟩
  · intro X sc W k cA xi cx e c h; rw [cK] at h; cases h
  · intro X sc W k cA xi cx e c h; rw [cE] at h; cases h
  · intro X sc W k cA xi cx x args c p pos hb h; rw [cB] at h; cases h
  · intro X sc W k cA xi cx e c h; rw [cT] at h; cases h
  · intro X sc W k cA xi cx e c h; rw [cP] at h; cases h
  · intro X sc W k cA xi cx e c h; rw [cArgs] at h; cases h
  · intro X sc W k cA xi cx e c h; rw [cQ] at h; cases h
  · intro X sc W k cA xi cx e gs scope pos c h; rw [cLC] at h; cases h
  · intro X sc W k cA xi cx e c h; rw [cIf] at h; cases h
  · intro X sc W k cA xi cx e c h; rw [cG] at h; cases h
  · intro X sc W k cA xi cx e c h; rw [cGs] at h; cases h
  · intro X sc W k cA xi cx tg e c h; rw [cI] at h; cases h
  · intro X sc W k cA xi cx pos keys vals ys cs h1 h h2; rw [cArgs] at h; cases h
section
variable {n : Nat} (ih : Snd n) {X : Cx} {sc : SC} {W : WX} {k : Cal} {cA : Nat → Option Addr} {xi : Option XI} (cx : CtxL X sc W k cA xi)
include ih cx
theorem snd_p {e : Option Expr} {c : P} (h : cP (n + 1) sc e = some c) : PO X e (tP X.K cA W k xi c) := by
  cases e with
  | none => rw [cP] at h; cases h; exact s_none
  | some e =>
    rw [cP] at h
    obtain ⟨c', h1, h⟩ := bO h
    cases h
    exact s_some (ih.e cx _ _ h1)
theorem snd_a {e : List Expr} {c : CL} (h : cArgs (n + 1) sc e = some c) : PA X e (tA X.K cA W k xi c) := by
  cases e with
  | nil => rw [cArgs] at h; cases h; exact s_nil
  | cons e r =>
    rw [cArgs] at h
    obtain ⟨h0, h⟩ := gO h
    obtain ⟨c1, h1, h⟩ := bO h
    obtain ⟨c2, h2, h⟩ := bO h
    cases h
    exact s_cons (ih.e cx _ _ h1) (ih.a cx _ _ h2) h0
theorem snd_kk {e : List Keyword} {c : CL} (h : cK (n + 1) sc e = some c) : PK X e (tA X.K cA W k xi c) := by
  cases e with
  | nil => rw [cK] at h; cases h; exact s_knil
  | cons e r =>
    obtain ⟨nm, e, q⟩ := e
    rw [cK] at h
    obtain ⟨c1, h1, h⟩ := bO h
    obtain ⟨c2, h2, h⟩ := bO h
    cases h
    exact s_kcons (ih.e cx _ _ h1) (ih.kk cx _ _ h2)
theorem snd_f {e : List Expr} {c : T} (h : cIf (n + 1) sc e = some c) : PTs X e (tT X.K cA W k xi c) := by
  cases e with
  | nil => rw [cIf] at h; cases h; exact s_yes
  | cons e r =>
    cases r with
    | nil => rw [cIf] at h; exact pts_one (ih.t cx _ _ h).1
    | cons _ _ => rw [cIf] at h; cases h; all_goals simp
theorem snd_gs {e : List Expr} {c : Tg} (h : cGs (n + 1) sc e = some c) : PGs X e (gTs X.K c) := by
  cases e with
  | nil => rw [cGs] at h; cases h; exact s_tgnil
  | cons e r =>
    rw [cGs] at h
    obtain ⟨h0, h⟩ := gO h
    obtain ⟨c1, h1, h⟩ := bO h
    obtain ⟨c2, h2, h⟩ := bO h
    cases h
    exact s_tgcons (ih.g cx _ _ h1) (ih.gs cx _ _ h2) h0
theorem snd_l {elt : Expr} {gs : List Comprehension} {scope : Scope} {pos : Pos} {c : SQ} (h : cLC (n + 1) sc elt gs scope = some c) : PE X (.ListComp elt gs scope pos) (tQ X.K cA W k xi c) ∧ PE X (.ListComp elt gs scope pos) (tE X.K cA W k xi (.newl c)) := by
  unfold cLC at h
  split at h
  · rename_i tg iter ifs
    obtain ⟨h0, h⟩ := gO h
    rw [Bool.and_eq_true, Bool.and_eq_true] at h0
    obtain ⟨it, h1, h⟩ := bO h
    obtain ⟨ta, h2, h⟩ := bO h
    obtain ⟨cd, h3, h⟩ := bO h
    obtain ⟨el, h4, h⟩ := bO h
    obtain ⟨h5, h⟩ := gO h
    cases h
    obtain ⟨hc, hxi⟩ := cx.calm h0.1.1
    subst hxi
    have cp : CP X cA W k elt tg iter ifs scope (ownOf sc.N scope) ta it cd el := ⟨hc, cx.nd, ih.i cx _ _ _ h1, by rw [cx.hN, cx.hs]; exact blkOk_by h0.1.2, fun s H C cl fp => ih.g (Ctx.blk cx) _ _ h2, fun s H C cl fp => ih.f (Ctx.blk cx) _ _ h3, fun s H C cl fp => ih.e (Ctx.blk cx) _ _ h4,
      fun j hj => by simpa using List.all_eq_true.mp h5 j hj, h0.2⟩
    exact ⟨s_compq cp, s_compe cp⟩
  · cases h
end
end
end Lk

end
section
set_option linter.all false
set_option maxHeartbeats 4000000
namespace Lk
open PySem PySem.Spec PyProof.Rows L2
section
variable {n : Nat} (ih : Snd n) {X : Cx} {sc : SC} {W : WX} {k : Cal} {cA : Nat → Option Addr} {xi : Option XI} (cx : CtxL X sc W k cA xi)
include ih cx
theorem snd_g {e : Expr} {c : Tg} (h : cG (n + 1) sc e = some c) : PG X e (gT X.K c) := by
  unfold cG at h
  split at h
  · obtain ⟨i, h1, h⟩ := bO h
    cases h
    obtain ⟨k1, k2, k3⟩ := sSlot_ok cx h1
    exact s_tgvar cx.nd k1 k2 k3
  · obtain ⟨h0, h⟩ := gO h
    rw [Bool.and_eq_true] at h0
    obtain ⟨t, h1, h⟩ := bO h
    obtain ⟨h2, h⟩ := gO h
    rw [Bool.and_eq_true, decide_eq_true_eq] at h2
    cases h
    exact s_tgtup (cx.calm h0.1).1 (ih.gs cx _ _ h1) h2.1 h2.2 h0.2
  · cases h
theorem snd_q {e : Expr} {c : SQ} (h : cQ (n + 1) sc e = some c) : PE X e (tQ X.K cA W k xi c) := by
  unfold cQ at h
  split at h
  · exact (ih.l cx _ _ _ _ _ h).1
  · obtain ⟨c1, h1, h⟩ := bO h
    cases h
    exact s_lstq (ih.a cx _ _ h1)
  · obtain ⟨c1, h1, h⟩ := bO h
    cases h
    exact s_valq (ih.e cx _ _ h1)
theorem snd_t {e : Expr} {c : T} (h : cT (n + 1) sc e = some c) : PT X e (tT X.K cA W k xi c) ∧ (∀ op vs pos, e = .BoolOp op vs pos → PW X e (tT X.K cA W k xi c)) := by
  unfold cT at h
  split at h
  · obtain ⟨c1, h1, h⟩ := bO h
    cases h
    exact ⟨s_not (ih.t cx _ _ h1).1, fun _ _ _ z => by cases z⟩
  · have z := pw_and1 (ih.t cx _ _ h).1 (pos := ‹Pos›)
    exact ⟨z.pt, fun _ _ _ _ => z⟩
  · obtain ⟨c1, h1, h⟩ := bO h
    obtain ⟨c2, h2, h⟩ := bO h
    cases h
    have z := s_andT (ih.t cx _ _ h1).1 ((ih.t cx _ _ h2).2 _ _ _ rfl)
    exact ⟨z.pt, fun _ _ _ _ => z⟩
  · have z := pw_or1 (ih.t cx _ _ h).1 (pos := ‹Pos›)
    exact ⟨z.pt, fun _ _ _ _ => z⟩
  · obtain ⟨c1, h1, h⟩ := bO h
    obtain ⟨c2, h2, h⟩ := bO h
    cases h
    have z := s_orT (ih.t cx _ _ h1).1 ((ih.t cx _ _ h2).2 _ _ _ rfl)
    exact ⟨z.pt, fun _ _ _ _ => z⟩
  · obtain ⟨o, h1, h⟩ := bO h
    obtain ⟨h2, h⟩ := gO h
    obtain ⟨a, h3, h⟩ := bO h
    obtain ⟨b, h4, h⟩ := bO h
    cases h
    rw [← uncop_ok h1]
    exact ⟨s_cmpT cx.wf.hu o (ih.e cx _ _ h3) (ih.e cx _ _ h4) h2, fun _ _ _ z => by cases z⟩
  · obtain ⟨o, h1, h⟩ := bO h
    obtain ⟨p, h1', h⟩ := bO h
    obtain ⟨h2, h⟩ := gO h
    rw [Bool.and_eq_true] at h2
    obtain ⟨a, h3, h⟩ := bO h
    obtain ⟨b, h4, h⟩ := bO h
    obtain ⟨c, h5, h⟩ := bO h
    cases h
    rw [← uncop_ok h1, ← uncop_ok h1']
    exact ⟨s_chainT cx.wf.hu o p (ih.e cx _ _ h3) (ih.e cx _ _ h4) (ih.e cx _ _ h5) h2.1 h2.2, fun _ _ _ z => by cases z⟩
  · obtain ⟨h0, h⟩ := gO h
    obtain ⟨c1, h1, h⟩ := bO h
    cases h
    exact ⟨s_val (ih.e cx _ _ h1) h0, fun _ _ _ z => by subst z; cases h0⟩
theorem snd_b {x : Str} {args : List Expr} {c : C} {p pos : Pos} (hb : bltn sc x = true) (h : cB (n + 1) sc x args = some c) : PE X (.Call (.Name x p) args [] pos) (tE X.K cA W k xi c) := by
  obtain ⟨g1, g2, g3, g4⟩ := bltn_ok cx hb
  unfold cB at h
  obtain ⟨h0, h⟩ := gO h
  split at h
  · rename_i a
    unfold noStars at h0
    rw [Bool.and_eq_true] at h0
    split at h
    · rename_i b h1
      obtain ⟨hc, h⟩ := gO h
      obtain ⟨q, h2, h⟩ := bO h
      cases h
      obtain ⟨p', p2, rfl, rfl, hy, hb⟩ := srtSet_ok h1
      obtain ⟨k1, k2, k3, k4⟩ := bltn_ok cx hy
      exact s_srtset (cx.calm hc).1 g1 g2 boot_srt g3 g4 k1 k2 boot_set2 k3 k4 (ih.q cx _ _ h2) hb
    · split at h
      · rename_i o h1
        obtain ⟨c1, h2, h⟩ := bO h
        cases h
        exact s_b1 o g1 g2 (b1of_ok h1) g3 g4 (ih.e cx _ _ h2) h0.1
      · obtain ⟨hc, h⟩ := gO h
        obtain ⟨o, h1, h⟩ := bO h
        obtain ⟨q, h2, h⟩ := bO h
        cases h
        obtain ⟨k1, k2⟩ := bsof_ok h1
        exact s_bs (cx.calm hc).1 o k2 g1 g2 k1 g3 g4 (ih.q cx _ _ h2) h0.1
  · rename_i a b
    unfold noStars noStars at h0
    rw [Bool.and_eq_true, Bool.and_eq_true] at h0
    split at h
    · rename_i hx
      subst hx
      obtain ⟨hc, h⟩ := gO h
      obtain ⟨c1, h1, h⟩ := bO h
      obtain ⟨c2, h2, h⟩ := bO h
      cases h
      exact s_min2 (cx.calm hc).1 g1 g2 boot_min g3 g4 (ih.e cx _ _ h1) (ih.e cx _ _ h2) h0.1 h0.2.1
    · split at h
      · rename_i hx
        subst hx
        obtain ⟨hc, h⟩ := gO h
        obtain ⟨c1, h1, h⟩ := bO h
        obtain ⟨c2, h2, h⟩ := bO h
        cases h
        exact s_max2 (cx.calm hc).1 g1 g2 boot_max g3 g4 (ih.e cx _ _ h1) (ih.e cx _ _ h2) h0.1 h0.2.1
      · split at h
        · rename_i hx
          subst hx
          split at h
          · rename_i y p'
            split at h
            · rename_i hy
              obtain ⟨t, h1, h⟩ := bO h
              obtain ⟨c1, h2, h⟩ := bO h
              cases h
              obtain ⟨k1, k2, k3, k4⟩ := bltn_ok cx hy
              exact s_isi g1 g2 boot_isi g3 g4 k1 k2 (tyof_ok h1) k3 k4 (ih.e cx _ _ h2) h0.1
            · split at h
              · rename_i z pz w iw hex
                obtain ⟨hc, h9⟩ := gO h
                clear h
                simp only [Bool.and_eq_true, beq_iff_eq] at hc
                obtain ⟨⟨rfl, hz⟩, hy⟩ := hc
                obtain ⟨zx, X0, oe, pn, rfl, rfl, rfl, k1, k2, rfl, k4, k5, k6, k7⟩ := cx.ex _ _ hex
                cases hm : sc.exm.lookup y with
                | none => rw [hm] at h9; cases h9
                | some cs =>
                  rw [hm] at h9
                  cases h9
                  obtain ⟨D, m1, m2⟩ := k7 y cs hm
                  obtain ⟨q1, q2, _⟩ := isGl_ok cx hy
                  obtain ⟨z1, z2, _⟩ := plainN_ok hz
                  exact s_xis k1 k2 (fun j C hj => ⟨(k6 j C hj).2.1, m2 j C hj⟩) k4 (.inl k5) z1 z2 g1 g2 q1 m1 q2
              · cases h
          · cases h
        · cases h
  · cases h
theorem snd_i {tg e : Expr} {c : IT} (h : cI (n + 1) sc tg e = some c) : PI X tg e (tI X.K cA W k xi c) := by
  have val : ∀ {e : Expr} {c : IT}, ((cQ n sc e).bind fun q => some (IT.val q)) = some c → PI X tg e (tI X.K cA W k xi c) := fun {e c} h => by
    obtain ⟨q, h1, h⟩ := bO h
    cases h
    exact s_itval (ih.q cx _ _ h1)
  unfold cI at h
  split at h
  · rename_i x p args pos
    split at h
    · rename_i hb
      obtain ⟨g1, g2, g3, g4⟩ := bltn_ok cx hb
      obtain ⟨h0, h⟩ := gO h
      split at h
      · rename_i a
        unfold noStars at h0
        rw [Bool.and_eq_true] at h0
        split at h
        · rename_i hx
          subst hx
          obtain ⟨c1, h1, h⟩ := bO h
          cases h
          exact s_rng1 g1 g2 (ih.e cx _ _ h1) h0.1
        · split at h
          · rename_i hx
            subst hx
            split at h
            · obtain ⟨q, h1, h⟩ := bO h
              cases h
              exact s_enm g1 g2 (ih.q cx _ _ h1) h0.1
            · cases h
          · split at h
            · rename_i hx
              subst hx
              obtain ⟨q, h1, h⟩ := bO h
              cases h
              exact s_rev_it g1 g2 (ih.q cx _ _ h1) h0.1
            · exact val h
      · rename_i a b
        unfold noStars noStars at h0
        rw [Bool.and_eq_true, Bool.and_eq_true] at h0
        split at h
        · rename_i hx
          subst hx
          obtain ⟨c1, h1, h⟩ := bO h
          obtain ⟨c2, h2, h⟩ := bO h
          cases h
          exact s_rng2 g1 g2 (ih.e cx _ _ h1) (ih.e cx _ _ h2) h0.1 h0.2.1
        · split at h
          · rename_i hx
            subst hx
            split at h
            · obtain ⟨q, h1, h⟩ := bO h
              obtain ⟨r, h2, h⟩ := bO h
              cases h
              exact s_zip g1 g2 (ih.q cx _ _ h1) (ih.q cx _ _ h2) h0.1 h0.2.1
            · cases h
          · exact val h
      · cases h
    · exact val h
  · exact val h
omit ih cx in
theorem keyC_ok {e : Expr} {y : Ky} (h : keyC e = some y) : PE X e (L2.tC (kV (kyK y))) ∧ okKy y := by
  unfold keyC at h
  split at h
  · rename_i s j pos
    obtain ⟨h0, h⟩ := gO h
    cases h
    obtain ⟨k1, k2⟩ := okS_ok h0
    refine ⟨?_, k1⟩
    have z : PE X (.Constant (.str s) j pos) (L2.tC (.str s)) := pe_str
    have e : kV (kyK (.inr s.cps.toList)) = .str s := by
      show V.str ⟨s.cps.toList.toArray⟩ = V.str s
      rw [show (⟨s.cps.toList.toArray⟩ : Str) = s from k2.symm]
    rw [e]; exact z
  · cases h
    exact ⟨pe_int, trivial⟩
  · cases h
omit ih cx in
theorem keyC_ky {e : Expr} {y : Ky} (h : keyC e = some y) : okKy y := by
  unfold keyC at h
  split at h
  · obtain ⟨h0, h⟩ := gO h
    cases h
    exact (okS_ok h0).1
  · cases h
    trivial
  · cases h
omit ih cx in
theorem keysC_ok : ∀ {es : List (Option Expr)} {ys : List Ky}, keysC es = some ys → (∀ y ∈ ys, okKy y) ∧ es.all (·.isSome) = true ∧ es.length = ys.length
  | [], ys, h => by unfold keysC at h; cases h; exact ⟨fun _ h => (nomatch h), rfl, rfl⟩
  | none :: r, ys, h => by unfold keysC at h; cases h
  | some e :: r, ys, h => by
    unfold keysC at h
    obtain ⟨y, h1, h⟩ := bO h
    obtain ⟨zs, h2, h⟩ := bO h
    cases h
    obtain ⟨k1, k2, k3⟩ := keysC_ok h2
    refine ⟨fun z hz => ?_, by rw [List.all_cons, k2]; rfl, by rw [List.length_cons, List.length_cons, k3]⟩
    rcases List.mem_cons.mp hz with rfl | hz
    · exact keyC_ky h1
    · exact k1 z hz
theorem snd_d {pos : Pos} {keys : List (Option Expr)} {vals : List Expr} {ys : List Ky} {cs : CL} (hk : keysC keys = some ys) (h : cArgs (n + 1) sc vals = some cs) (hl : ys.length = vals.length) : PPs X pos keys vals (trsOf X.K cA W k xi ys cs) := by
  cases vals with
  | nil =>
    have : ys = [] := List.length_eq_zero_iff.mp hl
    subst this
    have h3 := (keysC_ok hk).2.2
    have : keys = [] := List.length_eq_zero_iff.mp h3
    subst this
    unfold trsOf
    exact pps_nil
  | cons v vs =>
    rw [cArgs] at h
    obtain ⟨h0, h⟩ := gO h
    obtain ⟨c1, h1, h⟩ := bO h
    obtain ⟨c2, h2, h⟩ := bO h
    cases h
    cases keys with
    | nil => unfold keysC at hk; cases hk; cases hl
    | cons o ks =>
      cases o with
      | none => unfold keysC at hk; cases hk
      | some e =>
        unfold keysC at hk
        obtain ⟨y, k1, hk⟩ := bO hk
        obtain ⟨zs, k2, hk⟩ := bO hk
        cases hk
        exact pps_cons (keyC_ok k1).1 (ih.e cx _ _ h1) (ih.d cx pos ks vs zs c2 k2 h2 (Nat.succ.inj hl))
theorem snd_e {e : Expr} {c : C} (h : cE (n + 1) sc e = some c) : PE X e (tE X.K cA W k xi c) := by
  unfold cE at h
  split at h
  · -- names
    rename_i x pos
    split at h
    · rename_i i h1
      cases h
      obtain ⟨k1, k2, k3, k4⟩ := vSlot_ok cx h1
      exact s_var k1 k2 k3 k4
    · obtain ⟨h0, h⟩ := gO h
      obtain ⟨g1, g2, g3⟩ := isGl_ok cx h0
      cases hl : sc.cn.lookup x with
      | none => rw [hl] at h; cases h
      | some d =>
        rw [hl] at h
        cases h
        obtain ⟨u, v, m1, m2, m3⟩ := cx.wf.cn x d hl
        exact pei (pe_glob g1 m1 m2 g2) fun σ H Q ⟨e, st, ρ, r, g⟩ => by
          rw [iE] at g
          exact (Good.chk g).2 ρ H (Nx.refl r.rel) v (m3 H ρ)
  · -- constants
    split at h
    · cases h; exact s_non
    · cases h; exact s_bl
    · cases h; exact s_int
    · rename_i s
      obtain ⟨h0, h⟩ := gO h
      cases h
      obtain ⟨k1, k2⟩ := okS_ok h0
      have z := s_str (X := X) (cA := cA) (W := W) (k := k) (xi := xi) (pos := ‹Pos›) (j := ‹Nat›) k1
      rw [← k2] at z
      exact z
    · cases h
  · obtain ⟨o, h1, h⟩ := bO h
    obtain ⟨a, h2, h⟩ := bO h
    obtain ⟨b, h3, h⟩ := bO h
    cases h
    rw [← unbop_ok h1]
    exact s_bin o (ih.e cx _ _ h2) (ih.e cx _ _ h3)
  · obtain ⟨a, h2, h⟩ := bO h
    cases h
    exact s_neg (ih.e cx _ _ h2)
  · obtain ⟨a, h2, h⟩ := bO h
    cases h
    exact s_notv (ih.e cx _ _ h2)
  · obtain ⟨o, h1, h⟩ := bO h
    obtain ⟨h0, h⟩ := gO h
    obtain ⟨a, h2, h⟩ := bO h
    obtain ⟨b, h3, h⟩ := bO h
    cases h
    rw [← uncop_ok h1]
    exact s_cmp cx.wf.hu o (ih.e cx _ _ h2) (ih.e cx _ _ h3) h0
  · obtain ⟨o, h1, h⟩ := bO h
    obtain ⟨p, h1', h⟩ := bO h
    obtain ⟨h0, h⟩ := gO h
    rw [Bool.and_eq_true] at h0
    obtain ⟨a, h2, h⟩ := bO h
    obtain ⟨b, h3, h⟩ := bO h
    obtain ⟨c, h4, h⟩ := bO h
    cases h
    rw [← uncop_ok h1, ← uncop_ok h1']
    exact s_chain cx.wf.hu o p (ih.e cx _ _ h2) (ih.e cx _ _ h3) (ih.e cx _ _ h4) h0.1 h0.2
  · exact pe_one (ih.e cx _ _ h)
  · obtain ⟨a, h2, h⟩ := bO h
    obtain ⟨b, h3, h⟩ := bO h
    cases h
    exact s_and (ih.e cx _ _ h2) (ih.e cx _ _ h3)
  · exact pe_one (ih.e cx _ _ h)
  · obtain ⟨a, h2, h⟩ := bO h
    obtain ⟨b, h3, h⟩ := bO h
    cases h
    exact s_or (ih.e cx _ _ h2) (ih.e cx _ _ h3)
  · obtain ⟨a, h2, h⟩ := bO h
    obtain ⟨b, h3, h⟩ := bO h
    obtain ⟨c, h4, h⟩ := bO h
    cases h
    exact s_ite (ih.t cx _ _ h2).1 (ih.e cx _ _ h3) (ih.e cx _ _ h4)
  · obtain ⟨a, h2, h⟩ := bO h
    cases h
    exact s_tup (ih.a cx _ _ h2)
  · obtain ⟨a, h2, h⟩ := bO h
    cases h
    exact s_newlst (ih.a cx _ _ h2)
  · obtain ⟨a, h2, h⟩ := bO h
    cases h
    exact (ih.l cx _ _ _ _ _ h2).2
  · cases h; exact s_dict0
  · obtain ⟨ys, h2, h⟩ := bO h
    obtain ⟨cs, h3, h⟩ := bO h
    obtain ⟨h0, h⟩ := gO h
    rw [Bool.and_eq_true, decide_eq_true_eq, decide_eq_true_eq] at h0
    cases h
    obtain ⟨k1, k2, k3⟩ := keysC_ok h2
    exact s_disp (ih.d cx _ _ _ _ _ h2 h3 h0.1) k2 (by rw [k3, h0.1]) (fun z => nomatch z) (by rw [k3]; exact h0.2) (by rw [clen_cA h3, h0.1]) k1
  · obtain ⟨a, h2, h⟩ := bO h
    obtain ⟨lo, h3, h⟩ := bO h
    obtain ⟨hi, h4, h⟩ := bO h
    cases h
    exact s_slc (ih.e cx _ _ h2) (ih.p cx _ _ h3) (ih.p cx _ _ h4)
  · obtain ⟨a, h2, h⟩ := bO h
    cases h
    exact s_rev (ih.e cx _ _ h2)
  · obtain ⟨h0, h⟩ := gO h
    obtain ⟨a, h2, h⟩ := bO h
    obtain ⟨b, h3, h⟩ := bO h
    cases h
    exact s_idx cx.wf.hu (ih.e cx _ _ h2) (ih.e cx _ _ h3) h0
  · rename_i x p args pos
    split at h
    · rename_i hb
      exact ih.b cx _ _ _ _ _ hb h
    · obtain ⟨h0, h⟩ := gO h
      rw [Bool.and_eq_true, Bool.and_eq_true] at h0
      obtain ⟨f, h1, h⟩ := bO h
      obtain ⟨cs, h2, h⟩ := bO h
      cases h
      obtain ⟨ps, h3, h4⟩ := fnIx_ok h1
      obtain ⟨j, fa, fd, F⟩ := cx.wf.fns h0.1.2 f x ps h3
      obtain ⟨g1, g2, g3⟩ := isGl_ok cx h0.1.1
      cases args with
      | nil =>
        have : ps = [] := List.length_eq_zero_iff.mp h4
        subst this
        have hc := clen_cA h2
        cases cs with
        | nil => exact s_call0 F g1 cx.pa g2
        | cons _ _ => cases hc
      | cons a es =>
        have hs := h0.2
        unfold noStars at hs
        rw [Bool.and_eq_true] at hs
        exact s_call F g1 cx.pa g2 (ih.a cx _ _ h2) (by rw [clen_cA h2, h4]) hs.1 hs.2
  · rename_i x p args w ws pos
    obtain ⟨h0, h⟩ := gO h
    rw [Bool.and_eq_true, Bool.and_eq_true, Bool.and_eq_true] at h0
    obtain ⟨⟨⟨k1, k2⟩, k3⟩, k4⟩ := h0
    obtain ⟨f, h1, h⟩ := bO h
    obtain ⟨fx, h2, h⟩ := bO h
    obtain ⟨q, h3, h⟩ := bO h
    obtain ⟨cs, h4, h⟩ := bO h
    obtain ⟨ks, h5, h⟩ := bO h
    obtain ⟨h6, h⟩ := gO h
    rw [Bool.and_eq_true, decide_eq_true_eq] at h6
    cases h
    obtain ⟨hlt, he, _⟩ := List.findIdx?_eq_some_iff_getElem.mp h1
    rw [List.getElem?_eq_getElem hlt] at h2
    cases h2
    have he : (sc.fns[f]).1 = x := by simpa using he
    obtain ⟨j, fa, fd, F⟩ := cx.wf.fns k2 f x (sc.fns[f]).2 (by rw [List.getElem?_eq_getElem hlt, ← he])
    obtain ⟨g1, g2, g3⟩ := isGl_ok cx k1
    have hq := List.find?_some h3
    have hm := List.mem_of_find?_eq_some h3
    rw [decide_eq_true_eq] at hq
    obtain ⟨q1, q2, q3⟩ := hq
    refine s_callk F (m := args.length) (pm := q.2.2.2) ?_ g1 cx.pa g2 (ih.a cx _ _ h4) (ih.kk cx _ _ h5) k4 k3 (clen_cA h4) (clen_cK k4 h5) rfl h6.2 h6.1
    rw [← q1, ← q2, ← q3]
    exact hm
  · rename_i o name apos args pos
    replace h := gO h
    obtain ⟨h0, h⟩ := h
    rw [Bool.and_eq_true, Bool.and_eq_true] at h0
    obtain ⟨⟨k1, k2⟩, k3⟩ := h0
    split at h
    · split at h
      · rename_i hx
        subst hx
        obtain ⟨a, h2, h⟩ := bO h
        cases h
        exact s_pop (ih.e cx _ _ h2) k1 k2
      · split at h
        · rename_i hx
          subst hx
          obtain ⟨a, h2, h⟩ := bO h
          cases h
          exact s_upper (ih.e cx _ _ h2) k1 k2
        · cases h
    · unfold noStars at k3
      rw [Bool.and_eq_true] at k3
      split at h
      · rename_i hx
        subst hx
        obtain ⟨a, h2, h⟩ := bO h
        obtain ⟨q, h3, h⟩ := bO h
        cases h
        exact s_join (ih.e cx _ _ h2) (ih.q cx _ _ h3) k3.1 k1 k2
      · split at h
        · rename_i hx
          subst hx
          obtain ⟨a, h2, h⟩ := bO h
          obtain ⟨b, h3, h⟩ := bO h
          cases h
          exact s_append (ih.e cx _ _ h2) (ih.e cx _ _ h3) k3.1 k1 k2
        · split at h
          · rename_i hx
            subst hx
            obtain ⟨a, h2, h⟩ := bO h
            obtain ⟨b, h3, h⟩ := bO h
            cases h
            exact s_indexL (ih.e cx _ _ h2) (ih.e cx _ _ h3) k3.1 k1 k2
          · cases h
    · cases h
  · rename_i x p f pos
    split at h
    · rename_i y i hex
      replace h := gO h
      obtain ⟨h0, h⟩ := h
      simp only [Bool.and_eq_true, beq_iff_eq] at h0
      obtain ⟨⟨⟨rfl, h1⟩, h2⟩, h3⟩ := h0
      cases h
      obtain ⟨ec, e1, e2⟩ := List.any_eq_true.mp h3
      obtain ⟨zx, X0, oe, pn, rfl, rfl, rfl, k1, k2, rfl, k4, k5, k6, k7⟩ := cx.ex _ _ hex
      obtain ⟨z1, z2, _⟩ := plainN_ok h2
      have ef := (okS_ok h1).2
      have z := s_xfld (X := X0) (cA := cA) (k := k) (xi := zx) (oe := oe) (pn := pn) (n := x) (p := p) (pos := pos) (f := f.cps.toList) k1 k2 (fun j C hj => ⟨(k6 j C hj).1, by have w := (k6 j C hj).2.2 f; rw [← ef]; exact w ⟨ec, e1, by simpa using e2⟩⟩) k4 (.inl k5) z1 z2
      rw [← ef] at z
      exact z
    · cases h
  · cases h
end
theorem snd_all : ∀ n, Snd n
  | 0 => snd0
  | n + 1 => by
    have ih := snd_all n
    exact ⟨fun cx _ _ h => snd_kk ih cx h, fun cx _ _ h => snd_e ih cx h, fun cx _ _ _ _ _ hb h => snd_b ih cx hb h, fun cx _ _ h => snd_t ih cx h, fun cx _ _ h => snd_p ih cx h, fun cx _ _ h => snd_a ih cx h, fun cx _ _ h => snd_q ih cx h, fun cx _ _ _ _ _ h => snd_l ih cx h,
      fun cx _ _ h => snd_f ih cx h, fun cx _ _ h => snd_g ih cx h, fun cx _ _ h => snd_gs ih cx h, fun cx _ _ _ h => snd_i ih cx h, fun cx _ _ _ _ _ h1 h2 h3 => snd_d ih cx h1 h2 h3⟩
end Lk

end
section
set_option linter.all false
set_option maxHeartbeats 4000000
namespace Lk
open PySem PySem.Spec PyProof.Rows L2
/-! ### statements -/
def isSt : Expr → Bool
  | .Starred .. => true
  | _ => false
def nmL (sc : Scope) (line : Nat) : Expr → Option Str
  | .Name id pos => if (sc.names.lookup id == some .local && pos.line == line) = true then some id else none
  | _ => none
def lnOf (ts : List Expr) : Nat := (ts.head?.map (·.pos.line)).getD 0
def swK (sc : Scope) (ts vs : List Expr) : Option (Option (List Str)) :=
  if (!(ts.length == 2 || ts.length == 3) || vs.length != ts.length) = true then some none
  else if (vs.any isSt) = true then some none
  else if ((ts.filterMap (nmL sc (lnOf ts))).length != ts.length || (ts.filterMap (nmL sc (lnOf ts))).eraseDups.length != (ts.filterMap (nmL sc (lnOf ts))).length) = true then some none
  else if vs.all (foldedForSure 8) = true then some none
  else if vs.all (constantsAlone 8) = true then none
  else some (some (ts.filterMap (nmL sc (lnOf ts))))
theorem swK_ok {env : Env} (hk : env.scope.kind = .function) {ts vs : List Expr} {k k2 : Nat} {p p2 : Pos} {r : Option (List Str)} (h : swK env.scope ts vs = some r) : swappedStores [.Tuple ts k p] (.Tuple vs k2 p2) env = pure r := by
  have hb : (env.blockKind != .function) = false := by unfold Env.blockKind; rw [hk]; rfl
  have e : swappedStores [.Tuple ts k p] (.Tuple vs k2 p2) env = if (!(ts.length == 2 || ts.length == 3) || vs.length != ts.length || env.blockKind != .function) = true then pure none
    else if (vs.any isSt) = true then pure none
    else if ((ts.filterMap (nmL env.scope (lnOf ts))).length != ts.length || (ts.filterMap (nmL env.scope (lnOf ts))).eraseDups.length != (ts.filterMap (nmL env.scope (lnOf ts))).length) = true then pure none
    else if vs.all (foldedForSure 8) = true then pure none
    else if vs.all (constantsAlone 8) = true then (do let _ ← (unsupported "assign.tuple-of-constant-expressions:order-of-the-stores" : Sem Unit); pure (some (ts.filterMap (nmL env.scope (lnOf ts)))))
    else pure (some (ts.filterMap (nmL env.scope (lnOf ts)))) := by rfl
  rw [e, hb, Bool.or_false]
  unfold swK at h
  split at h
  · rename_i c; rw [if_pos c]; cases h; rfl
  · rename_i c
    rw [if_neg c]
    split at h
    · rename_i c; rw [if_pos c]; cases h; rfl
    · rename_i c
      rw [if_neg c]
      split at h
      · rename_i c; rw [if_pos c]; cases h; rfl
      · rename_i c
        rw [if_neg c]
        split at h
        · rename_i c; rw [if_pos c]; cases h; rfl
        · rename_i c
          rw [if_neg c]
          split at h
          · cases h
          · rename_i c; rw [if_neg c]; cases h; rfl
def notTup : Expr → Bool
  | .Tuple _ _ _ => false
  | _ => true
theorem sw_tupv {ts : List Expr} {k : Nat} {p : Pos} {v : Expr} {env : Env} (h : notTup v = true) : swappedStores [.Tuple ts k p] v env = pure none := by
  cases v <;> first | rfl | cases h
theorem sw_sub {a b v : Expr} {p : Pos} {env : Env} : swappedStores [.Subscript a b p] v env = pure none := by
  cases v <;> rfl
/-- does the new list of name = [..] lie in the frame at once? -/
def swC (sc : Scope) (x : Str) (px : Pos) (scope : Scope) (pos : Pos) : Bool := (sc.names.lookup x == some .local) && (px.line == pos.line) && !(scope.names.any fun (n, k) => n == x && (k == .local || k == .cell))
theorem swC_ok {env : Env} (hk : env.scope.kind = .function) {x : Str} {px : Pos} {elt : Expr} {gs : List Comprehension} {scope : Scope} {pos : Pos} {l : Nat} : swapsWith (.ListComp elt gs scope pos) (some (.Name x px)) l env = pure (swC env.scope x px scope pos) := by
  have hb : env.blockKind = .function := by unfold Env.blockKind; rw [hk]; rfl
  show pure (env.blockKind == .function && env.kindOf x == some .local && px.line == pos.line && !(scope.names.any fun (n, k) => n == x && (k == .local || k == .cell))) = _
  rw [hb]
  rfl
def plainAt (sc : SC) (x : Str) : Bool := sc.sc.names.lookup x == some .local
def isLC : Expr → Bool
  | .ListComp _ _ _ _ => true
  | _ => false
def ecIx (sc : SC) (x : Str) (n : Nat) : Option (Nat × List (List Nat)) := (sc.ecs.findIdx? fun f => f.1 == x).bind fun i => (sc.ecs[i]?).bind fun f => guardO (decide (f.2.length = n) && decide (n ≤ 900)) (some (i, f.2))
/-- the context of a suite -/
def SC.suite (sc : SC) (y : Str) (i : Nat) : SC := { sc with calm := false, exv := some (y, i) }
mutual
def cH : Nat → SC → Stmt → Option S
  | 0, _, _ => none
  | n + 1, sc, s => match s with
    | .Pass _ => some .skip
    | .Return (some e) _ => (cE n sc e).bind fun c => some (.ret c)
    | .If c a b _ => (cT n sc c).bind fun c => (cHs n sc a).bind fun a => (cHs n sc b).bind fun b => some (.ite c a b)
    | _ => none
def cHs : Nat → SC → List Stmt → Option S
  | 0, _, _ => none
  | n + 1, sc, s => match s with
    | [] => some .skip
    | [s] => cH n sc s
    | _ => none
end
mutual
def cS : Nat → SC → Stmt → Option S
  | 0, _, _ => none
  | n + 1, sc, s => match s with
    | .Pass _ => some .skip
    | .Break _ => some .brk
    | .Continue _ => some .cont
    | .Expr (.Constant (.str _) _ _) _ => some .skip
    | .Expr e _ => guardO (noComp e) ((cE n sc e).bind fun c => some (.exp c))
    | .Return none _ => some (.ret .non)
    | .Return (some e) _ => (cE n sc e).bind fun c => some (.ret c)
    | .If c a b _ => (cT n sc c).bind fun c => (cSs n sc a).bind fun a => (cSs n sc b).bind fun b => some (.ite c a b)
    | .While c a [] _ => (cT n sc c).bind fun c => (cSs n sc a).bind fun a => some (.whil c a)
    | .For tg it b [] _ => guardO (sc.calm && noSet it) ((cI n sc tg it).bind fun i => (cG n sc tg).bind fun t => (cSs n sc b).bind fun b => some (.for_ t i b))
    | .Assign [.Name x px] (.ListComp elt gs scope pos) _ => (sSlot sc x).bind fun i => (cLC n sc elt gs scope).bind fun q => some (.asg (.var i) (.newl q))
    | .Assign [.Name x _] e _ => guardO (noComp e) ((sSlot sc x).bind fun i => (cE n sc e).bind fun c => some (.asg (.var i) c))
    | .Assign [.Subscript o i _] e _ => guardO (noSlice i) ((cE n sc o).bind fun o => (cE n sc i).bind fun i => (cE n sc e).bind fun e => some (.sub o i e))
    | .Assign [.Tuple ts k p] (.Tuple vs k2 p2) _ => match swK sc.sc ts vs with
      | some none => (cE n sc (.Tuple vs k2 p2)).bind fun c => (cG n sc (.Tuple ts k p)).bind fun t => some (.asg t c)
      | some (some l) => (match ts, vs with
        | [.Name x _, .Name y _], [a, b] => guardO (decide (l = [x, y]) && sc.calm && plainAt sc x && plainAt sc y) ((sSlot sc x).bind fun i => (sSlot sc y).bind fun j => guardO (decide (i ≠ j)) ((cArgs n sc [a, b]).bind fun cs => some (.par [i, j] cs)))
        | [.Name x _, .Name y _, .Name z _], [a, b, c] => guardO (decide (l = [x, y, z]) && sc.calm && plainAt sc x && plainAt sc y && plainAt sc z) ((sSlot sc x).bind fun i => (sSlot sc y).bind fun j => (sSlot sc z).bind fun h => guardO (decide (i ≠ j) && decide (i ≠ h) && decide (j ≠ h)) ((cArgs n sc [a, b, c]).bind fun cs => some (.par [i, j, h] cs)))
        | _, _ => none)
      | none => none
    | .Assign [.Tuple ts k p] e _ => guardO (notTup e && noComp e) ((cE n sc e).bind fun c => (cG n sc (.Tuple ts k p)).bind fun t => some (.asg t c))
    | .AugAssign (.Name x _) o e _ => (unbop o).bind fun o => (sSlot sc x).bind fun i => (cE n sc e).bind fun c => some (.aug i o c)
    | .AugAssign (.Subscript a i _) o e _ => guardO (noSlice i) ((unbop o).bind fun o => (cE n sc a).bind fun a => (cE n sc i).bind fun i => (cE n sc e).bind fun c => some (.augs a i o c))
    | .Raise (some (.Call (.Name x _) (a :: es) [] _)) none _ => guardO (sc.calm && isGl sc x && noStars (a :: es)) ((ecIx sc x (a :: es).length).bind fun ec => (cArgs n sc (a :: es)).bind fun cs => some (.rais ec.1 ec.2 cs))
    | .Try body [.ExceptHandler (some (.Name x _)) (some y) (b₀ :: suite) _] [] [] _ => guardO (isGl sc x && plainAt sc y) ((sSlot sc y).bind fun i => (sc.exm.lookup x).bind fun cs => (cSs n sc body).bind fun b => (cHs n (sc.suite y i) (b₀ :: suite)).bind fun h => guardO (quietS h) (some (.tryy i cs h b)))
    | _ => none
def cSs : Nat → SC → List Stmt → Option S
  | 0, _, _ => none
  | n + 1, sc, s => match s with
    | [] => some .skip
    | [s] => cS n sc s
    | s :: r => (cS n sc s).bind fun a => (cSs n sc r).bind fun b => some (.seq a b)
end
end Lk

end
section
set_option linter.all false
set_option maxHeartbeats 4000000
namespace Lk
open PySem PySem.Spec PyProof.Rows L2
/-- the exception classes -/
structure Ecs (X : Cx) (sc : SC) (cA : Nat → Option Addr) : Prop where
  made : sc.calm = true → ∀ c x fs, sc.ecs[c]? = some (x, fs) → ∃ C fI fd ps j, EcA X cA c x fs C fI fd ps j
  cls : ∀ j C, cA j = some C → XfC X.K C ∧ ExcC X.K C ∧ ∀ f : Str, (∃ c ∈ sc.ecs, f.cps.toList ∈ c.2) → PySem.W.findIn X.K (.ref C) f = some none
  exm : ∀ y cs, sc.exm.lookup y = some cs → ∃ D, X.mg y = some (.ref D) ∧ (∀ j C, cA j = some C → PySem.W.kitOne X.K (.ref C) (.ref D) = some (cs.contains j)) ∧ ∀ j C, cA j = some C → PySem.W.exmOne X.K (.ref C) (.ref D) = some (cs.contains j)
structure CtxS (X : Cx) (sc : SC) (W : WX) (k : Cal) (cA : Nat → Option Addr) : Prop where
  l : CtxL X sc W k cA none
  kd : sc.sc.kind = .function
  tk : Takes X W
  po : PassesOwn (model X.prog X.w) X.A X.env X.xe
  stk : X.stack = X.env :: X.outer
  fr : X.env.frame = some X.env.locals
  ec : Ecs X sc cA
  nx : sc.exv = none
theorem CtxS.tr {X : Cx} {sc : SC} {W W' : WX} {k : Cal} {cA : Nat → Option Addr} (cx : CtxS X sc W k cA) {pn : List (Addr × Obj)} {xe : Value → Shared → Prop} (tk : Takes (X.tr pn xe) W') (po : PassesOwn (model X.prog X.w) X.A X.env xe) (hx : sc.exv = none) : CtxS (X.tr pn xe) sc W' k cA where
  l := ⟨⟨cx.l.wf.hu, cx.l.wf.bl, cx.l.wf.cn, fun hc f x ps h => by
      obtain ⟨j, fa, fd, F⟩ := cx.l.wf.fns hc f x ps h
      exact ⟨j, fa, fd, F.ok, F.room, F.hm, F.kp, F.bd, F.kb⟩⟩, cx.l.hN, cx.l.nd, cx.l.hs, cx.l.fn, cx.l.calm, fun σ => passAt tk σ, fun y i h => by rw [hx] at h; cases h⟩
  kd := cx.kd
  tk := tk
  po := po
  stk := cx.stk
  fr := cx.fr
  ec := ⟨fun hc c x fs h => by
      obtain ⟨C, fI, fd, ps, j, E⟩ := cx.ec.made hc c x fs h
      exact ⟨C, fI, fd, ps, j, E.hc, E.T, E.iC, E.tI, E.F, E.room, E.bd, E.hm⟩, cx.ec.cls, cx.ec.exm⟩
  nx := hx
section
variable {X : Cx} {sc : SC} {W : WX} {k : Cal} {cA : Nat → Option Addr}
/-- suites -/
structure SndH (n : Nat) : Prop where
  s : ∀ {X sc k cA xi}, CtxL X sc W0 k cA (some xi) → ∀ e c, cH n sc e = some c → PS X e (tSx X.K cA k xi c)
  ss : ∀ {X sc k cA xi}, CtxL X sc W0 k cA (some xi) → ∀ e c, cHs n sc e = some c → PSs X e (tSx X.K cA k xi c)
theorem sndH : ∀ n, SndH n
  | 0 => ⟨fun cx e c h => (by unfold cH at h; cases h), fun cx e c h => (by unfold cHs at h; cases h)⟩
  | n + 1 => by
    have ih := sndH n
    have sn := snd_all n
    refine ⟨fun {X sc k cA xi} cx e c h => ?_, fun {X sc k cA xi} cx e c h => ?_⟩
    · unfold cH at h
      split at h
      · cases h; exact h_pass
      · obtain ⟨c1, h1, h⟩ := bO h
        cases h
        exact h_ret (sn.e cx _ _ h1)
      · obtain ⟨c1, h1, h⟩ := bO h
        obtain ⟨a, h2, h⟩ := bO h
        obtain ⟨b, h3, h⟩ := bO h
        cases h
        exact h_if (sn.t cx _ _ h1).1 (ih.ss cx _ _ h2) (ih.ss cx _ _ h3)
      · cases h
    · unfold cHs at h
      split at h
      · cases h; exact h_snil
      · exact h_sone (ih.s cx _ _ h)
      · cases h
structure SndS (n : Nat) : Prop where
  s : ∀ {X sc W k cA}, CtxS X sc W k cA → ∀ e c, cS n sc e = some c → PS X e (tS X.K cA W k c)
  ss : ∀ {X sc W k cA}, CtxS X sc W k cA → ∀ e c, cSs n sc e = some c → PSs X e (tS X.K cA W k c)
end
theorem lc_cp {n : Nat} {X : Cx} {sc : SC} {W : WX} {k : Cal} {cA : Nat → Option Addr} {xi : Option XI} (cx : CtxL X sc W k cA xi) {elt : Expr} {gs : List Comprehension} {scope : Scope} {q : SQ} (h : cLC n sc elt gs scope = some q) :
    ∃ tg iter ifs ta it cd el, gs = [⟨tg, iter, ifs, 0⟩] ∧ q = .comp ((ownOf sc.N scope).map (·.2)) ta it cd el ∧ CP X cA W k elt tg iter ifs scope (ownOf sc.N scope) ta it cd el := by
  cases n with
  | zero => rw [cLC] at h; cases h
  | succ n =>
    have ih := snd_all n
    unfold cLC at h
    split at h
    · rename_i tg iter ifs
      obtain ⟨h0, h⟩ := gO h
      rw [Bool.and_eq_true, Bool.and_eq_true] at h0
      obtain ⟨it, h1, h⟩ := bO h
      obtain ⟨ta, h2, h⟩ := bO h
      obtain ⟨cd, h3, h⟩ := bO h
      obtain ⟨el, h4, h⟩ := bO h
      obtain ⟨h5, h⟩ := gO h
      cases h
      obtain ⟨hc, hxi⟩ := cx.calm h0.1.1
      subst hxi
      exact ⟨tg, iter, ifs, ta, it, cd, el, rfl, rfl, hc, cx.nd, ih.i cx _ _ _ h1, by rw [cx.hN, cx.hs]; exact blkOk_by h0.1.2, fun s H C cl fp => ih.g (Ctx.blk cx) _ _ h2, fun s H C cl fp => ih.f (Ctx.blk cx) _ _ h3, fun s H C cl fp => ih.e (Ctx.blk cx) _ _ h4,
        fun j hj => by simpa using List.all_eq_true.mp h5 j hj, h0.2⟩
    · cases h
theorem ecIx_ok {sc : SC} {x : Str} {n : Nat} {r : Nat × List (List Nat)} (h : ecIx sc x n = some r) : sc.ecs[r.1]? = some (x, r.2) ∧ r.2.length = n ∧ n ≤ 900 := by
  unfold ecIx at h
  obtain ⟨i, h1, h⟩ := bO h
  obtain ⟨p, h2, h⟩ := bO h
  obtain ⟨h3, h⟩ := gO h
  rw [Bool.and_eq_true, decide_eq_true_eq, decide_eq_true_eq] at h3
  cases h
  obtain ⟨hlt, he, _⟩ := List.findIdx?_eq_some_iff_getElem.mp h1
  rw [List.getElem?_eq_getElem hlt] at h2
  cases h2
  have he : (sc.ecs[i]).1 = x := by simpa using he
  refine ⟨?_, h3.1, h3.2⟩
  rw [List.getElem?_eq_getElem hlt, ← he]
section
variable {n : Nat} (ih : SndS n) {X : Cx} {sc : SC} {W : WX} {k : Cal} {cA : Nat → Option Addr} (cx : CtxS X sc W k cA)
include ih cx
theorem snd_ss {e : List Stmt} {c : S} (h : cSs (n + 1) sc e = some c) : PSs X e (tS X.K cA W k c) := by
  unfold cSs at h
  split at h
  · cases h; exact s_snil
  · exact s_sone (ih.s cx _ _ h)
  · obtain ⟨a, h1, h⟩ := bO h
    obtain ⟨b, h2, h⟩ := bO h
    cases h
    exact s_scons (ih.s cx _ _ h1) (ih.ss cx _ _ h2)
theorem kd_of : X.env.scope.kind = .function := by rw [cx.l.hs]; exact cx.kd
theorem plainAt_ok {x : Str} (h : plainAt sc x = true) : X.env.scope.names.lookup x = some .local := by
  unfold plainAt at h
  rw [cx.l.hs]
  simpa using h
theorem snd_s (hx : sc.exv = none) {e : Stmt} {c : S} (h : cS (n + 1) sc e = some c) : PS X e (tS X.K cA W k c) := by
  have sn := snd_all n
  have cl := cx.l
  have kd := kd_of ih cx
  unfold cS at h
  split at h
  · cases h; exact s_pass
  · cases h; exact s_break
  · cases h; exact s_cont
  · cases h; exact s_doc
  · obtain ⟨h0, h⟩ := gO h
    obtain ⟨c1, h1, h⟩ := bO h
    cases h
    exact s_exp (sn.e cl _ _ h1) h0
  · cases h; exact s_retN
  · obtain ⟨c1, h1, h⟩ := bO h
    cases h
    exact s_ret (sn.e cl _ _ h1)
  · obtain ⟨c1, h1, h⟩ := bO h
    obtain ⟨a, h2, h⟩ := bO h
    obtain ⟨b, h3, h⟩ := bO h
    cases h
    exact s_if (sn.t cl _ _ h1).1 (ih.ss cx _ _ h2) (ih.ss cx _ _ h3)
  · obtain ⟨c1, h1, h⟩ := bO h
    obtain ⟨a, h2, h⟩ := bO h
    cases h
    exact s_while cx.po (sn.t cl _ _ h1).1 (ih.ss cx _ _ h2)
  · obtain ⟨h0, h⟩ := gO h
    rw [Bool.and_eq_true] at h0
    obtain ⟨i, h1, h⟩ := bO h
    obtain ⟨t, h2, h⟩ := bO h
    obtain ⟨b, h3, h⟩ := bO h
    cases h
    exact s_for cx.po (cl.calm h0.1).1 (sn.i cl _ _ _ h1) (sn.g cl _ _ h2) (ih.ss cx _ _ h3) h0.2
  · -- name = [..]
    rename_i x px elt gs scope pos spos
    obtain ⟨i, h1, h⟩ := bO h
    obtain ⟨q, h2, h⟩ := bO h
    cases h
    obtain ⟨tg, iter, ifs, ta, it, cd, el, rfl, rfl, cp⟩ := lc_cp cl h2
    obtain ⟨k1, k2, k3⟩ := sSlot_ok cl h1
    cases hb : swC X.env.scope x px scope pos with
    | true =>
      refine s_setc cp k1 ?_ (by rw [swC_ok kd, hb])
      unfold swC at hb
      simp only [Bool.and_eq_true, beq_iff_eq] at hb
      exact hb.1.1
    | false => exact s_setcN cp k1 k2 k3 (by rw [swC_ok kd, hb])
  · obtain ⟨h0, h⟩ := gO h
    obtain ⟨i, h1, h⟩ := bO h
    obtain ⟨c1, h2, h⟩ := bO h
    cases h
    obtain ⟨k1, k2, k3⟩ := sSlot_ok cl h1
    exact s_set cl.nd k1 k2 k3 (sn.e cl _ _ h2) h0
  · obtain ⟨h0, h⟩ := gO h
    obtain ⟨o, h1, h⟩ := bO h
    obtain ⟨i, h2, h⟩ := bO h
    obtain ⟨e, h3, h⟩ := bO h
    cases h
    exact s_sub cl.wf.hu (sn.e cl _ _ h1) (sn.e cl _ _ h2) (sn.e cl _ _ h3) h0 sw_sub
  · split at h
    · rename_i hw
      obtain ⟨c1, h1, h⟩ := bO h
      obtain ⟨t, h2, h⟩ := bO h
      cases h
      rw [← cl.hs] at hw
      exact s_asg (sn.e cl _ _ h1) (sn.g cl _ _ h2) rfl rfl (swK_ok kd hw)
    · rename_i l hw
      rw [← cl.hs] at hw
      split at h
      · replace h := gO h
        obtain ⟨h0, h⟩ := h
        simp only [Bool.and_eq_true, decide_eq_true_eq] at h0
        obtain ⟨⟨⟨rfl, h1⟩, h2⟩, h3⟩ := h0
        obtain ⟨i, k1, h⟩ := bO h
        obtain ⟨j, k2, h⟩ := bO h
        obtain ⟨hij, h⟩ := gO h
        obtain ⟨cs, k3, h⟩ := bO h
        cases h
        exact s_par2 (cl.calm h1).1 cl.nd (sSlot_ok cl k1).1 (sSlot_ok cl k2).1 (of_decide_eq_true hij) (plainAt_ok ih cx h2) (plainAt_ok ih cx h3) (sn.a cl _ _ k3) (swK_ok kd hw)
      · replace h := gO h
        obtain ⟨h0, h⟩ := h
        simp only [Bool.and_eq_true, decide_eq_true_eq] at h0
        obtain ⟨⟨⟨⟨rfl, h1⟩, h2⟩, h3⟩, h4⟩ := h0
        obtain ⟨i, k1, h⟩ := bO h
        obtain ⟨j, k2, h⟩ := bO h
        obtain ⟨m, k4, h⟩ := bO h
        obtain ⟨hij, h⟩ := gO h
        simp only [Bool.and_eq_true, decide_eq_true_eq] at hij
        obtain ⟨cs, k3, h⟩ := bO h
        cases h
        exact s_par3 (cl.calm h1).1 cl.nd (sSlot_ok cl k1).1 (sSlot_ok cl k2).1 (sSlot_ok cl k4).1 hij.1.1 hij.1.2 hij.2 (plainAt_ok ih cx h2) (plainAt_ok ih cx h3) (plainAt_ok ih cx h4) (sn.a cl _ _ k3) (swK_ok kd hw)
      · cases h
    · cases h
  · obtain ⟨h0, h⟩ := gO h
    rw [Bool.and_eq_true] at h0
    obtain ⟨c1, h1, h⟩ := bO h
    obtain ⟨t, h2, h⟩ := bO h
    cases h
    exact s_asg (sn.e cl _ _ h1) (sn.g cl _ _ h2) h0.2 rfl (sw_tupv h0.1)
  · obtain ⟨o, h1, h⟩ := bO h
    obtain ⟨i, h2, h⟩ := bO h
    obtain ⟨c1, h3, h⟩ := bO h
    cases h
    obtain ⟨k1, k2, k3⟩ := sSlot_ok cl h2
    rw [← unbop_ok h1]
    exact s_aug o cl.nd k1 k2 k3 (sn.e cl _ _ h3)
  · obtain ⟨h0, h⟩ := gO h
    obtain ⟨o, h1, h⟩ := bO h
    obtain ⟨a, h2, h⟩ := bO h
    obtain ⟨i, h3, h⟩ := bO h
    obtain ⟨c1, h4, h⟩ := bO h
    cases h
    rw [← unbop_ok h1]
    exact s_augs o cl.wf.hu (sn.e cl _ _ h2) (sn.e cl _ _ h3) (sn.e cl _ _ h4) h0
  · obtain ⟨h0, h⟩ := gO h
    simp only [Bool.and_eq_true] at h0
    obtain ⟨ec, h1, h⟩ := bO h
    obtain ⟨cs, h2, h⟩ := bO h
    obtain ⟨k1, k2, k3⟩ := ecIx_ok h1
    cases h
    obtain ⟨C, fI, fd, ps, j, E⟩ := cx.ec.made h0.1.1 _ _ _ k1
    obtain ⟨g1, g2, g3⟩ := isGl_ok cl h0.1.2
    have hs := h0.2
    unfold noStars at hs
    rw [Bool.and_eq_true] at hs
    exact s_raise (cl.calm h0.1.1).1 cx.tk E g1 g2 (sn.a cl _ _ h2) hs.1 hs.2 (by rw [k2]; exact k3)
  · -- try
    rename_i body x np y b₀ suite pos' pos
    obtain ⟨h0, h⟩ := gO h
    rw [Bool.and_eq_true] at h0
    obtain ⟨i, h1, h⟩ := bO h
    obtain ⟨cs, h2, h⟩ := bO h
    obtain ⟨b, h3, h⟩ := bO h
    obtain ⟨hd, h4, h⟩ := bO h
    obtain ⟨h5, h⟩ := gO h
    cases h
    obtain ⟨g1, g2, g3⟩ := isGl_ok cl h0.1
    obtain ⟨D, m1, m2, m3⟩ := cx.ec.exm _ _ h2
    have hy := plainAt_ok ih cx h0.2
    have hi := (sSlot_ok cl h1).1
    refine s_try (cs := cs) (c := .ref D) h5 cx.stk cx.fr cl.nd hi hy ⟨g1, g2, .inl m1⟩ cx.tk m3 (fun W' pn xe tk po => ih.ss (cx.tr tk po hx) _ _ h3) fun a oe cls d pn hz hf => h_of fun xn => (sndH n).ss ?_ _ _ h4
    exact ⟨⟨cl.wf.hu, cl.wf.bl, cl.wf.cn, fun hc => (by cases hc)⟩, cl.hN, cl.nd, cl.hs, cl.fn, fun hc => (by cases hc), fun σ pins H s e s' I c => passL pins σ H s e s' I c,
      fun y' i' he => by
        cases he
        exact ⟨_, X, oe, pn, rfl, rfl, rfl, hz, hf, rfl, hi, hy, cx.ec.cls, fun y cs hh => let ⟨D, e1, e2, _⟩ := cx.ec.exm y cs hh; ⟨D, e1, e2⟩⟩⟩
  · cases h
end
theorem sndS : ∀ (n : Nat), SndS n
  | 0 => ⟨fun cx e c h => (by unfold cS at h; cases h), fun cx e c h => (by unfold cSs at h; cases h)⟩
  | n + 1 => ⟨fun cx _ _ h => snd_s (sndS n) cx (cx.nx) h, fun cx _ _ h => snd_ss (sndS n) cx h⟩
end Lk

end
section
set_option linter.all false
set_option maxHeartbeats 4000000
namespace Lk
open PySem PySem.Spec PyProof.Rows L2
/-! ### a call's end: what is forgotten -/
section
variable {K : PySem.W.Frag} {H H' : Hp} {ρ ρ' m : List Addr} {st s' : Stt}
theorem getE_cut {ρ m : List Addr} {l : Nat} {a : Addr} (h : (ρ ++ m)[l]? = some a) (hl : l < ρ.length) : ρ[l]? = some a := by
  rw [List.getElem?_append_left hl] at h; exact h
mutual
theorem RD.cut : ∀ {d : D} {v : V}, D.blw ρ.length d = true → RD K H (ρ ++ m) d v → RD K H ρ d v
  | _, _, _, .non => .non
  | _, _, _, .bl b => .bl b
  | _, _, _, .int i => .int i
  | _, _, _, .str h => .str h
  | _, _, b, .tup h r => .tup h (RDs.cut (by unfold D.blw at b; exact b) r)
  | _, _, b, .ref h => .ref (getE_cut h (by unfold D.blw at b; exact of_decide_eq_true b))
theorem RDs.cut : ∀ {d : List D} {v : List V}, D.blws ρ.length d = true → RDs K H (ρ ++ m) d v → RDs K H ρ d v
  | _, _, _, .nil => .nil
  | _, _, b, .cons h r => by
    unfold D.blws at b
    rw [Bool.and_eq_true] at b
    exact .cons (RD.cut b.1 h) (RDs.cut b.2 r)
end
mutual
theorem RD.blw : ∀ {d : D} {v : V}, RD K H ρ d v → D.blw ρ.length d = true
  | _, _, .non => rfl
  | _, _, .bl b => rfl
  | _, _, .int i => rfl
  | _, _, .str h => rfl
  | _, _, .tup h r => by unfold D.blw; exact RDs.blw r
  | _, _, .ref h => by unfold D.blw; exact decide_eq_true (List.getElem?_eq_some_iff.mp h).1
theorem RDs.blw : ∀ {d : List D} {v : List V}, RDs K H ρ d v → D.blws ρ.length d = true
  | _, _, .nil => rfl
  | _, _, .cons h r => by unfold D.blws; rw [RD.blw h, RDs.blw r]; rfl
end
theorem RKs.cut : ∀ {d : List (Ky × D)} {v : List (Key × V)}, D.blws ρ.length (d.map (·.2)) = true → RKs K H (ρ ++ m) d v → RKs K H ρ d v
  | _, _, _, .nil => .nil
  | _, _, b, .cons o h r => by
    rw [List.map_cons] at b
    unfold D.blws at b
    rw [Bool.and_eq_true] at b
    exact .cons o (RD.cut b.1 h) (RKs.cut b.2 r)
theorem RKs.blw : ∀ {d : List (Ky × D)} {v : List (Key × V)}, RKs K H ρ d v → D.blws ρ.length (d.map (·.2)) = true
  | _, _, .nil => rfl
  | _, _, .cons o h r => by rw [List.map_cons]; unfold D.blws; rw [RD.blw h, RKs.blw r]; rfl
theorem RO.blw {o : Ob} {a : Addr} (h : RO K H ρ o a) : Ob.blw ρ.length o = true := by
  cases h with
  | lst _ r => exact RDs.blw r
  | rol _ r => exact RDs.blw r
  | rok _ r => exact RDs.blw r
  | dct _ r => exact RKs.blw r
theorem RO.cut {o : Ob} {a : Addr} (b : Ob.blw ρ.length o = true) (h : RO K H (ρ ++ m) o a) : RO K H ρ o a := by
  cases h with
  | lst q r => exact .lst q (RDs.cut b r)
  | rol q r => exact .rol q (RDs.cut b r)
  | rok q r => exact .rok q (RDs.cut b r)
  | dct q r => exact .dct q (RKs.cut b r)
theorem Nx.shut {d : D} (r : Rel K ρ st H) (n : Nx K ρ H ρ' s' H') (h : Shut st.length st d s') : Nx K ρ H ρ (s'.take st.length) H' ∧ ∀ v, RD K H' ρ' d v → RD K H' ρ d v := by
  obtain ⟨m, rfl⟩ := n.pre
  have hl : st.length ≤ s'.length := by rw [← r.len, ← n.rel.len, List.length_append]; omega
  refine ⟨⟨⟨[], by simp⟩, fun a ha hn => absurd ha hn, ⟨?_, ?_, fun l l' a h1 h2 => n.rel.inj l l' a (getE_pre h1) (getE_pre h2), fun l a h1 => n.rel.tr l a (getE_pre h1), fun l o a h1 h2 => ?_⟩, n.fr⟩, fun v hv => RD.cut (by rw [r.len]; exact h.1) hv⟩
  · rw [List.length_take, r.len]; omega
  · obtain ⟨ds, e⟩ := n.rel.zero
    have hp := r.pos
    exact ⟨ds, by rw [List.getElem?_take_of_lt (by rw [← r.len]; exact hp)]; exact e⟩
  · have hlt : l < st.length := by rw [← r.len]; exact (List.getElem?_eq_some_iff.mp h2).1
    rw [List.getElem?_take_of_lt hlt] at h1
    have z := n.rel.ob l o a h1 (getE_pre h2)
    refine RO.cut ?_ z
    rcases h.2 l hlt with q | q1
    · rw [q] at h1
      exact RO.blw (r.ob l o a h1 h2)
    · rw [h1] at q1
      rw [r.len]
      simpa using q1
end
/-! ### defs -/
structure FDt where
  x : Str
  qual : Str
  st : Stmt
  ps : List Str
  N : List Str
  core : S
structure LawD where
  fds : List FDt
  kws : List (Nat × Nat × List Str × List Nat)
  bl : List Str
  cn : List (Str × D)
  ecs : List (Str × List (List Nat))
  exm : List (Str × List Nat)
def LawD.sc (L : LawD) (d : FDt) : SC := { N := d.N, sc := defScope d.st, fn := (defScope d.st).names.filterMap fun y => if ((defScope d.st).names.lookup y.1 == some .cell) = true then some y.1 else none, calm := true, fns := L.fds.map fun d => (d.x, d.ps), kws := L.kws, bl := L.bl, cn := L.cn, ecs := L.ecs, exm := L.exm, exv := none }
def LawD.tb (L : LawD) : List Fd := L.fds.map fun d => ⟨d.ps.length, d.N.length, d.core⟩
def scopeB (N P : List Str) (sc : Scope) : Bool := (sc.kind == .function) && !sc.isCoroutine && !sc.isGenerator && decide N.Nodup && decide (N.take P.length = P) && (P.all fun x => sc.names.lookup x == some .local || sc.names.lookup x == some .cell) && (sc.names.all fun y => y.2 != .free)
theorem scopeB_ok {N P : List Str} {sc : Scope} (h : scopeB N P sc = true) : FnScope N P sc := by
  unfold scopeB at h
  simp only [Bool.and_eq_true, beq_iff_eq, Bool.not_eq_true', decide_eq_true_eq, List.all_eq_true, Bool.or_eq_true, bne_iff_ne] at h
  obtain ⟨⟨⟨⟨⟨⟨h1, h2⟩, h3⟩, h4⟩, h5⟩, h6⟩, h7⟩ := h
  exact ⟨h1, h2, h3, h4, h5, h6, h7⟩
structure ModF (P : Program) (w : World) (K : PySem.W.Frag) (mg : Str → Option Value) (base : Heap) (L : LawD) (cA : Nat → Option Addr) (fa : Nat → Addr) (fd : Nat → FuncData) : Prop where
  bl : ∀ x ∈ L.bl, mg x = none
  cn : ∀ x d, L.cn.lookup x = some d → ∃ u v, mg x = some u ∧ RelV v u ∧ ∀ H ρ, RD K H ρ d v
  fn : ∀ (f : Nat) (d : FDt), L.fds[f]? = some d → Fun K d.x d.qual d.st (fa f) (fd f) ∧ mg d.x = some (.ref (fa f)) ∧ Binds K (fd f) d.ps [] ∧ ∀ m ks pm, (f, m, ks, pm) ∈ L.kws → KBinds K (fd f) d.ps ks (gK m ks.length pm) (gK m ks.length pm)
  ecs : ∀ (c : Nat) (x : Str) (fs : List (List Nat)), L.ecs[c]? = some (x, fs) → ∃ C fI gd ps, cA c = some C ∧ OexC K C ∧ PySem.W.findIn K (.ref C) "__init__" = some (some (.ref fI)) ∧ PySem.W.typeIn K (.ref fI) = some (.type "function") ∧ FnOk P w K mg base (L2.CX P w) 1 fI gd ps (spI C (fs.map mkS)) ∧ Binds K gd ps [] ∧ mg x = some (.ref C)
  cls : ∀ j C, cA j = some C → XfC K C ∧ ExcC K C ∧ ∀ f : Str, (∃ c ∈ L.ecs, f.cps.toList ∈ c.2) → PySem.W.findIn K (.ref C) f = some none
  exm : ∀ y cs, L.exm.lookup y = some cs → ∃ D, mg y = some (.ref D) ∧ (∀ j C, cA j = some C → PySem.W.kitOne K (.ref C) (.ref D) = some (cs.contains j)) ∧ ∀ j C, cA j = some C → PySem.W.exmOne K (.ref C) (.ref D) = some (cs.contains j)
def LawD.chk (L : LawD) (n : Nat) : Prop := ∀ (f : Nat) (d : FDt), L.fds[f]? = some d → scopeB d.N d.ps (defScope d.st) = true ∧ cSs n (L.sc d) (defBody d.st) = some d.core
theorem start_sl {K : PySem.W.Frag} {H : Hp} {ρ : List Addr} {ds : List D} {vs : List V} {N : List Str} (h : RDs K H ρ ds vs) : SlR K H ρ (ds.map some ++ List.replicate (N.length - ds.length) none) (L2.start N vs) := by
  unfold L2.start
  rw [← h.length]
  refine ⟨by simp [h.length], fun i d hi => ?_⟩
  by_cases hl : i < ds.length
  · rw [List.getElem?_append_left (by rw [List.length_map]; exact hl), List.getElem?_map] at hi
    rw [List.getElem?_append_left (by rw [List.length_map, ← h.length]; exact hl), List.getElem?_map]
    cases q : ds[i]? with
    | none => rw [q] at hi; cases hi
    | some d' =>
      rw [q] at hi
      cases hi
      obtain ⟨v, h1, h2⟩ := h.get q
      exact ⟨v, by rw [h1]; rfl, h2⟩
  · rw [List.getElem?_append_right (by rw [List.length_map]; omega), List.getElem?_replicate] at hi
    split at hi <;> cases hi
section
variable {P : Program} {w : World} {K : PySem.W.Frag} {mg : Str → Option Value} {base : Heap} {L : LawD} {cA : Nat → Option Addr} {fa : Nat → Addr} {fd : Nat → FuncData} {n : Nat}
theorem fn_all (M : ModF P w K mg base L cA fa fd) (hc : L.chk n) : ∀ (k f : Nat) (d : FDt), L.fds[f]? = some d → FnOk P w K mg base (L2.CX P w) (k + 2) (fa f) (fd f) d.ps (spF K cA (callN L.tb k) f d.ps.length)
  | 0, f, d, hd => ⟨fun vs H Q E h => h.1, fun A outer s H args us vs Q E _ _ _ _ hs => by
      obtain ⟨_, ds, ρ, st, _, _, g⟩ := hs
      exact g.elim⟩
  | k + 1, f, d, hd => by
    obtain ⟨hF, hm, hb, _⟩ := M.fn f d hd
    obtain ⟨h1, h2⟩ := hc f d hd
    refine Fun.okX hF (scopeB_ok h1) (fun vs H Q E h => h.1) fun cdv A outer s H vs Q E hr hsp => ?_
    obtain ⟨hl, ds, ρ, st, r, rd, g⟩ := hsp
    have hS := scopeB_ok h1
    let X := cxOf (L2.CX P w) P w K mg base d.N d.qual (defScope d.st) (fa f) cdv A outer s H E
    have tk : Takes X (fun c dd _ H' => E c dd H') := takes_of (X := X) rfl rfl rfl rfl
    have cx : CtxS X (L.sc d) (fun c dd _ H' => E c dd H') (callN L.tb k) cA := {
      l := {
        wf := ⟨hr.units, M.bl, M.cn, fun _ f' x ps hf => by
          have hf : (L.fds.map fun d => (d.x, d.ps))[f']? = some (x, ps) := hf
          rw [List.getElem?_map] at hf
          cases q : L.fds[f']? with
          | none => rw [q] at hf; cases hf
          | some d' =>
            rw [q] at hf
            cases hf
            obtain ⟨a1, a2, a3, a4⟩ := M.fn f' d' q
            exact ⟨k + 2, fa f', fd f', fn_all M hc k f' d' q, hr, a2, a1.kp, a3, a4⟩⟩
        hN := rfl
        nd := hS.nd
        hs := rfl
        fn := fun _ _ => rfl
        calm := fun _ => ⟨rfl, rfl⟩
        pa := fun σ => passAt tk σ
        ex := fun y i h => by cases h }
      kd := hS.kind
      tk := tk
      po := L2.passes_of (X := X) (K := fun e s'' => L2.CX P w outer H s E e s'') rfl
      stk := rfl
      fr := rfl
      ec := ⟨fun _ c x fs hcx => by
          obtain ⟨C, fI, gd, ps, e1, e2, e3, e4, e5, e6, e7⟩ := M.ecs c x fs hcx
          exact ⟨C, fI, gd, ps, 1, e1, e2, e3, e4, e5, hr.mono (by omega), e6, e7⟩, M.cls, M.exm⟩
      nx := rfl }
    refine ⟨tS K cA (fun c dd _ H' => E c dd H') (callN L.tb k) d.core, (sndS n).ss cx _ _ h2, _, st, ρ, ⟨r, start_sl rd, fun _ z => nomatch z⟩, ?_⟩
    have ht : L.tb[f]? = some ⟨d.ps.length, d.N.length, d.core⟩ := by unfold LawD.tb; rw [List.getElem?_map, hd]; rfl
    have hdl : ds.length = d.ps.length := by rw [rd.length, hl]
    unfold callN at g
    rw [ht] at g
    have g : Good K cA (fun c d _ H' => E c d H') [] ρ H (if ds.length = d.ps.length then (match iS (callN L.tb k) none d.core (ds.map some ++ List.replicate (d.N.length - d.ps.length) none) st with
      | .ok (.rt d) s' => shut st d s'
      | .ok (.nx _) s' => shut st .non s'
      | .exc x _ s' => .exc x s'
      | _ => .err) else .err) (kD K Q) := g
    rw [if_pos hdl] at g
    rw [hdl]
    have fin : ∀ {dd : D} {s' : Stt}, Good K cA (fun c d _ H' => E c d H') [] ρ H (Lk.shut st dd s') (kD K Q) → ∀ ρ' H' v, Nx K ρ H ρ' s' H' → RD K H' ρ' dd v → Q v H' := fun {dd s'} g ρ' H' v nx rv => by
      unfold Lk.shut at g
      split at g
      · rename_i hs
        obtain ⟨n1, n2⟩ := Nx.shut r nx hs
        exact g ρ H' n1 v (n2 v rv)
      · exact g ρ' H' nx v rv
    generalize iS (callN L.tb k) none d.core (ds.map some ++ List.replicate (d.N.length - d.ps.length) none) st = rr at g
    cases rr with
    | err => exact g
    | exc x e s' => exact fun ρ' H' σ' cls dd n1 _ xr => g ρ' H' cls dd n1 xr
    | ok fl s' =>
      cases fl with
      | nx e => exact fun ρ' H' σ' n1 _ => fin g ρ' H' _ n1 .non
      | rt dd => exact fun ρ' H' v n1 rv => fin g ρ' H' v n1 rv
      | bk e => exact g.elim
      | ct e => exact g.elim
end
end Lk

end
section
set_option linter.all false
set_option maxHeartbeats 4000000
namespace Lk
open PySem PySem.Spec PyProof.Rows L2
/-- the law's promise, at the head -/
def spLaw (K : PySem.W.Frag) (N : Nat) : Sp := fun vs H Q _ => ∃ (a : Addr) (ns : List Int), vs = [.ref a] ∧ ns.length ≤ N ∧ Only H ∧ SqL K H a (ns.map V.int) ∧ ∀ H', Q (.bl true) H'
theorem ints_rd {K : PySem.W.Frag} {H : Hp} {ρ : List Addr} : ∀ ns : List Int, RDs K H ρ (ns.map D.int) (ns.map V.int)
  | [] => .nil
  | n :: ns => .cons (.int n) (ints_rd ns)
theorem law_fn {P : Program} {w : World} {K : PySem.W.Frag} {mg : Str → Option Value} {base : Heap} {L : LawD} {cA : Nat → Option Addr} {fa : Nat → Addr} {fd : Nat → FuncData} {n N k f : Nat} {d : FDt} (M : ModF P w K mg base L cA fa fd) (hc : L.chk n) (hf : L.fds[f]? = some d) (hp : d.ps = [("script" : Str)])
    (ht : ∀ ns : List Int, ns.length ≤ N → ∃ s, callN L.tb k f [.ref 0] [.rol (ns.map D.int)] = .ok (.bl true) s) : FnOk P w K mg base (L2.CX P w) (k + 2) (fa f) (fd f) ["script"] (spLaw K N) := by
  have F := fn_all M hc k f d hf
  rw [hp] at F
  refine F.imp fun vs H Q E h => ?_
  obtain ⟨a, ns, rfl, hl, ho, hs, q⟩ := h
  refine ⟨rfl, [.ref 0], [a], [.rol (ns.map D.int)], ⟨rfl, ⟨_, rfl⟩, fun l l' b h1 _ => by simp at h1, fun l b h1 => by simp at h1, fun l o b h1 h2 => ?_⟩, .cons (.ref rfl) .nil, ?_⟩
  · cases l with
    | succ l => simp at h2
    | zero =>
      have h1 : Ob.rol (ns.map D.int) = o := Option.some.inj h1
      have h2 : a = b := Option.some.inj h2
      subst h1 h2
      rcases hs with (hs | ⟨o, hs⟩) | hs
      · rcases ho a with z | ⟨ob, xs, z⟩
        · rw [hs] at z; cases z
        · rw [hs] at z; cases z
      · exact .rol hs (ints_rd ns)
      · exact .rok hs (ints_rd ns)
  · obtain ⟨s, e⟩ := ht ns hl
    rw [e]
    intro ρ' H' _ v rv
    cases rv
    exact q H'
/-- a class beside a class -/
theorem kit_ref {K : PySem.W.Frag} {C D : Addr} {b : Bool} (hd : PySem.W.hasDictIn K D = true) (ht : PySem.W.typeIn K (.ref D) = some (.type "type")) (hs : PySem.W.subIn K (.ref C) (.ref D) = some b) (hb : C = D → b = true) : PySem.W.kitOne K (.ref C) (.ref D) = some b := by
  unfold PySem.W.kitOne
  split
  · rename_i e
    have e : C = D := Value.ref.inj (beq_iff_eq.mp e)
    rw [hb e]
  · obtain ⟨cd, hc, _⟩ := PySem.W.any_some hd
    show (if ((PySem.W.clsIn K D).isSome && PySem.W.typeIn K (.ref D) == some (.type "type")) = true then PySem.W.subIn K (.ref C) (.ref D) else none) = some b
    rw [hc, ht, hs]
    rfl
/-- calls by name -/
theorem gK_vals {m l : Nat} {pm : List Nat} {vs zs : List V} {us ws : List Value} (h1 : Vals vs us) (h2 : Vals zs ws) : Vals (gK m l pm vs zs) (gK m l pm us ws) := by
  unfold gK
  rw [h1.length, h2.length]
  split
  · have h := h1.append h2
    generalize vs ++ zs = xs at h
    generalize us ++ ws = ys at h
    induction pm with
    | nil => exact .nil
    | cons i pm ih =>
      rw [List.filterMap_cons, List.filterMap_cons]
      cases q : xs[i]? with
      | none =>
        have : ys[i]? = none := by rw [List.getElem?_eq_none_iff] at q ⊢; rw [← h.length]; exact q
        rw [this]
        exact ih
      | some d =>
        obtain ⟨v, h1, h2⟩ := h.get q
        rw [h1]
        exact .cons h2 ih
  · exact .nil
theorem gK_some {α : Type} {m l : Nat} {pm : List Nat} {us ws : List α} (h : (gK m l pm us ws).length ≠ 0) : us.length = m ∧ ws.length = l := by
  unfold gK at h
  split at h
  · assumption
  · exact absurd rfl h
theorem kb_mk {K : PySem.W.Frag} {x qual : Str} {st : Stmt} {f : Addr} {fd : FuncData} {ps ks : List Str} {m : Nat} {pm : List Nat} (F : Fun K x qual st f fd) (hp : ps.length ≠ 0)
    (h : ∀ (kV doc pmv : Value) (an : Option Addr) (cdv ct : Value) (us ws : List Value), us.length = m → ws.length = ks.length → bindArgs (PySem.W.fnOf x qual (defArgs st) (defBody st) (defScope st) .none kV doc pmv an cdv ct) ⟨us, ks.zip ws⟩ = pure (ps.zip (gK m ks.length pm us ws))) : KBinds K fd ps ks (gK m ks.length pm) (gK m ks.length pm) := by
  obtain ⟨oc, od, kV, doc, pmv, an, cdv, ct, osl, rfl, lk, hcd⟩ := F.ex
  exact ⟨fun s us ws _ hl => by
    obtain ⟨h1, h2⟩ := gK_some (m := m) (l := ks.length) (pm := pm) (us := us) (ws := ws) (by rw [hl]; exact hp)
    exact .of_eq (h kV doc pmv an cdv ct us ws h1 h2), gK_vals⟩
/-- what the written part says of a raised class -/
structure EcF (K : PySem.W.Frag) (C fI : Addr) : Prop where
  T : OexC K C
  xf : XfC K C
  ec : ExcC K C
  iC : PySem.W.findIn K (.ref C) "__init__" = some (some (.ref fI))
  tI : PySem.W.typeIn K (.ref fI) = some (.type "function")
theorem ecf_mk {K : PySem.W.Frag} {C fI : Addr} {nm q N bs bm sn sub ab col dd k0 k1 k2 k3 k5} (xL : K.lookup C = some (excClassObj nm q C N bs bm true sn sub ab col dd k0 k1 k2 k3 k5 "ValueError.__new__")) (rv : PySem.HandSPX.refsVE bm = true)
    (sa : PySem.W.findIn K (.ref C) "__setattr__" = some (some (.builtin "object.__setattr__"))) (exC : PySem.W.subIn K (.ref C) (.type "BaseException") = some true) (tyC : PySem.W.typeIn K (.ref C) = some (.type "type")) (kC : PySem.W.keepIn K (.ref C) = true)
    (ga : PySem.W.findIn K (.ref C) "__getattribute__" = some (some (.builtin "BaseException.__getattribute__"))) (gg : PySem.W.findIn K (.ref C) "__getattr__" = some none) (hdC : PySem.W.hasDictIn K C = true)
    (ha : PySem.W.findIn K (.ref C) "__class__" = some (some (.builtin "object.__class__"))) (hn : PySem.W.specialIn K (.builtin "object.__class__") "__get__" = some (some (.builtin "getset_descriptor.__get__"))) (ht : PySem.W.takesIn K (.builtin "object.__class__") = some true) (hm : PySem.W.mroIn K C (.type "object") = some true)
    (iC : PySem.W.findIn K (.ref C) "__init__" = some (some (.ref fI))) (tI : PySem.W.typeIn K (.ref fI) = some (.type "function")) : EcF K C fI :=
  ⟨⟨⟨nm, q, N, bs, bm, sn, sub, ab, col, dd, k0, k1, k2, k3, k5, xL, rv⟩, sa, exC, tyC, kC⟩, ⟨ga, gg, exC, hdC⟩, ⟨ga, gg, exC, hdC, ha, hn, ht, hm⟩, iC, tI⟩
end Lk

end
section
set_option linter.all false
set_option maxRecDepth 100000
set_option maxHeartbeats 0
set_option Elab.async false
namespace Lk.K10
open PySem PySem.Spec PyProof.Rows L2
def topS (i : Nat) : Stmt := PySem.Challenge.pw_lostkeys_k10_looks_at_books.main.body.getD i (.Pass ⟨0, 0, 0, 0⟩)
def core0 : S := (.seq (.asg (.var 2) (.newl (.comp [3, 4, 5] (.cons (.var 3) (.cons (.cons (.var 4) (.cons (.var 5) .nil)) .nil)) (.enm (.val (.idx (.var 0) (.int 0)))) (.and (.val (.cmp .eq (.b1 .len (.var 1)) (.int 1))) (.val (.cmp .isin (.var 1) (.var 5)))) (.var 3))))
  (.ret (.ite (.val (.cmp .gt (.b1 .len (.var 2)) (.int 0))) (.idx (.var 2) (.int 0)) .non)))
def fd0 : FDt := ⟨"key_of", "key_of", topS 5, ["book", "letter"], ["book", "letter", "told", "key", "_", "letters"], core0⟩
def core1 : S := (.ret (.bs .tuple (.comp [2, 3, 4] (.cons (.var 2) (.cons (.cons (.var 3) (.cons (.var 4) .nil)) .nil)) (.enm (.val (.idx (.var 0) (.int 0)))) (.val (.bs .any (.comp [5] (.var 5) (.val (.val (.var 1))) .yes (.cmp .isin (.var 5) (.var 4))))) (.var 2))))
def fd1 : FDt := ⟨"keys_of", "keys_of", topS 6, ["book", "text"], ["book", "text", "key", "_", "letters", "sign"], core1⟩
def core2 : S := (.seq (.ite (.val (.cmp .notin (.var 1) (.idx (.var 0) (.int 1)))) (.rais 0 [[119, 111, 114, 100]] (.cons (.str [119, 111, 114, 100]) .nil)) .skip)
  (.ret (.m1 .index (.idx (.var 0) (.int 1)) (.var 1))))
def fd2 : FDt := ⟨"word_number", "word_number", topS 7, ["book", "text"], ["book", "text"], core2⟩
def core3 : S := (.ret (.join (.str []) (.comp [1, 2] (.cons (.var 1) (.cons (.var 2) .nil)) (.val (.val (.idx (.var 0) (.int 0)))) .yes (.var 2))))
def fd3 : FDt := ⟨"all_letters", "all_letters", topS 8, ["book"], ["book", "_", "letters"], core3⟩
def core4 : S := (.ret (.join (.str []) (.val (.bs .sorted (.val (.call 3 (.cons (.var 0) .nil)))))))
def fd4 : FDt := ⟨"letters_of", "letters_of", topS 9, ["book"], ["book"], core4⟩
def core5 : S := (.seq (.asg (.var 1) (.dct [(.inr [100, 105, 103, 105, 116, 115]), (.inr [109, 105, 120, 101, 100]), (.inr [108, 97, 112, 115]), (.inr [104, 97, 98, 105, 116, 115])] (.cons (.newl (.lst .nil)) (.cons (.int 10013) (.cons (.int 0) (.cons (.dct [] .nil) .nil))))))
  (.seq (.for_ (.var 2) (.val (.val (.slc (.var 0) .none (.some (.int 52))))) (.seq (.asg (.var 3) (.bin .mod (.b1 .abs (.b1 .int (.var 2))) (.bin .shl (.int 1) (.int 1300))))
  (.seq (.sub (.var 1) (.str [109, 105, 120, 101, 100]) (.bin .mod (.b1 .int (.bin .add (.bin .add (.bin .mul (.idx (.var 1) (.str [109, 105, 120, 101, 100])) (.int 39373)) (.bin .mod (.var 3) (.int 1000003))) (.bin .mul (.int 7) (.b1 .int (.cmp .lt (.var 2) (.int 0)))))) (.int 2147483587)))
  (.for_ (.var 4) (.rng1 (.int 130)) (.seq (.ite (.val (.cmp .lt (.var 3) (.bin .pow (.int 10) (.int 12)))) .brk .skip)
  (.seq (.exp (.m1 .append (.idx (.var 1) (.str [100, 105, 103, 105, 116, 115])) (.bin .mod (.b1 .int (.var 3)) (.int 1019))))
  (.asg (.var 3) (.bin .fdiv (.var 3) (.int 1019)))))))))
  (.ret (.var 1))))
def fd5 : FDt := ⟨"_law_pan", "_law_pan", topS 11, ["script"], ["script", "pan", "cell", "size", "lap"], core5⟩
def core6 : S := (.seq (.ite (.val (.idx (.var 0) (.str [100, 105, 103, 105, 116, 115]))) (.ret (.bin .mod (.b1 .int (.m0 .pop (.idx (.var 0) (.str [100, 105, 103, 105, 116, 115])))) (.var 2))) .skip)
  (.seq (.augs (.var 0) (.str [108, 97, 112, 115]) .add (.int 1))
  (.seq (.sub (.var 0) (.str [109, 105, 120, 101, 100]) (.bin .mod (.b1 .int (.bin .add (.bin .add (.bin .mul (.idx (.var 0) (.str [109, 105, 120, 101, 100])) (.int 39373)) (.bin .mul (.idx (.var 0) (.str [108, 97, 112, 115])) (.int 10013))) (.int 5))) (.int 2147483587)))
  (.seq (.ite (.val (.cmp .notin (.var 1) (.idx (.var 0) (.str [104, 97, 98, 105, 116, 115])))) (.sub (.idx (.var 0) (.str [104, 97, 98, 105, 116, 115])) (.var 1) (.tup (.cons (.bin .mod (.b1 .int (.bin .fdiv (.idx (.var 0) (.str [109, 105, 120, 101, 100])) (.int 17))) (.int 9)) (.cons (.bin .mod (.b1 .int (.bin .fdiv (.idx (.var 0) (.str [109, 105, 120, 101, 100])) (.int 173))) (.int 4001)) .nil)))) .skip)
  (.seq (.asg (.cons (.var 3) (.cons (.var 4) .nil)) (.idx (.idx (.var 0) (.str [104, 97, 98, 105, 116, 115])) (.var 1)))
  (.seq (.ite (.val (.cmp .lt (.var 3) (.int 2))) (.ret (.bin .mul (.var 3) (.bin .sub (.var 2) (.int 1)))) .skip)
  (.ret (.bin .mod (.b1 .int (.ite (.val (.cmp .eq (.var 3) (.int 2))) (.var 4) (.bin .fdiv (.idx (.var 0) (.str [109, 105, 120, 101, 100])) (.int 59)))) (.var 2)))))))))
def fd6 : FDt := ⟨"_law_pick", "_law_pick", topS 12, ["pan", "place", "many"], ["pan", "place", "many", "way", "own"], core6⟩
def core7 : S := (.seq (.for_ (.var 2) (.rng1 (.b1 .len (.idx (.var 0) (.int 0)))) (.ite (.val (.cmp .isin (.var 1) (.idx (.idx (.idx (.var 0) (.int 0)) (.var 2)) (.int 1)))) (.ret (.var 2)) .skip))
  (.ret .non))
def fd7 : FDt := ⟨"_law_key", "_law_key", topS 13, ["book", "letter"], ["book", "letter", "key"], core7⟩
def core8 : S := (.ret (.bs .tuple (.val (.bs .sortedSet (.comp [2] (.var 2) (.val (.val (.var 1))) .yes (.call 7 (.cons (.var 0) (.cons (.var 2) .nil))))))))
def fd8 : FDt := ⟨"_law_keys", "_law_keys", topS 14, ["book", "text"], ["book", "text", "letter"], core8⟩
def core9 : S := (.seq (.asg (.var 2) (.newl (.lst (.cons (.tup (.cons (.var 0) (.cons (.var 1) .nil))) .nil))))
  (.seq (.for_ (.var 3) (.rng1 (.int 3000000)) (.seq (.ite (.val (.cmp .eq (.b1 .len (.var 2)) (.int 0))) (.ret (.bl true)) .skip)
  (.seq (.asg (.cons (.var 4) (.cons (.var 5) .nil)) (.m0 .pop (.var 2)))
  (.ite (.or (.val (.isi (.var 5) [.tuple])) (.val (.isi (.var 5) [.list]))) (.seq (.ite (.and (.val (.isi (.var 5) [.tuple])) (.not (.val (.isi (.var 4) [.tuple])))) (.ret (.bl false)) .skip)
  (.seq (.ite (.and (.val (.isi (.var 5) [.list])) (.not (.val (.isi (.var 4) [.list])))) (.ret (.bl false)) .skip)
  (.seq (.ite (.val (.cmp .ne (.b1 .len (.var 4)) (.b1 .len (.var 5)))) (.ret (.bl false)) .skip)
  (.for_ (.var 6) (.rng1 (.b1 .len (.var 5))) (.exp (.m1 .append (.var 2) (.tup (.cons (.idx (.var 4) (.var 6)) (.cons (.idx (.var 5) (.var 6)) .nil))))))))) (.ite (.val (.cmp .isnon (.var 5) .non)) (.ite (.val (.cmp .notnon (.var 4) .non)) (.ret (.bl false)) .skip) (.ite (.val (.isi (.var 5) [.bool])) (.ite (.or (.not (.val (.isi (.var 4) [.bool]))) (.val (.cmp .ne (.var 4) (.var 5)))) (.ret (.bl false)) .skip) (.ite (.val (.isi (.var 5) [.int])) (.ite (.or (.not (.val (.isi (.var 4) [.int]))) (.or (.val (.isi (.var 4) [.bool])) (.val (.cmp .ne (.var 4) (.var 5))))) (.ret (.bl false)) .skip) (.ite (.or (.not (.val (.isi (.var 5) [.str]))) (.or (.not (.val (.isi (.var 4) [.str]))) (.val (.cmp .ne (.var 4) (.var 5))))) (.ret (.bl false)) .skip))))))))
  (.ret (.bl false))))
def fd9 : FDt := ⟨"_law_same", "_law_same", topS 15, ["told", "due"], ["told", "due", "stack", "count", "left", "right", "k"], core9⟩
def core10 : S := (.seq (.asg (.cons (.var 4) (.cons (.var 5) (.cons (.var 6) .nil))) (.tup (.cons (.call 6 (.cons (.var 0) (.cons (.str [97, 108, 112, 104, 97, 98, 101, 116]) (.cons (.int 26) .nil)))) (.cons (.int 0) (.cons (.newl (.lst .nil)) .nil)))))
  (.seq (.asg (.var 2) (.tup (.cons (.str [97]) (.cons (.str [107, 48]) (.cons (.str [98, 55]) (.cons (.str [107, 101, 121, 115]) (.cons (.str [122, 122, 122, 122, 122, 122, 122, 122]) (.cons (.str [109]) (.cons (.str [110, 49]) (.cons (.str [111]) (.cons (.str [112]) (.cons (.str [113]) (.cons (.str [114]) (.cons (.str [115, 57]) .nil))))))))))))))
  (.seq (.for_ (.var 3) (.rng1 (.ite (.val (.var 1)) (.int 12) (.bin .add (.int 1) (.call 6 (.cons (.var 0) (.cons (.str [107, 101, 121, 115]) (.cons (.int 4) .nil))))))) (.seq (.asg (.var 7) (.bin .add (.int 1) (.call 6 (.cons (.var 0) (.cons (.str [108, 101, 116, 116, 101, 114, 115]) (.cons (.ite (.val (.var 1)) (.int 2) (.int 3)) .nil))))))
  (.seq (.asg (.var 8) (.newl (.comp [13] (.var 13) (.rng1 (.var 7)) .yes (.idx (.str [97, 98, 99, 100, 101, 102, 103, 104, 105, 106, 107, 108, 109, 110, 111, 112, 113, 114, 115, 116, 117, 118, 119, 120, 121, 122]) (.bin .mod (.b1 .int (.bin .add (.bin .add (.var 4) (.var 5)) (.var 13))) (.int 26))))))
  (.seq (.aug 5 .add (.var 7))
  (.exp (.m1 .append (.var 6) (.tup (.cons (.idx (.var 2) (.var 3)) (.cons (.join (.str []) (.val (.bs .sorted (.val (.var 8))))) .nil)))))))))
  (.seq (.asg (.cons (.var 8) (.cons (.var 9) .nil)) (.tup (.cons (.join (.str []) (.comp [14] (.var 14) (.val (.val (.var 6))) .yes (.idx (.var 14) (.int 1)))) (.cons (.newl (.lst .nil)) .nil))))
  (.seq (.for_ (.var 3) (.rng1 (.ite (.val (.var 1)) (.int 60) (.bin .add (.int 1) (.call 6 (.cons (.var 0) (.cons (.str [119, 111, 114, 100, 115]) (.cons (.int 5) .nil))))))) (.seq (.asg (.var 10) (.join (.str []) (.comp [13] (.var 13) (.rng1 (.ite (.val (.var 1)) (.int 16) (.bin .add (.int 1) (.call 6 (.cons (.var 0) (.cons (.str [108, 111, 110, 103]) (.cons (.int 6) .nil))))))) .yes (.idx (.var 8) (.call 6 (.cons (.var 0) (.cons (.str [108, 101, 116, 116, 101, 114]) (.cons (.b1 .len (.var 8)) .nil))))))))
  (.seq (.ite (.and (.val (.var 9)) (.and (.not (.val (.var 1))) (.val (.cmp .eq (.call 6 (.cons (.var 0) (.cons (.str [110, 101, 97, 114]) (.cons (.int 2) .nil)))) (.int 0))))) (.seq (.asg (.var 11) (.call 6 (.cons (.var 0) (.cons (.str [112, 108, 97, 99, 101]) (.cons (.b1 .len (.idx (.var 9) (.neg (.int 1)))) .nil)))))
  (.seq (.asg (.var 12) (.idx (.var 9) (.neg (.int 1))))
  (.asg (.var 10) (.idx (.tup (.cons (.bin .add (.var 12) (.idx (.var 10) (.int 0))) (.cons (.bin .add (.slc (.var 12) .none (.some (.var 11))) (.slc (.var 12) (.some (.bin .add (.var 11) (.int 1))) .none)) (.cons (.bin .add (.bin .add (.slc (.var 12) .none (.some (.var 11))) (.idx (.var 10) (.int 0))) (.slc (.var 12) (.some (.bin .add (.var 11) (.int 1))) .none)) (.cons (.bin .add (.slc (.var 12) (.some (.int 1)) .none) (.idx (.var 12) (.int 0))) .nil))))) (.call 6 (.cons (.var 0) (.cons (.str [110, 101, 97, 114, 32, 119, 97, 121]) (.cons (.int 4) .nil)))))))) .skip)
  (.ite (.and (.val (.cmp .ne (.var 10) (.str []))) (.and (.val (.cmp .lt (.b1 .len (.var 10)) (.int 17))) (.val (.cmp .notin (.var 10) (.var 9))))) (.exp (.m1 .append (.var 9) (.var 10))) .skip))))
  (.ret (.tup (.cons (.bs .tuple (.val (.var 6))) (.cons (.ite (.val (.var 9)) (.bs .tuple (.val (.var 9))) (.tup (.cons (.idx (.var 8) (.int 0)) .nil))) (.cons (.ite (.not (.val (.var 1))) (.call 6 (.cons (.var 0) (.cons (.str [100, 101, 97, 100]) (.cons (.int 3) .nil)))) (.int 6)) .nil))))))))))
def fd10 : FDt := ⟨"_law_book", "_law_book", topS 16, ["pan", "wide"], ["pan", "wide", "names", "lap", "start", "at", "keys", "many", "letters", "words", "word", "place", "near", "k", "key"], core10⟩
def core11 : S := (.tryy 2 [0] (.ret (.ite (.and (.val (.xis [0])) (.val (.xis [0]))) (.tup (.cons (.str [114, 97, 105, 115, 101, 100]) (.cons (.xfld [119, 111, 114, 100]) .nil))) (.tup (.cons (.str [111, 116, 104, 101, 114]) .nil)))) (.ret (.tup (.cons (.str [116, 111, 108, 100]) (.cons (.call 2 (.cons (.var 0) (.cons (.var 1) .nil))) .nil)))))
def fd11 : FDt := ⟨"_law_number", "_law_number", topS 17, ["book", "text"], ["book", "text", "error"], core11⟩
def core12 : S := (.seq (.asg (.var 2) (.join (.str []) (.val (.bs .sorted (.val (.join (.str []) (.comp [10] (.var 10) (.val (.val (.idx (.var 1) (.int 0)))) .yes (.idx (.var 10) (.int 1)))))))))
  (.seq (.ite (.not (.val (.call 9 (.cons (.call 4 (.cons (.var 1) .nil)) (.cons (.var 2) .nil))))) (.ret (.bl false)) .skip)
  (.seq (.for_ (.var 3) (.val (.val (.str [97, 98, 99, 100, 101, 102, 103, 104, 105, 106, 107, 108, 109, 110, 111, 112, 113, 114, 115, 116, 117, 118, 119, 120, 121, 122]))) (.ite (.not (.val (.call 9 (.cons (.call 0 (.cons (.var 1) (.cons (.var 3) .nil))) (.cons (.call 7 (.cons (.var 1) (.cons (.var 3) .nil))) .nil))))) (.ret (.bl false)) .skip))
  (.seq (.for_ (.var 4) (.rng1 (.int 5)) (.seq (.asg (.var 5) (.join (.str []) (.comp [9] (.var 9) (.rng1 (.call 6 (.cons (.var 0) (.cons (.str [116, 101, 120, 116]) (.cons (.int 9) .nil))))) .yes (.idx (.var 2) (.call 6 (.cons (.var 0) (.cons (.str [116, 101, 120, 116, 32, 108, 101, 116, 116, 101, 114]) (.cons (.b1 .len (.var 2)) .nil))))))))
  (.seq (.asg (.var 6) (.idx (.idx (.var 1) (.int 1)) (.call 6 (.cons (.var 0) (.cons (.str [119, 111, 114, 100]) (.cons (.b1 .len (.idx (.var 1) (.int 1))) .nil))))))
  (.seq (.ite (.not (.val (.call 9 (.cons (.tup (.cons (.call 1 (.cons (.var 1) (.cons (.var 5) .nil))) (.cons (.call 1 (.cons (.var 1) (.cons (.var 6) .nil))) (.cons (.call 1 (.cons (.var 1) (.cons (.bin .add (.var 6) (.var 5)) .nil))) .nil)))) (.cons (.tup (.cons (.call 8 (.cons (.var 1) (.cons (.var 5) .nil))) (.cons (.call 8 (.cons (.var 1) (.cons (.var 6) .nil))) (.cons (.call 8 (.cons (.var 1) (.cons (.bin .add (.var 6) (.var 5)) .nil))) .nil)))) .nil))))) (.ret (.bl false)) .skip)
  (.seq (.asg (.var 7) (.idx (.tup (.cons (.var 5) (.cons (.bin .add (.var 6) (.idx (.var 6) (.int 0))) (.cons (.slc (.var 6) (.some (.int 1)) .none) (.cons (.m0 .upper (.var 6)) (.cons (.str []) (.cons (.bin .add (.var 6) (.str [32])) (.cons (.rev (.var 6)) (.cons (.bin .mul (.str [113]) (.int 17)) (.cons (.str [122, 122, 122]) (.cons (.bin .add (.slc (.var 6) .none (.some (.neg (.int 1)))) (.str [90])) .nil))))))))))) (.call 6 (.cons (.var 0) (.cons (.str [111, 116, 104, 101, 114]) (.cons (.int 10) .nil))))))
  (.seq (.asg (.var 8) (.ite (.val (.cmp .isin (.var 7) (.idx (.var 1) (.int 1)))) (.tup (.cons (.str [116, 111, 108, 100]) (.cons (.m1 .index (.idx (.var 1) (.int 1)) (.var 7)) .nil))) (.tup (.cons (.str [114, 97, 105, 115, 101, 100]) (.cons (.str [119, 111, 114, 100]) .nil)))))
  (.ite (.not (.val (.call 9 (.cons (.tup (.cons (.call 11 (.cons (.var 1) (.cons (.var 6) .nil))) (.cons (.call 11 (.cons (.var 1) (.cons (.var 7) .nil))) .nil))) (.cons (.tup (.cons (.tup (.cons (.str [116, 111, 108, 100]) (.cons (.m1 .index (.idx (.var 1) (.int 1)) (.var 6)) .nil))) (.cons (.var 8) .nil))) .nil))))) (.ret (.bl false)) .skip)))))))
  (.ret (.bl true))))))
def fd12 : FDt := ⟨"_law_asked", "_law_asked", topS 18, ["pan", "book"], ["pan", "book", "letters", "letter", "lap", "text", "word", "other", "due", "k", "key"], core12⟩
def core13 : S := (.seq (.asg (.var 0) (.tup (.cons (.tup (.cons (.tup (.cons (.str [107, 48]) (.cons (.str [97, 98]) .nil))) (.cons (.tup (.cons (.str [107, 49]) (.cons (.str [99, 100]) .nil))) (.cons (.tup (.cons (.str [107, 50]) (.cons (.str [101]) .nil))) .nil)))) (.cons (.tup (.cons (.str [97, 99, 101]) (.cons (.str [98, 100, 101]) (.cons (.str [99, 97, 98]) (.cons (.str [101, 99, 97, 98]) .nil))))) (.cons (.int 1) .nil)))))
  (.seq (.asg (.var 1) (.tup (.cons (.call 0 (.cons (.var 0) (.cons (.str [100]) .nil))) (.cons (.call 1 (.cons (.var 0) (.cons (.str [99, 97, 98]) .nil))) (.cons (.call 4 (.cons (.var 0) .nil)) (.cons (.callk 0 0 2 [1, 0] .nil (.cons (.str [122]) (.cons (.var 0) .nil))) (.cons (.callk 1 0 2 [1, 0] .nil (.cons (.str []) (.cons (.var 0) .nil))) (.cons (.call 1 (.cons (.var 0) (.cons (.str [101, 98, 101, 97, 98]) .nil))) .nil))))))))
  (.seq (.ite (.not (.val (.call 9 (.cons (.var 1) (.cons (.tup (.cons (.int 1) (.cons (.tup (.cons (.int 0) (.cons (.int 1) .nil))) (.cons (.str [97, 98, 99, 100, 101]) (.cons .non (.cons (.tup .nil) (.cons (.tup (.cons (.int 0) (.cons (.int 2) .nil))) .nil))))))) .nil))))) (.ret (.bl false)) .skip)
  (.seq (.asg (.var 2) (.tup (.cons (.tup (.cons (.tup (.cons (.str [120]) (.cons (.str [121, 122]) .nil))) (.cons (.tup (.cons (.str [97]) (.cons (.str [98, 109]) .nil))) (.cons (.tup (.cons (.str [113]) (.cons (.str [97]) .nil))) .nil)))) (.cons (.tup (.cons (.str [122, 97, 98]) (.cons (.str [98, 97, 122, 121]) (.cons (.str [122]) .nil)))) (.cons (.int 6) .nil)))))
  (.ret (.call 9 (.cons (.tup (.cons (.call 4 (.cons (.var 2) .nil)) (.cons (.callk 2 0 2 [1, 0] .nil (.cons (.str [122]) (.cons (.var 2) .nil))) (.cons (.call 1 (.cons (.var 2) (.cons (.str [122, 97]) .nil))) (.cons (.call 11 (.cons (.var 2) (.cons (.str [122, 97]) .nil))) .nil))))) (.cons (.tup (.cons (.str [97, 98, 109, 121, 122]) (.cons (.int 2) (.cons (.tup (.cons (.int 0) (.cons (.int 2) .nil))) (.cons (.tup (.cons (.str [114, 97, 105, 115, 101, 100]) (.cons (.str [119, 111, 114, 100]) .nil))) .nil))))) .nil))))))))
def fd13 : FDt := ⟨"_law_hand", "_law_hand", topS 19, [], ["pad", "told", "turned"], core13⟩
def core14 : S := (.seq (.asg (.var 1) (.call 5 (.cons (.var 0) .nil)))
  (.seq (.ite (.not (.val (.call 13 .nil))) (.ret (.bl false)) .skip)
  (.seq (.for_ (.var 2) (.rng1 (.int 3)) (.ite (.not (.val (.call 12 (.cons (.var 1) (.cons (.call 10 (.cons (.var 1) (.cons (.bl false) .nil))) .nil))))) (.ret (.bl false)) .skip))
  (.ret (.or (.cmp .ne (.call 6 (.cons (.var 1) (.cons (.str [119, 105, 100, 101]) (.cons (.int 11) .nil)))) (.int 7)) (.call 12 (.cons (.var 1) (.cons (.call 10 (.cons (.var 1) (.cons (.bl true) .nil))) .nil))))))))
def fd14 : FDt := ⟨"law", "law", topS 20, ["script"], ["script", "pan", "lap"], core14⟩
def Lw : LawD := {
  fds := [fd0, fd1, fd2, fd3, fd4, fd5, fd6, fd7, fd8, fd9, fd10, fd11, fd12, fd13, fd14]
  kws := [(0, 0, ["letter", "book"], [1, 0]), (1, 0, ["text", "book"], [1, 0]), (2, 0, ["text", "book"], [1, 0])]
  bl := ["abs", "any", "bool", "enumerate", "int", "isinstance", "len", "list", "range", "set", "sorted", "str", "tuple"]
  cn := []
  ecs := [("BadStep", [[119, 111, 114, 100]])]
  exm := [("BadStep", [0]), ("CallError", [0]), ("KeysError", [0])] }
theorem chk : Lw.chk 300 := by
  intro f d h
  match f, h with
  | 0, h => cases h; exact ⟨by decide +kernel, by kernel_rfl⟩
  | 1, h => cases h; exact ⟨by decide +kernel, by kernel_rfl⟩
  | 2, h => cases h; exact ⟨by decide +kernel, by kernel_rfl⟩
  | 3, h => cases h; exact ⟨by decide +kernel, by kernel_rfl⟩
  | 4, h => cases h; exact ⟨by decide +kernel, by kernel_rfl⟩
  | 5, h => cases h; exact ⟨by decide +kernel, by kernel_rfl⟩
  | 6, h => cases h; exact ⟨by decide +kernel, by kernel_rfl⟩
  | 7, h => cases h; exact ⟨by decide +kernel, by kernel_rfl⟩
  | 8, h => cases h; exact ⟨by decide +kernel, by kernel_rfl⟩
  | 9, h => cases h; exact ⟨by decide +kernel, by kernel_rfl⟩
  | 10, h => cases h; exact ⟨by decide +kernel, by kernel_rfl⟩
  | 11, h => cases h; exact ⟨by decide +kernel, by kernel_rfl⟩
  | 12, h => cases h; exact ⟨by decide +kernel, by kernel_rfl⟩
  | 13, h => cases h; exact ⟨by decide +kernel, by kernel_rfl⟩
  | 14, h => cases h; exact ⟨by decide +kernel, by kernel_rfl⟩
  | (n + 15), h => cases h
end Lk.K10

end
section
set_option linter.all false
set_option maxRecDepth 100000
namespace Lk
open PySem L2
/-! another store beside: H stands at place c -/
def shl (c k l : Nat) : Nat := if l < c then l else l + k
mutual
def D.sh (c k : Nat) : D → D
  | .ref l => .ref (shl c k l)
  | .tup xs => .tup (D.shs c k xs)
  | .non => .non
  | .bl b => .bl b
  | .int i => .int i
  | .str s => .str s
def D.shs (c k : Nat) : List D → List D
  | [] => []
  | x :: xs => D.sh c k x :: D.shs c k xs
end
variable {c : Nat} {H : Stt} {k : Nat}
theorem shs_map (xs : List D) : D.shs c k xs = xs.map (D.sh c k) := by
  induction xs with
  | nil => rfl
  | cons x xs ih => rw [D.shs, ih]; rfl
theorem shs_len (xs : List D) : (D.shs c k xs).length = xs.length := by rw [shs_map, List.length_map]
def shk (c k : Nat) (kvs : List (Ky × D)) : List (Ky × D) := kvs.map fun q => (q.1, q.2.sh c k)
def Ob.sh (c k : Nat) : Ob → Ob
  | .lst xs => .lst (D.shs c k xs)
  | .rol xs => .rol (D.shs c k xs)
  | .dct kvs => .dct (shk c k kvs)
def Xn.sh (c k : Nat) (x : Xn) : Xn := ⟨x.cls, x.fs.map fun q => (q.1, q.2.sh c k)⟩
def ins (c : Nat) (H s : Stt) : Stt := (s.take c).map (Ob.sh c H.length) ++ (H ++ (s.drop c).map (Ob.sh c H.length))
theorem ins_get {s : Stt} (hc : c ≤ s.length) (l : Nat) : (ins c H s)[shl c H.length l]? = (s[l]?).map (Ob.sh c H.length) := by
  unfold ins shl
  have hl : ((s.take c).map (Ob.sh c H.length)).length = c := by simp; omega
  by_cases h : l < c
  · rw [if_pos h, List.getElem?_append_left (by rw [hl]; exact h), List.getElem?_map, List.getElem?_take_of_lt h]
  · rw [if_neg h, List.getElem?_append_right (by rw [hl]; omega), hl, List.getElem?_append_right (by omega), List.getElem?_map, List.getElem?_drop]
    congr 2
    omega
theorem ins_len {s : Stt} (hc : c ≤ s.length) : (ins c H s).length = s.length + H.length := by
  unfold ins; simp; omega
theorem shl_len {s : Stt} (hc : c ≤ s.length) : (ins c H s).length = shl c H.length s.length := by
  rw [ins_len hc, shl, if_neg (by omega)]
theorem ins_app {s : Stt} (hc : c ≤ s.length) (o : Ob) : ins c H (s ++ [o]) = ins c H s ++ [o.sh c H.length] := by
  unfold ins
  rw [List.take_append_of_le_length hc, List.drop_append_of_le_length hc]
  simp
theorem shl_lt (l n : Nat) (h : c ≤ n) : (shl c k l < n + k) ↔ l < n := by unfold shl; split <;> omega
theorem shl_inj {l m : Nat} (h : shl c k l = shl c k m) : l = m := by unfold shl at h; split at h <;> split at h <;> omega
theorem ext_ins {s t : Stt} (hs : c ≤ s.length) (h : s.length + H.length = t.length) (hH : ∀ i, i < H.length → t[c + i]? = H[i]?) (hg : ∀ l, t[shl c H.length l]? = (s[l]?).map (Ob.sh c H.length)) : t = ins c H s := by
  apply List.ext_getElem?
  intro i
  by_cases h1 : i < c
  · have e : shl c H.length i = i := by unfold shl; rw [if_pos h1]
    have := hg i
    rw [e] at this
    rw [this, ← e, ins_get hs, e]
  · by_cases h2 : i < c + H.length
    · have hl : ((s.take c).map (Ob.sh c H.length)).length = c := by simp; omega
      have := hH (i - c) (by omega)
      rw [show c + (i - c) = i by omega] at this
      rw [this]
      unfold ins
      rw [List.getElem?_append_right (by rw [hl]; omega), hl, List.getElem?_append_left (by omega)]
    · have e : shl c H.length (i - H.length) = i := by unfold shl; rw [if_neg (by omega)]; omega
      have := hg (i - H.length)
      rw [e] at this
      rw [this, ← e, ins_get hs, e]
theorem ins_mid {s : Stt} (hs : c ≤ s.length) (i : Nat) (hi : i < H.length) : (ins c H s)[c + i]? = H[i]? := by
  have hl : ((s.take c).map (Ob.sh c H.length)).length = c := by simp; omega
  unfold ins
  rw [List.getElem?_append_right (by rw [hl]; omega), hl, List.getElem?_append_left (by omega)]
  congr 1; omega
theorem ins_set {s : Stt} (hc : c ≤ s.length) (l : Nat) (o : Ob) : ins c H (s.set l o) = (ins c H s).set (shl c H.length l) (o.sh c H.length) := by
  symm
  apply ext_ins
  · simpa using hc
  · rw [List.length_set, List.length_set, ins_len hc]
  · intro i hi
    rw [List.getElem?_set_ne (by unfold shl; split <;> omega), ins_mid hc i hi]
  · intro m
    rw [List.getElem?_set, List.getElem?_set, ins_len hc]
    by_cases e : l = m
    · subst e
      rw [if_pos rfl, if_pos rfl]
      by_cases h : l < s.length
      · rw [if_pos ((shl_lt _ _ hc).2 h), if_pos h]; rfl
      · rw [if_neg (fun q => h ((shl_lt _ _ hc).1 q)), if_neg h]; rfl
    · rw [if_neg (fun q => e (shl_inj q)), if_neg e, ins_get hc]
theorem ins_take {s : Stt} {n : Nat} (hc : c ≤ n) (hn : n ≤ s.length) : (ins c H s).take (n + H.length) = ins c H (s.take n) := by
  have hs : c ≤ s.length := by omega
  have hl : (s.take n).length = n := by simp; omega
  apply ext_ins
  · omega
  · rw [hl, List.length_take, ins_len hs]; omega
  · intro i hi
    rw [List.getElem?_take_of_lt (by omega), ins_mid hs i hi]
  · intro l
    by_cases h : l < n
    · rw [List.getElem?_take_of_lt ((shl_lt _ _ hc).2 h), ins_get hs, List.getElem?_take_of_lt h]
    · have h' : ¬ shl c H.length l < n + H.length := fun q => h ((shl_lt _ _ hc).1 q)
      rw [List.getElem?_eq_none (by rw [List.length_take]; omega), List.getElem?_eq_none (by rw [List.length_take]; omega)]; rfl

/-! the same but for the places -/
class Sh (α : Type) where
  sh : Nat → Nat → α → α
def Sq.sh (c k : Nat) : Sq → Sq
  | .l xs => .l (D.shs c k xs)
  | .t xs => .t (D.shs c k xs)
  | .s x => .s x
def shG (c k : Nat) (g : Gd) : Gd := g.map fun q => (shl c k q.1, D.shs c k q.2)
instance : Sh D := ⟨D.sh⟩
instance : Sh (List D) := ⟨D.shs⟩
instance : Sh Bool := ⟨fun _ _ b => b⟩
instance : Sh (Option Int) := ⟨fun _ _ b => b⟩
instance : Sh (Option D) := ⟨fun c k o => o.map (D.sh c k)⟩
instance : Sh Sq := ⟨Sq.sh⟩
instance : Sh (D × Sq) := ⟨fun c k q => (q.1.sh c k, q.2.sh c k)⟩
instance : Sh (List D × Gd) := ⟨fun c k q => (D.shs c k q.1, shG c k q.2)⟩
def Sim {α : Type} [Sh α] (c : Nat) (H : Stt) (r1 r2 : R α) : Prop := match r1 with
  | .ok a s => r2 = .ok (Sh.sh c H.length a) (ins c H s) ∧ c ≤ s.length
  | .exc x s => r2 = .exc (x.sh c H.length) (ins c H s) ∧ c ≤ s.length
  | .err => True
theorem Sim.bind {α β : Type} [Sh α] [Sh β] {r1 r2 : R α} {f1 f2 : α → Stt → R β} (h : Sim c H r1 r2) (hf : ∀ a s, c ≤ s.length → Sim c H (f1 a s) (f2 (Sh.sh c H.length a) (ins c H s))) : Sim c H (r1.bind f1) (r2.bind f2) := by
  cases r1 with
  | ok a s => obtain ⟨h1, h2⟩ := h; subst h1; exact hf a s h2
  | exc x s => obtain ⟨h1, h2⟩ := h; subst h1; exact ⟨rfl, h2⟩
  | err => trivial
theorem Sim.opt {α : Type} [Sh α] {o1 o2 : Option α} {s : Stt} (hc : c ≤ s.length) (h : ∀ a, o1 = some a → o2 = some (Sh.sh c H.length a)) : Sim c H (ok? o1 s) (ok? o2 (ins c H s)) := by
  cases o1 with
  | none => trivial
  | some a => rw [h a rfl]; exact ⟨rfl, hc⟩
theorem Sim.chk {α : Type} [Sh α] {b1 b2 : Bool} {r1 r2 : R α} (h : b1 = true → b2 = true) (hr : Sim c H r1 r2) : Sim c H (chk b1 r1) (chk b2 r2) := by
  cases b1 with
  | false => trivial
  | true => rw [h rfl]; exact hr
theorem Sim.quiet {α : Type} [Sh α] {r1 r2 : R α} (hr : Sim c H r1 r2) : Sim c H r1.quiet r2.quiet := by
  cases r1 with
  | ok a s => obtain ⟨h1, h2⟩ := hr; subst h1; exact ⟨rfl, h2⟩
  | _ => trivial
theorem Sim.new {s : Stt} (hc : c ≤ s.length) (o : Ob) : Sim c H (R.ok (D.ref s.length) (s ++ [o])) (R.ok (D.ref (ins c H s).length) (ins c H s ++ [o.sh c H.length])) := by
  refine ⟨?_, by simp; omega⟩
  rw [ins_app hc, shl_len hc]; rfl

/-! the operations -/
theorem lget_sh {s : Stt} (hc : c ≤ s.length) (l : Nat) : lget (ins c H s) (shl c H.length l) = (lget s l).map (D.shs c H.length) := by
  unfold lget
  rw [ins_get hc]
  cases s[l]? with
  | none => rfl
  | some o => cases o <;> rfl
theorem seqOf_sh {s : Stt} (hc : c ≤ s.length) (d : D) : seqOf (ins c H s) (d.sh c H.length) = (seqOf s d).map (Sq.sh c H.length) := by
  cases d with
  | ref l =>
    show (lget _ _).map Sq.l = _
    rw [lget_sh hc, seqOf, Option.map_map, Option.map_map]; rfl
  | _ => rfl
theorem chars_sh (x : List Nat) : D.shs c k (chars x) = chars x := by
  rw [shs_map]; unfold chars; rw [List.map_map]; rfl
theorem items_sh (q : Sq) : (q.sh c k).items = D.shs c k q.items := by
  cases q with
  | s x => exact (chars_sh x).symm
  | _ => rfl
theorem isEmpty_sh (xs : List D) : (D.shs c k xs).isEmpty = xs.isEmpty := by cases xs <;> rfl
theorem truth_sh {s : Stt} (hc : c ≤ s.length) (d : D) : truth (ins c H s) (d.sh c H.length) = truth s d := by
  cases d with
  | ref l =>
    unfold truth
    simp only [D.sh]
    rw [ins_get hc]
    cases s[l]? with
    | none => rfl
    | some o => cases o with
      | dct kvs => cases kvs <;> rfl
      | _ => exact congrArg (fun b => some (!b)) (isEmpty_sh _)
  | tup xs => exact congrArg (fun b => some (!b)) (isEmpty_sh _)
  | _ => rfl
mutual
theorem toPy_sh (s t : Stt) (n : Nat) : ∀ (d : D), D.toPy t n (d.sh c k) = D.toPy s n d
  | .non => rfl
  | .bl _ => rfl
  | .int _ => rfl
  | .str _ => rfl
  | .ref _ => rfl
  | .tup xs => by rw [D.sh, D.toPy, D.toPy, toPys_sh s t n xs]
theorem toPys_sh (s t : Stt) (n : Nat) : ∀ (xs : List D), D.toPys t n (D.shs c k xs) = D.toPys s n xs
  | [] => rfl
  | x :: xs => by rw [D.shs, D.toPys, D.toPys, toPy_sh s t n x, toPys_sh s t n xs]
end
theorem listPy_sh {s : Stt} (hc : c ≤ s.length) (d : D) : listPy (ins c H s) (d.sh c H.length) = listPy s d := by
  cases d with
  | ref l =>
    unfold listPy
    simp only [D.sh]
    rw [lget_sh hc]
    cases lget s l with
    | none => rfl
    | some xs => exact congrArg (Option.map PyData.list) (toPys_sh s _ 0 xs)
  | tup xs => exact toPy_sh s _ 0 (.tup xs)
  | _ => rfl
theorem eqG_sh {s : Stt} (hc : c ≤ s.length) (x y : D) : eqG (ins c H s) (x.sh c H.length) (y.sh c H.length) = eqG s x y := by
  unfold eqG; rw [listPy_sh hc, listPy_sh hc]
theorem eqD_sh {s : Stt} (hc : c ≤ s.length) (x y : D) : eqD (ins c H s) (x.sh c H.length) (y.sh c H.length) = eqD s x y := by
  have g := eqG_sh (H := H) hc x y
  cases x <;> cases y <;> first | rfl | exact g
theorem flat_sh (x : D) : (x.sh c k).flat = x.flat := by cases x <;> rfl
theorem allflat_sh (xs : List D) : (D.shs c k xs).all D.flat = xs.all D.flat := by
  rw [shs_map, List.all_map]; congr 1; funext x; exact flat_sh x
theorem feq_sh (x y : D) : (x.sh c k).feq (y.sh c k) = x.feq y := by cases x <;> cases y <;> rfl
theorem inSeq_sh (x : D) (xs : List D) : inSeq (x.sh c k) (D.shs c k xs) = inSeq x xs := by
  unfold inSeq
  rw [flat_sh, allflat_sh, shs_map, List.any_map]
  congr 3; funext y; exact feq_sh y x
theorem keyOf_sh (x : D) : keyOf (x.sh c k) = keyOf x := by cases x <;> rfl
theorem kval_sh (kvs : List (Ky × D)) (q : Ky) : kval (shk c k kvs) q = (kval kvs q).map (D.sh c k) := by
  unfold kval shk
  rw [List.find?_map, Option.map_map, Option.map_map]; rfl
theorem kput_sh (kvs : List (Ky × D)) (q : Ky) (v : D) : kput (shk c k kvs) q (v.sh c k) = shk c k (kput kvs q v) := by
  unfold kput shk
  rw [List.any_map]
  show (if (kvs.any fun kv => decide (kv.1 = q)) = true then _ else _) = _
  split
  · rw [List.map_map, List.map_map]
    congr 1; funext a
    simp only [Function.comp]
    split <;> rfl
  · rw [List.map_append]; rfl
theorem shk_len (kvs : List (Ky × D)) : (shk c k kvs).length = kvs.length := by unfold shk; rw [List.length_map]
theorem kmerge_sh (more : List (Ky × D)) : ∀ kvs : List (Ky × D), kmerge (shk c k kvs) (shk c k more) = shk c k (kmerge kvs more) := by
  induction more with
  | nil => intro kvs; rfl
  | cons a r ih => intro kvs; show kmerge (kput (shk c k kvs) a.1 (a.2.sh c k)) (shk c k r) = _; rw [kput_sh, ih]; rfl
theorem memD_sh {s : Stt} (hc : c ≤ s.length) (x y : D) : memD (ins c H s) (x.sh c H.length) (y.sh c H.length) = memD s x y := by
  cases y with
  | str b => cases x <;> rfl
  | tup ys => exact inSeq_sh x ys
  | ref l =>
    unfold memD
    simp only [D.sh]
    rw [ins_get hc]
    cases s[l]? with
    | none => rfl
    | some o => cases o with
      | dct kvs =>
        show (keyOf _).map _ = (keyOf x).map _
        rw [keyOf_sh]
        congr 1; funext q
        show (kval (shk c H.length kvs) q).isSome = _
        rw [kval_sh, Option.isSome_map]
      | lst ys => exact inSeq_sh x ys
      | rol ys => exact inSeq_sh x ys
  | _ => rfl
theorem cmpD_sh {s : Stt} (hc : c ≤ s.length) (o : CO) (x y : D) : cmpD (ins c H s) o (x.sh c H.length) (y.sh c H.length) = cmpD s o x y := by
  cases o with
  | eq => exact eqD_sh hc x y
  | ne => exact congrArg (Option.map (!·)) (eqD_sh hc x y)
  | isin => exact memD_sh hc x y
  | notin => exact congrArg (Option.map (!·)) (memD_sh hc x y)
  | _ => cases x <;> cases y <;> rfl
theorem reps_sh (xs : List D) (i : Int) : D.shs c k (reps xs i) = reps (D.shs c k xs) i := by
  unfold reps
  rw [shs_map, shs_map, List.map_flatten, List.map_replicate]
theorem shs_app (xs ys : List D) : D.shs c k (xs ++ ys) = D.shs c k xs ++ D.shs c k ys := by rw [shs_map, shs_map, shs_map, List.map_append]
theorem binD_sim {s : Stt} (hc : c ≤ s.length) (o : BO) (x y : D) : Sim c H (binD s o x y) (binD (ins c H s) o (x.sh c H.length) (y.sh c H.length)) := by
  cases o with
  | add =>
    cases x <;> cases y <;> first | trivial | exact ⟨rfl, hc⟩ | exact Sim.chk id ⟨rfl, hc⟩ | skip
    · rename_i xs ys
      refine Sim.chk (fun h => by rw [shs_len, shs_len]; exact h) ⟨?_, hc⟩
      rw [← shs_app]; rfl
    · rename_i a b
      unfold binD
      simp only [D.sh]
      rw [ins_get hc, ins_get hc]
      cases s[a]? with
      | none => trivial
      | some o => cases s[b]? with
        | none => cases o <;> trivial
        | some p =>
          cases o <;> cases p <;> first | trivial | skip
          rename_i u v
          refine Sim.chk (fun h => by rw [shs_len, shs_len]; exact h) ?_
          have := Sim.new (H := H) hc (.lst (u ++ v))
          simp only [Ob.sh, shs_app] at this
          exact this
  | mul =>
    cases x <;> cases y <;> first | trivial | exact ⟨rfl, hc⟩ | exact Sim.chk id ⟨rfl, hc⟩ | skip
    · rename_i a j
      unfold binD
      simp only [D.sh]
      rw [ins_get hc]
      cases s[a]? with
      | none => trivial
      | some o =>
        cases o <;> first | trivial | skip
        rename_i u
        refine Sim.chk (fun h => by rw [shs_len]; exact h) ?_
        have := Sim.new (H := H) hc (.lst (reps u j))
        simp only [Ob.sh, reps_sh] at this
        exact this
  | _ => cases x <;> cases y <;> first | trivial | exact ⟨rfl, hc⟩ | exact Sim.chk id ⟨rfl, hc⟩
theorem atI_sh (xs : List D) (i : Int) : atI (D.shs c k xs) i = (atI xs i).map (D.sh c k) := by
  unfold atI
  rw [shs_len]
  cases ixN xs.length i with
  | none => rfl
  | some j => show (D.shs c k xs)[j]? = _; rw [shs_map, List.getElem?_map]; rfl
theorem idxD_sh {s : Stt} (hc : c ≤ s.length) (x y : D) : idxD (ins c H s) (x.sh c H.length) (y.sh c H.length) = (idxD s x y).map (D.sh c H.length) := by
  cases x with
  | tup xs => cases y <;> first | rfl | exact atI_sh _ _
  | str b => 
    cases y <;> first | rfl | skip
    rename_i i
    show (atI b i).map _ = ((atI b i).map _).map _
    cases atI b i <;> rfl
  | ref l =>
    unfold idxD
    simp only [D.sh]
    rw [ins_get hc]
    cases s[l]? with
    | none => rfl
    | some o => cases o with
      | dct kvs =>
        show (keyOf _).bind _ = ((keyOf y).bind _).map _
        rw [keyOf_sh]
        cases keyOf y with
        | none => rfl
        | some q => exact kval_sh kvs q
      | lst ys => cases y <;> first | rfl | exact atI_sh _ _
      | rol ys => cases y <;> first | rfl | exact atI_sh _ _
  | _ => cases y <;> rfl
theorem cut_sh (xs : List D) (lo hi : Option Int) : D.shs c k (cut xs lo hi) = cut (D.shs c k xs) lo hi := by
  unfold cut
  rw [shs_len, shs_map, shs_map, List.map_take, List.map_drop]
theorem slcD_sim {s : Stt} (hc : c ≤ s.length) (x : D) (lo hi : Option Int) : Sim c H (slcD s x lo hi) (slcD (ins c H s) (x.sh c H.length) lo hi) := by
  cases x with
  | tup xs =>
    refine ⟨?_, hc⟩
    show R.ok (D.tup (cut (D.shs c H.length xs) lo hi)) _ = _
    rw [← cut_sh]; rfl
  | str b => exact ⟨rfl, hc⟩
  | ref l =>
    unfold slcD
    simp only [D.sh]
    rw [lget_sh hc]
    cases lget s l with
    | none => trivial
    | some xs =>
      have := Sim.new (H := H) hc (.lst (cut xs lo hi))
      simp only [Ob.sh, cut_sh] at this
      exact this
  | _ => trivial
theorem revD_sim {s : Stt} (hc : c ≤ s.length) (x : D) : Sim c H (revD s x) (revD (ins c H s) (x.sh c H.length)) := by
  cases x with
  | str b => exact ⟨rfl, hc⟩
  | ref l =>
    unfold revD
    simp only [D.sh]
    rw [lget_sh hc]
    cases lget s l with
    | none => trivial
    | some xs =>
      have := Sim.new (H := H) hc (.lst xs.reverse)
      simp only [Ob.sh, shs_map, List.map_reverse] at this
      simp only [Option.map, shs_map]
      exact this
  | _ => trivial
theorem dints_sh (xs : List D) : dints (D.shs c k xs) = dints xs := by
  induction xs with
  | nil => rfl
  | cons x xs ih => cases x <;> first | rfl | (show (dints (D.shs c k xs)).map _ = _; rw [ih]; rfl)
theorem dstrs_sh (xs : List D) : dstrs (D.shs c k xs) = dstrs xs := by
  induction xs with
  | nil => rfl
  | cons x xs ih => cases x <;> first | rfl | (show (dstrs (D.shs c k xs)).map _ = _; rw [ih]; rfl)
theorem dbls_sh (xs : List D) : dbls (D.shs c k xs) = dbls xs := by
  induction xs with
  | nil => rfl
  | cons x xs ih => cases x <;> first | rfl | (show (dbls (D.shs c k xs)).map _ = _; rw [ih]; rfl)
theorem b1D_sh {s : Stt} (hc : c ≤ s.length) (b : B1) (x : D) : b1D (ins c H s) b (x.sh c H.length) = (b1D s b x).map (D.sh c H.length) := by
  cases b with
  | len =>
    cases x with
    | tup xs => show some (D.int _) = some (D.int _); rw [shs_len]
    | ref l =>
      unfold b1D
      simp only [D.sh]
      rw [ins_get hc]
      cases s[l]? with
      | none => rfl
      | some o => cases o with
        | dct kvs => show some (D.int _) = some (D.int _); rw [shk_len]
        | lst ys => show some (D.int _) = some (D.int _); rw [shs_len]
        | rol ys => show some (D.int _) = some (D.int _); rw [shs_len]
    | _ => rfl
  | ord =>
    cases x with
    | str q => match q with
      | [] => rfl
      | [_] => rfl
      | _ :: _ :: _ => rfl
    | _ => rfl
  | _ => cases x <;> rfl
theorem ints_sh (ns : List Int) : D.shs c k (ns.map .int) = ns.map .int := by rw [shs_map, List.map_map]; rfl
theorem strs_sh (ns : List (List Nat)) : D.shs c k (ns.map .str) = ns.map .str := by rw [shs_map, List.map_map]; rfl
theorem bsD_sim {s : Stt} (hc : c ≤ s.length) (b : BS) (q : Sq) : Sim c H (bsD s b q) (bsD (ins c H s) b (q.sh c H.length)) := by
  cases b with
  | tuple => cases q <;> first | trivial | exact ⟨rfl, hc⟩
  | list => cases q <;> first | trivial | exact Sim.new hc (.lst _)
  | any =>
    cases q <;> first | trivial | skip
    rename_i xs
    show Sim c H ((ok? (dbls xs) s).bind _) ((ok? (dbls (D.shs _ _ xs)) _).bind _)
    rw [dbls_sh]
    cases dbls xs with
    | none => trivial
    | some v => exact ⟨rfl, hc⟩
  | all =>
    cases q <;> first | trivial | skip
    rename_i xs
    show Sim c H ((ok? (dbls xs) s).bind _) ((ok? (dbls (D.shs _ _ xs)) _).bind _)
    rw [dbls_sh]
    cases dbls xs with
    | none => trivial
    | some v => exact ⟨rfl, hc⟩
  | sum =>
    cases q <;> first | trivial | skip
    rename_i xs
    show Sim c H ((ok? (dints xs) s).bind _) ((ok? (dints (D.shs _ _ xs)) _).bind _)
    rw [dints_sh]
    cases dints xs with
    | none => trivial
    | some v => exact ⟨rfl, hc⟩
  | sorted =>
    cases q with
    | t xs => trivial
    | l xs =>
      unfold bsD
      simp only [Sq.sh]
      rw [dints_sh, dstrs_sh]
      cases dints xs with
      | some ns => 
        have := Sim.new (H := H) hc (.lst ((sortI ns).map .int))
        simp only [Ob.sh, ints_sh] at this
        exact this
      | none => cases dstrs xs with
        | none => trivial
        | some ns =>
          have := Sim.new (H := H) hc (.lst ((sortS ns).map .str))
          simp only [Ob.sh, strs_sh] at this
          exact this
    | s x =>
      have := Sim.new (H := H) hc (.lst ((sortS (x.map fun c => [c])).map .str))
      simp only [Ob.sh, strs_sh] at this
      exact this
  | sortedSet =>
    cases q <;> first | trivial | skip
    rename_i xs
    unfold bsD
    simp only [Sq.sh]
    rw [dints_sh]
    cases dints xs with
    | none => trivial
    | some ns =>
      have := Sim.new (H := H) hc (.lst ((sortI (dedI ns)).map .int))
      simp only [Ob.sh, ints_sh] at this
      exact Sim.chk id this
  | _ => trivial
theorem tyIs_sh {s : Stt} (hc : c ≤ s.length) (d : D) (t : Ty) : tyIs (ins c H s) (d.sh c H.length) t = tyIs s d t := by
  cases d with
  | ref l =>
    unfold tyIs
    simp only [D.sh]
    rw [ins_get hc]
    cases s[l]? with
    | none => rfl
    | some o => cases o <;> rfl
  | _ => cases t <;> rfl
theorem tysIs_sh {s : Stt} (hc : c ≤ s.length) (d : D) (ts : List Ty) : tysIs (ins c H s) (d.sh c H.length) ts = tysIs s d ts := by
  induction ts with
  | nil => rfl
  | cons t r ih => rw [tysIs, tysIs, tyIs_sh hc, ih]
end Lk

end
section
set_option linter.all false
set_option maxRecDepth 100000
namespace Lk
open PySem L2
variable {c : Nat} {H : Stt} {k : Nat}
def shE (c k : Nat) (e : Ev) : Ev := e.map (Option.map (D.sh c k))
theorem shE_get (e : Ev) (i : Nat) : (shE c k e)[i]? = (e[i]?).map (Option.map (D.sh c k)) := by unfold shE; rw [List.getElem?_map]
theorem shE_set (e : Ev) (i : Nat) (o : Option D) : shE c k (e.set i o) = (shE c k e).set i (o.map (D.sh c k)) := by unfold shE; rw [List.map_set]
theorem shE_len (e : Ev) : (shE c k e).length = e.length := by unfold shE; rw [List.length_map]
theorem wipeE_sh (e : Ev) (vs : List Nat) : wipeE (shE c k e) vs = shE c k (wipeE e vs) := by
  induction vs with
  | nil => rfl
  | cons v vs ih => rw [wipeE, wipeE, ih, shE_set]; rfl
theorem setTg_sh (t : Tg) : ∀ (d : D) (e : Ev), setTg t (d.sh c k) (shE c k e) = (setTg t d e).map (shE c k) := by
  induction t with
  | var i => intro d e; show some _ = some _; rw [shE_set]; rfl
  | nil =>
    intro d e
    cases d with
    | tup xs => cases xs <;> rfl
    | _ => rfl
  | cons a r iha ihr =>
    intro d e
    cases d with
    | tup xs =>
      cases xs with
      | nil => rfl
      | cons x xs =>
        show (setTg a (x.sh c k) (shE c k e)).bind _ = ((setTg a x e).bind _).map _
        rw [iha]
        cases setTg a x e with
        | none => rfl
        | some e => exact ihr (.tup xs) e
    | _ => rfl
theorem setMany_sh (is : List Nat) : ∀ (ds : List D) (e : Ev), setMany is (D.shs c k ds) (shE c k e) = (setMany is ds e).map (shE c k) := by
  induction is with
  | nil => intro ds e; cases ds <;> rfl
  | cons i is ih =>
    intro ds e
    cases ds with
    | nil => rfl
    | cons d ds => show setMany is (D.shs c k ds) _ = (setMany is ds (e.set i (some d))).map _; rw [← ih, shE_set]; rfl
theorem enumD_sh (xs : List D) : ∀ i, D.shs c k (enumD i xs) = enumD i (D.shs c k xs) := by
  induction xs with
  | nil => intro i; rfl
  | cons x xs ih => intro i; show _ :: D.shs c k (enumD (i + 1) xs) = _; rw [ih]; rfl
theorem noS_sh (d : D) : (d.sh c k).noS = d.noS := by
  cases d with
  | tup xs => show (dstrs (D.shs c k xs)).isNone = (dstrs xs).isNone; rw [dstrs_sh]
  | _ => rfl
theorem allS_sh (xs : List D) : (D.shs c k xs).all D.noS = xs.all D.noS := by
  rw [shs_map, List.all_map]; congr 1; funext d; exact noS_sh d
theorem zipD_sh (xs : List D) : ∀ ys, D.shs c k (zipD xs ys) = zipD (D.shs c k xs) (D.shs c k ys) := by
  induction xs with
  | nil => intro ys; rfl
  | cons x xs ih => intro ys; cases ys with
    | nil => rfl
    | cons y ys => show _ :: D.shs c k (zipD xs ys) = _; rw [ih]; rfl
theorem rngL_sh (st : Int) (n : Nat) : ∀ lo, D.shs c k (rngL lo st n) = rngL lo st n := by
  induction n with
  | zero => intro lo; rfl
  | succ n ih => intro lo; show _ :: D.shs c k (rngL _ st n) = _; rw [ih]; rfl
theorem shs_rev (xs : List D) : D.shs c k xs.reverse = (D.shs c k xs).reverse := by rw [shs_map, shs_map, List.map_reverse]
theorem gdOf_sh (d : D) (q : Sq) : gdOf (d.sh c k) (q.sh c k) = shG c k (gdOf d q) := by cases d <;> cases q <;> rfl
theorem stand_sh {s : Stt} (hc : c ≤ s.length) (g : Gd) (h : g.stand s) : Gd.stand (ins c H s) (shG c H.length g) := by
  induction g with
  | nil => trivial
  | cons a r ih => exact ⟨by rw [lget_sh hc, h.1]; rfl, ih h.2⟩
theorem Sim.guard {α : Type} [Sh α] {r1 r2 : R α} {s : Stt} (hc : c ≤ s.length) (g : Gd) (h : Sim c H r1 r2) : Sim c H (guard s g r1) (guard (ins c H s) (shG c H.length g) r2) := by
  unfold Lk.guard
  by_cases q : g.stand s
  · rw [if_pos q, if_pos (stand_sh hc g q)]; exact h
  · rw [if_neg q]; trivial
theorem loopL_sim {g : Gd} {f1 f2 : D → Stt → R (Option D)} (hf : ∀ d s, c ≤ s.length → Sim c H (f1 d s) (f2 (d.sh c H.length) (ins c H s))) : ∀ (ds : List D) (s : Stt), c ≤ s.length → Sim c H (loopL g f1 ds s) (loopL (shG c H.length g) f2 (D.shs c H.length ds) (ins c H s)) := by
  intro ds
  induction ds with
  | nil => intro s hc; exact Sim.guard hc g ⟨rfl, hc⟩
  | cons d ds ih =>
    intro s hc
    refine Sim.guard hc g ((hf d s hc).bind fun o s hc => (ih s hc).bind fun r s hc => ⟨?_, hc⟩)
    cases o <;> rfl
theorem firstAt_sh (x : D) (xs : List D) : ∀ i, firstAt (x.sh c k) i (D.shs c k xs) = firstAt x i xs := by
  induction xs with
  | nil => intro i; rfl
  | cons y xs ih => intro i; show (if _ then _ else _) = _; rw [feq_sh, ih]; rfl
theorem m0D_sim {s : Stt} (hc : c ≤ s.length) (m : M0) (x : D) : Sim c H (m0D s m x) (m0D (ins c H s) m (x.sh c H.length)) := by
  cases m with
  | pop =>
    cases x with
    | ref l =>
      unfold m0D
      simp only [D.sh]
      rw [ins_get hc]
      cases s[l]? with
      | none => trivial
      | some o =>
        cases o with
        | lst xs =>
          simp only [Option.map, Ob.sh]
          rw [shs_len, shs_map, List.getElem?_map]
          cases xs[xs.length - 1]? with
          | none => trivial
          | some y =>
            refine ⟨?_, by simpa using hc⟩
            rw [ins_set hc, Ob.sh, shs_map, List.map_dropLast]; rfl
        | _ => trivial
    | _ => trivial
  | upper => cases x <;> first | trivial | exact Sim.chk id ⟨rfl, hc⟩
  | _ => trivial
theorem rcv_sh {s : Stt} (hc : c ≤ s.length) (m : M1) (x : D) : rcv (ins c H s) m (x.sh c H.length) = rcv s m x := by
  cases m <;> cases x <;> first | rfl | (show (lget _ _).isSome = (lget _ _).isSome; rw [lget_sh hc, Option.isSome_map]) | (show (dstrs (D.shs _ _ _)).isSome = (dstrs _).isSome; rw [dstrs_sh])
theorem m1D_sim {s : Stt} (hc : c ≤ s.length) (m : M1) (x y : D) : Sim c H (m1D s m x y) (m1D (ins c H s) m (x.sh c H.length) (y.sh c H.length)) := by
  cases m with
  | append =>
    cases x with
    | ref l =>
      unfold m1D
      simp only [D.sh]
      rw [ins_get hc]
      cases s[l]? with
      | none => trivial
      | some o =>
        cases o with
        | lst xs =>
          refine Sim.chk (fun h => by rw [shs_len]; exact h) ⟨?_, by simpa using hc⟩
          rw [ins_set hc, Ob.sh, shs_app]; rfl
        | _ => trivial
    | _ => trivial
  | index =>
    cases x with
    | ref l =>
      unfold m1D
      simp only [D.sh]
      rw [lget_sh hc]
      cases lget s l with
      | none => trivial
      | some xs =>
        simp only [Option.map]
        rw [flat_sh, allflat_sh, firstAt_sh]
        split
        · cases firstAt y 0 xs with
          | none => trivial
          | some i => exact ⟨rfl, hc⟩
        · trivial
    | tup xs =>
      cases y with
      | str y =>
        unfold m1D
        simp only [D.sh]
        rw [dstrs_sh]
        cases dstrs xs with
        | none => trivial
        | some _ =>
          have e := firstAt_sh (c := c) (k := H.length) (.str y) xs 0
          simp only [D.sh] at e
          show Sim c H (match firstAt (.str y) 0 xs with | some i => _ | none => _) (match firstAt (.str y) 0 (D.shs c H.length xs) with | some i => _ | none => _)
          rw [e]
          cases firstAt (.str y) 0 xs with
          | none => trivial
          | some i => exact ⟨rfl, hc⟩
      | _ => trivial
    | _ => trivial
  | _ => trivial
theorem gK_sh (m l : Nat) (pm : List Nat) (us ws : List D) : gK m l pm (D.shs c k us) (D.shs c k ws) = D.shs c k (gK m l pm us ws) := by
  unfold gK
  rw [shs_len, shs_len]
  split
  · rw [shs_map, shs_map, shs_map, ← List.map_append, List.map_filterMap]
    congr 1; funext i; rw [List.getElem?_map]
  · rfl
theorem shk_zip (ks : List Ky) (xs : List D) : ks.zip (D.shs c k xs) = shk c k (ks.zip xs) := by
  unfold shk; rw [shs_map, List.zip_map_right]; rfl
theorem lookup_sh (f : List Nat) (fs : List (List Nat × D)) : (fs.map fun q => (q.1, q.2.sh c k)).lookup f = (fs.lookup f).map (D.sh c k) := by
  induction fs with
  | nil => rfl
  | cons a r ih => obtain ⟨a, b⟩ := a; simp only [List.map, List.lookup]; split <;> first | rfl | exact ih
mutual
theorem blw_sh {n : Nat} (h : c ≤ n) : ∀ d : D, (d.sh c k).blw (n + k) = d.blw n
  | .non => rfl
  | .bl _ => rfl
  | .int _ => rfl
  | .str _ => rfl
  | .ref l => by
    show decide _ = decide _
    exact decide_eq_decide.2 (shl_lt l n h)
  | .tup xs => blws_sh h xs
theorem blws_sh {n : Nat} (h : c ≤ n) : ∀ ds : List D, D.blws (n + k) (D.shs c k ds) = D.blws n ds
  | [] => rfl
  | x :: xs => by rw [D.shs, D.blws, D.blws, blw_sh h x, blws_sh h xs]
end
mutual
theorem sh_cl : ∀ d : D, d.blw c = true → d.sh c k = d
  | .non, _ => rfl
  | .bl _, _ => rfl
  | .int _, _ => rfl
  | .str _, _ => rfl
  | .ref l, h => by
    have h : l < c := of_decide_eq_true h
    rw [D.sh, shl, if_pos h]
  | .tup xs, h => by rw [D.sh, shs_cl xs h]
theorem shs_cl : ∀ ds : List D, D.blws c ds = true → D.shs c k ds = ds
  | [], _ => rfl
  | x :: xs, h => by
    have h := Bool.and_eq_true_iff.1 h
    rw [D.shs, sh_cl x h.1, shs_cl xs h.2]
end
mutual
theorem blw_mono {n m : Nat} (h : n ≤ m) : ∀ d : D, d.blw n = true → d.blw m = true
  | .non, _ => rfl
  | .bl _, _ => rfl
  | .int _, _ => rfl
  | .str _, _ => rfl
  | .ref l, q => by
    have q : l < n := of_decide_eq_true q
    exact decide_eq_true (by omega)
  | .tup xs, q => blws_mono h xs q
theorem blws_mono {n m : Nat} (h : n ≤ m) : ∀ ds : List D, D.blws n ds = true → D.blws m ds = true
  | [], _ => rfl
  | x :: xs, q => by
    have q := Bool.and_eq_true_iff.1 q
    rw [D.blws, blw_mono h x q.1, blws_mono h xs q.2]; rfl
end
def KSim (c : Nat) (H : Stt) (K : Cal) : Prop := ∀ f ds s, c ≤ s.length → Sim c H (K f ds s) (K f (D.shs c H.length ds) (ins c H s))
def xsh (c k : Nat) (xn : Option Xn) : Option Xn := xn.map (Xn.sh c k)
variable {K : Cal}
theorem yes_bind {α : Type} [Sh α] {s : Stt} {o : Option Bool} {f1 f2 : Bool → Stt → R α} (hc : c ≤ s.length) (hf : ∀ b s, c ≤ s.length → Sim c H (f1 b s) (f2 b (ins c H s))) : Sim c H ((ok? o s).bind f1) ((ok? o (ins c H s)).bind f2) :=
  Sim.bind (Sim.opt hc fun _ h => h) hf
theorem Sim.ite {α : Type} [Sh α] {b : Bool} {r1 r2 q1 q2 : R α} (h1 : Sim c H r1 r2) (h2 : Sim c H q1 q2) : Sim c H (if b = true then r1 else q1) (if b = true then r2 else q2) := by split <;> assumption
mutual
theorem iE_sim (hK : KSim c H K) (xn : Option Xn) : ∀ (x : C) (e : Ev) (s : Stt), c ≤ s.length → Sim c H (iE K xn x e s) (iE K (xsh c H.length xn) x (shE c H.length e) (ins c H s))
  | .var i, e, s, hc => by
    rw [iE, iE, shE_get]
    cases e[i]? with
    | none => trivial
    | some o => cases o with
      | none => trivial
      | some d => exact ⟨rfl, hc⟩
  | .non, e, s, hc => by rw [iE, iE]; exact ⟨rfl, hc⟩
  | .bl b, e, s, hc => by rw [iE, iE]; exact ⟨rfl, hc⟩
  | .int i, e, s, hc => by rw [iE, iE]; exact ⟨rfl, hc⟩
  | .str x, e, s, hc => by rw [iE, iE]; exact ⟨rfl, hc⟩
  | .cst d, e, s, hc => by
    rw [iE, iE]
    cases h : d.blw 0 with
    | false => trivial
    | true => exact ⟨by rw [show Sh.sh c H.length d = d from sh_cl d (blw_mono (Nat.zero_le _) d h)]; rfl, hc⟩
  | .bin o a b, e, s, hc => by
    rw [iE, iE]
    exact (iE_sim hK xn a e s hc).bind fun x s hc => (iE_sim hK xn b e s hc).bind fun y s hc => binD_sim hc o x y
  | .neg a, e, s, hc => by
    rw [iE, iE]
    refine (iE_sim hK xn a e s hc).bind fun x s hc => ?_
    cases x <;> first | trivial | exact ⟨rfl, hc⟩
  | .not a, e, s, hc => by
    rw [iE, iE]
    exact (iE_sim hK xn a e s hc).bind fun x s hc => by
      rw [show Sh.sh c H.length x = x.sh c H.length from rfl, truth_sh hc]
      exact yes_bind hc fun b s hc => ⟨rfl, hc⟩
  | .cmp o a b, e, s, hc => by
    rw [iE, iE]
    exact (iE_sim hK xn a e s hc).bind fun x s hc => (iE_sim hK xn b e s hc).bind fun y s hc => by
      rw [show Sh.sh c H.length x = x.sh c H.length from rfl, show Sh.sh c H.length y = y.sh c H.length from rfl, cmpD_sh hc]
      exact yes_bind hc fun b s hc => ⟨rfl, hc⟩
  | .chain o p a b x, e, s, hc => by
    rw [iE, iE]
    exact (iE_sim hK xn a e s hc).bind fun u s hc => (iE_sim hK xn b e s hc).bind fun y s hc => by
      rw [show Sh.sh c H.length u = u.sh c H.length from rfl, show Sh.sh c H.length y = y.sh c H.length from rfl, cmpD_sh hc]
      exact yes_bind hc fun t s hc => Sim.ite ((iE_sim hK xn x e s hc).bind fun z s hc => by
        rw [show Sh.sh c H.length z = z.sh c H.length from rfl, cmpD_sh hc]
        exact yes_bind hc fun b s hc => ⟨rfl, hc⟩) ⟨rfl, hc⟩
  | .and a b, e, s, hc => by
    rw [iE, iE]
    exact (iE_sim hK xn a e s hc).bind fun x s hc => by
      rw [show Sh.sh c H.length x = x.sh c H.length from rfl, truth_sh hc]
      exact yes_bind hc fun t s hc => Sim.ite (iE_sim hK xn b e s hc) ⟨rfl, hc⟩
  | .or a b, e, s, hc => by
    rw [iE, iE]
    exact (iE_sim hK xn a e s hc).bind fun x s hc => by
      rw [show Sh.sh c H.length x = x.sh c H.length from rfl, truth_sh hc]
      exact yes_bind hc fun t s hc => Sim.ite ⟨rfl, hc⟩ (iE_sim hK xn b e s hc)
  | .ite t a b, e, s, hc => by
    rw [iE, iE]
    exact (iT_sim hK xn t e s hc).bind fun x s hc => Sim.ite (iE_sim hK xn a e s hc) (iE_sim hK xn b e s hc)
  | .tup es, e, s, hc => by
    rw [iE, iE]
    exact (iA_sim hK xn es e s hc).bind fun xs s hc => Sim.chk (fun h => by rw [show (Sh.sh c H.length xs : List D).length = _ from shs_len xs]; exact h) ⟨rfl, hc⟩
  | .newl q, e, s, hc => by
    rw [iE, iE]
    exact (iQ_sim hK xn q e s hc).bind fun xs s hc => by
      have := Sim.new (H := H) hc (.lst xs.2.items)
      rw [Ob.sh, ← items_sh] at this
      exact this
  | .dct ks vs, e, s, hc => by
    rw [iE, iE]
    exact (iA_sim hK xn vs e s hc).bind fun xs s hc => Sim.chk (fun h => by rw [show (Sh.sh c H.length xs : List D).length = _ from shs_len xs]; exact h) (by
      have := Sim.new (H := H) hc (.dct (kmerge [] (ks.zip xs)))
      rw [Ob.sh, ← kmerge_sh, ← shk_zip] at this
      exact this)
  | .idx a i, e, s, hc => by
    rw [iE, iE]
    exact (iE_sim hK xn a e s hc).bind fun x s hc => (iE_sim hK xn i e s hc).bind fun y s hc => Sim.opt hc fun d h => by
      rw [show Sh.sh c H.length x = x.sh c H.length from rfl, show Sh.sh c H.length y = y.sh c H.length from rfl, idxD_sh hc, h]; rfl
  | .slc a lo hi, e, s, hc => by
    rw [iE, iE]
    exact (iE_sim hK xn a e s hc).bind fun x s hc => (iP_sim hK xn lo e s hc).bind fun l s hc => (iP_sim hK xn hi e s hc).bind fun h s hc => slcD_sim hc x l h
  | .rev a, e, s, hc => by
    rw [iE, iE]
    exact (iE_sim hK xn a e s hc).bind fun x s hc => revD_sim hc x
  | .call f es, e, s, hc => by
    rw [iE, iE]
    exact (iA_sim hK xn es e s hc).bind fun xs s hc => hK f xs s hc
  | .callk f m l pm es ks, e, s, hc => by
    rw [iE, iE]
    exact (iA_sim hK xn es e s hc).bind fun xs s hc => (iA_sim hK xn ks e s hc).bind fun ys s hc => by
      rw [show Sh.sh c H.length xs = D.shs c H.length xs from rfl, show Sh.sh c H.length ys = D.shs c H.length ys from rfl, gK_sh]
      exact hK f _ s hc
  | .b1 b a, e, s, hc => by
    rw [iE, iE]
    exact (iE_sim hK xn a e s hc).bind fun x s hc => Sim.opt hc fun d h => by
      rw [show Sh.sh c H.length x = x.sh c H.length from rfl, b1D_sh hc, h]; rfl
  | .bs b q, e, s, hc => by
    rw [iE, iE]
    exact (iQ_sim hK xn q e s hc).bind fun xs s hc => bsD_sim hc b xs.2
  | .min2 a b, e, s, hc => by
    rw [iE, iE]
    exact (iE_sim hK xn a e s hc).bind fun x s hc => (iE_sim hK xn b e s hc).bind fun y s hc => by cases x <;> cases y <;> first | trivial | exact ⟨rfl, hc⟩
  | .max2 a b, e, s, hc => by
    rw [iE, iE]
    exact (iE_sim hK xn a e s hc).bind fun x s hc => (iE_sim hK xn b e s hc).bind fun y s hc => by cases x <;> cases y <;> first | trivial | exact ⟨rfl, hc⟩
  | .join a q, e, s, hc => by
    rw [iE, iE]
    refine (iE_sim hK xn a e s hc).bind fun x s hc => ?_
    cases x with
    | str sep =>
      refine (iQ_sim hK xn q e s hc).bind fun ys s hc => ?_
      obtain ⟨d, ys⟩ := ys
      cases ys with
      | l ys =>
        show Sim c H ((ok? (dstrs ys) s).bind _) ((ok? (dstrs (D.shs _ _ ys)) _).bind _)
        rw [dstrs_sh]
        cases dstrs ys with
        | none => trivial
        | some v => exact Sim.chk id ⟨rfl, hc⟩
      | t ys =>
        show Sim c H ((ok? (dstrs ys) s).bind _) ((ok? (dstrs (D.shs _ _ ys)) _).bind _)
        rw [dstrs_sh]
        cases dstrs ys with
        | none => trivial
        | some v => exact Sim.chk id ⟨rfl, hc⟩
      | s _ => trivial
    | _ => trivial
  | .m0 m o, e, s, hc => by
    rw [iE, iE]
    exact (iE_sim hK xn o e s hc).bind fun x s hc => m0D_sim hc m x
  | .m1 m o a, e, s, hc => by
    rw [iE, iE]
    exact (iE_sim hK xn o e s hc).bind fun x s hc => Sim.chk (fun h => by rw [show Sh.sh c H.length x = x.sh c H.length from rfl, rcv_sh hc]; exact h) ((iE_sim hK xn a e s hc).bind fun y s hc => m1D_sim hc m x y)
  | .m2 m o a b, e, s, hc => by rw [iE]; trivial
  | .isi a ts, e, s, hc => by
    rw [iE, iE]
    exact (iE_sim hK xn a e s hc).bind fun x s hc => by
      rw [show Sh.sh c H.length x = x.sh c H.length from rfl, tysIs_sh hc]
      exact yes_bind hc fun b s hc => ⟨rfl, hc⟩
  | .xfld f, e, s, hc => by
    cases xn with
    | none => rw [iE]; trivial
    | some x =>
      rw [iE, show xsh c H.length (some x) = some (x.sh c H.length) from rfl, iE]
      refine Sim.opt hc fun d h => ?_
      show (List.map _ _).lookup f = _
      rw [lookup_sh, h]; rfl
  | .xis cs, e, s, hc => by
    cases xn with
    | none => rw [iE]; trivial
    | some x => rw [iE, show xsh c H.length (some x) = some (x.sh c H.length) from rfl, iE]; exact ⟨rfl, hc⟩
theorem iT_sim (hK : KSim c H K) (xn : Option Xn) : ∀ (x : T) (e : Ev) (s : Stt), c ≤ s.length → Sim c H (iT K xn x e s) (iT K (xsh c H.length xn) x (shE c H.length e) (ins c H s))
  | .val a, e, s, hc => by
    rw [iT, iT]
    exact (iE_sim hK xn a e s hc).bind fun x s hc => Sim.opt hc fun d h => by
      rw [show Sh.sh c H.length x = x.sh c H.length from rfl, truth_sh hc, h]; rfl
  | .not a, e, s, hc => by
    rw [iT, iT]
    exact (iT_sim hK xn a e s hc).bind fun x s hc => ⟨rfl, hc⟩
  | .and a b, e, s, hc => by
    rw [iT, iT]
    exact (iT_sim hK xn a e s hc).bind fun x s hc => Sim.ite (iT_sim hK xn b e s hc) ⟨rfl, hc⟩
  | .or a b, e, s, hc => by
    rw [iT, iT]
    exact (iT_sim hK xn a e s hc).bind fun x s hc => Sim.ite ⟨rfl, hc⟩ (iT_sim hK xn b e s hc)
  | .ite t a b, e, s, hc => by
    rw [iT, iT]
    exact (iT_sim hK xn t e s hc).bind fun x s hc => Sim.ite (iT_sim hK xn a e s hc) (iT_sim hK xn b e s hc)
  | .yes, e, s, hc => by rw [iT, iT]; exact ⟨rfl, hc⟩
theorem iP_sim (hK : KSim c H K) (xn : Option Xn) : ∀ (x : P) (e : Ev) (s : Stt), c ≤ s.length → Sim c H (iP K xn x e s) (iP K (xsh c H.length xn) x (shE c H.length e) (ins c H s))
  | .none, e, s, hc => by rw [iP, iP]; exact ⟨rfl, hc⟩
  | .some a, e, s, hc => by
    rw [iP, iP]
    refine (iE_sim hK xn a e s hc).bind fun x s hc => ?_
    cases x <;> first | trivial | exact ⟨rfl, hc⟩
theorem iA_sim (hK : KSim c H K) (xn : Option Xn) : ∀ (x : CL) (e : Ev) (s : Stt), c ≤ s.length → Sim c H (iA K xn x e s) (iA K (xsh c H.length xn) x (shE c H.length e) (ins c H s))
  | .nil, e, s, hc => by rw [iA, iA]; exact ⟨rfl, hc⟩
  | .cons a r, e, s, hc => by
    rw [iA, iA]
    exact (iE_sim hK xn a e s hc).bind fun x s hc => (iA_sim hK xn r e s hc).bind fun xs s hc => ⟨rfl, hc⟩
theorem iQ_sim (hK : KSim c H K) (xn : Option Xn) : ∀ (x : SQ) (e : Ev) (s : Stt), c ≤ s.length → Sim c H (iQ K xn x e s) (iQ K (xsh c H.length xn) x (shE c H.length e) (ins c H s))
  | .comp vs tg it cd el, e, s, hc => by
    rw [iQ, iQ]
    refine Sim.bind (α := List D) ((iI_sim hK xn it e s hc).bind fun q s hc => Sim.chk (fun h => by rw [show (Sh.sh c H.length q : List D × Gd).1.length = _ from shs_len q.1]; exact h) (Sim.quiet (loopL_sim (fun d s hc => ?_) q.1 s hc))) fun xs s hc => ⟨rfl, hc⟩
    rw [wipeE_sh, setTg_sh]
    cases setTg tg d (wipeE e vs) with
    | none => trivial
    | some e => exact (iT_sim hK xn cd e s hc).bind fun b s hc => Sim.ite ((iE_sim hK xn el e s hc).bind fun x s hc => ⟨rfl, hc⟩) ⟨rfl, hc⟩
  | .lst es, e, s, hc => by
    rw [iQ, iQ]
    exact (iA_sim hK xn es e s hc).bind fun xs s hc => Sim.chk (fun h => by rw [show (Sh.sh c H.length xs : List D).length = _ from shs_len xs]; exact h) ⟨rfl, hc⟩
  | .val a, e, s, hc => by
    rw [iQ, iQ]
    exact (iE_sim hK xn a e s hc).bind fun x s hc => by
      refine Sim.bind (α := Sq) (Sim.opt hc fun d h => ?_) fun q s hc => ⟨rfl, hc⟩
      rw [show Sh.sh c H.length x = x.sh c H.length from rfl, seqOf_sh hc, h]; rfl
theorem iI_sim (hK : KSim c H K) (xn : Option Xn) : ∀ (x : IT) (e : Ev) (s : Stt), c ≤ s.length → Sim c H (iI K xn x e s) (iI K (xsh c H.length xn) x (shE c H.length e) (ins c H s))
  | .rng1 a, e, s, hc => by
    rw [iI, iI]
    refine (iE_sim hK xn a e s hc).bind fun x s hc => ?_
    cases x <;> first | trivial | skip
    exact Sim.chk id ⟨by rw [show Sh.sh c H.length ((rngL 0 1 _, []) : List D × Gd) = (D.shs c H.length (rngL 0 1 _), []) from rfl, rngL_sh], hc⟩
  | .rng2 a b, e, s, hc => by
    rw [iI, iI]
    refine (iE_sim hK xn a e s hc).bind fun x s hc => (iE_sim hK xn b e s hc).bind fun y s hc => ?_
    cases x <;> cases y <;> first | trivial | skip
    exact Sim.chk id ⟨by rw [show Sh.sh c H.length ((rngL _ 1 _, []) : List D × Gd) = (D.shs c H.length (rngL _ 1 _), []) from rfl, rngL_sh], hc⟩
  | .rng3 a b d, e, s, hc => by rw [iI]; trivial
  | .enm q, e, s, hc => by
    rw [iI, iI]
    exact (iQ_sim hK xn q e s hc).bind fun q s hc => ⟨by
      show R.ok (enumD 0 (q.2.sh c H.length).items, gdOf (q.1.sh c H.length) (q.2.sh c H.length)) _ = _
      rw [items_sh, gdOf_sh, ← enumD_sh]; rfl, hc⟩
  | .zip q r, e, s, hc => by
    rw [iI, iI]
    refine (iQ_sim hK xn q e s hc).bind fun q s hc => (iQ_sim hK xn r e s hc).bind fun r s hc => ?_
    obtain ⟨d1, q⟩ := q
    obtain ⟨d2, r⟩ := r
    cases q <;> cases r <;> first | trivial | skip
    · rename_i x y
      show Sim c H _ (guard (ins c H s) (gdOf (d1.sh c H.length) ((Sq.l x).sh c H.length)) (chk ((zipD (D.shs c H.length x) (D.shs c H.length y)).all D.noS) (R.ok (zipD (D.shs c H.length x) (D.shs c H.length y), gdOf (d1.sh c H.length) ((Sq.l x).sh c H.length) ++ gdOf (d2.sh c H.length) ((Sq.l y).sh c H.length)) _)))
      rw [gdOf_sh, gdOf_sh, ← zipD_sh, allS_sh]
      refine Sim.guard hc _ (Sim.chk id ⟨?_, hc⟩)
      show _ = R.ok (D.shs c H.length (zipD x y), shG c H.length (gdOf d1 (.l x) ++ gdOf d2 (.l y))) _
      rw [shG, shG, shG, List.map_append]
    · rename_i x y
      refine Sim.chk (fun h => by show (zipD (D.shs c H.length x) (D.shs c H.length y)).all D.noS = true; rw [← zipD_sh, allS_sh]; exact h) ⟨?_, hc⟩
      show R.ok (zipD (D.shs c H.length x) (D.shs c H.length y), _) _ = R.ok (D.shs c H.length (zipD x y), _) _
      rw [zipD_sh]; rfl
  | .rev q, e, s, hc => by
    rw [iI, iI]
    refine (iQ_sim hK xn q e s hc).bind fun q s hc => ?_
    obtain ⟨d, q⟩ := q
    cases q with
    | s _ => trivial
    | l x =>
      refine ⟨?_, hc⟩
      show R.ok ((Sq.sh c H.length (.l x)).items.reverse, gdOf (d.sh c H.length) (Sq.sh c H.length (.l x))) _ = _
      rw [items_sh, ← shs_rev, gdOf_sh]; rfl
    | t x =>
      refine ⟨?_, hc⟩
      show R.ok ((Sq.sh c H.length (.t x)).items.reverse, gdOf (d.sh c H.length) (Sq.sh c H.length (.t x))) _ = _
      rw [items_sh, ← shs_rev, gdOf_sh]; rfl
  | .itm _, e, s, hc => by rw [iI]; trivial
  | .val q, e, s, hc => by
    rw [iI, iI]
    exact (iQ_sim hK xn q e s hc).bind fun q s hc => ⟨by
      show R.ok ((q.2.sh c H.length).items, gdOf (q.1.sh c H.length) (q.2.sh c H.length)) _ = _
      rw [items_sh, gdOf_sh]; rfl, hc⟩
end
end Lk

end
section
set_option linter.all false
set_option maxRecDepth 100000
namespace Lk
open PySem L2
variable {c : Nat} {H : Stt} {k : Nat} {K : Cal}
def Fl.sh (c k : Nat) : Fl → Fl
  | .nx e => .nx (shE c k e)
  | .bk e => .bk (shE c k e)
  | .ct e => .ct (shE c k e)
  | .rt d => .rt (d.sh c k)
def SimS (c : Nat) (H : Stt) (r1 r2 : RS) : Prop := match r1 with
  | .ok f s => r2 = .ok (f.sh c H.length) (ins c H s) ∧ c ≤ s.length
  | .exc x e s => r2 = .exc (x.sh c H.length) (shE c H.length e) (ins c H s) ∧ c ≤ s.length
  | .err => True
theorem SimS.to {α : Type} [Sh α] {r1 r2 : R α} {e : Ev} {f1 f2 : α → Stt → RS} (h : Sim c H r1 r2) (hf : ∀ a s, c ≤ s.length → SimS c H (f1 a s) (f2 (Sh.sh c H.length a) (ins c H s))) : SimS c H (r1.to e f1) (r2.to (shE c H.length e) f2) := by
  cases r1 with
  | ok a s => obtain ⟨h1, h2⟩ := h; subst h1; exact hf a s h2
  | exc x s => obtain ⟨h1, h2⟩ := h; subst h1; exact ⟨rfl, h2⟩
  | err => trivial
theorem SimS.nxt {r1 r2 : RS} {f1 f2 : Ev → Stt → RS} (h : SimS c H r1 r2) (hf : ∀ e s, c ≤ s.length → SimS c H (f1 e s) (f2 (shE c H.length e) (ins c H s))) : SimS c H (r1.nxt f1) (r2.nxt f2) := by
  cases r1 with
  | ok a s =>
    obtain ⟨h1, h2⟩ := h; subst h1
    cases a <;> first | exact hf _ s h2 | exact ⟨rfl, h2⟩
  | exc x e s => obtain ⟨h1, h2⟩ := h; subst h1; exact ⟨rfl, h2⟩
  | err => trivial
theorem SimS.turn {r1 r2 : RS} {f1 f2 : Ev → Stt → RS} (h : SimS c H r1 r2) (hf : ∀ e s, c ≤ s.length → SimS c H (f1 e s) (f2 (shE c H.length e) (ins c H s))) : SimS c H (r1.turn f1) (r2.turn f2) := by
  cases r1 with
  | ok a s =>
    obtain ⟨h1, h2⟩ := h; subst h1
    cases a <;> first | exact hf _ s h2 | exact ⟨rfl, h2⟩
  | exc x e s => obtain ⟨h1, h2⟩ := h; subst h1; exact ⟨rfl, h2⟩
  | err => trivial
theorem SimS.hush {r1 r2 : RS} (h : SimS c H r1 r2) : SimS c H r1.hush r2.hush := by
  cases r1 with
  | ok a s =>
    obtain ⟨h1, h2⟩ := h; subst h1
    cases a <;> first | trivial | exact ⟨rfl, h2⟩
  | exc x e s => trivial
  | err => trivial
theorem SimS.ite {b : Bool} {r1 r2 q1 q2 : RS} (h1 : SimS c H r1 r2) (h2 : SimS c H q1 q2) : SimS c H (if b = true then r1 else q1) (if b = true then r2 else q2) := by split <;> assumption
theorem loopF_sim {g : Gd} {f1 f2 : D → Ev → Stt → RS} (hf : ∀ d e s, c ≤ s.length → SimS c H (f1 d e s) (f2 (d.sh c H.length) (shE c H.length e) (ins c H s))) : ∀ (ds : List D) (e : Ev) (s : Stt), c ≤ s.length → SimS c H (loopF g f1 ds e s) (loopF (shG c H.length g) f2 (D.shs c H.length ds) (shE c H.length e) (ins c H s)) := by
  intro ds
  induction ds with
  | nil =>
    intro e s hc
    unfold loopF
    by_cases q : g.stand s
    · rw [if_pos q]
      show SimS c H _ (if _ then _ else _)
      rw [if_pos (stand_sh hc g q)]; exact ⟨rfl, hc⟩
    · rw [if_neg q]; trivial
  | cons d ds ih =>
    intro e s hc
    show SimS c H (if _ then _ else _) (if _ then _ else _)
    by_cases q : g.stand s
    · rw [if_pos q, if_pos (stand_sh hc g q)]
      exact (hf d e s hc).turn ih
    · rw [if_neg q]; trivial
theorem loopW_sim {t1 t2 : Ev → Stt → R Bool} {b1 b2 : Ev → Stt → RS} (ht : ∀ e s, c ≤ s.length → Sim c H (t1 e s) (t2 (shE c H.length e) (ins c H s))) (hb : ∀ e s, c ≤ s.length → SimS c H (b1 e s) (b2 (shE c H.length e) (ins c H s))) : ∀ (n : Nat) (e : Ev) (s : Stt), c ≤ s.length → SimS c H (loopW t1 b1 n e s) (loopW t2 b2 n (shE c H.length e) (ins c H s)) := by
  intro n
  induction n with
  | zero => intro e s hc; trivial
  | succ n ih => intro e s hc; exact SimS.to (ht e s hc) fun t s hc => SimS.ite ((hb e s hc).turn ih) ⟨rfl, hc⟩
theorem putD_sh {s : Stt} (hc : c ≤ s.length) (x y v : D) : ∀ s', putD s x y v = some s' → putD (ins c H s) (x.sh c H.length) (y.sh c H.length) (v.sh c H.length) = some (ins c H s') ∧ c ≤ s'.length := by
  intro s' h
  cases x with
  | ref l =>
    unfold putD at h ⊢
    simp only [D.sh] at h ⊢
    rw [ins_get hc]
    cases hs : s[l]? with
    | none => rw [hs] at h; cases h
    | some o =>
      rw [hs] at h
      cases o with
      | lst xs =>
        cases y with
        | int i =>
          simp only [Option.map, Ob.sh, D.sh, shs_len] at h ⊢
          cases q : ixN xs.length i with
          | none => rw [q] at h; cases h
          | some j =>
            rw [q] at h; cases h
            refine ⟨?_, by simpa using hc⟩
            rw [ins_set hc, Ob.sh, shs_map, shs_map, List.map_set]
        | _ => cases h
      | rol xs => cases h
      | dct kvs =>
        simp only [Option.map, Ob.sh, keyOf_sh, shk_len] at h ⊢
        cases q : keyOf y with
        | none => rw [q] at h; cases h
        | some j =>
          rw [q] at h
          simp only at h ⊢
          split at h
          · cases h
            rename_i hl
            rw [if_pos hl, ins_set hc, Ob.sh, ← kput_sh]
            exact ⟨rfl, by simpa using hc⟩
          · cases h
  | _ => cases h
theorem dgetD_sh {s : Stt} (hc : c ≤ s.length) (x y : D) : dgetD (ins c H s) (x.sh c H.length) (y.sh c H.length) = (dgetD s x y).map (D.sh c H.length) := by
  cases x with
  | ref l =>
    unfold dgetD
    simp only [D.sh]
    rw [ins_get hc]
    cases s[l]? with
    | none => rfl
    | some o => cases o with
      | dct kvs =>
        show (keyOf _).bind _ = ((keyOf y).bind _).map _
        rw [keyOf_sh]
        cases keyOf y with
        | none => rfl
        | some q => exact kval_sh kvs q
      | _ => rfl
  | _ => rfl
theorem augD_sim {s : Stt} (hc : c ≤ s.length) (o : BO) (x y : D) : Sim c H (augD s o x y) (augD (ins c H s) o (x.sh c H.length) (y.sh c H.length)) := by
  cases x <;> cases y <;> first | trivial | skip
  · rename_i i j
    have g := binD_sim (H := H) hc o (.int i) (.int j)
    cases o <;> first | trivial | exact g
  · rename_i i j
    have g := binD_sim (H := H) hc o (.str i) (.str j)
    cases o <;> first | trivial | exact g
theorem iS_sim (hK : KSim c H K) : ∀ (x : S) (xn : Option Xn) (e : Ev) (s : Stt), c ≤ s.length → SimS c H (iS K xn x e s) (iS K (xsh c H.length xn) x (shE c H.length e) (ins c H s)) := by
  intro x
  induction x with
  | skip => intro xn e s hc; exact ⟨rfl, hc⟩
  | seq a b iha ihb => intro xn e s hc; exact (iha xn e s hc).nxt (ihb xn)
  | asg t x =>
    intro xn e s hc
    refine SimS.to (iE_sim hK xn x e s hc) fun d s hc => ?_
    rw [show Sh.sh c H.length d = d.sh c H.length from rfl, setTg_sh]
    cases setTg t d e with
    | none => trivial
    | some e => exact ⟨rfl, hc⟩
  | par is es =>
    intro xn e s hc
    refine SimS.to (iA_sim hK xn es e s hc) fun d s hc => ?_
    rw [show Sh.sh c H.length d = D.shs c H.length d from rfl, setMany_sh]
    cases setMany is d e with
    | none => trivial
    | some e => exact ⟨rfl, hc⟩
  | sub o i x =>
    intro xn e s hc
    refine SimS.to (iE_sim hK xn x e s hc) fun v s hc => SimS.to (iE_sim hK xn o e s hc) fun u s hc => SimS.to (iE_sim hK xn i e s hc) fun y s hc => ?_
    cases h : putD s u y v with
    | none => trivial
    | some s' =>
      obtain ⟨h1, h2⟩ := putD_sh (H := H) hc u y v s' h
      show SimS c H _ (match putD (ins c H s) (u.sh c H.length) (y.sh c H.length) (v.sh c H.length) with | some s => _ | none => _)
      rw [h1]; exact ⟨rfl, h2⟩
  | aug i o x =>
    intro xn e s hc
    unfold iS
    rw [shE_get]
    cases e[i]? with
    | none => trivial
    | some w => cases w with
      | none => trivial
      | some d =>
        refine SimS.to (iE_sim hK xn x e s hc) fun y s hc => SimS.to (augD_sim hc o d y) fun z s hc => ⟨?_, hc⟩
        show _ = RS.ok (.nx (shE c H.length (e.set i (some z)))) _
        rw [shE_set]; rfl
  | augs o i p x =>
    intro xn e s hc
    refine SimS.to (iE_sim hK xn o e s hc) fun u s hc => SimS.to (iE_sim hK xn i e s hc) fun y s hc => SimS.to (Sim.opt hc fun d h => by
      rw [show Sh.sh c H.length u = u.sh c H.length from rfl, show Sh.sh c H.length y = y.sh c H.length from rfl, dgetD_sh hc, h]; rfl) fun v s hc => SimS.to (iE_sim hK xn x e s hc) fun w s hc => SimS.to (augD_sim hc p v w) fun z s hc => ?_
    cases h : putD s u y z with
    | none => trivial
    | some s' =>
      obtain ⟨h1, h2⟩ := putD_sh (H := H) hc u y z s' h
      show SimS c H _ (match putD (ins c H s) (u.sh c H.length) (y.sh c H.length) (z.sh c H.length) with | some s => _ | none => _)
      rw [h1]; exact ⟨rfl, h2⟩
  | del _ _ => intro xn e s hc; trivial
  | exp x => intro xn e s hc; exact SimS.to (iE_sim hK xn x e s hc) fun d s hc => ⟨rfl, hc⟩
  | ret x => intro xn e s hc; exact SimS.to (iE_sim hK xn x e s hc) fun d s hc => ⟨rfl, hc⟩
  | ite t a b iha ihb => intro xn e s hc; exact SimS.to (iT_sim hK xn t e s hc) fun d s hc => SimS.ite (iha xn e s hc) (ihb xn e s hc)
  | whil t b ihb => intro xn e s hc; exact loopW_sim (iT_sim hK xn t) (ihb xn) _ e s hc
  | for_ t i b ihb =>
    intro xn e s hc
    refine SimS.to (iI_sim hK xn i e s hc) fun q s hc => loopF_sim (fun d e s hc => ?_) q.1 e s hc
    rw [setTg_sh]
    cases setTg t d e with
    | none => trivial
    | some e => exact ihb xn e s hc
  | brk => intro xn e s hc; exact ⟨rfl, hc⟩
  | cont => intro xn e s hc; exact ⟨rfl, hc⟩
  | rais x fs es =>
    intro xn e s hc
    refine SimS.to (iA_sim hK xn es e s hc) fun d s hc => ?_
    rw [show Sh.sh c H.length d = D.shs c H.length d from rfl, shs_len]
    split
    · refine ⟨?_, hc⟩
      rw [shs_map, List.zip_map_right, ← List.map_reverse]; rfl
    · trivial
  | tryy i cs h b ihh ihb =>
    intro xn e s hc
    have z := ihb none e s hc
    rw [show xsh c H.length none = none from rfl] at z
    unfold iS
    revert z
    cases iS K none b e s with
    | ok f s => intro z; obtain ⟨z1, z2⟩ := z; rw [z1]; exact ⟨rfl, z2⟩
    | exc x e s =>
      intro z; obtain ⟨z1, z2⟩ := z; rw [z1]
      show SimS c H (if _ then (if _ then _ else _) else _) (if _ then (if _ then _ else _) else _)
      rw [shE_len]
      split
      · rename_i h1
        rw [if_pos (show cs.contains (x.sh c H.length).cls = true from h1)]
        split
        · have := (ihh (some x) (e.set i none) s z2).hush
          rw [shE_set] at this
          exact this
        · trivial
      · rename_i h1
        rw [if_neg (show ¬ cs.contains (x.sh c H.length).cls = true from h1)]
        exact ⟨rfl, z2⟩
    | err => intro z; trivial
mutual
theorem sh_inj : ∀ (x y : D), x.sh c k = y.sh c k → x = y
  | .non, y, h => by cases y <;> cases h; rfl
  | .bl _, y, h => by cases y <;> cases h; rfl
  | .int _, y, h => by cases y <;> cases h; rfl
  | .str _, y, h => by cases y <;> cases h; rfl
  | .ref l, y, h => by cases y with
    | ref m => rw [shl_inj (D.ref.inj h)]
    | _ => cases h
  | .tup xs, y, h => by cases y with
    | tup ys => rw [shs_inj xs ys (D.tup.inj h)]
    | _ => cases h
theorem shs_inj : ∀ (x y : List D), D.shs c k x = D.shs c k y → x = y
  | [], y, h => by cases y with
    | nil => rfl
    | cons _ _ => cases h
  | x :: xs, y, h => by cases y with
    | nil => cases h
    | cons y ys =>
      rw [D.shs, D.shs] at h
      rw [sh_inj x y (List.cons.inj h).1, shs_inj xs ys (List.cons.inj h).2]
end
theorem shk_inj (x : List (Ky × D)) : ∀ y, shk c k x = shk c k y → x = y := by
  induction x with
  | nil => intro y h; cases y with
    | nil => rfl
    | cons _ _ => cases h
  | cons a x ih => intro y h; cases y with
    | nil => cases h
    | cons b y =>
      obtain ⟨a1, a2⟩ := a
      obtain ⟨b1, b2⟩ := b
      have h1 := List.cons.inj (show (a1, a2.sh c k) :: shk c k x = (b1, b2.sh c k) :: shk c k y from h)
      rw [ih y h1.2, (Prod.mk.inj h1.1).1, sh_inj a2 b2 (Prod.mk.inj h1.1).2]
theorem obsh_inj (x y : Ob) (h : x.sh c k = y.sh c k) : x = y := by
  cases x <;> cases y <;> first | (cases h; done) | skip
  · rw [shs_inj _ _ (Ob.lst.inj h)]
  · rw [shs_inj _ _ (Ob.rol.inj h)]
  · rw [shk_inj _ _ (Ob.dct.inj h)]
theorem obblw_sh {n : Nat} (h : c ≤ n) (o : Ob) : (o.sh c k).blw (n + k) = o.blw n := by
  cases o with
  | dct kvs =>
    show D.blws _ ((shk c k kvs).map (·.2)) = D.blws _ (kvs.map (·.2))
    rw [← blws_sh (c := c) (k := k) h, shs_map]
    congr 1
    unfold shk
    rw [List.map_map, List.map_map]; rfl
  | _ => exact blws_sh h _
theorem Shut_sh {st s : Stt} {d : D} (hst : c ≤ st.length) (hs : c ≤ s.length) : Shut (ins c H st).length (ins c H st) (d.sh c H.length) (ins c H s) ↔ Shut st.length st d s := by
  unfold Shut
  rw [ins_len hst, blw_sh hst]
  refine and_congr_right fun _ => ⟨fun h l hl => ?_, fun h l hl => ?_⟩
  · have := h (shl c H.length l) ((shl_lt _ _ hst).2 hl)
    rw [ins_get hs, ins_get hst] at this
    rcases this with this | this
    · left
      cases h1 : s[l]? with
      | none =>
        rw [h1] at this
        cases h2 : st[l]? with
        | none => rfl
        | some o => rw [h2] at this; cases this
      | some p =>
        rw [h1] at this
        cases h2 : st[l]? with
        | none => rw [h2] at this; cases this
        | some o => rw [h2] at this; rw [obsh_inj _ _ (Option.some.inj this)]
    · right
      cases h1 : s[l]? with
      | none => rw [h1] at this; cases this
      | some p => rw [h1] at this; exact (obblw_sh hst p).symm.trans this
  · by_cases h1 : l < c
    · have e : shl c H.length l = l := by unfold shl; rw [if_pos h1]
      have g1 := ins_get (H := H) hs l
      have g2 := ins_get (H := H) hst l
      rw [e] at g1 g2
      rw [g1, g2]
      rcases h l (by omega) with q | q
      · left; rw [q]
      · right
        cases h1 : s[l]? with
        | none => rw [h1] at q; cases q
        | some p => rw [h1] at q; exact (obblw_sh hst p).trans q
    · by_cases h2 : l < c + H.length
      · left
        have g1 := ins_mid (H := H) hs (l - c) (by omega)
        have g2 := ins_mid (H := H) hst (l - c) (by omega)
        rw [show c + (l - c) = l by omega] at g1 g2
        rw [g1, g2]
      · have e : shl c H.length (l - H.length) = l := by unfold shl; rw [if_neg (by omega)]; omega
        have g1 := ins_get (H := H) hs (l - H.length)
        have g2 := ins_get (H := H) hst (l - H.length)
        rw [e] at g1 g2
        rw [g1, g2]
        rcases h (l - H.length) (by omega) with q | q
        · left; rw [q]
        · right
          cases h1 : s[l - H.length]? with
          | none => rw [h1] at q; cases q
          | some p => rw [h1] at q; exact (obblw_sh hst p).trans q
theorem shut_sim {st s : Stt} {d : D} (hst : c ≤ st.length) (hs : c ≤ s.length) : Sim c H (shut st d s) (shut (ins c H st) (d.sh c H.length) (ins c H s)) := by
  unfold shut
  by_cases q : Shut st.length st d s
  · rw [if_pos q, if_pos ((Shut_sh hst hs).2 q), ins_len hst]
    by_cases hn : st.length ≤ s.length
    · exact ⟨by rw [ins_take hst hn]; rfl, by rw [List.length_take]; omega⟩
    · rw [List.take_of_length_le (by omega), List.take_of_length_le (by rw [ins_len hs]; omega)]
      exact ⟨rfl, hs⟩
  · rw [if_neg q, if_neg (fun h => q ((Shut_sh hst hs).1 h))]
    exact ⟨rfl, hs⟩
theorem callN_sim (T : List Fd) : ∀ n, KSim c H (callN T n) := by
  intro n
  induction n with
  | zero => intro f ds s hc; trivial
  | succ n ih =>
    intro f ds s hc
    show Sim c H (match T[f]? with | some fd => if ds.length = fd.np then _ else _ | none => _) (match T[f]? with | some fd => if (D.shs c H.length ds).length = fd.np then _ else _ | none => _)
    cases T[f]? with
    | none => trivial
    | some fd =>
      show Sim c H (if ds.length = fd.np then _ else _) (if (D.shs c H.length ds).length = fd.np then _ else _)
      rw [shs_len]
      by_cases q : ds.length = fd.np
      · rw [if_pos q, if_pos q]
        have z := iS_sim ih fd.body none (ds.map some ++ List.replicate (fd.ns - fd.np) none) s hc
        have e1 : shE c H.length (ds.map some ++ List.replicate (fd.ns - fd.np) none) = (D.shs c H.length ds).map some ++ List.replicate (fd.ns - fd.np) none := by
          unfold shE
          rw [List.map_append, List.map_replicate, shs_map, List.map_map, List.map_map]; rfl
        rw [e1, show xsh c H.length none = none from rfl] at z
        revert z
        cases iS (callN T n) none fd.body (ds.map some ++ List.replicate (fd.ns - fd.np) none) s with
        | ok fl s' =>
          intro z; obtain ⟨z1, z2⟩ := z; rw [z1]
          cases fl with
          | nx e => exact shut_sim hc z2
          | rt d => exact shut_sim hc z2
          | _ => trivial
        | exc x e s' => intro z; obtain ⟨z1, z2⟩ := z; rw [z1]; exact ⟨rfl, z2⟩
        | err => intro z; trivial
      · rw [if_neg q]; trivial
theorem ins_id {s : Stt} (hc : c = s.length) (hb : ∀ o ∈ s, o.blw c = true) : ins c H s = s ++ H := by
  subst hc
  unfold ins
  rw [List.take_length, List.drop_length, List.map_nil, List.append_nil]
  congr 1
  conv => rhs; rw [← List.map_id s]
  apply List.map_congr_left
  intro o ho
  have := hb o ho
  cases o with
  | lst xs => exact congrArg Ob.lst (shs_cl xs this)
  | rol xs => exact congrArg Ob.rol (shs_cl xs this)
  | dct kvs =>
    refine congrArg Ob.dct ?_
    have h : D.shs s.length H.length (kvs.map (·.2)) = kvs.map (·.2) := shs_cl _ this
    rw [shs_map, List.map_map] at h
    unfold shk
    conv => rhs; rw [← List.map_id kvs]
    apply List.map_congr_left
    intro q hq
    have := List.map_inj_left.1 h q hq
    exact Prod.ext rfl this
/-- a call that is shown alone holds beside any store -/
theorem callN_beside {T : List Fd} {n f : Nat} {ds : List D} {s s' : Stt} {d : D} (H : Stt) (h : callN T n f ds s = .ok d s') (hd : D.blws s.length ds = true) (hr : d.blw s.length = true) (hs : ∀ o ∈ s, o.blw s.length = true) (hl : s'.length = s.length) (hs' : ∀ o ∈ s', o.blw s.length = true) : callN T n f ds (s ++ H) = .ok d (s' ++ H) := by
  have z := callN_sim (c := s.length) (H := H) T n f ds s (Nat.le_refl _)
  rw [h] at z
  have z1 := z.1
  rw [shs_cl ds hd, ins_id rfl hs, ins_id hl.symm hs'] at z1
  rw [z1, show Sh.sh s.length H.length d = d from sh_cl d hr]
theorem callN_pure {T : List Fd} {n f : Nat} {ds : List D} {d : D} (h : callN T n f ds [] = .ok d []) (hd : D.blws 0 ds = true) (hr : d.blw 0 = true) (s : Stt) : callN T n f ds s = .ok d s :=
  callN_beside (s := []) (s' := []) s h hd hr (by intro o ho; cases ho) rfl (by intro o ho; cases ho)
theorem ins_zero {H s : Stt} : ins 0 H s = H ++ s.map (Ob.sh 0 H.length) := by unfold ins; simp
theorem callN_raise {T : List Fd} {n f : Nat} {ds : List D} {x : Xn} {s' : Stt} (h : callN T n f ds [] = .exc x s') (hd : D.blws 0 ds = true) (hx : D.blws 0 (x.fs.map (·.2)) = true) (s : Stt) : callN T n f ds s = .exc x (s ++ s'.map (Ob.sh 0 s.length)) := by
  have z := callN_sim (c := 0) (H := s) T n f ds [] (Nat.le_refl _)
  rw [h] at z
  have z1 := z.1
  rw [shs_cl ds hd, ins_zero, ins_zero, List.map_nil, List.append_nil] at z1
  rw [z1]
  have h2 : x.sh 0 s.length = x := by
    have h : D.shs 0 s.length (x.fs.map (·.2)) = x.fs.map (·.2) := shs_cl _ hx
    rw [shs_map, List.map_map] at h
    obtain ⟨cl, fs⟩ := x
    unfold Xn.sh
    congr 1
    conv => rhs; rw [← List.map_id fs]
    apply List.map_congr_left
    intro q hq
    have := List.map_inj_left.1 h q hq
    exact Prod.ext rfl this
  rw [h2]
end Lk

end
section
set_option linter.all false
set_option maxRecDepth 100000
namespace Lk
open PySem L2
/-! plain words about what is computed -/
theorem Shut_nil {d : D} {s : Stt} (h : d.blw 0 = true) : Shut 0 [] d s := ⟨h, fun l hl => absurd hl (Nat.not_lt_zero l)⟩
theorem callN_eq (T : List Fd) (n f : Nat) (ds : List D) (s : Stt) {fd : Fd} (h : T[f]? = some fd) (hl : ds.length = fd.np) : callN T (n + 1) f ds s = match iS (callN T n) none fd.body (ds.map some ++ List.replicate (fd.ns - fd.np) none) s with
      | .ok (.rt d) s' => shut s d s'
      | .ok (.nx _) s' => shut s .non s'
      | .exc x _ s' => .exc x s'
      | _ => .err := by
  show (match T[f]? with | some fd => if ds.length = fd.np then _ else _ | none => _) = _
  rw [h]
  exact if_pos hl
/-- a call that needs nothing beside its arguments -/
theorem callP {T : List Fd} {n f : Nat} {ds : List D} {fd : Fd} {d : D} {s' : Stt} (h : T[f]? = some fd) (hl : ds.length = fd.np) (hd : D.blws 0 ds = true) (hr : d.blw 0 = true) (hb : iS (callN T n) none fd.body (ds.map some ++ List.replicate (fd.ns - fd.np) none) [] = .ok (.rt d) s') (s : Stt) : callN T (n + 1) f ds s = .ok d s := by
  refine callN_pure ?_ hd hr s
  rw [callN_eq T n f ds [] h hl, hb]
  show (if Shut 0 [] d s' then R.ok d (s'.take 0) else _) = _
  rw [if_pos (Shut_nil hr)]; rfl
theorem callP0 {T : List Fd} {n f : Nat} {ds : List D} {fd : Fd} {e : Ev} {s' : Stt} (h : T[f]? = some fd) (hl : ds.length = fd.np) (hd : D.blws 0 ds = true) (hb : iS (callN T n) none fd.body (ds.map some ++ List.replicate (fd.ns - fd.np) none) [] = .ok (.nx e) s') (s : Stt) : callN T (n + 1) f ds s = .ok .non s := by
  refine callN_pure ?_ hd rfl s
  rw [callN_eq T n f ds [] h hl, hb]
  show (if Shut 0 [] D.non s' then R.ok D.non (s'.take 0) else _) = _
  rw [if_pos (Shut_nil rfl)]; rfl
theorem callX {T : List Fd} {n f : Nat} {ds : List D} {fd : Fd} {x : Xn} {e : Ev} {s' : Stt} (h : T[f]? = some fd) (hl : ds.length = fd.np) (hd : D.blws 0 ds = true) (hx : D.blws 0 (x.fs.map (·.2)) = true) (hb : iS (callN T n) none fd.body (ds.map some ++ List.replicate (fd.ns - fd.np) none) [] = .exc x e s') (s : Stt) : ∃ g, callN T (n + 1) f ds s = .exc x (s ++ g) := by
  have z : callN T (n + 1) f ds [] = .exc x s' := by rw [callN_eq T n f ds [] h hl, hb]
  exact ⟨_, callN_raise z hd hx s⟩
theorem loopL_map {α : Type} {g : Gd} {f : D → Stt → R (Option D)} (q : α → D) (h : α → Option D) {s : Stt} (hg : g.stand s) : ∀ {xs : List α}, (∀ x ∈ xs, f (q x) s = .ok (h x) s) → loopL g f (xs.map q) s = .ok (xs.filterMap h) s := by
  intro xs
  induction xs with
  | nil => intro _; show guard s g _ = _; rw [guard, if_pos hg]; rfl
  | cons x xs ih =>
    intro hf
    show guard s g ((f (q x) s).bind _) = _
    rw [guard, if_pos hg, hf x (List.mem_cons_self ..), R.bind_ok, ih (fun y hy => hf y (List.mem_cons_of_mem _ hy)), R.bind_ok, List.filterMap_cons]
    cases h x <;> rfl
theorem loopL_map1 {α : Type} {g : Gd} {f : D → Stt → R (Option D)} (q : α → D) (h : α → D) {s : Stt} (hg : g.stand s) {xs : List α} (hf : ∀ x ∈ xs, f (q x) s = .ok (some (h x)) s) : loopL g f (xs.map q) s = .ok (xs.map h) s := by
  rw [loopL_map q (fun x => some (h x)) hg hf, List.filterMap_eq_map']
theorem dstrs_map (xs : List (List Nat)) : dstrs (xs.map .str) = some xs := by
  induction xs with
  | nil => rfl
  | cons x xs ih => show (dstrs (xs.map .str)).map _ = _; rw [ih]; rfl
theorem dints_map (xs : List Int) : dints (xs.map .int) = some xs := by
  induction xs with
  | nil => rfl
  | cons x xs ih => show (dints (xs.map .int)).map _ = _; rw [ih]; rfl
theorem dbls_map (xs : List Bool) : dbls (xs.map .bl) = some xs := by
  induction xs with
  | nil => rfl
  | cons x xs ih => show (dbls (xs.map .bl)).map _ = _; rw [ih]; rfl
theorem joinL_nil (xs : List (List Nat)) : joinL [] xs = xs.flatten := by
  induction xs with
  | nil => rfl
  | cons x xs ih => cases xs with
    | nil => simp [joinL]
    | cons y ys => rw [joinL, ih]; simp; simp
theorem blws_all (n : Nat) (xs : List D) : D.blws n xs = xs.all (D.blw n) := by
  induction xs with
  | nil => rfl
  | cons x xs ih => rw [D.blws, ih]; rfl
theorem strs_flat (xs : List (List Nat)) : (xs.map D.str).all D.flat = true := by rw [List.all_map, List.all_eq_true]; intro x _; rfl
theorem inSeq_strs (x : List Nat) (xs : List (List Nat)) : inSeq (.str x) (xs.map .str) = some (decide (x ∈ xs)) := by
  unfold inSeq
  rw [strs_flat, List.any_map]
  rw [show ((D.str x).flat && true) = true from rfl, if_pos rfl]
  congr 1
  rw [Bool.eq_iff_iff, List.any_eq_true, decide_eq_true_iff]
  constructor
  · rintro ⟨y, hy, e⟩
    have : y = x := by simpa [D.feq] using e
    exact this ▸ hy
  · intro h; exact ⟨x, h, by simp [D.feq]⟩
end Lk

end
section
set_option linter.all false
set_option maxRecDepth 100000
namespace Lk.Ev
open PySem L2 Lk
variable {k : Cal} {xn : Option Xn} {e : Ev} {s : Stt}
/-! continuations by name: one word a construct -/
def getV (o : Option (Option D)) (s : Stt) : R D := match o with
  | some (some d) => .ok d s
  | _ => .err
def kBin2 (o : BO) (x : D) : D → Stt → R D := fun y s => binD s o x y
def kBin (k : Cal) (xn : Option Xn) (o : BO) (b : C) (e : Ev) : D → Stt → R D := fun x s => (iE k xn b e s).bind (kBin2 o x)
def kNeg : D → Stt → R D := fun x s => match x with
  | .int i => .ok (.int (-i)) s
  | _ => .err
def kBl : Bool → Stt → R D := fun b s => .ok (.bl b) s
def kNB : Bool → Stt → R D := fun b s => .ok (.bl (!b)) s
def kNot : D → Stt → R D := fun x s => (ok? (truth s x) s).bind kNB
def kCmp2 (o : CO) (x : D) : D → Stt → R D := fun y s => (ok? (cmpD s o x y) s).bind kBl
def kCmp (k : Cal) (xn : Option Xn) (o : CO) (b : C) (e : Ev) : D → Stt → R D := fun x s => (iE k xn b e s).bind (kCmp2 o x)
def kCh3 (k : Cal) (xn : Option Xn) (p : CO) (c : C) (e : Ev) (y : D) : Bool → Stt → R D := fun t s => if t = true then (iE k xn c e s).bind (kCmp2 p y) else .ok (.bl false) s
def kCh2 (k : Cal) (xn : Option Xn) (o p : CO) (c : C) (e : Ev) (x : D) : D → Stt → R D := fun y s => (ok? (cmpD s o x y) s).bind (kCh3 k xn p c e y)
def kCh1 (k : Cal) (xn : Option Xn) (o p : CO) (b c : C) (e : Ev) : D → Stt → R D := fun x s => (iE k xn b e s).bind (kCh2 k xn o p c e x)
def kAnd2 (k : Cal) (xn : Option Xn) (b : C) (e : Ev) (x : D) : Bool → Stt → R D := fun t s => if t = true then iE k xn b e s else .ok x s
def kAnd (k : Cal) (xn : Option Xn) (b : C) (e : Ev) : D → Stt → R D := fun x s => (ok? (truth s x) s).bind (kAnd2 k xn b e x)
def kOr2 (k : Cal) (xn : Option Xn) (b : C) (e : Ev) (x : D) : Bool → Stt → R D := fun t s => if t = true then .ok x s else iE k xn b e s
def kOr (k : Cal) (xn : Option Xn) (b : C) (e : Ev) : D → Stt → R D := fun x s => (ok? (truth s x) s).bind (kOr2 k xn b e x)
def kIte (k : Cal) (xn : Option Xn) (a b : C) (e : Ev) : Bool → Stt → R D := fun t s => if t = true then iE k xn a e s else iE k xn b e s
def kTup : List D → Stt → R D := fun xs s => chk (decide (xs.length ≤ SZ)) (.ok (.tup xs) s)
def kNewl : D × Sq → Stt → R D := fun xs s => newD xs.2.items s
def kDct (ks : List Ky) : List D → Stt → R D := fun xs s => chk (decide (xs.length = ks.length) && decide (ks.length ≤ 15)) (.ok (.ref s.length) (s ++ [.dct (kmerge [] (ks.zip xs))]))
def kIdx2 (x : D) : D → Stt → R D := fun y s => ok? (idxD s x y) s
def kIdx (k : Cal) (xn : Option Xn) (i : C) (e : Ev) : D → Stt → R D := fun x s => (iE k xn i e s).bind (kIdx2 x)
def kSlc3 (x : D) (l : Option Int) : Option Int → Stt → R D := fun h s => slcD s x l h
def kSlc2 (k : Cal) (xn : Option Xn) (hi : P) (e : Ev) (x : D) : Option Int → Stt → R D := fun l s => (iP k xn hi e s).bind (kSlc3 x l)
def kSlc (k : Cal) (xn : Option Xn) (lo hi : P) (e : Ev) : D → Stt → R D := fun x s => (iP k xn lo e s).bind (kSlc2 k xn hi e x)
def kRev : D → Stt → R D := fun x s => revD s x
def kCall (k : Cal) (f : Nat) : List D → Stt → R D := fun xs s => k f xs s
def kKw2 (k : Cal) (f m l : Nat) (pm : List Nat) (xs : List D) : List D → Stt → R D := fun ys s => k f (gK m l pm xs ys) s
def kKw (k : Cal) (xn : Option Xn) (f m l : Nat) (pm : List Nat) (ks : CL) (e : Ev) : List D → Stt → R D := fun xs s => (iA k xn ks e s).bind (kKw2 k f m l pm xs)
def kB1 (b : B1) : D → Stt → R D := fun x s => ok? (b1D s b x) s
def kBs (b : BS) : D × Sq → Stt → R D := fun xs s => bsD s b xs.2
def kMin2 (x : D) : D → Stt → R D := fun y s => match x, y with
  | .int i, .int j => .ok (.int (if j < i then j else i)) s
  | _, _ => .err
def kMin (k : Cal) (xn : Option Xn) (b : C) (e : Ev) : D → Stt → R D := fun x s => (iE k xn b e s).bind (kMin2 x)
def kMax2 (x : D) : D → Stt → R D := fun y s => match x, y with
  | .int i, .int j => .ok (.int (if j > i then j else i)) s
  | _, _ => .err
def kMax (k : Cal) (xn : Option Xn) (b : C) (e : Ev) : D → Stt → R D := fun x s => (iE k xn b e s).bind (kMax2 x)
def kJoin3 (sep : List Nat) : List (List Nat) → Stt → R D := fun ys s => chk (decide ((ys.map List.length).sum + ys.length * sep.length ≤ SZ)) (.ok (.str (joinL sep ys)) s)
def kJoin2 (sep : List Nat) : D × Sq → Stt → R D := fun ys s => match ys.2 with
  | .l ys => (ok? (dstrs ys) s).bind (kJoin3 sep)
  | .t ys => (ok? (dstrs ys) s).bind (kJoin3 sep)
  | .s _ => .err
def kJoin (k : Cal) (xn : Option Xn) (q : SQ) (e : Ev) : D → Stt → R D := fun x s => match x with
  | .str sep => (iQ k xn q e s).bind (kJoin2 sep)
  | _ => .err
def kM0 (m : M0) : D → Stt → R D := fun x s => m0D s m x
def kM1b (m : M1) (x : D) : D → Stt → R D := fun y s => m1D s m x y
def kM1 (k : Cal) (xn : Option Xn) (m : M1) (a : C) (e : Ev) : D → Stt → R D := fun x s => chk (rcv s m x) ((iE k xn a e s).bind (kM1b m x))
def kIsi (ts : List Ty) : D → Stt → R D := fun x s => (ok? (tysIs s x ts) s).bind kBl
def kVal : D → Stt → R Bool := fun x s => ok? (truth s x) s
def kTN : Bool → Stt → R Bool := fun b s => .ok (!b) s
def kTA (k : Cal) (xn : Option Xn) (b : T) (e : Ev) : Bool → Stt → R Bool := fun t s => if t = true then iT k xn b e s else .ok false s
def kTO (k : Cal) (xn : Option Xn) (b : T) (e : Ev) : Bool → Stt → R Bool := fun t s => if t = true then .ok true s else iT k xn b e s
def kTI (k : Cal) (xn : Option Xn) (a b : T) (e : Ev) : Bool → Stt → R Bool := fun t s => if t = true then iT k xn a e s else iT k xn b e s
def kP : D → Stt → R (Option Int) := fun x s => match x with
  | .int i => .ok (some i) s
  | _ => .err
def kA2 (x : D) : List D → Stt → R (List D) := fun xs s => .ok (x :: xs) s
def kA (k : Cal) (xn : Option Xn) (r : CL) (e : Ev) : D → Stt → R (List D) := fun x s => (iA k xn r e s).bind (kA2 x)
def kSome : D → Stt → R (Option D) := fun x s => .ok (some x) s
def kCpB (k : Cal) (xn : Option Xn) (el : C) (e : Ev) : Bool → Stt → R (Option D) := fun b s => if b = true then (iE k xn el e s).bind kSome else .ok none s
def kCpF (k : Cal) (xn : Option Xn) (cd : T) (el : C) (o : Option Ev) (s : Stt) : R (Option D) := match o with
  | some e => (iT k xn cd e s).bind (kCpB k xn el e)
  | none => .err
def cpF (k : Cal) (xn : Option Xn) (vs : List Nat) (tg : Tg) (cd : T) (el : C) (e : Ev) : D → Stt → R (Option D) := fun d s => kCpF k xn cd el (setTg tg d (wipeE e vs)) s
def kCp (k : Cal) (xn : Option Xn) (vs : List Nat) (tg : Tg) (cd : T) (el : C) (e : Ev) : List D × Gd → Stt → R (List D) := fun q s => chk (decide (q.1.length ≤ SZ)) ((loopL q.2 (cpF k xn vs tg cd el e) q.1 s).quiet)
def kCp2 : List D → Stt → R (D × Sq) := fun xs s => .ok (.non, .l xs) s
def kL : List D → Stt → R (D × Sq) := fun xs s => chk (decide (xs.length ≤ SZ)) (.ok (.non, .l xs) s)
def kQ2 (x : D) : Sq → Stt → R (D × Sq) := fun q s => .ok (x, q) s
def kQ : D → Stt → R (D × Sq) := fun x s => (ok? (seqOf s x) s).bind (kQ2 x)
def kR1 : D → Stt → R (List D × Gd) := fun x s => match x with
    | .int j => chk (small62 j && decide (j ≤ SZ)) (.ok (rngL 0 1 j.toNat, []) s)
    | _ => .err
def kR2b (x : D) : D → Stt → R (List D × Gd) := fun y s => match x, y with
    | .int i, .int j => chk (small62 i && small62 j && decide (j - i ≤ SZ)) (.ok (rngL i 1 (j - i).toNat, []) s)
    | _, _ => .err
def kR2 (k : Cal) (xn : Option Xn) (b : C) (e : Ev) : D → Stt → R (List D × Gd) := fun x s => (iE k xn b e s).bind (kR2b x)
def kEn : D × Sq → Stt → R (List D × Gd) := fun q s => .ok (enumD 0 q.2.items, gdOf q.1 q.2) s
def kZ2 (q : D × Sq) : D × Sq → Stt → R (List D × Gd) := fun r s => match q.2, r.2 with
    | .l x, .l y => guard s (gdOf q.1 (.l x)) (chk ((zipD x y).all D.noS) (.ok (zipD x y, gdOf q.1 (.l x) ++ gdOf r.1 (.l y)) s))
    | .t x, .t y => chk ((zipD x y).all D.noS) (.ok (zipD x y, []) s)
    | _, _ => .err
def kZ (k : Cal) (xn : Option Xn) (r : SQ) (e : Ev) : D × Sq → Stt → R (List D × Gd) := fun q s => (iQ k xn r e s).bind (kZ2 q)
def kRv : D × Sq → Stt → R (List D × Gd) := fun q s => match q.2 with
    | .s _ => .err
    | x => .ok (x.items.reverse, gdOf q.1 x) s
def kIv : D × Sq → Stt → R (List D × Gd) := fun q s => .ok (q.2.items, gdOf q.1 q.2) s
def asgR (o : Option Ev) (s : Stt) : RS := match o with
    | some e => .ok (.nx e) s
    | none => .err
def putR (e : Ev) (o : Option Stt) : RS := match o with
    | some s => .ok (.nx e) s
    | none => .err
def kAsg (t : Tg) (e : Ev) : D → Stt → RS := fun d s => asgR (setTg t d e) s
def kPar (is : List Nat) (e : Ev) : List D → Stt → RS := fun ds s => asgR (setMany is ds e) s
def kSub3 (e : Ev) (v x : D) : D → Stt → RS := fun y s => putR e (putD s x y v)
def kSub2 (k : Cal) (xn : Option Xn) (i : C) (e : Ev) (v : D) : D → Stt → RS := fun x s => (iE k xn i e s).to e (kSub3 e v x)
def kSub (k : Cal) (xn : Option Xn) (o i : C) (e : Ev) : D → Stt → RS := fun v s => (iE k xn o e s).to e (kSub2 k xn i e v)
def kAug2 (i : Nat) (e : Ev) : D → Stt → RS := fun z s => .ok (.nx (e.set i (some z))) s
def kAug (i : Nat) (o : BO) (e : Ev) (d : D) : D → Stt → RS := fun y s => (augD s o d y).to e (kAug2 i e)
def augR (k : Cal) (xn : Option Xn) (i : Nat) (o : BO) (c : C) (e : Ev) (s : Stt) (w : Option (Option D)) : RS := match w with
    | some (some d) => (iE k xn c e s).to e (kAug i o e d)
    | _ => .err
def kAs5 (e : Ev) (x y : D) : D → Stt → RS := fun z s => putR e (putD s x y z)
def kAs4 (p : BO) (e : Ev) (x y v : D) : D → Stt → RS := fun w s => (augD s p v w).to e (kAs5 e x y)
def kAs3 (k : Cal) (xn : Option Xn) (p : BO) (c : C) (e : Ev) (x y : D) : D → Stt → RS := fun v s => (iE k xn c e s).to e (kAs4 p e x y v)
def kAs2 (k : Cal) (xn : Option Xn) (p : BO) (c : C) (e : Ev) (x : D) : D → Stt → RS := fun y s => (ok? (dgetD s x y) s).to e (kAs3 k xn p c e x y)
def kAs (k : Cal) (xn : Option Xn) (i : C) (p : BO) (c : C) (e : Ev) : D → Stt → RS := fun x s => (iE k xn i e s).to e (kAs2 k xn p c e x)
def kNx (e : Ev) : D → Stt → RS := fun _ s => .ok (.nx e) s
def kRt : D → Stt → RS := fun d s => .ok (.rt d) s
def kIf (k : Cal) (xn : Option Xn) (a b : S) (e : Ev) : Bool → Stt → RS := fun t s => if t = true then iS k xn a e s else iS k xn b e s
def forG (k : Cal) (xn : Option Xn) (b : S) (o : Option Ev) (s : Stt) : RS := match o with
    | some e => iS k xn b e s
    | none => .err
def forF (k : Cal) (xn : Option Xn) (t : Tg) (b : S) : D → Ev → Stt → RS := fun d e s => forG k xn b (setTg t d e) s
def kFor (k : Cal) (xn : Option Xn) (t : Tg) (b : S) (e : Ev) : List D × Gd → Stt → RS := fun q s => loopF q.2 (forF k xn t b) q.1 e s
def kRs (c : Nat) (fs : List (List Nat)) (e : Ev) : List D → Stt → RS := fun ds s => if fs.length = ds.length then .exc ⟨c, (fs.zip ds).reverse⟩ e s else .err
def tryR (k : Cal) (i : Nat) (cs : List Nat) (h : S) (r : RS) : RS := match r with
    | .exc x e s => if cs.contains x.cls = true then (if i < e.length then (iS k (some x) h (e.set i none) s).hush else .err) else .exc x e s
    | r => r
def kTg (r : Tg) (ds : List D) : Ev → Option Ev := fun e => setTg r (.tup ds) e

theorem v_var {i : Nat} : iE k xn (.var i) e s = getV (e[i]?) s := by first | rfl | (rw [iE]; rfl) | rw [iE]
theorem v_get {d : D} : getV (some (some d)) s = .ok d s := rfl
theorem v_non : iE k xn (.non) e s = .ok .non s := by first | rfl | (rw [iE]; rfl) | rw [iE]
theorem v_bl {b : Bool} : iE k xn (.bl b) e s = .ok (.bl b) s := by first | rfl | (rw [iE]; rfl) | rw [iE]
theorem v_int {i : Int} : iE k xn (.int i) e s = .ok (.int i) s := by first | rfl | (rw [iE]; rfl) | rw [iE]
theorem v_str {x : List Nat} : iE k xn (.str x) e s = .ok (.str x) s := by first | rfl | (rw [iE]; rfl) | rw [iE]
theorem v_cint {i : Int} : iE k xn (.cst (.int i)) e s = .ok (.int i) s := by first | rfl | (rw [iE]; rfl) | rw [iE]
theorem v_cstr {x : List Nat} : iE k xn (.cst (.str x)) e s = .ok (.str x) s := by first | rfl | (rw [iE]; rfl) | rw [iE]
theorem v_bin {o : BO} {a b : C} : iE k xn (.bin o a b) e s = (iE k xn a e s).bind (kBin k xn o b e) := by first | rfl | (rw [iE]; rfl) | rw [iE]
theorem v_bin1 {o : BO} {b : C} {x : D} : kBin k xn o b e x s = (iE k xn b e s).bind (kBin2 o x) := rfl
theorem v_bin2 {o : BO} {x y : D} : kBin2 o x y s = binD s o x y := rfl
theorem v_neg {a : C} : iE k xn (.neg a) e s = (iE k xn a e s).bind kNeg := by first | rfl | (rw [iE]; rfl) | rw [iE]
theorem v_neg1 {i : Int} : kNeg (.int i) s = .ok (.int (-i)) s := rfl
theorem v_not {a : C} : iE k xn (.not a) e s = (iE k xn a e s).bind kNot := by first | rfl | (rw [iE]; rfl) | rw [iE]
theorem v_not1 {x : D} : kNot x s = (ok? (truth s x) s).bind kNB := rfl
theorem v_NB {b : Bool} : kNB b s = .ok (.bl (!b)) s := rfl
theorem v_Bl {b : Bool} : kBl b s = .ok (.bl b) s := rfl
theorem v_cmp {o : CO} {a b : C} : iE k xn (.cmp o a b) e s = (iE k xn a e s).bind (kCmp k xn o b e) := by first | rfl | (rw [iE]; rfl) | rw [iE]
theorem v_cmp1 {o : CO} {b : C} {x : D} : kCmp k xn o b e x s = (iE k xn b e s).bind (kCmp2 o x) := rfl
theorem v_cmp2 {o : CO} {x y : D} : kCmp2 o x y s = (ok? (cmpD s o x y) s).bind kBl := rfl
theorem v_chain {o p : CO} {a b c : C} : iE k xn (.chain o p a b c) e s = (iE k xn a e s).bind (kCh1 k xn o p b c e) := by first | rfl | (rw [iE]; rfl) | rw [iE]
theorem v_ch1 {o p : CO} {b c : C} {x : D} : kCh1 k xn o p b c e x s = (iE k xn b e s).bind (kCh2 k xn o p c e x) := rfl
theorem v_ch2 {o p : CO} {c : C} {x y : D} : kCh2 k xn o p c e x y s = (ok? (cmpD s o x y) s).bind (kCh3 k xn p c e y) := rfl
theorem v_ch3t {p : CO} {c : C} {y : D} : kCh3 k xn p c e y true s = (iE k xn c e s).bind (kCmp2 p y) := rfl
theorem v_ch3f {p : CO} {c : C} {y : D} : kCh3 k xn p c e y false s = .ok (.bl false) s := rfl
theorem v_and {a b : C} : iE k xn (.and a b) e s = (iE k xn a e s).bind (kAnd k xn b e) := by first | rfl | (rw [iE]; rfl) | rw [iE]
theorem v_and1 {b : C} {x : D} : kAnd k xn b e x s = (ok? (truth s x) s).bind (kAnd2 k xn b e x) := rfl
theorem v_and2t {b : C} {x : D} : kAnd2 k xn b e x true s = iE k xn b e s := rfl
theorem v_and2f {b : C} {x : D} : kAnd2 k xn b e x false s = .ok x s := rfl
theorem v_or {a b : C} : iE k xn (.or a b) e s = (iE k xn a e s).bind (kOr k xn b e) := by first | rfl | (rw [iE]; rfl) | rw [iE]
theorem v_or1 {b : C} {x : D} : kOr k xn b e x s = (ok? (truth s x) s).bind (kOr2 k xn b e x) := rfl
theorem v_or2t {b : C} {x : D} : kOr2 k xn b e x true s = .ok x s := rfl
theorem v_or2f {b : C} {x : D} : kOr2 k xn b e x false s = iE k xn b e s := rfl
theorem v_ite {c : T} {a b : C} : iE k xn (.ite c a b) e s = (iT k xn c e s).bind (kIte k xn a b e) := by first | rfl | (rw [iE]; rfl) | rw [iE]
theorem v_itet {a b : C} : kIte k xn a b e true s = iE k xn a e s := rfl
theorem v_itef {a b : C} : kIte k xn a b e false s = iE k xn b e s := rfl
theorem v_tup {es : CL} : iE k xn (.tup es) e s = (iA k xn es e s).bind kTup := by first | rfl | (rw [iE]; rfl) | rw [iE]
theorem v_tup1 {xs : List D} : kTup xs s = chk (decide (xs.length ≤ SZ)) (.ok (.tup xs) s) := rfl
theorem v_newl {q : SQ} : iE k xn (.newl q) e s = (iQ k xn q e s).bind kNewl := by first | rfl | (rw [iE]; rfl) | rw [iE]
theorem v_newl1 {d : D} {q : Sq} : kNewl (d, q) s = .ok (.ref s.length) (s ++ [.lst q.items]) := rfl
theorem v_dct {ks : List Ky} {vs : CL} : iE k xn (.dct ks vs) e s = (iA k xn vs e s).bind (kDct ks) := by first | rfl | (rw [iE]; rfl) | rw [iE]
theorem v_dct1 {ks : List Ky} {xs : List D} : kDct ks xs s = chk (decide (xs.length = ks.length) && decide (ks.length ≤ 15)) (.ok (.ref s.length) (s ++ [.dct (kmerge [] (ks.zip xs))])) := rfl
theorem v_idx {a i : C} : iE k xn (.idx a i) e s = (iE k xn a e s).bind (kIdx k xn i e) := by first | rfl | (rw [iE]; rfl) | rw [iE]
theorem v_idx1 {i : C} {x : D} : kIdx k xn i e x s = (iE k xn i e s).bind (kIdx2 x) := rfl
theorem v_idx2 {x y : D} : kIdx2 x y s = ok? (idxD s x y) s := rfl
theorem v_slc {a : C} {lo hi : P} : iE k xn (.slc a lo hi) e s = (iE k xn a e s).bind (kSlc k xn lo hi e) := by first | rfl | (rw [iE]; rfl) | rw [iE]
theorem v_slc1 {lo hi : P} {x : D} : kSlc k xn lo hi e x s = (iP k xn lo e s).bind (kSlc2 k xn hi e x) := rfl
theorem v_slc2 {hi : P} {x : D} {l : Option Int} : kSlc2 k xn hi e x l s = (iP k xn hi e s).bind (kSlc3 x l) := rfl
theorem v_slc3 {x : D} {l h : Option Int} : kSlc3 x l h s = slcD s x l h := rfl
theorem v_rev {a : C} : iE k xn (.rev a) e s = (iE k xn a e s).bind kRev := by first | rfl | (rw [iE]; rfl) | rw [iE]
theorem v_rev1 {x : D} : kRev x s = revD s x := rfl
theorem v_call {f : Nat} {es : CL} : iE k xn (.call f es) e s = (iA k xn es e s).bind (kCall k f) := by first | rfl | (rw [iE]; rfl) | rw [iE]
theorem v_call1 {f : Nat} {xs : List D} : kCall k f xs s = k f xs s := rfl
theorem v_kw {f m l : Nat} {pm : List Nat} {es ks : CL} : iE k xn (.callk f m l pm es ks) e s = (iA k xn es e s).bind (kKw k xn f m l pm ks e) := by first | rfl | (rw [iE]; rfl) | rw [iE]
theorem v_kw1 {f m l : Nat} {pm : List Nat} {ks : CL} {xs : List D} : kKw k xn f m l pm ks e xs s = (iA k xn ks e s).bind (kKw2 k f m l pm xs) := rfl
theorem v_kw2 {f m l : Nat} {pm : List Nat} {xs ys : List D} : kKw2 k f m l pm xs ys s = k f (gK m l pm xs ys) s := rfl
theorem v_b1 {b : B1} {a : C} : iE k xn (.b1 b a) e s = (iE k xn a e s).bind (kB1 b) := by first | rfl | (rw [iE]; rfl) | rw [iE]
theorem v_b11 {b : B1} {x : D} : kB1 b x s = ok? (b1D s b x) s := rfl
theorem v_bs {b : BS} {q : SQ} : iE k xn (.bs b q) e s = (iQ k xn q e s).bind (kBs b) := by first | rfl | (rw [iE]; rfl) | rw [iE]
theorem v_bs1 {b : BS} {d : D} {q : Sq} : kBs b (d, q) s = bsD s b q := rfl
theorem v_min2 {a b : C} : iE k xn (.min2 a b) e s = (iE k xn a e s).bind (kMin k xn b e) := by first | rfl | (rw [iE]; rfl) | rw [iE]
theorem v_min {b : C} {x : D} : kMin k xn b e x s = (iE k xn b e s).bind (kMin2 x) := rfl
theorem v_mini {i j : Int} : kMin2 (.int i) (.int j) s = .ok (.int (if j < i then j else i)) s := rfl
theorem v_max2 {a b : C} : iE k xn (.max2 a b) e s = (iE k xn a e s).bind (kMax k xn b e) := by first | rfl | (rw [iE]; rfl) | rw [iE]
theorem v_max {b : C} {x : D} : kMax k xn b e x s = (iE k xn b e s).bind (kMax2 x) := rfl
theorem v_maxi {i j : Int} : kMax2 (.int i) (.int j) s = .ok (.int (if j > i then j else i)) s := rfl
theorem v_join {a : C} {q : SQ} : iE k xn (.join a q) e s = (iE k xn a e s).bind (kJoin k xn q e) := by first | rfl | (rw [iE]; rfl) | rw [iE]
theorem v_join1 {q : SQ} {sep : List Nat} : kJoin k xn q e (.str sep) s = (iQ k xn q e s).bind (kJoin2 sep) := rfl
theorem v_join2 {sep : List Nat} {d : D} {ys : List D} : kJoin2 sep (d, .l ys) s = (ok? (dstrs ys) s).bind (kJoin3 sep) := rfl
theorem v_join2t {sep : List Nat} {d : D} {ys : List D} : kJoin2 sep (d, .t ys) s = (ok? (dstrs ys) s).bind (kJoin3 sep) := rfl
theorem v_join3 {sep : List Nat} {ys : List (List Nat)} : kJoin3 sep ys s = chk (decide ((ys.map List.length).sum + ys.length * sep.length ≤ SZ)) (.ok (.str (joinL sep ys)) s) := rfl
theorem v_m0 {m : M0} {o : C} : iE k xn (.m0 m o) e s = (iE k xn o e s).bind (kM0 m) := by first | rfl | (rw [iE]; rfl) | rw [iE]
theorem v_m01 {m : M0} {x : D} : kM0 m x s = m0D s m x := rfl
theorem v_m1 {m : M1} {o a : C} : iE k xn (.m1 m o a) e s = (iE k xn o e s).bind (kM1 k xn m a e) := by first | rfl | (rw [iE]; rfl) | rw [iE]
theorem v_m11 {m : M1} {a : C} {x : D} : kM1 k xn m a e x s = chk (rcv s m x) ((iE k xn a e s).bind (kM1b m x)) := rfl
theorem v_m12 {m : M1} {x y : D} : kM1b m x y s = m1D s m x y := rfl
theorem v_isi {a : C} {ts : List Ty} : iE k xn (.isi a ts) e s = (iE k xn a e s).bind (kIsi ts) := by first | rfl | (rw [iE]; rfl) | rw [iE]
theorem v_isi1 {ts : List Ty} {x : D} : kIsi ts x s = (ok? (tysIs s x ts) s).bind kBl := rfl
theorem v_xfld {x : Xn} {f : List Nat} : iE k (some x) (.xfld f) e s = ok? (x.fs.lookup f) s := by first | rfl | rw [iE]
theorem v_xis {x : Xn} {cs : List Nat} : iE k (some x) (.xis cs) e s = .ok (.bl (cs.contains x.cls)) s := by first | rfl | rw [iE]
theorem v_tval {c : C} : iT k xn (.val c) e s = (iE k xn c e s).bind kVal := by first | rfl | (rw [iT]; rfl) | rw [iT]
theorem v_val1 {x : D} : kVal x s = ok? (truth s x) s := rfl
theorem v_tnot {a : T} : iT k xn (.not a) e s = (iT k xn a e s).bind kTN := by first | rfl | (rw [iT]; rfl) | rw [iT]
theorem v_TN {b : Bool} : kTN b s = .ok (!b) s := rfl
theorem v_tand {a b : T} : iT k xn (.and a b) e s = (iT k xn a e s).bind (kTA k xn b e) := by first | rfl | (rw [iT]; rfl) | rw [iT]
theorem v_TAt {b : T} : kTA k xn b e true s = iT k xn b e s := rfl
theorem v_TAf {b : T} : kTA k xn b e false s = .ok false s := rfl
theorem v_tor {a b : T} : iT k xn (.or a b) e s = (iT k xn a e s).bind (kTO k xn b e) := by first | rfl | (rw [iT]; rfl) | rw [iT]
theorem v_TOt {b : T} : kTO k xn b e true s = .ok true s := rfl
theorem v_TOf {b : T} : kTO k xn b e false s = iT k xn b e s := rfl
theorem v_tite {c a b : T} : iT k xn (.ite c a b) e s = (iT k xn c e s).bind (kTI k xn a b e) := by first | rfl | (rw [iT]; rfl) | rw [iT]
theorem v_TIt {a b : T} : kTI k xn a b e true s = iT k xn a e s := rfl
theorem v_TIf {a b : T} : kTI k xn a b e false s = iT k xn b e s := rfl
theorem v_yes : iT k xn (.yes) e s = .ok true s := by first | rfl | (rw [iT]; rfl) | rw [iT]
theorem v_pn : iP k xn (.none) e s = .ok none s := by first | rfl | (rw [iP]; rfl) | rw [iP]
theorem v_ps {c : C} : iP k xn (.some c) e s = (iE k xn c e s).bind kP := by first | rfl | (rw [iP]; rfl) | rw [iP]
theorem v_p1 {i : Int} : kP (.int i) s = .ok (some i) s := rfl
theorem v_nil : iA k xn (.nil) e s = .ok [] s := by first | rfl | (rw [iA]; rfl) | rw [iA]
theorem v_cons {c : C} {r : CL} : iA k xn (.cons c r) e s = (iE k xn c e s).bind (kA k xn r e) := by first | rfl | (rw [iA]; rfl) | rw [iA]
theorem v_a1 {r : CL} {x : D} : kA k xn r e x s = (iA k xn r e s).bind (kA2 x) := rfl
theorem v_a2 {x : D} {xs : List D} : kA2 x xs s = .ok (x :: xs) s := rfl
theorem v_comp {vs : List Nat} {tg : Tg} {it : IT} {cd : T} {el : C} : iQ k xn (.comp vs tg it cd el) e s = ((iI k xn it e s).bind (kCp k xn vs tg cd el e)).bind kCp2 := by first | rfl | (rw [iQ]; rfl) | rw [iQ]
theorem v_cp {vs : List Nat} {tg : Tg} {cd : T} {el : C} {xs : List D} {g : Gd} : kCp k xn vs tg cd el e (xs, g) s = chk (decide (xs.length ≤ SZ)) ((loopL g (cpF k xn vs tg cd el e) xs s).quiet) := rfl
theorem v_cpF {vs : List Nat} {tg : Tg} {cd : T} {el : C} {d : D} : cpF k xn vs tg cd el e d s = kCpF k xn cd el (setTg tg d (wipeE e vs)) s := rfl
theorem v_cpG {cd : T} {el : C} : kCpF k xn cd el (some e) s = (iT k xn cd e s).bind (kCpB k xn el e) := rfl
theorem v_cpBt {el : C} : kCpB k xn el e true s = (iE k xn el e s).bind kSome := rfl
theorem v_cpBf {el : C} : kCpB k xn el e false s = .ok none s := rfl
theorem v_some {x : D} : kSome x s = .ok (some x) s := rfl
theorem v_cp2 {xs : List D} : kCp2 xs s = .ok (.non, .l xs) s := rfl
theorem v_lst {es : CL} : iQ k xn (.lst es) e s = (iA k xn es e s).bind kL := by first | rfl | (rw [iQ]; rfl) | rw [iQ]
theorem v_l1 {xs : List D} : kL xs s = chk (decide (xs.length ≤ SZ)) (.ok (.non, .l xs) s) := rfl
theorem v_qval {c : C} : iQ k xn (.val c) e s = (iE k xn c e s).bind kQ := by first | rfl | (rw [iQ]; rfl) | rw [iQ]
theorem v_q1 {x : D} : kQ x s = (ok? (seqOf s x) s).bind (kQ2 x) := rfl
theorem v_q2 {x : D} {q : Sq} : kQ2 x q s = .ok (x, q) s := rfl
theorem v_rng1 {a : C} : iI k xn (.rng1 a) e s = (iE k xn a e s).bind kR1 := by first | rfl | (rw [iI]; rfl) | rw [iI]
theorem v_r1 {j : Int} : kR1 (.int j) s = chk (small62 j && decide (j ≤ SZ)) (.ok (rngL 0 1 j.toNat, []) s) := rfl
theorem R1_i (j : Int) (h' : j ≤ 16777216) {s : Stt} (h : 0 ≤ j) : kR1 (.int j) s = .ok (rngL 0 1 j.toNat, []) s := by
  have : (small62 j && decide (j ≤ SZ)) = true := by
    unfold small62
    simp only [Bool.and_eq_true, decide_eq_true_eq, SZ, Int.reducePow, Int.reduceNeg]
    omega
  rw [v_r1, this]; rfl
theorem R1_n (n : Nat) (h : n ≤ 16777216) {s : Stt} : kR1 (.int n) s = .ok (rngL 0 1 n, []) s := R1_i n (by omega) (by omega)
theorem v_rng2 {a b : C} : iI k xn (.rng2 a b) e s = (iE k xn a e s).bind (kR2 k xn b e) := by first | rfl | (rw [iI]; rfl) | rw [iI]
theorem v_r2 {b : C} {x : D} : kR2 k xn b e x s = (iE k xn b e s).bind (kR2b x) := rfl
theorem v_r2b {i j : Int} : kR2b (.int i) (.int j) s = chk (small62 i && small62 j && decide (j - i ≤ SZ)) (.ok (rngL i 1 (j - i).toNat, []) s) := rfl
theorem v_enm {q : SQ} : iI k xn (.enm q) e s = (iQ k xn q e s).bind kEn := by first | rfl | (rw [iI]; rfl) | rw [iI]
theorem v_en1 {d : D} {q : Sq} : kEn (d, q) s = .ok (enumD 0 q.items, gdOf d q) s := rfl
theorem v_zip {q r : SQ} : iI k xn (.zip q r) e s = (iQ k xn q e s).bind (kZ k xn r e) := by first | rfl | (rw [iI]; rfl) | rw [iI]
theorem v_z1 {r : SQ} {q : D × Sq} : kZ k xn r e q s = (iQ k xn r e s).bind (kZ2 q) := rfl
theorem v_z2t {d f : D} {x y : List D} : kZ2 (d, .t x) (f, .t y) s = chk ((zipD x y).all D.noS) (.ok (zipD x y, []) s) := rfl
theorem v_irev {q : SQ} : iI k xn (.rev q) e s = (iQ k xn q e s).bind kRv := by first | rfl | (rw [iI]; rfl) | rw [iI]
theorem v_rvl {d : D} {x : List D} : kRv (d, .l x) s = .ok (x.reverse, gdOf d (.l x)) s := rfl
theorem v_rvt {d : D} {x : List D} : kRv (d, .t x) s = .ok (x.reverse, gdOf d (.t x)) s := rfl
theorem v_ival {q : SQ} : iI k xn (.val q) e s = (iQ k xn q e s).bind kIv := by first | rfl | (rw [iI]; rfl) | rw [iI]
theorem v_iv1 {d : D} {q : Sq} : kIv (d, q) s = .ok (q.items, gdOf d q) s := rfl
theorem w_skip : iS k xn (.skip) e s = .ok (.nx e) s := by first | rfl | (rw [iS]; rfl) | rw [iS]
theorem w_seq {a b : S} : iS k xn (.seq a b) e s = (iS k xn a e s).nxt (iS k xn b) := by first | rfl | (rw [iS]; rfl) | rw [iS]
theorem w_asg {t : Tg} {c : C} : iS k xn (.asg t c) e s = (iE k xn c e s).to e (kAsg t e) := by first | rfl | (rw [iS]; rfl) | rw [iS]
theorem w_asg1 {t : Tg} {d : D} : kAsg t e d s = asgR (setTg t d e) s := rfl
theorem w_asg2 : asgR (some e) s = .ok (.nx e) s := rfl
theorem w_par {is : List Nat} {es : CL} : iS k xn (.par is es) e s = (iA k xn es e s).to e (kPar is e) := by first | rfl | (rw [iS]; rfl) | rw [iS]
theorem w_par1 {is : List Nat} {ds : List D} : kPar is e ds s = asgR (setMany is ds e) s := rfl
theorem w_sub {o i c : C} : iS k xn (.sub o i c) e s = (iE k xn c e s).to e (kSub k xn o i e) := by first | rfl | (rw [iS]; rfl) | rw [iS]
theorem w_sub1 {o i : C} {v : D} : kSub k xn o i e v s = (iE k xn o e s).to e (kSub2 k xn i e v) := rfl
theorem w_sub2 {i : C} {v x : D} : kSub2 k xn i e v x s = (iE k xn i e s).to e (kSub3 e v x) := rfl
theorem w_sub3 {v x y : D} : kSub3 e v x y s = putR e (putD s x y v) := rfl
theorem w_put : putR e (some s) = .ok (.nx e) s := rfl
theorem w_aug {i : Nat} {o : BO} {c : C} : iS k xn (.aug i o c) e s = augR k xn i o c e s (e[i]?) := by first | rfl | (rw [iS]; rfl) | rw [iS]
theorem w_aug1 {i : Nat} {o : BO} {c : C} {d : D} : augR k xn i o c e s (some (some d)) = (iE k xn c e s).to e (kAug i o e d) := rfl
theorem w_aug2 {i : Nat} {o : BO} {d y : D} : kAug i o e d y s = (augD s o d y).to e (kAug2 i e) := rfl
theorem w_aug3 {i : Nat} {z : D} : kAug2 i e z s = .ok (.nx (e.set i (some z))) s := rfl
theorem w_augs {o i c : C} {p : BO} : iS k xn (.augs o i p c) e s = (iE k xn o e s).to e (kAs k xn i p c e) := by first | rfl | (rw [iS]; rfl) | rw [iS]
theorem w_as1 {i c : C} {p : BO} {x : D} : kAs k xn i p c e x s = (iE k xn i e s).to e (kAs2 k xn p c e x) := rfl
theorem w_as2 {c : C} {p : BO} {x y : D} : kAs2 k xn p c e x y s = (ok? (dgetD s x y) s).to e (kAs3 k xn p c e x y) := rfl
theorem w_as3 {c : C} {p : BO} {x y v : D} : kAs3 k xn p c e x y v s = (iE k xn c e s).to e (kAs4 p e x y v) := rfl
theorem w_as4 {p : BO} {x y v w : D} : kAs4 p e x y v w s = (augD s p v w).to e (kAs5 e x y) := rfl
theorem w_as5 {x y z : D} : kAs5 e x y z s = putR e (putD s x y z) := rfl
theorem w_exp {c : C} : iS k xn (.exp c) e s = (iE k xn c e s).to e (kNx e) := by first | rfl | (rw [iS]; rfl) | rw [iS]
theorem w_nx {d : D} : kNx e d s = .ok (.nx e) s := rfl
theorem w_ret {c : C} : iS k xn (.ret c) e s = (iE k xn c e s).to e kRt := by first | rfl | (rw [iS]; rfl) | rw [iS]
theorem w_rt {d : D} : kRt d s = .ok (.rt d) s := rfl
theorem w_ite {c : T} {a b : S} : iS k xn (.ite c a b) e s = (iT k xn c e s).to e (kIf k xn a b e) := by first | rfl | (rw [iS]; rfl) | rw [iS]
theorem w_ift {a b : S} : kIf k xn a b e true s = iS k xn a e s := rfl
theorem w_iff {a b : S} : kIf k xn a b e false s = iS k xn b e s := rfl
theorem w_whil {c : T} {b : S} : iS k xn (.whil c b) e s = loopW (iT k xn c) (iS k xn b) 1000000000 e s := by first | rfl | (rw [iS]; rfl) | rw [iS]
theorem w_for {t : Tg} {i : IT} {b : S} : iS k xn (.for_ t i b) e s = (iI k xn i e s).to e (kFor k xn t b e) := by first | rfl | (rw [iS]; rfl) | rw [iS]
theorem w_for1 {t : Tg} {b : S} {xs : List D} {g : Gd} : kFor k xn t b e (xs, g) s = loopF g (forF k xn t b) xs e s := rfl
theorem w_forF {t : Tg} {b : S} {d : D} : forF k xn t b d e s = forG k xn b (setTg t d e) s := rfl
theorem w_forG {b : S} : forG k xn b (some e) s = iS k xn b e s := rfl
theorem w_lf0 {f : D → Ev → Stt → RS} : loopF [] f [] e s = .ok (.nx e) s := if_pos (show Gd.stand s [] from trivial)
theorem w_lf1 {f : D → Ev → Stt → RS} {d : D} {ds : List D} : loopF [] f (d :: ds) e s = (f d e s).turn (loopF [] f ds) := if_pos (show Gd.stand s [] from trivial)
theorem w_brk : iS k xn (.brk) e s = .ok (.bk e) s := by first | rfl | (rw [iS]; rfl) | rw [iS]
theorem w_cont : iS k xn (.cont) e s = .ok (.ct e) s := by first | rfl | (rw [iS]; rfl) | rw [iS]
theorem w_rais {c : Nat} {fs : List (List Nat)} {es : CL} : iS k xn (.rais c fs es) e s = (iA k xn es e s).to e (kRs c fs e) := by first | rfl | (rw [iS]; rfl) | rw [iS]
theorem w_rs1 {c : Nat} {f : List Nat} {d : D} : kRs c [f] e [d] s = .exc ⟨c, [(f, d)]⟩ e s := rfl
theorem w_rs2 {c : Nat} {f g : List Nat} {d b : D} : kRs c [f, g] e [d, b] s = .exc ⟨c, [(g, b), (f, d)]⟩ e s := rfl
theorem w_try {i : Nat} {cs : List Nat} {h b : S} : iS k xn (.tryy i cs h b) e s = tryR k i cs h (iS k none b e s) := by first | rfl | (rw [iS]; rfl) | rw [iS]
theorem w_tryok {i : Nat} {cs : List Nat} {h : S} {f : Fl} : tryR k i cs h (.ok f s) = .ok f s := rfl
theorem w_tryx {i : Nat} {cs : List Nat} {h : S} {x : Xn} : tryR k i cs h (.exc x e s) = (if cs.contains x.cls = true then (if i < e.length then (iS k (some x) h (e.set i none) s).hush else .err) else .exc x e s) := rfl
theorem g_var {i : Nat} {d : D} : setTg (.var i) d e = some (e.set i (some d)) := rfl
theorem g_nil : setTg .nil (.tup []) e = some e := rfl
theorem g_cons {a r : Tg} {d : D} {ds : List D} : setTg (.cons a r) (.tup (d :: ds)) e = (setTg a d e).bind (kTg r ds) := rfl
theorem g_tg {r : Tg} {ds : List D} : kTg r ds e = setTg r (.tup ds) e := rfl
theorem g_many0 : setMany [] [] e = some e := rfl
theorem g_many {i : Nat} {is : List Nat} {d : D} {ds : List D} : setMany (i :: is) (d :: ds) e = setMany is ds (e.set i (some d)) := rfl
theorem g_wipe0 : wipeE e [] = e := rfl
theorem g_wipe {v : Nat} {vs : List Nat} : wipeE e (v :: vs) = (wipeE e vs).set v none := rfl
theorem t_non : truth s (.non) = some false := rfl
theorem t_bl {b : Bool} : truth s (.bl b) = some b := rfl
theorem t_int {i : Int} : truth s (.int i) = some (i != 0) := rfl
theorem t_str {x : List Nat} : truth s (.str x) = some (!x.isEmpty) := rfl
theorem t_tup {xs : List D} : truth s (.tup xs) = some (!xs.isEmpty) := rfl
def truO (o : Option Ob) : Option Bool := match o with
    | some (.lst xs) => some (!xs.isEmpty)
    | some (.rol xs) => some (!xs.isEmpty)
    | some (.dct kvs) => some (!kvs.isEmpty)
    | none => none
theorem t_ref {l : Nat} : truth s (.ref l) = truO (s[l]?) := rfl
theorem t_lst {xs : List D} : truO (some (.lst xs)) = some (!xs.isEmpty) := rfl
theorem t_rol {xs : List D} : truO (some (.rol xs)) = some (!xs.isEmpty) := rfl
theorem t_dct {xs : List (Ky × D)} : truO (some (.dct xs)) = some (!xs.isEmpty) := rfl
def lgO (o : Option Ob) : Option (List D) := match o with
  | some (.lst xs) => some xs
  | some (.rol xs) => some xs
  | _ => none
theorem q_tup {xs : List D} : seqOf s (.tup xs) = some (.t xs) := rfl
theorem q_str {x : List Nat} : seqOf s (.str x) = some (.s x) := rfl
theorem q_ref {l : Nat} : seqOf s (.ref l) = (lgO (s[l]?)).map .l := rfl
theorem q_lget {l : Nat} : lget s l = lgO (s[l]?) := rfl
theorem q_lst {xs : List D} : lgO (some (.lst xs)) = some xs := rfl
theorem q_rol {xs : List D} : lgO (some (.rol xs)) = some xs := rfl
theorem q_il {xs : List D} : Sq.items (.l xs) = xs := rfl
theorem q_it {xs : List D} : Sq.items (.t xs) = xs := rfl
theorem q_is {x : List Nat} : Sq.items (.s x) = chars x := rfl
theorem q_gt {ys : List D} {q : Sq} : gdOf (.tup ys) q = [] := by cases q <;> rfl
theorem q_gs {ys : List Nat} {q : Sq} : gdOf (.str ys) q = [] := by cases q <;> rfl
theorem q_gn {q : Sq} : gdOf .non q = [] := by cases q <;> rfl
theorem q_gr {l : Nat} {xs : List D} : gdOf (.ref l) (.l xs) = [(l, xs)] := rfl
theorem c_eqi {i j : Int} : cmpD s .eq (.int i) (.int j) = some (i == j) := rfl
theorem c_eqs {i j : List Nat} : cmpD s .eq (.str i) (.str j) = some (i == j) := rfl
theorem c_eqb {i j : Bool} : cmpD s .eq (.bl i) (.bl j) = some (i == j) := rfl
theorem c_nei {i j : Int} : cmpD s .ne (.int i) (.int j) = some (!(i == j)) := rfl
theorem c_nes {i j : List Nat} : cmpD s .ne (.str i) (.str j) = some (!(i == j)) := rfl
theorem c_neb {i j : Bool} : cmpD s .ne (.bl i) (.bl j) = some (!(i == j)) := rfl
theorem c_lt {i j : Int} : cmpD s .lt (.int i) (.int j) = some (decide (i < j)) := rfl
theorem c_le {i j : Int} : cmpD s .le (.int i) (.int j) = some (decide (i ≤ j)) := rfl
theorem c_gt {i j : Int} : cmpD s .gt (.int i) (.int j) = some (decide (j < i)) := rfl
theorem c_ge {i j : Int} : cmpD s .ge (.int i) (.int j) = some (decide (j ≤ i)) := rfl
theorem c_ltS {i j : List Nat} : cmpD s .lt (.str i) (.str j) = some (slt i j) := rfl
theorem c_isnon : cmpD s .isnon (.non) .non = some true := rfl
theorem c_nisnon : cmpD s .notnon (.non) .non = some false := rfl
theorem c_isbl {b : Bool} : cmpD s .isnon (.bl b) .non = some false := rfl
theorem c_nisbl {b : Bool} : cmpD s .notnon (.bl b) .non = some true := rfl
theorem c_isint {i : Int} : cmpD s .isnon (.int i) .non = some false := rfl
theorem c_nisint {i : Int} : cmpD s .notnon (.int i) .non = some true := rfl
theorem c_isstr {x : List Nat} : cmpD s .isnon (.str x) .non = some false := rfl
theorem c_nisstr {x : List Nat} : cmpD s .notnon (.str x) .non = some true := rfl
theorem c_istup {xs : List D} : cmpD s .isnon (.tup xs) .non = some false := rfl
theorem c_nistup {xs : List D} : cmpD s .notnon (.tup xs) .non = some true := rfl
theorem c_isref {l : Nat} : cmpD s .isnon (.ref l) .non = some false := rfl
theorem c_nisref {l : Nat} : cmpD s .notnon (.ref l) .non = some true := rfl
theorem c_in {x y : D} : cmpD s .isin x y = memD s x y := rfl
theorem c_nin {x y : D} : cmpD s .notin x y = (memD s x y).map (!·) := rfl
theorem c_mstr {c : Nat} {b : List Nat} : memD s (.str [c]) (.str b) = some (decide (c ∈ b)) := rfl
theorem c_mtup {x : D} {ys : List D} : memD s x (.tup ys) = inSeq x ys := rfl
def memO (x : D) (o : Option Ob) : Option Bool := match o with
    | some (.lst ys) => inSeq x ys
    | some (.rol ys) => inSeq x ys
    | some (.dct kvs) => (keyOf x).map fun k => (kval kvs k).isSome
    | none => none
theorem c_mref {x : D} {l : Nat} : memD s x (.ref l) = memO x (s[l]?) := rfl
theorem c_mlst {x : D} {ys : List D} : memO x (some (.lst ys)) = inSeq x ys := rfl
theorem c_mdst {x : List Nat} {ys : List (Ky × D)} : memO (.str x) (some (.dct ys)) = some (kval ys (.inr x)).isSome := rfl
theorem c_mdin {x : Int} {ys : List (Ky × D)} : memO (.int x) (some (.dct ys)) = some (kval ys (.inl x)).isSome := rfl
theorem b_addi {i j : Int} : binD s .add (.int i) (.int j) = .ok (.int (i + j)) s := rfl
theorem b_adds {i j : List Nat} : binD s .add (.str i) (.str j) = chk (decide (i.length + j.length ≤ SZ)) (.ok (.str (i ++ j)) s) := rfl
theorem b_addt {i j : List D} : binD s .add (.tup i) (.tup j) = chk (decide (i.length + j.length ≤ SZ)) (.ok (.tup (i ++ j)) s) := rfl
theorem b_sub {i j : Int} : binD s .sub (.int i) (.int j) = .ok (.int (i - j)) s := rfl
theorem b_mul {i j : Int} : binD s .mul (.int i) (.int j) = chk (small i || small j) (.ok (.int (i * j)) s) := rfl
theorem b_muls {x : List Nat} {j : Int} : binD s .mul (.str x) (.int j) = chk (decide (-(2 ^ 63) ≤ j) && decide (j < 2 ^ 63) && decide (x.length * j.toNat ≤ SZ)) (.ok (.str (reps x j)) s) := rfl
theorem b_fdiv {i j : Int} : binD s .fdiv (.int i) (.int j) = chk (decide (0 < j) && decide (j < 1073741824)) (.ok (.int (i / j)) s) := rfl
theorem b_mod {i j : Int} : binD s .mod (.int i) (.int j) = chk (decide (0 < j)) (.ok (.int (i % j)) s) := rfl
theorem b_pow {i j : Int} : binD s .pow (.int i) (.int j) = chk (decide (0 ≤ j) && decide (j ≤ 1000000) && small i) (.ok (.int (i ^ j.toNat)) s) := rfl
theorem b_shl {i j : Int} : binD s .shl (.int i) (.int j) = chk (decide (0 ≤ j) && decide (j ≤ 1000000) && small i) (.ok (.int (i * 2 ^ j.toNat)) s) := rfl
theorem b_aug {i j : Int} : augD s .add (.int i) (.int j) = .ok (.int (i + j)) s := rfl
theorem b_augs {i j : List Nat} : augD s .add (.str i) (.str j) = chk (decide (i.length + j.length ≤ SZ)) (.ok (.str (i ++ j)) s) := rfl
theorem b_augu {i j : Int} : augD s .sub (.int i) (.int j) = .ok (.int (i - j)) s := rfl
theorem i_tup {xs : List D} {i : Int} : idxD s (.tup xs) (.int i) = atI xs i := rfl
def chO (o : Option Nat) : Option D := o.map fun c => .str [c]
theorem i_str {x : List Nat} {i : Int} : idxD s (.str x) (.int i) = chO (atI x i) := rfl
theorem i_chs {c : Nat} : chO (some c) = some (.str [c]) := rfl
def idxO (k : D) (o : Option Ob) : Option D := match o with
    | some (.lst xs) => match k with
      | .int i => atI xs i
      | _ => none
    | some (.rol xs) => match k with
      | .int i => atI xs i
      | _ => none
    | some (.dct kvs) => (keyOf k).bind fun k => kval kvs k
    | none => none
theorem i_ref {l : Nat} {y : D} : idxD s (.ref l) y = idxO y (s[l]?) := rfl
theorem i_lst {i : Int} {xs : List D} : idxO (.int i) (some (.lst xs)) = atI xs i := rfl
theorem i_rol {i : Int} {xs : List D} : idxO (.int i) (some (.rol xs)) = atI xs i := rfl
theorem i_dst {x : List Nat} {kvs : List (Ky × D)} : idxO (.str x) (some (.dct kvs)) = kval kvs (.inr x) := rfl
theorem i_din {x : Int} {kvs : List (Ky × D)} : idxO (.int x) (some (.dct kvs)) = kval kvs (.inl x) := rfl
theorem s_tup {xs : List D} {lo hi : Option Int} : slcD s (.tup xs) lo hi = .ok (.tup (cut xs lo hi)) s := rfl
theorem s_str' {xs : List Nat} {lo hi : Option Int} : slcD s (.str xs) lo hi = .ok (.str (cut xs lo hi)) s := rfl
def slcO (s : Stt) (lo hi : Option Int) (o : Option (List D)) : R D := match o with
    | some xs => .ok (.ref s.length) (s ++ [.lst (cut xs lo hi)])
    | none => .err
def revO (s : Stt) (o : Option (List D)) : R D := match o with
    | some xs => .ok (.ref s.length) (s ++ [.lst xs.reverse])
    | none => .err
theorem s_ref {l : Nat} {lo hi : Option Int} : slcD s (.ref l) lo hi = slcO s lo hi (lgO (s[l]?)) := rfl
theorem s_lst {xs : List D} {lo hi : Option Int} : slcO s lo hi (some xs) = .ok (.ref s.length) (s ++ [.lst (cut xs lo hi)]) := rfl
theorem r_str {x : List Nat} : revD s (.str x) = .ok (.str x.reverse) s := rfl
theorem r_ref {l : Nat} : revD s (.ref l) = revO s (lgO (s[l]?)) := rfl
theorem r_lst {xs : List D} : revO s (some xs) = .ok (.ref s.length) (s ++ [.lst xs.reverse]) := rfl
theorem l_str {x : List Nat} : b1D s .len (.str x) = some (.int x.length) := rfl
theorem l_tup {x : List D} : b1D s .len (.tup x) = some (.int x.length) := rfl
def lenO (o : Option Ob) : Option D := match o with
    | some (.lst xs) => some (.int xs.length)
    | some (.rol xs) => some (.int xs.length)
    | some (.dct kvs) => some (.int kvs.length)
    | none => none
theorem l_ref {l : Nat} : b1D s .len (.ref l) = lenO (s[l]?) := rfl
theorem l_lst {xs : List D} : lenO (some (.lst xs)) = some (.int xs.length) := rfl
theorem l_rol {xs : List D} : lenO (some (.rol xs)) = some (.int xs.length) := rfl
theorem l_dct {xs : List (Ky × D)} : lenO (some (.dct xs)) = some (.int xs.length) := rfl
theorem l_abs {i : Int} : b1D s .abs (.int i) = some (.int (if i < 0 then -i else i)) := rfl
theorem l_int {i : Int} : b1D s .int (.int i) = some (.int i) := rfl
theorem l_intb {b : Bool} : b1D s .int (.bl b) = some (.int (if b then 1 else 0)) := rfl
theorem l_ord {c : Nat} : b1D s .ord (.str [c]) = some (.int (c : Nat)) := rfl
theorem z_tl {xs : List D} : bsD s .tuple (.l xs) = .ok (.tup xs) s := rfl
theorem z_tt {xs : List D} : bsD s .tuple (.t xs) = .ok (.tup xs) s := rfl
theorem z_ll {xs : List D} : bsD s .list (.l xs) = .ok (.ref s.length) (s ++ [.lst xs]) := rfl
theorem z_lt {xs : List D} : bsD s .list (.t xs) = .ok (.ref s.length) (s ++ [.lst xs]) := rfl
def kAny : List Bool → Stt → R D := fun bs s => .ok (.bl (bs.any id)) s
def kAll : List Bool → Stt → R D := fun bs s => .ok (.bl (bs.all id)) s
def kSum : List Int → Stt → R D := fun ns s => .ok (.int ns.sum) s
theorem z_any {xs : List D} : bsD s .any (.l xs) = (ok? (dbls xs) s).bind kAny := rfl
theorem z_all {xs : List D} : bsD s .all (.l xs) = (ok? (dbls xs) s).bind kAll := rfl
theorem z_sum {xs : List D} : bsD s .sum (.l xs) = (ok? (dints xs) s).bind kSum := rfl
theorem z_any1 {bs : List Bool} : kAny bs s = .ok (.bl (bs.any id)) s := rfl
theorem z_all1 {bs : List Bool} : kAll bs s = .ok (.bl (bs.all id)) s := rfl
theorem z_sum1 {ns : List Int} : kSum ns s = .ok (.int ns.sum) s := rfl
theorem z_srt {x : List Nat} : bsD s .sorted (.s x) = .ok (.ref s.length) (s ++ [.lst ((sortS (x.map fun c => [c])).map .str)]) := rfl
theorem z_srs {xs : List (List Nat)} {y : List Nat} : bsD s .sorted (.l ((y :: xs).map .str)) = .ok (.ref s.length) (s ++ [.lst ((sortS (y :: xs)).map .str)]) := by simp only [bsD, dstrs_map]; rfl
theorem z_sri {xs : List Int} : bsD s .sorted (.l (xs.map .int)) = .ok (.ref s.length) (s ++ [.lst ((sortI xs).map .int)]) := by simp only [bsD, dints_map]
theorem y_tup_tuple {xs : List D} : tysIs s (.tup xs) [.tuple] = some true := rfl
theorem y_tup_list {xs : List D} : tysIs s (.tup xs) [.list] = some false := rfl
theorem y_tup_bool {xs : List D} : tysIs s (.tup xs) [.bool] = some false := rfl
theorem y_tup_int {xs : List D} : tysIs s (.tup xs) [.int] = some false := rfl
theorem y_tup_str {xs : List D} : tysIs s (.tup xs) [.str] = some false := rfl
theorem y_tup_dict {xs : List D} : tysIs s (.tup xs) [.dict] = some false := rfl
theorem y_str_tuple {x : List Nat} : tysIs s (.str x) [.tuple] = some false := rfl
theorem y_str_list {x : List Nat} : tysIs s (.str x) [.list] = some false := rfl
theorem y_str_bool {x : List Nat} : tysIs s (.str x) [.bool] = some false := rfl
theorem y_str_int {x : List Nat} : tysIs s (.str x) [.int] = some false := rfl
theorem y_str_str {x : List Nat} : tysIs s (.str x) [.str] = some true := rfl
theorem y_str_dict {x : List Nat} : tysIs s (.str x) [.dict] = some false := rfl
theorem y_int_tuple {i : Int} : tysIs s (.int i) [.tuple] = some false := rfl
theorem y_int_list {i : Int} : tysIs s (.int i) [.list] = some false := rfl
theorem y_int_bool {i : Int} : tysIs s (.int i) [.bool] = some false := rfl
theorem y_int_int {i : Int} : tysIs s (.int i) [.int] = some true := rfl
theorem y_int_str {i : Int} : tysIs s (.int i) [.str] = some false := rfl
theorem y_int_dict {i : Int} : tysIs s (.int i) [.dict] = some false := rfl
theorem y_bl_tuple {b : Bool} : tysIs s (.bl b) [.tuple] = some false := rfl
theorem y_bl_list {b : Bool} : tysIs s (.bl b) [.list] = some false := rfl
theorem y_bl_bool {b : Bool} : tysIs s (.bl b) [.bool] = some true := rfl
theorem y_bl_int {b : Bool} : tysIs s (.bl b) [.int] = some true := rfl
theorem y_bl_str {b : Bool} : tysIs s (.bl b) [.str] = some false := rfl
theorem y_bl_dict {b : Bool} : tysIs s (.bl b) [.dict] = some false := rfl
theorem y_non_tuple : tysIs s (.non) [.tuple] = some false := rfl
theorem y_non_list : tysIs s (.non) [.list] = some false := rfl
theorem y_non_bool : tysIs s (.non) [.bool] = some false := rfl
theorem y_non_int : tysIs s (.non) [.int] = some false := rfl
theorem y_non_str : tysIs s (.non) [.str] = some false := rfl
theorem y_non_dict : tysIs s (.non) [.dict] = some false := rfl
def popO (l : Nat) (s : Stt) (o : Option Ob) : R D := match o with
    | some (.lst xs) => match xs[xs.length - 1]? with
      | some y => .ok y (s.set l (.lst xs.dropLast))
      | none => .err
    | _ => .err
def appO (l : Nat) (s : Stt) (y : D) (o : Option Ob) : R D := match o with
    | some (.lst xs) => chk (decide (xs.length < SZ)) (.ok .non (s.set l (.lst (xs ++ [y]))))
    | _ => .err
theorem m_pop {l : Nat} : m0D s .pop (.ref l) = popO l s (s[l]?) := rfl
theorem m_pop1 {l : Nat} {xs : List D} {y : D} : popO l s (some (.lst (xs ++ [y]))) = .ok y (s.set l (.lst xs)) := by simp [popO]
theorem m_rca {l : Nat} : rcv s .append (.ref l) = (lgO (s[l]?)).isSome := rfl
theorem m_app {l : Nat} {y : D} : m1D s .append (.ref l) y = appO l s y (s[l]?) := rfl
theorem m_app1 {l : Nat} {xs : List D} {y : D} : appO l s y (some (.lst xs)) = chk (decide (xs.length < SZ)) (.ok .non (s.set l (.lst (xs ++ [y])))) := rfl
def putO (s : Stt) (l : Nat) (k v : D) (o : Option Ob) : Option Stt := match o with
    | some (.lst xs) => match k with
      | .int i => (ixN xs.length i).map fun j => s.set l (.lst (xs.set j v))
      | _ => none
    | some (.dct kvs) => match keyOf k with
      | some k => if kvs.length < SZ then some (s.set l (.dct (kput kvs k v))) else none
      | none => none
    | _ => none
def dgO (k : D) (o : Option Ob) : Option D := match o with
    | some (.dct kvs) => (keyOf k).bind fun k => kval kvs k
    | _ => none
theorem p_ref {l : Nat} {k v : D} : putD s (.ref l) k v = putO s l k v (s[l]?) := rfl
theorem p_dst {l : Nat} {x : List Nat} {v : D} {kvs : List (Ky × D)} : putO s l (.str x) v (some (.dct kvs)) = (if kvs.length < SZ then some (s.set l (.dct (kput kvs (.inr x) v))) else none) := rfl
theorem p_din {l : Nat} {x : Int} {v : D} {kvs : List (Ky × D)} : putO s l (.int x) v (some (.dct kvs)) = (if kvs.length < SZ then some (s.set l (.dct (kput kvs (.inl x) v))) else none) := rfl
theorem p_get {l : Nat} {k : D} : dgetD s (.ref l) k = dgO k (s[l]?) := rfl
theorem p_gst {x : List Nat} {kvs : List (Ky × D)} : dgO (.str x) (some (.dct kvs)) = kval kvs (.inr x) := rfl
theorem p_gin {x : Int} {kvs : List (Ky × D)} : dgO (.int x) (some (.dct kvs)) = kval kvs (.inl x) := rfl
end Lk.Ev

end
section
set_option linter.all false
set_option maxRecDepth 100000
namespace Lk
open PySem L2 Ev
def sameI : S := (.exp (.m1 .append (.var 2) (.tup (.cons (.idx (.var 4) (.var 6)) (.cons (.idx (.var 5) (.var 6)) .nil)))))
def sameB : S := (.seq (.ite (.val (.cmp .eq (.b1 .len (.var 2)) (.int 0))) (.ret (.bl true)) .skip)
  (.seq (.asg (.cons (.var 4) (.cons (.var 5) .nil)) (.m0 .pop (.var 2)))
  (.ite (.or (.val (.isi (.var 5) [.tuple])) (.val (.isi (.var 5) [.list]))) (.seq (.ite (.and (.val (.isi (.var 5) [.tuple])) (.not (.val (.isi (.var 4) [.tuple])))) (.ret (.bl false)) .skip)
  (.seq (.ite (.and (.val (.isi (.var 5) [.list])) (.not (.val (.isi (.var 4) [.list])))) (.ret (.bl false)) .skip)
  (.seq (.ite (.val (.cmp .ne (.b1 .len (.var 4)) (.b1 .len (.var 5)))) (.ret (.bl false)) .skip)
  (.for_ (.var 6) (.rng1 (.b1 .len (.var 5))) sameI)))) (.ite (.val (.cmp .isnon (.var 5) .non)) (.ite (.val (.cmp .notnon (.var 4) .non)) (.ret (.bl false)) .skip) (.ite (.val (.isi (.var 5) [.bool])) (.ite (.or (.not (.val (.isi (.var 4) [.bool]))) (.val (.cmp .ne (.var 4) (.var 5)))) (.ret (.bl false)) .skip) (.ite (.val (.isi (.var 5) [.int])) (.ite (.or (.not (.val (.isi (.var 4) [.int]))) (.or (.val (.isi (.var 4) [.bool])) (.val (.cmp .ne (.var 4) (.var 5))))) (.ret (.bl false)) .skip) (.ite (.or (.not (.val (.isi (.var 5) [.str]))) (.or (.not (.val (.isi (.var 4) [.str]))) (.val (.cmp .ne (.var 4) (.var 5))))) (.ret (.bl false)) .skip)))))))
def sameC : S := (.seq (.asg (.var 2) (.newl (.lst (.cons (.tup (.cons (.var 0) (.cons (.var 1) .nil))) .nil))))
  (.seq (.for_ (.var 3) (.rng1 (.int 3000000)) sameB)
  (.ret (.bl false))))
mutual
def D.nd : D → Nat
  | .tup xs => D.nds xs + 1
  | _ => 1
def D.nds : List D → Nat
  | [] => 0
  | x :: xs => D.nd x + D.nds xs
end
theorem nds_app (xs ys : List D) : D.nds (xs ++ ys) = D.nds xs + D.nds ys := by
  induction xs with
  | nil => simp [D.nds]
  | cons x xs ih => simp [D.nds, ih]; omega
theorem nd_pos (x : D) : 1 ≤ x.nd := by cases x <;> simp [D.nd]
theorem nds_len (xs : List D) : xs.length ≤ D.nds xs := by
  induction xs with
  | nil => simp [D.nds]
  | cons x xs ih => have := nd_pos x; simp [D.nds]; omega
def prD (d : D) : D := .tup [d, d]
def D.kids : D → List D
  | .tup xs => xs
  | _ => []
theorem rngL_ln (c : Int) (n : Nat) : ∀ lo, (rngL lo c n).length = n := by
  induction n with
  | zero => intro lo; rfl
  | succ n ih => intro lo; show (rngL _ c n).length + 1 = _; rw [ih]
theorem atI_get {α : Type} (xs : List α) (i : Nat) (x : α) (h : xs[i]? = some x) : atI xs (i : Int) = some x := by
  have hl : i < xs.length := by
    rcases Nat.lt_or_ge i xs.length with q | q
    · exact q
    · rw [List.getElem?_eq_none q] at h; cases h
  unfold atI ixN
  rw [if_pos (by omega), if_pos (by omega)]
  show xs[(i : Int).toNat]? = _
  rw [Int.toNat_natCast]; exact h
theorem same_in (K : Cal) {a b x3 : Option D} {d : D} (xs : List D) (hd : d = .tup xs) : ∀ (m i : Nat) (x6 : Option D) (st : List D), i + m = xs.length → st.length + m < SZ →
    ∃ x6', loopF [] (forF K none (.var 6) sameI) (rngL i 1 m) [a, b, some (.ref 0), x3, some d, some d, x6] [.lst (st.map prD)] = .ok (.nx [a, b, some (.ref 0), x3, some d, some d, x6']) [.lst ((st ++ xs.drop i).map prD)] := by
  subst hd
  intro m
  induction m with
  | zero =>
    intro i x6 st h1 h2
    refine ⟨x6, ?_⟩
    rw [List.drop_of_length_le (by omega), List.append_nil]
    rfl
  | succ m ih =>
    intro i x6 st h1 h2
    have hx : ∃ x, xs[i]? = some x := by
      rw [List.getElem?_eq_getElem (by omega)]; exact ⟨_, rfl⟩
    obtain ⟨x, hx⟩ := hx
    have h3 := atI_get xs i x hx
    have h4 : (List.map prD st).length < SZ := by rw [List.length_map]; omega
    have h5 : (forF K none (.var 6) sameI) (.int i) [a, b, some (.ref 0), x3, some (.tup xs), some (.tup xs), x6] [.lst (st.map prD)] = .ok (.nx [a, b, some (.ref 0), x3, some (.tup xs), some (.tup xs), some (.int i)]) [.lst ((st ++ [x]).map prD)] := by
      unfold sameI
      simp (config := {implicitDefEqProofs := false}) only [v_var, v_get, v_non, v_bl, v_int, v_str, v_cint, v_cstr, v_bin, v_bin1, v_bin2, v_neg, v_neg1, v_not, v_not1, v_NB, v_Bl, v_cmp, v_cmp1, v_cmp2, v_chain, v_ch1, v_ch2, v_ch3t, v_ch3f, v_and, v_and1, v_and2t, v_and2f, v_or, v_or1, v_or2t, v_or2f, v_ite, v_itet, v_itef, v_tup, v_tup1, v_newl, v_newl1, v_dct, v_dct1, v_idx, v_idx1, v_idx2, v_slc, v_slc1, v_slc2, v_slc3, v_rev, v_rev1, v_call, v_call1, v_kw, v_kw1, v_kw2, v_b1, v_b11, v_bs, v_bs1, v_min2, v_min, v_mini, v_max2, v_max, v_maxi, v_join, v_join1, v_join2, v_join2t, v_join3, v_m0, v_m01, v_m1, v_m11, v_m12, v_isi, v_isi1, v_xfld, v_xis, v_tval, v_val1, v_tnot, v_TN, v_tand, v_TAt, v_TAf, v_tor, v_TOt, v_TOf, v_tite, v_TIt, v_TIf, v_yes, v_pn, v_ps, v_p1, v_nil, v_cons, v_a1, v_a2, v_comp, v_cp, v_cpF, v_cpG, v_cpBt, v_cpBf, v_some, v_cp2, v_lst, v_l1, v_qval, v_q1, v_q2, v_rng1, v_rng2, v_r2, v_enm, v_en1, v_zip, v_z1, v_z2t, v_irev, v_rvl, v_rvt, v_ival, v_iv1, w_skip, w_seq, w_asg, w_asg1, w_asg2, w_par, w_par1, w_sub, w_sub1, w_sub2, w_sub3, w_put, w_aug, w_aug1, w_aug2, w_aug3, w_augs, w_as1, w_as2, w_as3, w_as4, w_as5, w_exp, w_nx, w_ret, w_rt, w_ite, w_ift, w_iff, w_whil, w_for, w_for1, w_forF, w_forG, w_brk, w_cont, w_rais, w_rs1, w_rs2, w_try, w_tryok, w_tryx, g_var, g_nil, g_cons, g_tg, g_many0, g_many, g_wipe0, g_wipe, t_non, t_bl, t_int, t_str, t_tup, t_ref, t_lst, t_rol, t_dct, q_tup, q_str, q_ref, q_lget, q_lst, q_rol, q_il, q_it, q_is, q_gt, q_gs, q_gn, q_gr, c_eqi, c_eqs, c_eqb, c_nei, c_nes, c_neb, c_lt, c_le, c_gt, c_ge, c_ltS, c_isnon, c_nisnon, c_isbl, c_nisbl, c_isint, c_nisint, c_isstr, c_nisstr, c_istup, c_nistup, c_isref, c_nisref, c_in, c_nin, c_mstr, c_mtup, c_mref, c_mlst, c_mdst, c_mdin, b_addi, b_adds, b_addt, b_sub, b_mul, b_muls, b_fdiv, b_mod, b_pow, b_shl, b_aug, b_augs, b_augu, i_tup, i_str, i_chs, i_ref, i_lst, i_rol, i_dst, i_din, Ev.s_tup, Ev.s_str', Ev.s_ref, Ev.s_lst, r_str, r_ref, r_lst, l_str, l_tup, l_ref, l_lst, l_rol, l_dct, l_abs, l_int, l_intb, l_ord, z_tl, z_tt, z_ll, z_lt, z_any, z_all, z_sum, z_any1, z_all1, z_sum1, z_srt, z_srs, z_sri, y_tup_tuple, y_tup_list, y_tup_bool, y_tup_int, y_tup_str, y_tup_dict, y_str_tuple, y_str_list, y_str_bool, y_str_int, y_str_str, y_str_dict, y_int_tuple, y_int_list, y_int_bool, y_int_int, y_int_str, y_int_dict, y_bl_tuple, y_bl_list, y_bl_bool, y_bl_int, y_bl_str, y_bl_dict, y_non_tuple, y_non_list, y_non_bool, y_non_int, y_non_str, y_non_dict, m_pop, m_pop1, m_rca, m_app, m_app1, p_ref, p_get, p_gst, p_gin, SZ, Nat.reduceLT, Nat.reduceBEq, Int.reduceLT, Int.reduceLE, Int.reduceBEq, Int.reduceNeg, Int.reduceAdd, Int.reduceSub, Int.reduceMul, R.bind_ok, R.bind_exc, R.quiet_ok, R.to_ok, R.to_exc, RS.nxt_nx, RS.nxt_rt, RS.nxt_bk, RS.nxt_ct, RS.nxt_exc, RS.hush_nx, RS.hush_rt, RS.turn_nx, RS.turn_ct, RS.turn_bk, RS.turn_rt, RS.turn_exc, ok?_some, chk_true, Option.bind_some, Option.map_some, Option.isSome_some, List.getElem?_cons_zero, List.getElem?_cons_succ, List.getElem?_nil, List.set_cons_zero, List.set_cons_succ, List.length_cons, List.length_nil, Nat.reduceAdd, Nat.reduceLeDiff, decide_true, decide_false, Bool.not_true, Bool.not_false, Bool.and_self, Bool.true_and, Bool.and_true, Bool.or_true, Bool.true_or, Bool.or_false, Bool.false_or, if_true, List.nil_append, List.cons_append, Nat.zero_add, List.map_cons, List.map_nil, List.replicate_succ, List.replicate_zero, Nat.reduceSub, List.isEmpty_cons, List.isEmpty_nil, h3, h4, List.map_append]
      rfl
    obtain ⟨x6', h6⟩ := ih (i + 1) (some (.int i)) (st ++ [x]) (by omega) (by simp; omega)
    refine ⟨x6', ?_⟩
    rw [show rngL (i : Int) 1 (m + 1) = .int i :: rngL (i + 1) 1 m from rfl, w_lf1, h5, RS.turn_nx, show (i : Int) + 1 = ((i + 1 : Nat) : Int) by omega, h6]
    congr 2
    have : xs.drop i = x :: xs.drop (i + 1) := by
      have := List.getElem?_eq_some_iff.1 hx
      obtain ⟨hl, he⟩ := this
      rw [List.drop_eq_getElem_cons hl, he]
    rw [this]
    simp
theorem same_step (K : Cal) {a b x3 x4 x5 x6 : Option D} (st : List D) (d : D) (hc : d.blw 0 = true) (hl : st.length + d.nd < SZ) :
    ∃ x4' x5' x6', iS K none sameB [a, b, some (.ref 0), x3, x4, x5, x6] [.lst ((st ++ [d]).map prD)] = .ok (.nx [a, b, some (.ref 0), x3, x4', x5', x6']) [.lst ((st ++ d.kids).map prD)] := by
  unfold sameB
  have h1 : ∀ (ys : List D) (y : D), ((((ys ++ [y]).length : Nat) : Int) == 0) = false := by
    intro ys y
    rw [beq_eq_false_iff_ne, List.length_append]
    simp only [List.length_cons, List.length_nil]
    omega
  have h2 : (st ++ [d]).map prD = st.map prD ++ [.tup [d, d]] := by rw [List.map_append]; rfl
  cases d with
  | tup xs =>
    obtain ⟨x6', h6⟩ := same_in K (a := a) (b := b) (x3 := x3) xs rfl xs.length 0 x6 st (by omega) (by have := nds_len xs; simp only [D.nd, SZ] at *; omega)
    refine ⟨some (.tup xs), some (.tup xs), x6', ?_⟩
    have h7 := fun s => R1_n xs.length (s := s) (by have := nds_len xs; simp only [D.nd, SZ] at *; omega)
    simp (config := {implicitDefEqProofs := false}) only [v_var, v_get, v_non, v_bl, v_int, v_str, v_cint, v_cstr, v_bin, v_bin1, v_bin2, v_neg, v_neg1, v_not, v_not1, v_NB, v_Bl, v_cmp, v_cmp1, v_cmp2, v_chain, v_ch1, v_ch2, v_ch3t, v_ch3f, v_and, v_and1, v_and2t, v_and2f, v_or, v_or1, v_or2t, v_or2f, v_ite, v_itet, v_itef, v_tup, v_tup1, v_newl, v_newl1, v_dct, v_dct1, v_idx, v_idx1, v_idx2, v_slc, v_slc1, v_slc2, v_slc3, v_rev, v_rev1, v_call, v_call1, v_kw, v_kw1, v_kw2, v_b1, v_b11, v_bs, v_bs1, v_min2, v_min, v_mini, v_max2, v_max, v_maxi, v_join, v_join1, v_join2, v_join2t, v_join3, v_m0, v_m01, v_m1, v_m11, v_m12, v_isi, v_isi1, v_xfld, v_xis, v_tval, v_val1, v_tnot, v_TN, v_tand, v_TAt, v_TAf, v_tor, v_TOt, v_TOf, v_tite, v_TIt, v_TIf, v_yes, v_pn, v_ps, v_p1, v_nil, v_cons, v_a1, v_a2, v_comp, v_cp, v_cpF, v_cpG, v_cpBt, v_cpBf, v_some, v_cp2, v_lst, v_l1, v_qval, v_q1, v_q2, v_rng1, v_rng2, v_r2, v_enm, v_en1, v_zip, v_z1, v_z2t, v_irev, v_rvl, v_rvt, v_ival, v_iv1, w_skip, w_seq, w_asg, w_asg1, w_asg2, w_par, w_par1, w_sub, w_sub1, w_sub2, w_sub3, w_put, w_aug, w_aug1, w_aug2, w_aug3, w_augs, w_as1, w_as2, w_as3, w_as4, w_as5, w_exp, w_nx, w_ret, w_rt, w_ite, w_ift, w_iff, w_whil, w_for, w_for1, w_forF, w_forG, w_brk, w_cont, w_rais, w_rs1, w_rs2, w_try, w_tryok, w_tryx, g_var, g_nil, g_cons, g_tg, g_many0, g_many, g_wipe0, g_wipe, t_non, t_bl, t_int, t_str, t_tup, t_ref, t_lst, t_rol, t_dct, q_tup, q_str, q_ref, q_lget, q_lst, q_rol, q_il, q_it, q_is, q_gt, q_gs, q_gn, q_gr, c_eqi, c_eqs, c_eqb, c_nei, c_nes, c_neb, c_lt, c_le, c_gt, c_ge, c_ltS, c_isnon, c_nisnon, c_isbl, c_nisbl, c_isint, c_nisint, c_isstr, c_nisstr, c_istup, c_nistup, c_isref, c_nisref, c_in, c_nin, c_mstr, c_mtup, c_mref, c_mlst, c_mdst, c_mdin, b_addi, b_adds, b_addt, b_sub, b_mul, b_muls, b_fdiv, b_mod, b_pow, b_shl, b_aug, b_augs, b_augu, i_tup, i_str, i_chs, i_ref, i_lst, i_rol, i_dst, i_din, Ev.s_tup, Ev.s_str', Ev.s_ref, Ev.s_lst, r_str, r_ref, r_lst, l_str, l_tup, l_ref, l_lst, l_rol, l_dct, l_abs, l_int, l_intb, l_ord, z_tl, z_tt, z_ll, z_lt, z_any, z_all, z_sum, z_any1, z_all1, z_sum1, z_srt, z_srs, z_sri, y_tup_tuple, y_tup_list, y_tup_bool, y_tup_int, y_tup_str, y_tup_dict, y_str_tuple, y_str_list, y_str_bool, y_str_int, y_str_str, y_str_dict, y_int_tuple, y_int_list, y_int_bool, y_int_int, y_int_str, y_int_dict, y_bl_tuple, y_bl_list, y_bl_bool, y_bl_int, y_bl_str, y_bl_dict, y_non_tuple, y_non_list, y_non_bool, y_non_int, y_non_str, y_non_dict, m_pop, m_pop1, m_rca, m_app, m_app1, p_ref, p_get, p_gst, p_gin, SZ, Nat.reduceLT, Nat.reduceBEq, Int.reduceLT, Int.reduceLE, Int.reduceBEq, Int.reduceNeg, Int.reduceAdd, Int.reduceSub, Int.reduceMul, R.bind_ok, R.bind_exc, R.quiet_ok, R.to_ok, R.to_exc, RS.nxt_nx, RS.nxt_rt, RS.nxt_bk, RS.nxt_ct, RS.nxt_exc, RS.hush_nx, RS.hush_rt, RS.turn_nx, RS.turn_ct, RS.turn_bk, RS.turn_rt, RS.turn_exc, ok?_some, chk_true, Option.bind_some, Option.map_some, Option.isSome_some, List.getElem?_cons_zero, List.getElem?_cons_succ, List.getElem?_nil, List.set_cons_zero, List.set_cons_succ, List.length_cons, List.length_nil, Nat.reduceAdd, Nat.reduceLeDiff, decide_true, decide_false, Bool.not_true, Bool.not_false, Bool.and_self, Bool.true_and, Bool.and_true, Bool.or_true, Bool.true_or, Bool.or_false, Bool.false_or, if_true, List.nil_append, List.cons_append, Nat.zero_add, List.map_cons, List.map_nil, List.replicate_succ, List.replicate_zero, Nat.reduceSub, List.isEmpty_cons, List.isEmpty_nil, h1, h2, h7, beq_self_eq_true]
    exact h6
  | non => refine ⟨some .non, some .non, x6, ?_⟩; simp (config := {implicitDefEqProofs := false}) only [v_var, v_get, v_non, v_bl, v_int, v_str, v_cint, v_cstr, v_bin, v_bin1, v_bin2, v_neg, v_neg1, v_not, v_not1, v_NB, v_Bl, v_cmp, v_cmp1, v_cmp2, v_chain, v_ch1, v_ch2, v_ch3t, v_ch3f, v_and, v_and1, v_and2t, v_and2f, v_or, v_or1, v_or2t, v_or2f, v_ite, v_itet, v_itef, v_tup, v_tup1, v_newl, v_newl1, v_dct, v_dct1, v_idx, v_idx1, v_idx2, v_slc, v_slc1, v_slc2, v_slc3, v_rev, v_rev1, v_call, v_call1, v_kw, v_kw1, v_kw2, v_b1, v_b11, v_bs, v_bs1, v_min2, v_min, v_mini, v_max2, v_max, v_maxi, v_join, v_join1, v_join2, v_join2t, v_join3, v_m0, v_m01, v_m1, v_m11, v_m12, v_isi, v_isi1, v_xfld, v_xis, v_tval, v_val1, v_tnot, v_TN, v_tand, v_TAt, v_TAf, v_tor, v_TOt, v_TOf, v_tite, v_TIt, v_TIf, v_yes, v_pn, v_ps, v_p1, v_nil, v_cons, v_a1, v_a2, v_comp, v_cp, v_cpF, v_cpG, v_cpBt, v_cpBf, v_some, v_cp2, v_lst, v_l1, v_qval, v_q1, v_q2, v_rng1, v_rng2, v_r2, v_enm, v_en1, v_zip, v_z1, v_z2t, v_irev, v_rvl, v_rvt, v_ival, v_iv1, w_skip, w_seq, w_asg, w_asg1, w_asg2, w_par, w_par1, w_sub, w_sub1, w_sub2, w_sub3, w_put, w_aug, w_aug1, w_aug2, w_aug3, w_augs, w_as1, w_as2, w_as3, w_as4, w_as5, w_exp, w_nx, w_ret, w_rt, w_ite, w_ift, w_iff, w_whil, w_for, w_for1, w_forF, w_forG, w_brk, w_cont, w_rais, w_rs1, w_rs2, w_try, w_tryok, w_tryx, g_var, g_nil, g_cons, g_tg, g_many0, g_many, g_wipe0, g_wipe, t_non, t_bl, t_int, t_str, t_tup, t_ref, t_lst, t_rol, t_dct, q_tup, q_str, q_ref, q_lget, q_lst, q_rol, q_il, q_it, q_is, q_gt, q_gs, q_gn, q_gr, c_eqi, c_eqs, c_eqb, c_nei, c_nes, c_neb, c_lt, c_le, c_gt, c_ge, c_ltS, c_isnon, c_nisnon, c_isbl, c_nisbl, c_isint, c_nisint, c_isstr, c_nisstr, c_istup, c_nistup, c_isref, c_nisref, c_in, c_nin, c_mstr, c_mtup, c_mref, c_mlst, c_mdst, c_mdin, b_addi, b_adds, b_addt, b_sub, b_mul, b_muls, b_fdiv, b_mod, b_pow, b_shl, b_aug, b_augs, b_augu, i_tup, i_str, i_chs, i_ref, i_lst, i_rol, i_dst, i_din, Ev.s_tup, Ev.s_str', Ev.s_ref, Ev.s_lst, r_str, r_ref, r_lst, l_str, l_tup, l_ref, l_lst, l_rol, l_dct, l_abs, l_int, l_intb, l_ord, z_tl, z_tt, z_ll, z_lt, z_any, z_all, z_sum, z_any1, z_all1, z_sum1, z_srt, z_srs, z_sri, y_tup_tuple, y_tup_list, y_tup_bool, y_tup_int, y_tup_str, y_tup_dict, y_str_tuple, y_str_list, y_str_bool, y_str_int, y_str_str, y_str_dict, y_int_tuple, y_int_list, y_int_bool, y_int_int, y_int_str, y_int_dict, y_bl_tuple, y_bl_list, y_bl_bool, y_bl_int, y_bl_str, y_bl_dict, y_non_tuple, y_non_list, y_non_bool, y_non_int, y_non_str, y_non_dict, m_pop, m_pop1, m_rca, m_app, m_app1, p_ref, p_get, p_gst, p_gin, SZ, Nat.reduceLT, Nat.reduceBEq, Int.reduceLT, Int.reduceLE, Int.reduceBEq, Int.reduceNeg, Int.reduceAdd, Int.reduceSub, Int.reduceMul, R.bind_ok, R.bind_exc, R.quiet_ok, R.to_ok, R.to_exc, RS.nxt_nx, RS.nxt_rt, RS.nxt_bk, RS.nxt_ct, RS.nxt_exc, RS.hush_nx, RS.hush_rt, RS.turn_nx, RS.turn_ct, RS.turn_bk, RS.turn_rt, RS.turn_exc, ok?_some, chk_true, Option.bind_some, Option.map_some, Option.isSome_some, List.getElem?_cons_zero, List.getElem?_cons_succ, List.getElem?_nil, List.set_cons_zero, List.set_cons_succ, List.length_cons, List.length_nil, Nat.reduceAdd, Nat.reduceLeDiff, decide_true, decide_false, Bool.not_true, Bool.not_false, Bool.and_self, Bool.true_and, Bool.and_true, Bool.or_true, Bool.true_or, Bool.or_false, Bool.false_or, if_true, List.nil_append, List.cons_append, Nat.zero_add, List.map_cons, List.map_nil, List.replicate_succ, List.replicate_zero, Nat.reduceSub, List.isEmpty_cons, List.isEmpty_nil, h1, h2, D.kids]; rw [List.append_nil]
  | bl b => refine ⟨some (.bl b), some (.bl b), x6, ?_⟩; simp (config := {implicitDefEqProofs := false}) only [v_var, v_get, v_non, v_bl, v_int, v_str, v_cint, v_cstr, v_bin, v_bin1, v_bin2, v_neg, v_neg1, v_not, v_not1, v_NB, v_Bl, v_cmp, v_cmp1, v_cmp2, v_chain, v_ch1, v_ch2, v_ch3t, v_ch3f, v_and, v_and1, v_and2t, v_and2f, v_or, v_or1, v_or2t, v_or2f, v_ite, v_itet, v_itef, v_tup, v_tup1, v_newl, v_newl1, v_dct, v_dct1, v_idx, v_idx1, v_idx2, v_slc, v_slc1, v_slc2, v_slc3, v_rev, v_rev1, v_call, v_call1, v_kw, v_kw1, v_kw2, v_b1, v_b11, v_bs, v_bs1, v_min2, v_min, v_mini, v_max2, v_max, v_maxi, v_join, v_join1, v_join2, v_join2t, v_join3, v_m0, v_m01, v_m1, v_m11, v_m12, v_isi, v_isi1, v_xfld, v_xis, v_tval, v_val1, v_tnot, v_TN, v_tand, v_TAt, v_TAf, v_tor, v_TOt, v_TOf, v_tite, v_TIt, v_TIf, v_yes, v_pn, v_ps, v_p1, v_nil, v_cons, v_a1, v_a2, v_comp, v_cp, v_cpF, v_cpG, v_cpBt, v_cpBf, v_some, v_cp2, v_lst, v_l1, v_qval, v_q1, v_q2, v_rng1, v_rng2, v_r2, v_enm, v_en1, v_zip, v_z1, v_z2t, v_irev, v_rvl, v_rvt, v_ival, v_iv1, w_skip, w_seq, w_asg, w_asg1, w_asg2, w_par, w_par1, w_sub, w_sub1, w_sub2, w_sub3, w_put, w_aug, w_aug1, w_aug2, w_aug3, w_augs, w_as1, w_as2, w_as3, w_as4, w_as5, w_exp, w_nx, w_ret, w_rt, w_ite, w_ift, w_iff, w_whil, w_for, w_for1, w_forF, w_forG, w_brk, w_cont, w_rais, w_rs1, w_rs2, w_try, w_tryok, w_tryx, g_var, g_nil, g_cons, g_tg, g_many0, g_many, g_wipe0, g_wipe, t_non, t_bl, t_int, t_str, t_tup, t_ref, t_lst, t_rol, t_dct, q_tup, q_str, q_ref, q_lget, q_lst, q_rol, q_il, q_it, q_is, q_gt, q_gs, q_gn, q_gr, c_eqi, c_eqs, c_eqb, c_nei, c_nes, c_neb, c_lt, c_le, c_gt, c_ge, c_ltS, c_isnon, c_nisnon, c_isbl, c_nisbl, c_isint, c_nisint, c_isstr, c_nisstr, c_istup, c_nistup, c_isref, c_nisref, c_in, c_nin, c_mstr, c_mtup, c_mref, c_mlst, c_mdst, c_mdin, b_addi, b_adds, b_addt, b_sub, b_mul, b_muls, b_fdiv, b_mod, b_pow, b_shl, b_aug, b_augs, b_augu, i_tup, i_str, i_chs, i_ref, i_lst, i_rol, i_dst, i_din, Ev.s_tup, Ev.s_str', Ev.s_ref, Ev.s_lst, r_str, r_ref, r_lst, l_str, l_tup, l_ref, l_lst, l_rol, l_dct, l_abs, l_int, l_intb, l_ord, z_tl, z_tt, z_ll, z_lt, z_any, z_all, z_sum, z_any1, z_all1, z_sum1, z_srt, z_srs, z_sri, y_tup_tuple, y_tup_list, y_tup_bool, y_tup_int, y_tup_str, y_tup_dict, y_str_tuple, y_str_list, y_str_bool, y_str_int, y_str_str, y_str_dict, y_int_tuple, y_int_list, y_int_bool, y_int_int, y_int_str, y_int_dict, y_bl_tuple, y_bl_list, y_bl_bool, y_bl_int, y_bl_str, y_bl_dict, y_non_tuple, y_non_list, y_non_bool, y_non_int, y_non_str, y_non_dict, m_pop, m_pop1, m_rca, m_app, m_app1, p_ref, p_get, p_gst, p_gin, SZ, Nat.reduceLT, Nat.reduceBEq, Int.reduceLT, Int.reduceLE, Int.reduceBEq, Int.reduceNeg, Int.reduceAdd, Int.reduceSub, Int.reduceMul, R.bind_ok, R.bind_exc, R.quiet_ok, R.to_ok, R.to_exc, RS.nxt_nx, RS.nxt_rt, RS.nxt_bk, RS.nxt_ct, RS.nxt_exc, RS.hush_nx, RS.hush_rt, RS.turn_nx, RS.turn_ct, RS.turn_bk, RS.turn_rt, RS.turn_exc, ok?_some, chk_true, Option.bind_some, Option.map_some, Option.isSome_some, List.getElem?_cons_zero, List.getElem?_cons_succ, List.getElem?_nil, List.set_cons_zero, List.set_cons_succ, List.length_cons, List.length_nil, Nat.reduceAdd, Nat.reduceLeDiff, decide_true, decide_false, Bool.not_true, Bool.not_false, Bool.and_self, Bool.true_and, Bool.and_true, Bool.or_true, Bool.true_or, Bool.or_false, Bool.false_or, if_true, List.nil_append, List.cons_append, Nat.zero_add, List.map_cons, List.map_nil, List.replicate_succ, List.replicate_zero, Nat.reduceSub, List.isEmpty_cons, List.isEmpty_nil, h1, h2, D.kids, beq_self_eq_true]; rw [List.append_nil]
  | int b => refine ⟨some (.int b), some (.int b), x6, ?_⟩; simp (config := {implicitDefEqProofs := false}) only [v_var, v_get, v_non, v_bl, v_int, v_str, v_cint, v_cstr, v_bin, v_bin1, v_bin2, v_neg, v_neg1, v_not, v_not1, v_NB, v_Bl, v_cmp, v_cmp1, v_cmp2, v_chain, v_ch1, v_ch2, v_ch3t, v_ch3f, v_and, v_and1, v_and2t, v_and2f, v_or, v_or1, v_or2t, v_or2f, v_ite, v_itet, v_itef, v_tup, v_tup1, v_newl, v_newl1, v_dct, v_dct1, v_idx, v_idx1, v_idx2, v_slc, v_slc1, v_slc2, v_slc3, v_rev, v_rev1, v_call, v_call1, v_kw, v_kw1, v_kw2, v_b1, v_b11, v_bs, v_bs1, v_min2, v_min, v_mini, v_max2, v_max, v_maxi, v_join, v_join1, v_join2, v_join2t, v_join3, v_m0, v_m01, v_m1, v_m11, v_m12, v_isi, v_isi1, v_xfld, v_xis, v_tval, v_val1, v_tnot, v_TN, v_tand, v_TAt, v_TAf, v_tor, v_TOt, v_TOf, v_tite, v_TIt, v_TIf, v_yes, v_pn, v_ps, v_p1, v_nil, v_cons, v_a1, v_a2, v_comp, v_cp, v_cpF, v_cpG, v_cpBt, v_cpBf, v_some, v_cp2, v_lst, v_l1, v_qval, v_q1, v_q2, v_rng1, v_rng2, v_r2, v_enm, v_en1, v_zip, v_z1, v_z2t, v_irev, v_rvl, v_rvt, v_ival, v_iv1, w_skip, w_seq, w_asg, w_asg1, w_asg2, w_par, w_par1, w_sub, w_sub1, w_sub2, w_sub3, w_put, w_aug, w_aug1, w_aug2, w_aug3, w_augs, w_as1, w_as2, w_as3, w_as4, w_as5, w_exp, w_nx, w_ret, w_rt, w_ite, w_ift, w_iff, w_whil, w_for, w_for1, w_forF, w_forG, w_brk, w_cont, w_rais, w_rs1, w_rs2, w_try, w_tryok, w_tryx, g_var, g_nil, g_cons, g_tg, g_many0, g_many, g_wipe0, g_wipe, t_non, t_bl, t_int, t_str, t_tup, t_ref, t_lst, t_rol, t_dct, q_tup, q_str, q_ref, q_lget, q_lst, q_rol, q_il, q_it, q_is, q_gt, q_gs, q_gn, q_gr, c_eqi, c_eqs, c_eqb, c_nei, c_nes, c_neb, c_lt, c_le, c_gt, c_ge, c_ltS, c_isnon, c_nisnon, c_isbl, c_nisbl, c_isint, c_nisint, c_isstr, c_nisstr, c_istup, c_nistup, c_isref, c_nisref, c_in, c_nin, c_mstr, c_mtup, c_mref, c_mlst, c_mdst, c_mdin, b_addi, b_adds, b_addt, b_sub, b_mul, b_muls, b_fdiv, b_mod, b_pow, b_shl, b_aug, b_augs, b_augu, i_tup, i_str, i_chs, i_ref, i_lst, i_rol, i_dst, i_din, Ev.s_tup, Ev.s_str', Ev.s_ref, Ev.s_lst, r_str, r_ref, r_lst, l_str, l_tup, l_ref, l_lst, l_rol, l_dct, l_abs, l_int, l_intb, l_ord, z_tl, z_tt, z_ll, z_lt, z_any, z_all, z_sum, z_any1, z_all1, z_sum1, z_srt, z_srs, z_sri, y_tup_tuple, y_tup_list, y_tup_bool, y_tup_int, y_tup_str, y_tup_dict, y_str_tuple, y_str_list, y_str_bool, y_str_int, y_str_str, y_str_dict, y_int_tuple, y_int_list, y_int_bool, y_int_int, y_int_str, y_int_dict, y_bl_tuple, y_bl_list, y_bl_bool, y_bl_int, y_bl_str, y_bl_dict, y_non_tuple, y_non_list, y_non_bool, y_non_int, y_non_str, y_non_dict, m_pop, m_pop1, m_rca, m_app, m_app1, p_ref, p_get, p_gst, p_gin, SZ, Nat.reduceLT, Nat.reduceBEq, Int.reduceLT, Int.reduceLE, Int.reduceBEq, Int.reduceNeg, Int.reduceAdd, Int.reduceSub, Int.reduceMul, R.bind_ok, R.bind_exc, R.quiet_ok, R.to_ok, R.to_exc, RS.nxt_nx, RS.nxt_rt, RS.nxt_bk, RS.nxt_ct, RS.nxt_exc, RS.hush_nx, RS.hush_rt, RS.turn_nx, RS.turn_ct, RS.turn_bk, RS.turn_rt, RS.turn_exc, ok?_some, chk_true, Option.bind_some, Option.map_some, Option.isSome_some, List.getElem?_cons_zero, List.getElem?_cons_succ, List.getElem?_nil, List.set_cons_zero, List.set_cons_succ, List.length_cons, List.length_nil, Nat.reduceAdd, Nat.reduceLeDiff, decide_true, decide_false, Bool.not_true, Bool.not_false, Bool.and_self, Bool.true_and, Bool.and_true, Bool.or_true, Bool.true_or, Bool.or_false, Bool.false_or, if_true, List.nil_append, List.cons_append, Nat.zero_add, List.map_cons, List.map_nil, List.replicate_succ, List.replicate_zero, Nat.reduceSub, List.isEmpty_cons, List.isEmpty_nil, h1, h2, D.kids, beq_self_eq_true]; rw [List.append_nil]
  | str b => refine ⟨some (.str b), some (.str b), x6, ?_⟩; simp (config := {implicitDefEqProofs := false}) only [v_var, v_get, v_non, v_bl, v_int, v_str, v_cint, v_cstr, v_bin, v_bin1, v_bin2, v_neg, v_neg1, v_not, v_not1, v_NB, v_Bl, v_cmp, v_cmp1, v_cmp2, v_chain, v_ch1, v_ch2, v_ch3t, v_ch3f, v_and, v_and1, v_and2t, v_and2f, v_or, v_or1, v_or2t, v_or2f, v_ite, v_itet, v_itef, v_tup, v_tup1, v_newl, v_newl1, v_dct, v_dct1, v_idx, v_idx1, v_idx2, v_slc, v_slc1, v_slc2, v_slc3, v_rev, v_rev1, v_call, v_call1, v_kw, v_kw1, v_kw2, v_b1, v_b11, v_bs, v_bs1, v_min2, v_min, v_mini, v_max2, v_max, v_maxi, v_join, v_join1, v_join2, v_join2t, v_join3, v_m0, v_m01, v_m1, v_m11, v_m12, v_isi, v_isi1, v_xfld, v_xis, v_tval, v_val1, v_tnot, v_TN, v_tand, v_TAt, v_TAf, v_tor, v_TOt, v_TOf, v_tite, v_TIt, v_TIf, v_yes, v_pn, v_ps, v_p1, v_nil, v_cons, v_a1, v_a2, v_comp, v_cp, v_cpF, v_cpG, v_cpBt, v_cpBf, v_some, v_cp2, v_lst, v_l1, v_qval, v_q1, v_q2, v_rng1, v_rng2, v_r2, v_enm, v_en1, v_zip, v_z1, v_z2t, v_irev, v_rvl, v_rvt, v_ival, v_iv1, w_skip, w_seq, w_asg, w_asg1, w_asg2, w_par, w_par1, w_sub, w_sub1, w_sub2, w_sub3, w_put, w_aug, w_aug1, w_aug2, w_aug3, w_augs, w_as1, w_as2, w_as3, w_as4, w_as5, w_exp, w_nx, w_ret, w_rt, w_ite, w_ift, w_iff, w_whil, w_for, w_for1, w_forF, w_forG, w_brk, w_cont, w_rais, w_rs1, w_rs2, w_try, w_tryok, w_tryx, g_var, g_nil, g_cons, g_tg, g_many0, g_many, g_wipe0, g_wipe, t_non, t_bl, t_int, t_str, t_tup, t_ref, t_lst, t_rol, t_dct, q_tup, q_str, q_ref, q_lget, q_lst, q_rol, q_il, q_it, q_is, q_gt, q_gs, q_gn, q_gr, c_eqi, c_eqs, c_eqb, c_nei, c_nes, c_neb, c_lt, c_le, c_gt, c_ge, c_ltS, c_isnon, c_nisnon, c_isbl, c_nisbl, c_isint, c_nisint, c_isstr, c_nisstr, c_istup, c_nistup, c_isref, c_nisref, c_in, c_nin, c_mstr, c_mtup, c_mref, c_mlst, c_mdst, c_mdin, b_addi, b_adds, b_addt, b_sub, b_mul, b_muls, b_fdiv, b_mod, b_pow, b_shl, b_aug, b_augs, b_augu, i_tup, i_str, i_chs, i_ref, i_lst, i_rol, i_dst, i_din, Ev.s_tup, Ev.s_str', Ev.s_ref, Ev.s_lst, r_str, r_ref, r_lst, l_str, l_tup, l_ref, l_lst, l_rol, l_dct, l_abs, l_int, l_intb, l_ord, z_tl, z_tt, z_ll, z_lt, z_any, z_all, z_sum, z_any1, z_all1, z_sum1, z_srt, z_srs, z_sri, y_tup_tuple, y_tup_list, y_tup_bool, y_tup_int, y_tup_str, y_tup_dict, y_str_tuple, y_str_list, y_str_bool, y_str_int, y_str_str, y_str_dict, y_int_tuple, y_int_list, y_int_bool, y_int_int, y_int_str, y_int_dict, y_bl_tuple, y_bl_list, y_bl_bool, y_bl_int, y_bl_str, y_bl_dict, y_non_tuple, y_non_list, y_non_bool, y_non_int, y_non_str, y_non_dict, m_pop, m_pop1, m_rca, m_app, m_app1, p_ref, p_get, p_gst, p_gin, SZ, Nat.reduceLT, Nat.reduceBEq, Int.reduceLT, Int.reduceLE, Int.reduceBEq, Int.reduceNeg, Int.reduceAdd, Int.reduceSub, Int.reduceMul, R.bind_ok, R.bind_exc, R.quiet_ok, R.to_ok, R.to_exc, RS.nxt_nx, RS.nxt_rt, RS.nxt_bk, RS.nxt_ct, RS.nxt_exc, RS.hush_nx, RS.hush_rt, RS.turn_nx, RS.turn_ct, RS.turn_bk, RS.turn_rt, RS.turn_exc, ok?_some, chk_true, Option.bind_some, Option.map_some, Option.isSome_some, List.getElem?_cons_zero, List.getElem?_cons_succ, List.getElem?_nil, List.set_cons_zero, List.set_cons_succ, List.length_cons, List.length_nil, Nat.reduceAdd, Nat.reduceLeDiff, decide_true, decide_false, Bool.not_true, Bool.not_false, Bool.and_self, Bool.true_and, Bool.and_true, Bool.or_true, Bool.true_or, Bool.or_false, Bool.false_or, if_true, List.nil_append, List.cons_append, Nat.zero_add, List.map_cons, List.map_nil, List.replicate_succ, List.replicate_zero, Nat.reduceSub, List.isEmpty_cons, List.isEmpty_nil, h1, h2, D.kids, beq_self_eq_true]; rw [List.append_nil]
  | ref l => cases hc
theorem same_loop (K : Cal) {a b : Option D} : ∀ (r : Nat) (lo : Int) (st : List D) (x3 x4 x5 x6 : Option D), D.blws 0 st = true → D.nds st < r → D.nds st < SZ →
    ∃ s', loopF [] (forF K none (.var 3) sameB) (rngL lo 1 r) [a, b, some (.ref 0), x3, x4, x5, x6] [.lst (st.map prD)] = .ok (.rt (.bl true)) s' := by
  intro r
  induction r with
  | zero => intro lo st x3 x4 x5 x6 h1 h2 h3; omega
  | succ r ih =>
    intro lo st x3 x4 x5 x6 h1 h2 h3
    rw [show rngL lo 1 (r + 1) = .int lo :: rngL (lo + 1) 1 r from rfl, w_lf1]
    have h4 : (forF K none (.var 3) sameB) (.int lo) [a, b, some (.ref 0), x3, x4, x5, x6] [.lst (st.map prD)] = iS K none sameB [a, b, some (.ref 0), some (.int lo), x4, x5, x6] [.lst (st.map prD)] := rfl
    rw [h4]
    rcases List.eq_nil_or_concat st with q | ⟨ini, d, q⟩
    · subst q
      refine ⟨[.lst []], ?_⟩
      unfold sameB
      simp (config := {implicitDefEqProofs := false}) only [v_var, v_get, v_non, v_bl, v_int, v_str, v_cint, v_cstr, v_bin, v_bin1, v_bin2, v_neg, v_neg1, v_not, v_not1, v_NB, v_Bl, v_cmp, v_cmp1, v_cmp2, v_chain, v_ch1, v_ch2, v_ch3t, v_ch3f, v_and, v_and1, v_and2t, v_and2f, v_or, v_or1, v_or2t, v_or2f, v_ite, v_itet, v_itef, v_tup, v_tup1, v_newl, v_newl1, v_dct, v_dct1, v_idx, v_idx1, v_idx2, v_slc, v_slc1, v_slc2, v_slc3, v_rev, v_rev1, v_call, v_call1, v_kw, v_kw1, v_kw2, v_b1, v_b11, v_bs, v_bs1, v_min2, v_min, v_mini, v_max2, v_max, v_maxi, v_join, v_join1, v_join2, v_join2t, v_join3, v_m0, v_m01, v_m1, v_m11, v_m12, v_isi, v_isi1, v_xfld, v_xis, v_tval, v_val1, v_tnot, v_TN, v_tand, v_TAt, v_TAf, v_tor, v_TOt, v_TOf, v_tite, v_TIt, v_TIf, v_yes, v_pn, v_ps, v_p1, v_nil, v_cons, v_a1, v_a2, v_comp, v_cp, v_cpF, v_cpG, v_cpBt, v_cpBf, v_some, v_cp2, v_lst, v_l1, v_qval, v_q1, v_q2, v_rng1, v_rng2, v_r2, v_enm, v_en1, v_zip, v_z1, v_z2t, v_irev, v_rvl, v_rvt, v_ival, v_iv1, w_skip, w_seq, w_asg, w_asg1, w_asg2, w_par, w_par1, w_sub, w_sub1, w_sub2, w_sub3, w_put, w_aug, w_aug1, w_aug2, w_aug3, w_augs, w_as1, w_as2, w_as3, w_as4, w_as5, w_exp, w_nx, w_ret, w_rt, w_ite, w_ift, w_iff, w_whil, w_for, w_for1, w_forF, w_forG, w_brk, w_cont, w_rais, w_rs1, w_rs2, w_try, w_tryok, w_tryx, g_var, g_nil, g_cons, g_tg, g_many0, g_many, g_wipe0, g_wipe, t_non, t_bl, t_int, t_str, t_tup, t_ref, t_lst, t_rol, t_dct, q_tup, q_str, q_ref, q_lget, q_lst, q_rol, q_il, q_it, q_is, q_gt, q_gs, q_gn, q_gr, c_eqi, c_eqs, c_eqb, c_nei, c_nes, c_neb, c_lt, c_le, c_gt, c_ge, c_ltS, c_isnon, c_nisnon, c_isbl, c_nisbl, c_isint, c_nisint, c_isstr, c_nisstr, c_istup, c_nistup, c_isref, c_nisref, c_in, c_nin, c_mstr, c_mtup, c_mref, c_mlst, c_mdst, c_mdin, b_addi, b_adds, b_addt, b_sub, b_mul, b_muls, b_fdiv, b_mod, b_pow, b_shl, b_aug, b_augs, b_augu, i_tup, i_str, i_chs, i_ref, i_lst, i_rol, i_dst, i_din, Ev.s_tup, Ev.s_str', Ev.s_ref, Ev.s_lst, r_str, r_ref, r_lst, l_str, l_tup, l_ref, l_lst, l_rol, l_dct, l_abs, l_int, l_intb, l_ord, z_tl, z_tt, z_ll, z_lt, z_any, z_all, z_sum, z_any1, z_all1, z_sum1, z_srt, z_srs, z_sri, y_tup_tuple, y_tup_list, y_tup_bool, y_tup_int, y_tup_str, y_tup_dict, y_str_tuple, y_str_list, y_str_bool, y_str_int, y_str_str, y_str_dict, y_int_tuple, y_int_list, y_int_bool, y_int_int, y_int_str, y_int_dict, y_bl_tuple, y_bl_list, y_bl_bool, y_bl_int, y_bl_str, y_bl_dict, y_non_tuple, y_non_list, y_non_bool, y_non_int, y_non_str, y_non_dict, m_pop, m_pop1, m_rca, m_app, m_app1, p_ref, p_get, p_gst, p_gin, SZ, Nat.reduceLT, Nat.reduceBEq, Int.reduceLT, Int.reduceLE, Int.reduceBEq, Int.reduceNeg, Int.reduceAdd, Int.reduceSub, Int.reduceMul, R.bind_ok, R.bind_exc, R.quiet_ok, R.to_ok, R.to_exc, RS.nxt_nx, RS.nxt_rt, RS.nxt_bk, RS.nxt_ct, RS.nxt_exc, RS.hush_nx, RS.hush_rt, RS.turn_nx, RS.turn_ct, RS.turn_bk, RS.turn_rt, RS.turn_exc, ok?_some, chk_true, Option.bind_some, Option.map_some, Option.isSome_some, List.getElem?_cons_zero, List.getElem?_cons_succ, List.getElem?_nil, List.set_cons_zero, List.set_cons_succ, List.length_cons, List.length_nil, Nat.reduceAdd, Nat.reduceLeDiff, decide_true, decide_false, Bool.not_true, Bool.not_false, Bool.and_self, Bool.true_and, Bool.and_true, Bool.or_true, Bool.true_or, Bool.or_false, Bool.false_or, if_true, List.nil_append, List.cons_append, Nat.zero_add, List.map_cons, List.map_nil, List.replicate_succ, List.replicate_zero, Nat.reduceSub, List.isEmpty_cons, List.isEmpty_nil, Int.natCast_zero, beq_self_eq_true]
    · rw [List.concat_eq_append] at q
      subst q
      rw [nds_app, show D.nds [d] = d.nd + 0 from rfl] at h2 h3
      rw [blws_all, List.all_append, ← blws_all, ← blws_all, Bool.and_eq_true] at h1
      have hd : d.blw 0 = true := by
        have := h1.2
        rw [D.blws, Bool.and_eq_true] at this
        exact this.1
      obtain ⟨y4, y5, y6, h5⟩ := same_step K (a := a) (b := b) (x3 := some (.int lo)) (x4 := x4) (x5 := x5) (x6 := x6) ini d hd (by have := nds_len ini; omega)
      rw [h5, RS.turn_nx]
      have h6 : D.nds d.kids < d.nd := by cases d <;> simp [D.kids, D.nds, D.nd]
      have h7 : D.blws 0 d.kids = true := by
        cases d <;> first | rfl | exact hd
      exact ih (lo + 1) (ini ++ d.kids) _ _ _ _ (by rw [blws_all, List.all_append, ← blws_all, ← blws_all, h1.1, h7]; rfl) (by rw [nds_app]; omega) (by rw [nds_app]; omega)
/-- the same value twice is the same -/
theorem same_ok (K : Cal) (d : D) (hc : d.blw 0 = true) (hn : d.nd < 3000000) : ∃ s', iS K none sameC [some d, some d, none, none, none, none, none] [] = .ok (.rt (.bl true)) s' := by
  obtain ⟨s', h⟩ := same_loop K (a := some d) (b := some d) 3000000 0 [d] none none none none (by rw [D.blws, hc]; rfl) (by simp only [D.nds]; omega) (by simp only [D.nds, SZ]; omega)
  refine ⟨s', ?_⟩
  have h2 := fun s => R1_i 3000000 (by omega) (s := s) (by omega)
  unfold sameC
  generalize hB : forF K none (.var 3) sameB = F at h
  simp (config := {implicitDefEqProofs := false}) only [v_var, v_get, v_non, v_bl, v_int, v_str, v_cint, v_cstr, v_bin, v_bin1, v_bin2, v_neg, v_neg1, v_not, v_not1, v_NB, v_Bl, v_cmp, v_cmp1, v_cmp2, v_chain, v_ch1, v_ch2, v_ch3t, v_ch3f, v_and, v_and1, v_and2t, v_and2f, v_or, v_or1, v_or2t, v_or2f, v_ite, v_itet, v_itef, v_tup, v_tup1, v_newl, v_newl1, v_dct, v_dct1, v_idx, v_idx1, v_idx2, v_slc, v_slc1, v_slc2, v_slc3, v_rev, v_rev1, v_call, v_call1, v_kw, v_kw1, v_kw2, v_b1, v_b11, v_bs, v_bs1, v_min2, v_min, v_mini, v_max2, v_max, v_maxi, v_join, v_join1, v_join2, v_join2t, v_join3, v_m0, v_m01, v_m1, v_m11, v_m12, v_isi, v_isi1, v_xfld, v_xis, v_tval, v_val1, v_tnot, v_TN, v_tand, v_TAt, v_TAf, v_tor, v_TOt, v_TOf, v_tite, v_TIt, v_TIf, v_yes, v_pn, v_ps, v_p1, v_nil, v_cons, v_a1, v_a2, v_comp, v_cp, v_cpF, v_cpG, v_cpBt, v_cpBf, v_some, v_cp2, v_lst, v_l1, v_qval, v_q1, v_q2, v_rng1, v_rng2, v_r2, v_enm, v_en1, v_zip, v_z1, v_z2t, v_irev, v_rvl, v_rvt, v_ival, v_iv1, w_skip, w_seq, w_asg, w_asg1, w_asg2, w_par, w_par1, w_sub, w_sub1, w_sub2, w_sub3, w_put, w_aug, w_aug1, w_aug2, w_aug3, w_augs, w_as1, w_as2, w_as3, w_as4, w_as5, w_exp, w_nx, w_ret, w_rt, w_ite, w_ift, w_iff, w_whil, w_for, w_for1, w_forF, w_forG, w_brk, w_cont, w_rais, w_rs1, w_rs2, w_try, w_tryok, w_tryx, g_var, g_nil, g_cons, g_tg, g_many0, g_many, g_wipe0, g_wipe, t_non, t_bl, t_int, t_str, t_tup, t_ref, t_lst, t_rol, t_dct, q_tup, q_str, q_ref, q_lget, q_lst, q_rol, q_il, q_it, q_is, q_gt, q_gs, q_gn, q_gr, c_eqi, c_eqs, c_eqb, c_nei, c_nes, c_neb, c_lt, c_le, c_gt, c_ge, c_ltS, c_isnon, c_nisnon, c_isbl, c_nisbl, c_isint, c_nisint, c_isstr, c_nisstr, c_istup, c_nistup, c_isref, c_nisref, c_in, c_nin, c_mstr, c_mtup, c_mref, c_mlst, c_mdst, c_mdin, b_addi, b_adds, b_addt, b_sub, b_mul, b_muls, b_fdiv, b_mod, b_pow, b_shl, b_aug, b_augs, b_augu, i_tup, i_str, i_chs, i_ref, i_lst, i_rol, i_dst, i_din, Ev.s_tup, Ev.s_str', Ev.s_ref, Ev.s_lst, r_str, r_ref, r_lst, l_str, l_tup, l_ref, l_lst, l_rol, l_dct, l_abs, l_int, l_intb, l_ord, z_tl, z_tt, z_ll, z_lt, z_any, z_all, z_sum, z_any1, z_all1, z_sum1, z_srt, z_srs, z_sri, y_tup_tuple, y_tup_list, y_tup_bool, y_tup_int, y_tup_str, y_tup_dict, y_str_tuple, y_str_list, y_str_bool, y_str_int, y_str_str, y_str_dict, y_int_tuple, y_int_list, y_int_bool, y_int_int, y_int_str, y_int_dict, y_bl_tuple, y_bl_list, y_bl_bool, y_bl_int, y_bl_str, y_bl_dict, y_non_tuple, y_non_list, y_non_bool, y_non_int, y_non_str, y_non_dict, m_pop, m_pop1, m_rca, m_app, m_app1, p_ref, p_get, p_gst, p_gin, SZ, Nat.reduceLT, Nat.reduceBEq, Int.reduceLT, Int.reduceLE, Int.reduceBEq, Int.reduceNeg, Int.reduceAdd, Int.reduceSub, Int.reduceMul, R.bind_ok, R.bind_exc, R.quiet_ok, R.to_ok, R.to_exc, RS.nxt_nx, RS.nxt_rt, RS.nxt_bk, RS.nxt_ct, RS.nxt_exc, RS.hush_nx, RS.hush_rt, RS.turn_nx, RS.turn_ct, RS.turn_bk, RS.turn_rt, RS.turn_exc, ok?_some, chk_true, Option.bind_some, Option.map_some, Option.isSome_some, List.getElem?_cons_zero, List.getElem?_cons_succ, List.getElem?_nil, List.set_cons_zero, List.set_cons_succ, List.length_cons, List.length_nil, Nat.reduceAdd, Nat.reduceLeDiff, decide_true, decide_false, Bool.not_true, Bool.not_false, Bool.and_self, Bool.true_and, Bool.and_true, Bool.or_true, Bool.true_or, Bool.or_false, Bool.false_or, if_true, List.nil_append, List.cons_append, Nat.zero_add, List.map_cons, List.map_nil, List.replicate_succ, List.replicate_zero, Nat.reduceSub, List.isEmpty_cons, List.isEmpty_nil, h2, hB]
  rw [show [Ob.lst [D.tup [d, d]]] = [Ob.lst ([d].map prD)] from rfl, show (3000000 : Int).toNat = 3000000 from rfl, h]
  rfl
end Lk

end
section
set_option linter.all false
set_option maxRecDepth 100000
namespace Lk
open PySem L2 Ev
/-! the jug of digits -/
def pourC : S := (.seq (.ite (.val (.idx (.var 0) (.str [100, 105, 103, 105, 116, 115]))) (.ret (.bin .mod (.b1 .int (.m0 .pop (.idx (.var 0) (.str [100, 105, 103, 105, 116, 115])))) (.var 2))) .skip)
  (.seq (.augs (.var 0) (.str [108, 97, 112, 115]) .add (.int 1))
  (.seq (.sub (.var 0) (.str [109, 105, 120, 101, 100]) (.bin .mod (.b1 .int (.bin .add (.bin .add (.bin .mul (.idx (.var 0) (.str [109, 105, 120, 101, 100])) (.int 39373)) (.bin .mul (.idx (.var 0) (.str [108, 97, 112, 115])) (.int 10013))) (.int 5))) (.int 2147483587)))
  (.seq (.ite (.val (.cmp .notin (.var 1) (.idx (.var 0) (.str [104, 97, 98, 105, 116, 115])))) (.sub (.idx (.var 0) (.str [104, 97, 98, 105, 116, 115])) (.var 1) (.tup (.cons (.bin .mod (.b1 .int (.bin .fdiv (.idx (.var 0) (.str [109, 105, 120, 101, 100])) (.int 17))) (.int 9)) (.cons (.bin .mod (.b1 .int (.bin .fdiv (.idx (.var 0) (.str [109, 105, 120, 101, 100])) (.int 173))) (.int 4001)) .nil)))) .skip)
  (.seq (.asg (.cons (.var 3) (.cons (.var 4) .nil)) (.idx (.idx (.var 0) (.str [104, 97, 98, 105, 116, 115])) (.var 1)))
  (.seq (.ite (.val (.cmp .lt (.var 3) (.int 2))) (.ret (.bin .mul (.var 3) (.bin .sub (.var 2) (.int 1)))) .skip)
  (.ret (.bin .mod (.b1 .int (.ite (.val (.cmp .eq (.var 3) (.int 2))) (.var 4) (.bin .fdiv (.idx (.var 0) (.str [109, 105, 120, 101, 100])) (.int 59)))) (.var 2)))))))))
structure Jug where
  ds : List Int
  mixed : Int
  laps : Int
  hs : List (List Nat × Int × Int)
def hsK (hs : List (List Nat × Int × Int)) : List (Ky × D) := hs.map fun h => (.inr h.1, .tup [.int h.2.1, .int h.2.2])
def jd (m l : D) : List (Ky × D) := [(.inr [100, 105, 103, 105, 116, 115], .ref 1), (.inr [109, 105, 120, 101, 100], m), (.inr [108, 97, 112, 115], l), (.inr [104, 97, 98, 105, 116, 115], .ref 2)]
def jst (sc : List Int) (j : Jug) : Stt := [.rol (sc.map .int), .lst (j.ds.map .int), .dct (hsK j.hs), .dct (jd (.int j.mixed) (.int j.laps))]
def Jug.ok (pl : List (List Nat)) (j : Jug) : Prop := (j.hs.map (·.1)).Nodup ∧ ∀ h ∈ j.hs, h.1 ∈ pl ∧ 0 ≤ h.2.1 ∧ h.2.1 < 9
theorem nodup_len {α : Type} [DecidableEq α] : ∀ (l pl : List α), l.Nodup → (∀ x ∈ l, x ∈ pl) → l.length ≤ pl.length := by
  intro l
  induction l with
  | nil => intro pl _ _; exact Nat.zero_le _
  | cons a l ih =>
    intro pl hn hs
    have ha : a ∈ pl := hs a (List.mem_cons_self ..)
    have hn := List.nodup_cons.1 hn
    have := ih (pl.erase a) hn.2 (fun x hx => (List.mem_erase_of_ne (fun e => by subst e; exact hn.1 hx)).2 (hs x (List.mem_cons_of_mem _ hx)))
    rw [List.length_erase_of_mem ha] at this
    have : 0 < pl.length := List.length_pos_of_mem ha
    simp only [List.length_cons]
    omega
theorem Jug.ok.len {pl : List (List Nat)} {j : Jug} (h : j.ok pl) : j.hs.length ≤ pl.length := by
  have := nodup_len (j.hs.map (·.1)) pl h.1 (fun x hx => by
    obtain ⟨q, hq, e⟩ := List.mem_map.1 hx
    rw [← e]; exact (h.2 q hq).1)
  rwa [List.length_map] at this
theorem hs_get (p : List Nat) (hs : List (List Nat × Int × Int)) : (∃ w o, (p, w, o) ∈ hs ∧ kval (hsK hs) (.inr p) = some (.tup [.int w, .int o])) ∨ (p ∉ hs.map (·.1) ∧ kval (hsK hs) (.inr p) = none) := by
  induction hs with
  | nil => right; exact ⟨by simp, rfl⟩
  | cons h hs ih =>
    obtain ⟨a, w, o⟩ := h
    by_cases e : a = p
    · subst e
      left
      refine ⟨w, o, List.mem_cons_self .., ?_⟩
      unfold kval hsK
      simp
    · have e2 : kval (hsK ((a, w, o) :: hs)) (.inr p) = kval (hsK hs) (.inr p) := by
        unfold kval hsK
        simp [e]
      rw [e2]
      rcases ih with ⟨w, o, h1, h2⟩ | ⟨h1, h2⟩
      · left; exact ⟨w, o, List.mem_cons_of_mem _ h1, h2⟩
      · right; refine ⟨?_, h2⟩
        simp only [List.map_cons, List.mem_cons, not_or]
        exact ⟨fun q => e q.symm, h1⟩
theorem hs_any (p : List Nat) (hs : List (List Nat × Int × Int)) (h : p ∉ hs.map (·.1)) : ((hsK hs).any fun kv => decide (kv.1 = .inr p)) = false := by
  rw [List.any_eq_false]
  intro x hx
  unfold hsK at hx
  obtain ⟨q, hq, e⟩ := List.mem_map.1 hx
  subst e
  simp only [decide_eq_true_eq, Sum.inr.injEq]
  intro e
  exact h (e ▸ List.mem_map_of_mem hq)
theorem hs_put (p : List Nat) (w o : Int) (hs : List (List Nat × Int × Int)) (h : p ∉ hs.map (·.1)) : kput (hsK hs) (.inr p) (.tup [.int w, .int o]) = hsK (hs ++ [(p, w, o)]) := by
  unfold kput
  rw [if_neg (by rw [hs_any p hs h]; decide)]
  unfold hsK
  rw [List.map_append]; rfl
theorem hs_new (p : List Nat) (w o : Int) (hs : List (List Nat × Int × Int)) (h : p ∉ hs.map (·.1)) : kval (hsK (hs ++ [(p, w, o)])) (.inr p) = some (.tup [.int w, .int o]) := by
  have h2 : (hsK hs).find? (fun kv => decide (kv.1 = .inr p)) = none := by
    rw [List.find?_eq_none]
    intro x hx
    have := List.any_eq_false.1 (hs_any p hs h) x hx
    exact this
  unfold kval
  rw [show hsK (hs ++ [(p, w, o)]) = hsK hs ++ [(.inr p, .tup [.int w, .int o])] by unfold hsK; rw [List.map_append]; rfl, List.find?_append, h2]
  simp
theorem jd_dig (m l : D) : kval (jd m l) (.inr [100, 105, 103, 105, 116, 115]) = some (.ref 1) := rfl
theorem jd_mix (m l : D) : kval (jd m l) (.inr [109, 105, 120, 101, 100]) = some m := rfl
theorem jd_lap (m l : D) : kval (jd m l) (.inr [108, 97, 112, 115]) = some l := rfl
theorem jd_hab (m l : D) : kval (jd m l) (.inr [104, 97, 98, 105, 116, 115]) = some (.ref 2) := rfl
theorem jd_pmix (m l v : D) : kput (jd m l) (.inr [109, 105, 120, 101, 100]) v = jd v l := rfl
theorem jd_plap (m l v : D) : kput (jd m l) (.inr [108, 97, 112, 115]) v = jd m v := rfl
theorem jd_smix (m l v : D) (s : Stt) (n : Nat) : putO s n (.str [109, 105, 120, 101, 100]) v (some (.dct (jd m l))) = some (s.set n (.dct (jd v l))) := rfl
theorem jd_slap (m l v : D) (s : Stt) (n : Nat) : putO s n (.str [108, 97, 112, 115]) v (some (.dct (jd m l))) = some (s.set n (.dct (jd m v))) := rfl
theorem hs_sput (p : List Nat) (w o : Int) (hs : List (List Nat × Int × Int)) (h : p ∉ hs.map (·.1)) (hn : hs.length < 16777216) (s : Stt) (n : Nat) : putO s n (.str p) (.tup [.int w, .int o]) (some (.dct (hsK hs))) = some (s.set n (.dct (hsK (hs ++ [(p, w, o)])))) := by
  rw [p_dst, if_pos (by unfold hsK; rw [List.length_map]; exact hn), hs_put p w o hs h]
theorem jd_len (m l : D) : (jd m l).length = 4 := rfl
theorem hsK_len (hs : List (List Nat × Int × Int)) : (hsK hs).length = hs.length := by unfold hsK; rw [List.length_map]
theorem emod_rng (a b : Int) (h : 0 < b) : 0 ≤ a % b ∧ a % b < b := ⟨Int.emod_nonneg _ (by omega), Int.emod_lt_of_pos _ h⟩
theorem pour_body (K : Cal) {pl : List (List Nat)} {sc : List Int} {j : Jug} {p : List Nat} {m : Int} (hj : j.ok pl) (hp : p ∈ pl) (hl : pl.length < 1000) (hm : 0 < m) :
    ∃ v j', 0 ≤ v ∧ v < m ∧ j'.ok pl ∧ j'.ds.length ≤ j.ds.length ∧ iS K none pourC [some (.ref 3), some (.str p), some (.int m), none, none] (jst sc j) = .ok (.rt (.int v)) (jst sc j') := by
  obtain ⟨ds, mixed, laps, hs⟩ := j
  have dm : decide (0 < m) = true := decide_eq_true hm
  rcases List.eq_nil_or_concat ds with q | ⟨ini, x, q⟩
  · subst q
    have hn : hs.length < 16777216 := by have := hj.len; simp only at this; omega
    generalize hM : (mixed * 39373 + (laps + 1) * 10013 + 5) % 2147483587 = M
    have s1 : small 39373 = true := by decide
    have s2 : small 10013 = true := by decide
    rcases hs_get p hs with ⟨w, o, h1, h2⟩ | ⟨h1, h2⟩
    · obtain ⟨_, h3, h4⟩ := hj.2 _ h1
      simp only at h3 h4
      have s3 : small w = true := by unfold small; simp only [Bool.and_eq_true, decide_eq_true_eq]; omega
      by_cases hw : w < 2
      · refine ⟨w * (m - 1), ⟨[], M, laps + 1, hs⟩, ?_, ?_, hj, by simp, ?_⟩
        · exact Int.mul_nonneg h3 (by omega)
        · rcases (by omega : w = 0 ∨ w = 1) with q | q <;> subst q <;> omega
        · unfold pourC jst
          simp (config := {implicitDefEqProofs := false}) only [v_var, v_get, v_non, v_bl, v_int, v_str, v_cint, v_cstr, v_bin, v_bin1, v_bin2, v_neg, v_neg1, v_not, v_not1, v_NB, v_Bl, v_cmp, v_cmp1, v_cmp2, v_chain, v_ch1, v_ch2, v_ch3t, v_ch3f, v_and, v_and1, v_and2t, v_and2f, v_or, v_or1, v_or2t, v_or2f, v_ite, v_itet, v_itef, v_tup, v_tup1, v_newl, v_newl1, v_dct, v_dct1, v_idx, v_idx1, v_idx2, v_slc, v_slc1, v_slc2, v_slc3, v_rev, v_rev1, v_call, v_call1, v_kw, v_kw1, v_kw2, v_b1, v_b11, v_bs, v_bs1, v_min2, v_min, v_mini, v_max2, v_max, v_maxi, v_join, v_join1, v_join2, v_join2t, v_join3, v_m0, v_m01, v_m1, v_m11, v_m12, v_isi, v_isi1, v_xfld, v_xis, v_tval, v_val1, v_tnot, v_TN, v_tand, v_TAt, v_TAf, v_tor, v_TOt, v_TOf, v_tite, v_TIt, v_TIf, v_yes, v_pn, v_ps, v_p1, v_nil, v_cons, v_a1, v_a2, v_comp, v_cp, v_cpF, v_cpG, v_cpBt, v_cpBf, v_some, v_cp2, v_lst, v_l1, v_qval, v_q1, v_q2, v_rng1, v_rng2, v_r2, v_enm, v_en1, v_zip, v_z1, v_z2t, v_irev, v_rvl, v_rvt, v_ival, v_iv1, w_skip, w_seq, w_asg, w_asg1, w_asg2, w_par, w_par1, w_sub, w_sub1, w_sub2, w_sub3, w_put, w_aug, w_aug1, w_aug2, w_aug3, w_augs, w_as1, w_as2, w_as3, w_as4, w_as5, w_exp, w_nx, w_ret, w_rt, w_ite, w_ift, w_iff, w_whil, w_for, w_for1, w_forF, w_forG, w_brk, w_cont, w_rais, w_rs1, w_rs2, w_try, w_tryok, w_tryx, g_var, g_nil, g_cons, g_tg, g_many0, g_many, g_wipe0, g_wipe, t_non, t_bl, t_int, t_str, t_tup, t_ref, t_lst, t_rol, t_dct, q_tup, q_str, q_ref, q_lget, q_lst, q_rol, q_il, q_it, q_is, q_gt, q_gs, q_gn, q_gr, c_eqi, c_eqs, c_eqb, c_nei, c_nes, c_neb, c_lt, c_le, c_gt, c_ge, c_ltS, c_isnon, c_nisnon, c_isbl, c_nisbl, c_isint, c_nisint, c_isstr, c_nisstr, c_istup, c_nistup, c_isref, c_nisref, c_in, c_nin, c_mstr, c_mtup, c_mref, c_mlst, c_mdst, c_mdin, b_addi, b_adds, b_addt, b_sub, b_mul, b_muls, b_fdiv, b_mod, b_pow, b_shl, b_aug, b_augs, b_augu, i_tup, i_str, i_chs, i_ref, i_lst, i_rol, i_dst, i_din, Ev.s_tup, Ev.s_str', Ev.s_ref, Ev.s_lst, r_str, r_ref, r_lst, l_str, l_tup, l_ref, l_lst, l_rol, l_dct, l_abs, l_int, l_intb, l_ord, z_tl, z_tt, z_ll, z_lt, z_any, z_all, z_sum, z_any1, z_all1, z_sum1, z_srt, z_srs, z_sri, y_tup_tuple, y_tup_list, y_tup_bool, y_tup_int, y_tup_str, y_tup_dict, y_str_tuple, y_str_list, y_str_bool, y_str_int, y_str_str, y_str_dict, y_int_tuple, y_int_list, y_int_bool, y_int_int, y_int_str, y_int_dict, y_bl_tuple, y_bl_list, y_bl_bool, y_bl_int, y_bl_str, y_bl_dict, y_non_tuple, y_non_list, y_non_bool, y_non_int, y_non_str, y_non_dict, m_pop, m_pop1, m_rca, m_app, m_app1, p_ref, p_get, p_gst, p_gin, SZ, Nat.reduceLT, Nat.reduceBEq, Int.reduceLT, Int.reduceLE, Int.reduceBEq, Int.reduceNeg, Int.reduceAdd, Int.reduceSub, Int.reduceMul, R.bind_ok, R.bind_exc, R.quiet_ok, R.to_ok, R.to_exc, RS.nxt_nx, RS.nxt_rt, RS.nxt_bk, RS.nxt_ct, RS.nxt_exc, RS.hush_nx, RS.hush_rt, RS.turn_nx, RS.turn_ct, RS.turn_bk, RS.turn_rt, RS.turn_exc, ok?_some, chk_true, Option.bind_some, Option.map_some, Option.isSome_some, List.getElem?_cons_zero, List.getElem?_cons_succ, List.getElem?_nil, List.set_cons_zero, List.set_cons_succ, List.length_cons, List.length_nil, Nat.reduceAdd, Nat.reduceLeDiff, decide_true, decide_false, Bool.not_true, Bool.not_false, Bool.and_self, Bool.true_and, Bool.and_true, Bool.or_true, Bool.true_or, Bool.or_false, Bool.false_or, if_true, List.nil_append, List.cons_append, Nat.zero_add, List.map_cons, List.map_nil, List.replicate_succ, List.replicate_zero, Nat.reduceSub, List.isEmpty_cons, List.isEmpty_nil, jd_dig, jd_mix, jd_lap, jd_hab, jd_smix, jd_slap, h2, hM, s1, s2, s3, dm, hw]
      · by_cases hw2 : w = 2
        · refine ⟨o % m, ⟨[], M, laps + 1, hs⟩, (emod_rng _ _ hm).1, (emod_rng _ _ hm).2, hj, by simp, ?_⟩
          unfold pourC jst
          simp (config := {implicitDefEqProofs := false}) only [v_var, v_get, v_non, v_bl, v_int, v_str, v_cint, v_cstr, v_bin, v_bin1, v_bin2, v_neg, v_neg1, v_not, v_not1, v_NB, v_Bl, v_cmp, v_cmp1, v_cmp2, v_chain, v_ch1, v_ch2, v_ch3t, v_ch3f, v_and, v_and1, v_and2t, v_and2f, v_or, v_or1, v_or2t, v_or2f, v_ite, v_itet, v_itef, v_tup, v_tup1, v_newl, v_newl1, v_dct, v_dct1, v_idx, v_idx1, v_idx2, v_slc, v_slc1, v_slc2, v_slc3, v_rev, v_rev1, v_call, v_call1, v_kw, v_kw1, v_kw2, v_b1, v_b11, v_bs, v_bs1, v_min2, v_min, v_mini, v_max2, v_max, v_maxi, v_join, v_join1, v_join2, v_join2t, v_join3, v_m0, v_m01, v_m1, v_m11, v_m12, v_isi, v_isi1, v_xfld, v_xis, v_tval, v_val1, v_tnot, v_TN, v_tand, v_TAt, v_TAf, v_tor, v_TOt, v_TOf, v_tite, v_TIt, v_TIf, v_yes, v_pn, v_ps, v_p1, v_nil, v_cons, v_a1, v_a2, v_comp, v_cp, v_cpF, v_cpG, v_cpBt, v_cpBf, v_some, v_cp2, v_lst, v_l1, v_qval, v_q1, v_q2, v_rng1, v_rng2, v_r2, v_enm, v_en1, v_zip, v_z1, v_z2t, v_irev, v_rvl, v_rvt, v_ival, v_iv1, w_skip, w_seq, w_asg, w_asg1, w_asg2, w_par, w_par1, w_sub, w_sub1, w_sub2, w_sub3, w_put, w_aug, w_aug1, w_aug2, w_aug3, w_augs, w_as1, w_as2, w_as3, w_as4, w_as5, w_exp, w_nx, w_ret, w_rt, w_ite, w_ift, w_iff, w_whil, w_for, w_for1, w_forF, w_forG, w_brk, w_cont, w_rais, w_rs1, w_rs2, w_try, w_tryok, w_tryx, g_var, g_nil, g_cons, g_tg, g_many0, g_many, g_wipe0, g_wipe, t_non, t_bl, t_int, t_str, t_tup, t_ref, t_lst, t_rol, t_dct, q_tup, q_str, q_ref, q_lget, q_lst, q_rol, q_il, q_it, q_is, q_gt, q_gs, q_gn, q_gr, c_eqi, c_eqs, c_eqb, c_nei, c_nes, c_neb, c_lt, c_le, c_gt, c_ge, c_ltS, c_isnon, c_nisnon, c_isbl, c_nisbl, c_isint, c_nisint, c_isstr, c_nisstr, c_istup, c_nistup, c_isref, c_nisref, c_in, c_nin, c_mstr, c_mtup, c_mref, c_mlst, c_mdst, c_mdin, b_addi, b_adds, b_addt, b_sub, b_mul, b_muls, b_fdiv, b_mod, b_pow, b_shl, b_aug, b_augs, b_augu, i_tup, i_str, i_chs, i_ref, i_lst, i_rol, i_dst, i_din, Ev.s_tup, Ev.s_str', Ev.s_ref, Ev.s_lst, r_str, r_ref, r_lst, l_str, l_tup, l_ref, l_lst, l_rol, l_dct, l_abs, l_int, l_intb, l_ord, z_tl, z_tt, z_ll, z_lt, z_any, z_all, z_sum, z_any1, z_all1, z_sum1, z_srt, z_srs, z_sri, y_tup_tuple, y_tup_list, y_tup_bool, y_tup_int, y_tup_str, y_tup_dict, y_str_tuple, y_str_list, y_str_bool, y_str_int, y_str_str, y_str_dict, y_int_tuple, y_int_list, y_int_bool, y_int_int, y_int_str, y_int_dict, y_bl_tuple, y_bl_list, y_bl_bool, y_bl_int, y_bl_str, y_bl_dict, y_non_tuple, y_non_list, y_non_bool, y_non_int, y_non_str, y_non_dict, m_pop, m_pop1, m_rca, m_app, m_app1, p_ref, p_get, p_gst, p_gin, SZ, Nat.reduceLT, Nat.reduceBEq, Int.reduceLT, Int.reduceLE, Int.reduceBEq, Int.reduceNeg, Int.reduceAdd, Int.reduceSub, Int.reduceMul, R.bind_ok, R.bind_exc, R.quiet_ok, R.to_ok, R.to_exc, RS.nxt_nx, RS.nxt_rt, RS.nxt_bk, RS.nxt_ct, RS.nxt_exc, RS.hush_nx, RS.hush_rt, RS.turn_nx, RS.turn_ct, RS.turn_bk, RS.turn_rt, RS.turn_exc, ok?_some, chk_true, Option.bind_some, Option.map_some, Option.isSome_some, List.getElem?_cons_zero, List.getElem?_cons_succ, List.getElem?_nil, List.set_cons_zero, List.set_cons_succ, List.length_cons, List.length_nil, Nat.reduceAdd, Nat.reduceLeDiff, decide_true, decide_false, Bool.not_true, Bool.not_false, Bool.and_self, Bool.true_and, Bool.and_true, Bool.or_true, Bool.true_or, Bool.or_false, Bool.false_or, if_true, List.nil_append, List.cons_append, Nat.zero_add, List.map_cons, List.map_nil, List.replicate_succ, List.replicate_zero, Nat.reduceSub, List.isEmpty_cons, List.isEmpty_nil, jd_dig, jd_mix, jd_lap, jd_hab, jd_smix, jd_slap, h2, hM, s1, s2, s3, dm, hw, hw2, beq_self_eq_true]
        · refine ⟨M / 59 % m, ⟨[], M, laps + 1, hs⟩, (emod_rng _ _ hm).1, (emod_rng _ _ hm).2, hj, by simp, ?_⟩
          have hw3 : (w == 2) = false := beq_eq_false_iff_ne.2 hw2
          unfold pourC jst
          simp (config := {implicitDefEqProofs := false}) only [v_var, v_get, v_non, v_bl, v_int, v_str, v_cint, v_cstr, v_bin, v_bin1, v_bin2, v_neg, v_neg1, v_not, v_not1, v_NB, v_Bl, v_cmp, v_cmp1, v_cmp2, v_chain, v_ch1, v_ch2, v_ch3t, v_ch3f, v_and, v_and1, v_and2t, v_and2f, v_or, v_or1, v_or2t, v_or2f, v_ite, v_itet, v_itef, v_tup, v_tup1, v_newl, v_newl1, v_dct, v_dct1, v_idx, v_idx1, v_idx2, v_slc, v_slc1, v_slc2, v_slc3, v_rev, v_rev1, v_call, v_call1, v_kw, v_kw1, v_kw2, v_b1, v_b11, v_bs, v_bs1, v_min2, v_min, v_mini, v_max2, v_max, v_maxi, v_join, v_join1, v_join2, v_join2t, v_join3, v_m0, v_m01, v_m1, v_m11, v_m12, v_isi, v_isi1, v_xfld, v_xis, v_tval, v_val1, v_tnot, v_TN, v_tand, v_TAt, v_TAf, v_tor, v_TOt, v_TOf, v_tite, v_TIt, v_TIf, v_yes, v_pn, v_ps, v_p1, v_nil, v_cons, v_a1, v_a2, v_comp, v_cp, v_cpF, v_cpG, v_cpBt, v_cpBf, v_some, v_cp2, v_lst, v_l1, v_qval, v_q1, v_q2, v_rng1, v_rng2, v_r2, v_enm, v_en1, v_zip, v_z1, v_z2t, v_irev, v_rvl, v_rvt, v_ival, v_iv1, w_skip, w_seq, w_asg, w_asg1, w_asg2, w_par, w_par1, w_sub, w_sub1, w_sub2, w_sub3, w_put, w_aug, w_aug1, w_aug2, w_aug3, w_augs, w_as1, w_as2, w_as3, w_as4, w_as5, w_exp, w_nx, w_ret, w_rt, w_ite, w_ift, w_iff, w_whil, w_for, w_for1, w_forF, w_forG, w_brk, w_cont, w_rais, w_rs1, w_rs2, w_try, w_tryok, w_tryx, g_var, g_nil, g_cons, g_tg, g_many0, g_many, g_wipe0, g_wipe, t_non, t_bl, t_int, t_str, t_tup, t_ref, t_lst, t_rol, t_dct, q_tup, q_str, q_ref, q_lget, q_lst, q_rol, q_il, q_it, q_is, q_gt, q_gs, q_gn, q_gr, c_eqi, c_eqs, c_eqb, c_nei, c_nes, c_neb, c_lt, c_le, c_gt, c_ge, c_ltS, c_isnon, c_nisnon, c_isbl, c_nisbl, c_isint, c_nisint, c_isstr, c_nisstr, c_istup, c_nistup, c_isref, c_nisref, c_in, c_nin, c_mstr, c_mtup, c_mref, c_mlst, c_mdst, c_mdin, b_addi, b_adds, b_addt, b_sub, b_mul, b_muls, b_fdiv, b_mod, b_pow, b_shl, b_aug, b_augs, b_augu, i_tup, i_str, i_chs, i_ref, i_lst, i_rol, i_dst, i_din, Ev.s_tup, Ev.s_str', Ev.s_ref, Ev.s_lst, r_str, r_ref, r_lst, l_str, l_tup, l_ref, l_lst, l_rol, l_dct, l_abs, l_int, l_intb, l_ord, z_tl, z_tt, z_ll, z_lt, z_any, z_all, z_sum, z_any1, z_all1, z_sum1, z_srt, z_srs, z_sri, y_tup_tuple, y_tup_list, y_tup_bool, y_tup_int, y_tup_str, y_tup_dict, y_str_tuple, y_str_list, y_str_bool, y_str_int, y_str_str, y_str_dict, y_int_tuple, y_int_list, y_int_bool, y_int_int, y_int_str, y_int_dict, y_bl_tuple, y_bl_list, y_bl_bool, y_bl_int, y_bl_str, y_bl_dict, y_non_tuple, y_non_list, y_non_bool, y_non_int, y_non_str, y_non_dict, m_pop, m_pop1, m_rca, m_app, m_app1, p_ref, p_get, p_gst, p_gin, SZ, Nat.reduceLT, Nat.reduceBEq, Int.reduceLT, Int.reduceLE, Int.reduceBEq, Int.reduceNeg, Int.reduceAdd, Int.reduceSub, Int.reduceMul, R.bind_ok, R.bind_exc, R.quiet_ok, R.to_ok, R.to_exc, RS.nxt_nx, RS.nxt_rt, RS.nxt_bk, RS.nxt_ct, RS.nxt_exc, RS.hush_nx, RS.hush_rt, RS.turn_nx, RS.turn_ct, RS.turn_bk, RS.turn_rt, RS.turn_exc, ok?_some, chk_true, Option.bind_some, Option.map_some, Option.isSome_some, List.getElem?_cons_zero, List.getElem?_cons_succ, List.getElem?_nil, List.set_cons_zero, List.set_cons_succ, List.length_cons, List.length_nil, Nat.reduceAdd, Nat.reduceLeDiff, decide_true, decide_false, Bool.not_true, Bool.not_false, Bool.and_self, Bool.true_and, Bool.and_true, Bool.or_true, Bool.true_or, Bool.or_false, Bool.false_or, if_true, List.nil_append, List.cons_append, Nat.zero_add, List.map_cons, List.map_nil, List.replicate_succ, List.replicate_zero, Nat.reduceSub, List.isEmpty_cons, List.isEmpty_nil, jd_dig, jd_mix, jd_lap, jd_hab, jd_smix, jd_slap, h2, hM, s1, s2, s3, dm, hw, hw3]
    · generalize hW : M / 17 % 9 = w
      generalize hO : M / 173 % 4001 = o
      have h3 : 0 ≤ w := by omega
      have h4 : w < 9 := by omega
      have s3 : small w = true := by unfold small; simp only [Bool.and_eq_true, decide_eq_true_eq]; omega
      have h5 := hs_new p w o hs h1
      have h6 := hs_sput p w o hs h1 hn
      have hj2 : Jug.ok pl ⟨[], M, laps + 1, hs ++ [(p, w, o)]⟩ := by
        refine ⟨?_, ?_⟩
        · show ((hs ++ [(p, w, o)]).map (·.1)).Nodup
          rw [List.map_append, List.nodup_append]
          refine ⟨hj.1, by simp, ?_⟩
          intro a ha b hb
          simp only [List.map_cons, List.map_nil, List.mem_cons, List.not_mem_nil, or_false] at hb
          subst hb
          intro e
          subst e
          exact h1 ha
        · intro h hh
          rcases List.mem_append.1 hh with q | q
          · exact hj.2 h q
          · simp only [List.mem_cons, List.not_mem_nil, or_false] at q
            subst q
            exact ⟨hp, h3, h4⟩
      by_cases hw : w < 2
      · refine ⟨w * (m - 1), ⟨[], M, laps + 1, hs ++ [(p, w, o)]⟩, ?_, ?_, hj2, by simp, ?_⟩
        · exact Int.mul_nonneg h3 (by omega)
        · rcases (by omega : w = 0 ∨ w = 1) with q | q <;> rw [q] <;> omega
        · unfold pourC jst
          simp (config := {implicitDefEqProofs := false}) only [v_var, v_get, v_non, v_bl, v_int, v_str, v_cint, v_cstr, v_bin, v_bin1, v_bin2, v_neg, v_neg1, v_not, v_not1, v_NB, v_Bl, v_cmp, v_cmp1, v_cmp2, v_chain, v_ch1, v_ch2, v_ch3t, v_ch3f, v_and, v_and1, v_and2t, v_and2f, v_or, v_or1, v_or2t, v_or2f, v_ite, v_itet, v_itef, v_tup, v_tup1, v_newl, v_newl1, v_dct, v_dct1, v_idx, v_idx1, v_idx2, v_slc, v_slc1, v_slc2, v_slc3, v_rev, v_rev1, v_call, v_call1, v_kw, v_kw1, v_kw2, v_b1, v_b11, v_bs, v_bs1, v_min2, v_min, v_mini, v_max2, v_max, v_maxi, v_join, v_join1, v_join2, v_join2t, v_join3, v_m0, v_m01, v_m1, v_m11, v_m12, v_isi, v_isi1, v_xfld, v_xis, v_tval, v_val1, v_tnot, v_TN, v_tand, v_TAt, v_TAf, v_tor, v_TOt, v_TOf, v_tite, v_TIt, v_TIf, v_yes, v_pn, v_ps, v_p1, v_nil, v_cons, v_a1, v_a2, v_comp, v_cp, v_cpF, v_cpG, v_cpBt, v_cpBf, v_some, v_cp2, v_lst, v_l1, v_qval, v_q1, v_q2, v_rng1, v_rng2, v_r2, v_enm, v_en1, v_zip, v_z1, v_z2t, v_irev, v_rvl, v_rvt, v_ival, v_iv1, w_skip, w_seq, w_asg, w_asg1, w_asg2, w_par, w_par1, w_sub, w_sub1, w_sub2, w_sub3, w_put, w_aug, w_aug1, w_aug2, w_aug3, w_augs, w_as1, w_as2, w_as3, w_as4, w_as5, w_exp, w_nx, w_ret, w_rt, w_ite, w_ift, w_iff, w_whil, w_for, w_for1, w_forF, w_forG, w_brk, w_cont, w_rais, w_rs1, w_rs2, w_try, w_tryok, w_tryx, g_var, g_nil, g_cons, g_tg, g_many0, g_many, g_wipe0, g_wipe, t_non, t_bl, t_int, t_str, t_tup, t_ref, t_lst, t_rol, t_dct, q_tup, q_str, q_ref, q_lget, q_lst, q_rol, q_il, q_it, q_is, q_gt, q_gs, q_gn, q_gr, c_eqi, c_eqs, c_eqb, c_nei, c_nes, c_neb, c_lt, c_le, c_gt, c_ge, c_ltS, c_isnon, c_nisnon, c_isbl, c_nisbl, c_isint, c_nisint, c_isstr, c_nisstr, c_istup, c_nistup, c_isref, c_nisref, c_in, c_nin, c_mstr, c_mtup, c_mref, c_mlst, c_mdst, c_mdin, b_addi, b_adds, b_addt, b_sub, b_mul, b_muls, b_fdiv, b_mod, b_pow, b_shl, b_aug, b_augs, b_augu, i_tup, i_str, i_chs, i_ref, i_lst, i_rol, i_dst, i_din, Ev.s_tup, Ev.s_str', Ev.s_ref, Ev.s_lst, r_str, r_ref, r_lst, l_str, l_tup, l_ref, l_lst, l_rol, l_dct, l_abs, l_int, l_intb, l_ord, z_tl, z_tt, z_ll, z_lt, z_any, z_all, z_sum, z_any1, z_all1, z_sum1, z_srt, z_srs, z_sri, y_tup_tuple, y_tup_list, y_tup_bool, y_tup_int, y_tup_str, y_tup_dict, y_str_tuple, y_str_list, y_str_bool, y_str_int, y_str_str, y_str_dict, y_int_tuple, y_int_list, y_int_bool, y_int_int, y_int_str, y_int_dict, y_bl_tuple, y_bl_list, y_bl_bool, y_bl_int, y_bl_str, y_bl_dict, y_non_tuple, y_non_list, y_non_bool, y_non_int, y_non_str, y_non_dict, m_pop, m_pop1, m_rca, m_app, m_app1, p_ref, p_get, p_gst, p_gin, SZ, Nat.reduceLT, Nat.reduceBEq, Int.reduceLT, Int.reduceLE, Int.reduceBEq, Int.reduceNeg, Int.reduceAdd, Int.reduceSub, Int.reduceMul, R.bind_ok, R.bind_exc, R.quiet_ok, R.to_ok, R.to_exc, RS.nxt_nx, RS.nxt_rt, RS.nxt_bk, RS.nxt_ct, RS.nxt_exc, RS.hush_nx, RS.hush_rt, RS.turn_nx, RS.turn_ct, RS.turn_bk, RS.turn_rt, RS.turn_exc, ok?_some, chk_true, Option.bind_some, Option.map_some, Option.isSome_some, List.getElem?_cons_zero, List.getElem?_cons_succ, List.getElem?_nil, List.set_cons_zero, List.set_cons_succ, List.length_cons, List.length_nil, Nat.reduceAdd, Nat.reduceLeDiff, decide_true, decide_false, Bool.not_true, Bool.not_false, Bool.and_self, Bool.true_and, Bool.and_true, Bool.or_true, Bool.true_or, Bool.or_false, Bool.false_or, if_true, List.nil_append, List.cons_append, Nat.zero_add, List.map_cons, List.map_nil, List.replicate_succ, List.replicate_zero, Nat.reduceSub, List.isEmpty_cons, List.isEmpty_nil, jd_dig, jd_mix, jd_lap, jd_hab, jd_smix, jd_slap, h2, hM, hW, hO, h5, h6, Option.isSome_none, s1, s2, s3, dm, hw]
      · by_cases hw2 : w = 2
        · refine ⟨o % m, ⟨[], M, laps + 1, hs ++ [(p, w, o)]⟩, (emod_rng _ _ hm).1, (emod_rng _ _ hm).2, hj2, by simp, ?_⟩
          have hw3 : (w == 2) = true := beq_iff_eq.2 hw2
          unfold pourC jst
          simp (config := {implicitDefEqProofs := false}) only [v_var, v_get, v_non, v_bl, v_int, v_str, v_cint, v_cstr, v_bin, v_bin1, v_bin2, v_neg, v_neg1, v_not, v_not1, v_NB, v_Bl, v_cmp, v_cmp1, v_cmp2, v_chain, v_ch1, v_ch2, v_ch3t, v_ch3f, v_and, v_and1, v_and2t, v_and2f, v_or, v_or1, v_or2t, v_or2f, v_ite, v_itet, v_itef, v_tup, v_tup1, v_newl, v_newl1, v_dct, v_dct1, v_idx, v_idx1, v_idx2, v_slc, v_slc1, v_slc2, v_slc3, v_rev, v_rev1, v_call, v_call1, v_kw, v_kw1, v_kw2, v_b1, v_b11, v_bs, v_bs1, v_min2, v_min, v_mini, v_max2, v_max, v_maxi, v_join, v_join1, v_join2, v_join2t, v_join3, v_m0, v_m01, v_m1, v_m11, v_m12, v_isi, v_isi1, v_xfld, v_xis, v_tval, v_val1, v_tnot, v_TN, v_tand, v_TAt, v_TAf, v_tor, v_TOt, v_TOf, v_tite, v_TIt, v_TIf, v_yes, v_pn, v_ps, v_p1, v_nil, v_cons, v_a1, v_a2, v_comp, v_cp, v_cpF, v_cpG, v_cpBt, v_cpBf, v_some, v_cp2, v_lst, v_l1, v_qval, v_q1, v_q2, v_rng1, v_rng2, v_r2, v_enm, v_en1, v_zip, v_z1, v_z2t, v_irev, v_rvl, v_rvt, v_ival, v_iv1, w_skip, w_seq, w_asg, w_asg1, w_asg2, w_par, w_par1, w_sub, w_sub1, w_sub2, w_sub3, w_put, w_aug, w_aug1, w_aug2, w_aug3, w_augs, w_as1, w_as2, w_as3, w_as4, w_as5, w_exp, w_nx, w_ret, w_rt, w_ite, w_ift, w_iff, w_whil, w_for, w_for1, w_forF, w_forG, w_brk, w_cont, w_rais, w_rs1, w_rs2, w_try, w_tryok, w_tryx, g_var, g_nil, g_cons, g_tg, g_many0, g_many, g_wipe0, g_wipe, t_non, t_bl, t_int, t_str, t_tup, t_ref, t_lst, t_rol, t_dct, q_tup, q_str, q_ref, q_lget, q_lst, q_rol, q_il, q_it, q_is, q_gt, q_gs, q_gn, q_gr, c_eqi, c_eqs, c_eqb, c_nei, c_nes, c_neb, c_lt, c_le, c_gt, c_ge, c_ltS, c_isnon, c_nisnon, c_isbl, c_nisbl, c_isint, c_nisint, c_isstr, c_nisstr, c_istup, c_nistup, c_isref, c_nisref, c_in, c_nin, c_mstr, c_mtup, c_mref, c_mlst, c_mdst, c_mdin, b_addi, b_adds, b_addt, b_sub, b_mul, b_muls, b_fdiv, b_mod, b_pow, b_shl, b_aug, b_augs, b_augu, i_tup, i_str, i_chs, i_ref, i_lst, i_rol, i_dst, i_din, Ev.s_tup, Ev.s_str', Ev.s_ref, Ev.s_lst, r_str, r_ref, r_lst, l_str, l_tup, l_ref, l_lst, l_rol, l_dct, l_abs, l_int, l_intb, l_ord, z_tl, z_tt, z_ll, z_lt, z_any, z_all, z_sum, z_any1, z_all1, z_sum1, z_srt, z_srs, z_sri, y_tup_tuple, y_tup_list, y_tup_bool, y_tup_int, y_tup_str, y_tup_dict, y_str_tuple, y_str_list, y_str_bool, y_str_int, y_str_str, y_str_dict, y_int_tuple, y_int_list, y_int_bool, y_int_int, y_int_str, y_int_dict, y_bl_tuple, y_bl_list, y_bl_bool, y_bl_int, y_bl_str, y_bl_dict, y_non_tuple, y_non_list, y_non_bool, y_non_int, y_non_str, y_non_dict, m_pop, m_pop1, m_rca, m_app, m_app1, p_ref, p_get, p_gst, p_gin, SZ, Nat.reduceLT, Nat.reduceBEq, Int.reduceLT, Int.reduceLE, Int.reduceBEq, Int.reduceNeg, Int.reduceAdd, Int.reduceSub, Int.reduceMul, R.bind_ok, R.bind_exc, R.quiet_ok, R.to_ok, R.to_exc, RS.nxt_nx, RS.nxt_rt, RS.nxt_bk, RS.nxt_ct, RS.nxt_exc, RS.hush_nx, RS.hush_rt, RS.turn_nx, RS.turn_ct, RS.turn_bk, RS.turn_rt, RS.turn_exc, ok?_some, chk_true, Option.bind_some, Option.map_some, Option.isSome_some, List.getElem?_cons_zero, List.getElem?_cons_succ, List.getElem?_nil, List.set_cons_zero, List.set_cons_succ, List.length_cons, List.length_nil, Nat.reduceAdd, Nat.reduceLeDiff, decide_true, decide_false, Bool.not_true, Bool.not_false, Bool.and_self, Bool.true_and, Bool.and_true, Bool.or_true, Bool.true_or, Bool.or_false, Bool.false_or, if_true, List.nil_append, List.cons_append, Nat.zero_add, List.map_cons, List.map_nil, List.replicate_succ, List.replicate_zero, Nat.reduceSub, List.isEmpty_cons, List.isEmpty_nil, jd_dig, jd_mix, jd_lap, jd_hab, jd_smix, jd_slap, h2, hM, hW, hO, h5, h6, Option.isSome_none, s1, s2, s3, dm, hw, hw3]
        · refine ⟨M / 59 % m, ⟨[], M, laps + 1, hs ++ [(p, w, o)]⟩, (emod_rng _ _ hm).1, (emod_rng _ _ hm).2, hj2, by simp, ?_⟩
          have hw3 : (w == 2) = false := beq_eq_false_iff_ne.2 hw2
          unfold pourC jst
          simp (config := {implicitDefEqProofs := false}) only [v_var, v_get, v_non, v_bl, v_int, v_str, v_cint, v_cstr, v_bin, v_bin1, v_bin2, v_neg, v_neg1, v_not, v_not1, v_NB, v_Bl, v_cmp, v_cmp1, v_cmp2, v_chain, v_ch1, v_ch2, v_ch3t, v_ch3f, v_and, v_and1, v_and2t, v_and2f, v_or, v_or1, v_or2t, v_or2f, v_ite, v_itet, v_itef, v_tup, v_tup1, v_newl, v_newl1, v_dct, v_dct1, v_idx, v_idx1, v_idx2, v_slc, v_slc1, v_slc2, v_slc3, v_rev, v_rev1, v_call, v_call1, v_kw, v_kw1, v_kw2, v_b1, v_b11, v_bs, v_bs1, v_min2, v_min, v_mini, v_max2, v_max, v_maxi, v_join, v_join1, v_join2, v_join2t, v_join3, v_m0, v_m01, v_m1, v_m11, v_m12, v_isi, v_isi1, v_xfld, v_xis, v_tval, v_val1, v_tnot, v_TN, v_tand, v_TAt, v_TAf, v_tor, v_TOt, v_TOf, v_tite, v_TIt, v_TIf, v_yes, v_pn, v_ps, v_p1, v_nil, v_cons, v_a1, v_a2, v_comp, v_cp, v_cpF, v_cpG, v_cpBt, v_cpBf, v_some, v_cp2, v_lst, v_l1, v_qval, v_q1, v_q2, v_rng1, v_rng2, v_r2, v_enm, v_en1, v_zip, v_z1, v_z2t, v_irev, v_rvl, v_rvt, v_ival, v_iv1, w_skip, w_seq, w_asg, w_asg1, w_asg2, w_par, w_par1, w_sub, w_sub1, w_sub2, w_sub3, w_put, w_aug, w_aug1, w_aug2, w_aug3, w_augs, w_as1, w_as2, w_as3, w_as4, w_as5, w_exp, w_nx, w_ret, w_rt, w_ite, w_ift, w_iff, w_whil, w_for, w_for1, w_forF, w_forG, w_brk, w_cont, w_rais, w_rs1, w_rs2, w_try, w_tryok, w_tryx, g_var, g_nil, g_cons, g_tg, g_many0, g_many, g_wipe0, g_wipe, t_non, t_bl, t_int, t_str, t_tup, t_ref, t_lst, t_rol, t_dct, q_tup, q_str, q_ref, q_lget, q_lst, q_rol, q_il, q_it, q_is, q_gt, q_gs, q_gn, q_gr, c_eqi, c_eqs, c_eqb, c_nei, c_nes, c_neb, c_lt, c_le, c_gt, c_ge, c_ltS, c_isnon, c_nisnon, c_isbl, c_nisbl, c_isint, c_nisint, c_isstr, c_nisstr, c_istup, c_nistup, c_isref, c_nisref, c_in, c_nin, c_mstr, c_mtup, c_mref, c_mlst, c_mdst, c_mdin, b_addi, b_adds, b_addt, b_sub, b_mul, b_muls, b_fdiv, b_mod, b_pow, b_shl, b_aug, b_augs, b_augu, i_tup, i_str, i_chs, i_ref, i_lst, i_rol, i_dst, i_din, Ev.s_tup, Ev.s_str', Ev.s_ref, Ev.s_lst, r_str, r_ref, r_lst, l_str, l_tup, l_ref, l_lst, l_rol, l_dct, l_abs, l_int, l_intb, l_ord, z_tl, z_tt, z_ll, z_lt, z_any, z_all, z_sum, z_any1, z_all1, z_sum1, z_srt, z_srs, z_sri, y_tup_tuple, y_tup_list, y_tup_bool, y_tup_int, y_tup_str, y_tup_dict, y_str_tuple, y_str_list, y_str_bool, y_str_int, y_str_str, y_str_dict, y_int_tuple, y_int_list, y_int_bool, y_int_int, y_int_str, y_int_dict, y_bl_tuple, y_bl_list, y_bl_bool, y_bl_int, y_bl_str, y_bl_dict, y_non_tuple, y_non_list, y_non_bool, y_non_int, y_non_str, y_non_dict, m_pop, m_pop1, m_rca, m_app, m_app1, p_ref, p_get, p_gst, p_gin, SZ, Nat.reduceLT, Nat.reduceBEq, Int.reduceLT, Int.reduceLE, Int.reduceBEq, Int.reduceNeg, Int.reduceAdd, Int.reduceSub, Int.reduceMul, R.bind_ok, R.bind_exc, R.quiet_ok, R.to_ok, R.to_exc, RS.nxt_nx, RS.nxt_rt, RS.nxt_bk, RS.nxt_ct, RS.nxt_exc, RS.hush_nx, RS.hush_rt, RS.turn_nx, RS.turn_ct, RS.turn_bk, RS.turn_rt, RS.turn_exc, ok?_some, chk_true, Option.bind_some, Option.map_some, Option.isSome_some, List.getElem?_cons_zero, List.getElem?_cons_succ, List.getElem?_nil, List.set_cons_zero, List.set_cons_succ, List.length_cons, List.length_nil, Nat.reduceAdd, Nat.reduceLeDiff, decide_true, decide_false, Bool.not_true, Bool.not_false, Bool.and_self, Bool.true_and, Bool.and_true, Bool.or_true, Bool.true_or, Bool.or_false, Bool.false_or, if_true, List.nil_append, List.cons_append, Nat.zero_add, List.map_cons, List.map_nil, List.replicate_succ, List.replicate_zero, Nat.reduceSub, List.isEmpty_cons, List.isEmpty_nil, jd_dig, jd_mix, jd_lap, jd_hab, jd_smix, jd_slap, h2, hM, hW, hO, h5, h6, Option.isSome_none, s1, s2, s3, dm, hw, hw3]
  · rw [List.concat_eq_append] at q
    subst q
    refine ⟨x % m, ⟨ini, mixed, laps, hs⟩, (emod_rng _ _ hm).1, (emod_rng _ _ hm).2, hj, by simp, ?_⟩
    have h1 : ∀ (ys : List D) (y : D), (ys ++ [y]).isEmpty = false := by intro ys y; cases ys <;> rfl
    unfold pourC jst
    simp (config := {implicitDefEqProofs := false}) only [v_var, v_get, v_non, v_bl, v_int, v_str, v_cint, v_cstr, v_bin, v_bin1, v_bin2, v_neg, v_neg1, v_not, v_not1, v_NB, v_Bl, v_cmp, v_cmp1, v_cmp2, v_chain, v_ch1, v_ch2, v_ch3t, v_ch3f, v_and, v_and1, v_and2t, v_and2f, v_or, v_or1, v_or2t, v_or2f, v_ite, v_itet, v_itef, v_tup, v_tup1, v_newl, v_newl1, v_dct, v_dct1, v_idx, v_idx1, v_idx2, v_slc, v_slc1, v_slc2, v_slc3, v_rev, v_rev1, v_call, v_call1, v_kw, v_kw1, v_kw2, v_b1, v_b11, v_bs, v_bs1, v_min2, v_min, v_mini, v_max2, v_max, v_maxi, v_join, v_join1, v_join2, v_join2t, v_join3, v_m0, v_m01, v_m1, v_m11, v_m12, v_isi, v_isi1, v_xfld, v_xis, v_tval, v_val1, v_tnot, v_TN, v_tand, v_TAt, v_TAf, v_tor, v_TOt, v_TOf, v_tite, v_TIt, v_TIf, v_yes, v_pn, v_ps, v_p1, v_nil, v_cons, v_a1, v_a2, v_comp, v_cp, v_cpF, v_cpG, v_cpBt, v_cpBf, v_some, v_cp2, v_lst, v_l1, v_qval, v_q1, v_q2, v_rng1, v_rng2, v_r2, v_enm, v_en1, v_zip, v_z1, v_z2t, v_irev, v_rvl, v_rvt, v_ival, v_iv1, w_skip, w_seq, w_asg, w_asg1, w_asg2, w_par, w_par1, w_sub, w_sub1, w_sub2, w_sub3, w_put, w_aug, w_aug1, w_aug2, w_aug3, w_augs, w_as1, w_as2, w_as3, w_as4, w_as5, w_exp, w_nx, w_ret, w_rt, w_ite, w_ift, w_iff, w_whil, w_for, w_for1, w_forF, w_forG, w_brk, w_cont, w_rais, w_rs1, w_rs2, w_try, w_tryok, w_tryx, g_var, g_nil, g_cons, g_tg, g_many0, g_many, g_wipe0, g_wipe, t_non, t_bl, t_int, t_str, t_tup, t_ref, t_lst, t_rol, t_dct, q_tup, q_str, q_ref, q_lget, q_lst, q_rol, q_il, q_it, q_is, q_gt, q_gs, q_gn, q_gr, c_eqi, c_eqs, c_eqb, c_nei, c_nes, c_neb, c_lt, c_le, c_gt, c_ge, c_ltS, c_isnon, c_nisnon, c_isbl, c_nisbl, c_isint, c_nisint, c_isstr, c_nisstr, c_istup, c_nistup, c_isref, c_nisref, c_in, c_nin, c_mstr, c_mtup, c_mref, c_mlst, c_mdst, c_mdin, b_addi, b_adds, b_addt, b_sub, b_mul, b_muls, b_fdiv, b_mod, b_pow, b_shl, b_aug, b_augs, b_augu, i_tup, i_str, i_chs, i_ref, i_lst, i_rol, i_dst, i_din, Ev.s_tup, Ev.s_str', Ev.s_ref, Ev.s_lst, r_str, r_ref, r_lst, l_str, l_tup, l_ref, l_lst, l_rol, l_dct, l_abs, l_int, l_intb, l_ord, z_tl, z_tt, z_ll, z_lt, z_any, z_all, z_sum, z_any1, z_all1, z_sum1, z_srt, z_srs, z_sri, y_tup_tuple, y_tup_list, y_tup_bool, y_tup_int, y_tup_str, y_tup_dict, y_str_tuple, y_str_list, y_str_bool, y_str_int, y_str_str, y_str_dict, y_int_tuple, y_int_list, y_int_bool, y_int_int, y_int_str, y_int_dict, y_bl_tuple, y_bl_list, y_bl_bool, y_bl_int, y_bl_str, y_bl_dict, y_non_tuple, y_non_list, y_non_bool, y_non_int, y_non_str, y_non_dict, m_pop, m_pop1, m_rca, m_app, m_app1, p_ref, p_get, p_gst, p_gin, SZ, Nat.reduceLT, Nat.reduceBEq, Int.reduceLT, Int.reduceLE, Int.reduceBEq, Int.reduceNeg, Int.reduceAdd, Int.reduceSub, Int.reduceMul, R.bind_ok, R.bind_exc, R.quiet_ok, R.to_ok, R.to_exc, RS.nxt_nx, RS.nxt_rt, RS.nxt_bk, RS.nxt_ct, RS.nxt_exc, RS.hush_nx, RS.hush_rt, RS.turn_nx, RS.turn_ct, RS.turn_bk, RS.turn_rt, RS.turn_exc, ok?_some, chk_true, Option.bind_some, Option.map_some, Option.isSome_some, List.getElem?_cons_zero, List.getElem?_cons_succ, List.getElem?_nil, List.set_cons_zero, List.set_cons_succ, List.length_cons, List.length_nil, Nat.reduceAdd, Nat.reduceLeDiff, decide_true, decide_false, Bool.not_true, Bool.not_false, Bool.and_self, Bool.true_and, Bool.and_true, Bool.or_true, Bool.true_or, Bool.or_false, Bool.false_or, if_true, List.nil_append, List.cons_append, Nat.zero_add, List.map_cons, List.map_nil, List.replicate_succ, List.replicate_zero, Nat.reduceSub, List.isEmpty_cons, List.isEmpty_nil, jd_dig, List.map_append, h1, dm]
end Lk

end
section
set_option linter.all false
set_option maxRecDepth 100000
namespace Lk
open PySem L2 Ev
def RS.Post (r : RS) (N B : Ev → Stt → Prop) (T : D → Stt → Prop) : Prop := match r with
  | .ok (.nx e) s => N e s
  | .ok (.ct e) s => N e s
  | .ok (.bk e) s => B e s
  | .ok (.rt d) s => T d s
  | _ => False
theorem loopF_post {g : Gd} {f : D → Ev → Stt → RS} {P : List D → Ev → Stt → Prop} {Q : Ev → Stt → Prop} {T : D → Stt → Prop} (hg : ∀ ds e s, P ds e s → g.stand s) (hf : ∀ d ds e s, P (d :: ds) e s → (f d e s).Post (P ds) Q T) : ∀ (xs : List D) (e : Ev) (s : Stt), P xs e s → (loopF g f xs e s).Post (fun e s => P [] e s ∨ Q e s) (fun _ _ => False) T := by
  intro xs
  induction xs with
  | nil =>
    intro e s h
    unfold loopF
    rw [if_pos (hg _ _ _ h)]
    exact Or.inl h
  | cons d ds ih =>
    intro e s h
    show RS.Post (if _ then _ else _) _ _ _
    rw [if_pos (hg _ _ _ h)]
    have h2 := hf d ds e s h
    revert h2
    cases f d e s with
    | ok fl s' =>
      cases fl with
      | nx e' => intro h2; exact ih e' s' h2
      | ct e' => intro h2; exact ih e' s' h2
      | bk e' => intro h2; exact Or.inr h2
      | rt d' => intro h2; exact h2
    | exc x e' s' => intro h2; exact h2.elim
    | err => intro h2; exact h2.elim
theorem RS.Post.nx {r : RS} {N : Ev → Stt → Prop} (h : r.Post N (fun _ _ => False) (fun _ _ => False)) : ∃ e s, (r = .ok (.nx e) s ∨ r = .ok (.ct e) s) ∧ N e s := by
  cases r with
  | ok fl s => cases fl with
    | nx e => exact ⟨e, s, Or.inl rfl, h⟩
    | ct e => exact ⟨e, s, Or.inr rfl, h⟩
    | _ => exact h.elim
  | _ => exact h.elim
theorem loopF_nx {g : Gd} {f : D → Ev → Stt → RS} {xs : List D} {e : Ev} {s : Stt} {N : Ev → Stt → Prop} (h : (loopF g f xs e s).Post N (fun _ _ => False) (fun _ _ => False)) : ∃ e' s', loopF g f xs e s = .ok (.nx e') s' ∧ N e' s' := by
  have hne : ∀ (xs : List D) (e : Ev) (s : Stt) (e' : Ev) (s' : Stt), loopF g f xs e s ≠ .ok (.ct e') s' := by
    intro xs
    induction xs with
    | nil => intro e s e' s'; unfold loopF; split <;> intro h <;> cases h
    | cons d ds ih =>
      intro e s e' s'
      show (if _ then _ else _) ≠ _
      split
      · cases f d e s with
        | ok fl s2 => cases fl with
          | nx e2 => exact ih e2 s2 e' s'
          | ct e2 => exact ih e2 s2 e' s'
          | bk e2 => intro h; cases h
          | rt d2 => intro h; cases h
        | exc x e2 s2 => intro h; cases h
        | err => intro h; cases h
      · intro h; cases h
  obtain ⟨e', s', h1 | h1, h2⟩ := h.nx
  · exact ⟨e', s', h1, h2⟩
  · exact absurd h1 (hne _ _ _ _ _)
def jugI : S := (.seq (.ite (.val (.cmp .lt (.var 3) (.bin .pow (.int 10) (.int 12)))) .brk .skip)
  (.seq (.exp (.m1 .append (.idx (.var 1) (.str [100, 105, 103, 105, 116, 115])) (.bin .mod (.b1 .int (.var 3)) (.int 1019))))
  (.asg (.var 3) (.bin .fdiv (.var 3) (.int 1019)))))
def jugB : S := (.seq (.asg (.var 3) (.bin .mod (.b1 .abs (.b1 .int (.var 2))) (.bin .shl (.int 1) (.int 1300))))
  (.seq (.sub (.var 1) (.str [109, 105, 120, 101, 100]) (.bin .mod (.b1 .int (.bin .add (.bin .add (.bin .mul (.idx (.var 1) (.str [109, 105, 120, 101, 100])) (.int 39373)) (.bin .mod (.var 3) (.int 1000003))) (.bin .mul (.int 7) (.b1 .int (.cmp .lt (.var 2) (.int 0)))))) (.int 2147483587)))
  (.for_ (.var 4) (.rng1 (.int 130)) jugI)))
def jugC : S := (.seq (.asg (.var 1) (.dct [(.inr [100, 105, 103, 105, 116, 115]), (.inr [109, 105, 120, 101, 100]), (.inr [108, 97, 112, 115]), (.inr [104, 97, 98, 105, 116, 115])] (.cons (.newl (.lst .nil)) (.cons (.int 10013) (.cons (.int 0) (.cons (.dct [] .nil) .nil))))))
  (.seq (.for_ (.var 2) (.val (.val (.slc (.var 0) .none (.some (.int 52))))) jugB)
  (.ret (.var 1))))
def jugP (sc sl : List Int) (x0 x2 : Option D) (B : Nat) (ys : List D) (e : Ev) (s : Stt) : Prop :=
  ∃ (ds : List Int) (size m l : Int) (x4 : Option D), e = [x0, some (.ref 3), x2, some (.int size), x4] ∧ s = jst sc ⟨ds, m, l, []⟩ ++ [.lst (sl.map .int)] ∧ ds.length + ys.length ≤ B
theorem jug_inner (K : Cal) {sc sl : List Int} {x0 x2 : Option D} {B : Nat} (hB : B < 10000) (d : D) (ys : List D) (e : Ev) (s : Stt) (h : jugP sc sl x0 x2 B (d :: ys) e s) : (forF K none (.var 4) jugI d e s).Post (jugP sc sl x0 x2 B ys) (jugP sc sl x0 x2 B []) (fun _ _ => False) := by
  obtain ⟨ds, size, m, l, x4, h1, h2, h3⟩ := h
  subst h1 h2
  have s1 : small 10 = true := by decide
  have h4 : (List.map D.int ds).length < 16777216 := by rw [List.length_map]; omega
  by_cases hs : size < 10 ^ (12 : Int).toNat
  · unfold jugI jst
    simp (config := {implicitDefEqProofs := false}) only [v_var, v_get, v_non, v_bl, v_int, v_str, v_cint, v_cstr, v_bin, v_bin1, v_bin2, v_neg, v_neg1, v_not, v_not1, v_NB, v_Bl, v_cmp, v_cmp1, v_cmp2, v_chain, v_ch1, v_ch2, v_ch3t, v_ch3f, v_and, v_and1, v_and2t, v_and2f, v_or, v_or1, v_or2t, v_or2f, v_ite, v_itet, v_itef, v_tup, v_tup1, v_newl, v_newl1, v_dct, v_dct1, v_idx, v_idx1, v_idx2, v_slc, v_slc1, v_slc2, v_slc3, v_rev, v_rev1, v_call, v_call1, v_kw, v_kw1, v_kw2, v_b1, v_b11, v_bs, v_bs1, v_min2, v_min, v_mini, v_max2, v_max, v_maxi, v_join, v_join1, v_join2, v_join2t, v_join3, v_m0, v_m01, v_m1, v_m11, v_m12, v_isi, v_isi1, v_xfld, v_xis, v_tval, v_val1, v_tnot, v_TN, v_tand, v_TAt, v_TAf, v_tor, v_TOt, v_TOf, v_tite, v_TIt, v_TIf, v_yes, v_pn, v_ps, v_p1, v_nil, v_cons, v_a1, v_a2, v_comp, v_cp, v_cpF, v_cpG, v_cpBt, v_cpBf, v_some, v_cp2, v_lst, v_l1, v_qval, v_q1, v_q2, v_rng1, v_rng2, v_r2, v_enm, v_en1, v_zip, v_z1, v_z2t, v_irev, v_rvl, v_rvt, v_ival, v_iv1, w_skip, w_seq, w_asg, w_asg1, w_asg2, w_par, w_par1, w_sub, w_sub1, w_sub2, w_sub3, w_put, w_aug, w_aug1, w_aug2, w_aug3, w_augs, w_as1, w_as2, w_as3, w_as4, w_as5, w_exp, w_nx, w_ret, w_rt, w_ite, w_ift, w_iff, w_whil, w_for, w_for1, w_forF, w_forG, w_brk, w_cont, w_rais, w_rs1, w_rs2, w_try, w_tryok, w_tryx, g_var, g_nil, g_cons, g_tg, g_many0, g_many, g_wipe0, g_wipe, t_non, t_bl, t_int, t_str, t_tup, t_ref, t_lst, t_rol, t_dct, q_tup, q_str, q_ref, q_lget, q_lst, q_rol, q_il, q_it, q_is, q_gt, q_gs, q_gn, q_gr, c_eqi, c_eqs, c_eqb, c_nei, c_nes, c_neb, c_lt, c_le, c_gt, c_ge, c_ltS, c_isnon, c_nisnon, c_isbl, c_nisbl, c_isint, c_nisint, c_isstr, c_nisstr, c_istup, c_nistup, c_isref, c_nisref, c_in, c_nin, c_mstr, c_mtup, c_mref, c_mlst, c_mdst, c_mdin, b_addi, b_adds, b_addt, b_sub, b_mul, b_muls, b_fdiv, b_mod, b_pow, b_shl, b_aug, b_augs, b_augu, i_tup, i_str, i_chs, i_ref, i_lst, i_rol, i_dst, i_din, Ev.s_tup, Ev.s_str', Ev.s_ref, Ev.s_lst, r_str, r_ref, r_lst, l_str, l_tup, l_ref, l_lst, l_rol, l_dct, l_abs, l_int, l_intb, l_ord, z_tl, z_tt, z_ll, z_lt, z_any, z_all, z_sum, z_any1, z_all1, z_sum1, z_srt, z_srs, z_sri, y_tup_tuple, y_tup_list, y_tup_bool, y_tup_int, y_tup_str, y_tup_dict, y_str_tuple, y_str_list, y_str_bool, y_str_int, y_str_str, y_str_dict, y_int_tuple, y_int_list, y_int_bool, y_int_int, y_int_str, y_int_dict, y_bl_tuple, y_bl_list, y_bl_bool, y_bl_int, y_bl_str, y_bl_dict, y_non_tuple, y_non_list, y_non_bool, y_non_int, y_non_str, y_non_dict, m_pop, m_pop1, m_rca, m_app, m_app1, p_ref, p_get, p_gst, p_gin, SZ, Nat.reduceLT, Nat.reduceBEq, Int.reduceLT, Int.reduceLE, Int.reduceBEq, Int.reduceNeg, Int.reduceAdd, Int.reduceSub, Int.reduceMul, R.bind_ok, R.bind_exc, R.quiet_ok, R.to_ok, R.to_exc, RS.nxt_nx, RS.nxt_rt, RS.nxt_bk, RS.nxt_ct, RS.nxt_exc, RS.hush_nx, RS.hush_rt, RS.turn_nx, RS.turn_ct, RS.turn_bk, RS.turn_rt, RS.turn_exc, ok?_some, chk_true, Option.bind_some, Option.map_some, Option.isSome_some, List.getElem?_cons_zero, List.getElem?_cons_succ, List.getElem?_nil, List.set_cons_zero, List.set_cons_succ, List.length_cons, List.length_nil, Nat.reduceAdd, Nat.reduceLeDiff, decide_true, decide_false, Bool.not_true, Bool.not_false, Bool.and_self, Bool.true_and, Bool.and_true, Bool.or_true, Bool.true_or, Bool.or_false, Bool.false_or, if_true, List.nil_append, List.cons_append, Nat.zero_add, List.map_cons, List.map_nil, List.replicate_succ, List.replicate_zero, Nat.reduceSub, List.isEmpty_cons, List.isEmpty_nil, s1, hs]
    refine ⟨ds, size, m, l, _, rfl, rfl, by simp at h3 ⊢; omega⟩
  · unfold jugI jst
    simp (config := {implicitDefEqProofs := false}) only [v_var, v_get, v_non, v_bl, v_int, v_str, v_cint, v_cstr, v_bin, v_bin1, v_bin2, v_neg, v_neg1, v_not, v_not1, v_NB, v_Bl, v_cmp, v_cmp1, v_cmp2, v_chain, v_ch1, v_ch2, v_ch3t, v_ch3f, v_and, v_and1, v_and2t, v_and2f, v_or, v_or1, v_or2t, v_or2f, v_ite, v_itet, v_itef, v_tup, v_tup1, v_newl, v_newl1, v_dct, v_dct1, v_idx, v_idx1, v_idx2, v_slc, v_slc1, v_slc2, v_slc3, v_rev, v_rev1, v_call, v_call1, v_kw, v_kw1, v_kw2, v_b1, v_b11, v_bs, v_bs1, v_min2, v_min, v_mini, v_max2, v_max, v_maxi, v_join, v_join1, v_join2, v_join2t, v_join3, v_m0, v_m01, v_m1, v_m11, v_m12, v_isi, v_isi1, v_xfld, v_xis, v_tval, v_val1, v_tnot, v_TN, v_tand, v_TAt, v_TAf, v_tor, v_TOt, v_TOf, v_tite, v_TIt, v_TIf, v_yes, v_pn, v_ps, v_p1, v_nil, v_cons, v_a1, v_a2, v_comp, v_cp, v_cpF, v_cpG, v_cpBt, v_cpBf, v_some, v_cp2, v_lst, v_l1, v_qval, v_q1, v_q2, v_rng1, v_rng2, v_r2, v_enm, v_en1, v_zip, v_z1, v_z2t, v_irev, v_rvl, v_rvt, v_ival, v_iv1, w_skip, w_seq, w_asg, w_asg1, w_asg2, w_par, w_par1, w_sub, w_sub1, w_sub2, w_sub3, w_put, w_aug, w_aug1, w_aug2, w_aug3, w_augs, w_as1, w_as2, w_as3, w_as4, w_as5, w_exp, w_nx, w_ret, w_rt, w_ite, w_ift, w_iff, w_whil, w_for, w_for1, w_forF, w_forG, w_brk, w_cont, w_rais, w_rs1, w_rs2, w_try, w_tryok, w_tryx, g_var, g_nil, g_cons, g_tg, g_many0, g_many, g_wipe0, g_wipe, t_non, t_bl, t_int, t_str, t_tup, t_ref, t_lst, t_rol, t_dct, q_tup, q_str, q_ref, q_lget, q_lst, q_rol, q_il, q_it, q_is, q_gt, q_gs, q_gn, q_gr, c_eqi, c_eqs, c_eqb, c_nei, c_nes, c_neb, c_lt, c_le, c_gt, c_ge, c_ltS, c_isnon, c_nisnon, c_isbl, c_nisbl, c_isint, c_nisint, c_isstr, c_nisstr, c_istup, c_nistup, c_isref, c_nisref, c_in, c_nin, c_mstr, c_mtup, c_mref, c_mlst, c_mdst, c_mdin, b_addi, b_adds, b_addt, b_sub, b_mul, b_muls, b_fdiv, b_mod, b_pow, b_shl, b_aug, b_augs, b_augu, i_tup, i_str, i_chs, i_ref, i_lst, i_rol, i_dst, i_din, Ev.s_tup, Ev.s_str', Ev.s_ref, Ev.s_lst, r_str, r_ref, r_lst, l_str, l_tup, l_ref, l_lst, l_rol, l_dct, l_abs, l_int, l_intb, l_ord, z_tl, z_tt, z_ll, z_lt, z_any, z_all, z_sum, z_any1, z_all1, z_sum1, z_srt, z_srs, z_sri, y_tup_tuple, y_tup_list, y_tup_bool, y_tup_int, y_tup_str, y_tup_dict, y_str_tuple, y_str_list, y_str_bool, y_str_int, y_str_str, y_str_dict, y_int_tuple, y_int_list, y_int_bool, y_int_int, y_int_str, y_int_dict, y_bl_tuple, y_bl_list, y_bl_bool, y_bl_int, y_bl_str, y_bl_dict, y_non_tuple, y_non_list, y_non_bool, y_non_int, y_non_str, y_non_dict, m_pop, m_pop1, m_rca, m_app, m_app1, p_ref, p_get, p_gst, p_gin, SZ, Nat.reduceLT, Nat.reduceBEq, Int.reduceLT, Int.reduceLE, Int.reduceBEq, Int.reduceNeg, Int.reduceAdd, Int.reduceSub, Int.reduceMul, R.bind_ok, R.bind_exc, R.quiet_ok, R.to_ok, R.to_exc, RS.nxt_nx, RS.nxt_rt, RS.nxt_bk, RS.nxt_ct, RS.nxt_exc, RS.hush_nx, RS.hush_rt, RS.turn_nx, RS.turn_ct, RS.turn_bk, RS.turn_rt, RS.turn_exc, ok?_some, chk_true, Option.bind_some, Option.map_some, Option.isSome_some, List.getElem?_cons_zero, List.getElem?_cons_succ, List.getElem?_nil, List.set_cons_zero, List.set_cons_succ, List.length_cons, List.length_nil, Nat.reduceAdd, Nat.reduceLeDiff, decide_true, decide_false, Bool.not_true, Bool.not_false, Bool.and_self, Bool.true_and, Bool.and_true, Bool.or_true, Bool.true_or, Bool.or_false, Bool.false_or, if_true, List.nil_append, List.cons_append, Nat.zero_add, List.map_cons, List.map_nil, List.replicate_succ, List.replicate_zero, Nat.reduceSub, List.isEmpty_cons, List.isEmpty_nil, s1, hs, jd_dig, h4]
    refine ⟨ds ++ [size % 1019], size / 1019, m, l, _, rfl, ?_, by simp at h3 ⊢; omega⟩
    unfold jst
    simp
def jugQ (sc sl : List Int) (x0 : Option D) (ys : List D) (e : Ev) (s : Stt) : Prop :=
  ∃ (ds : List Int) (m l : Int) (x2 x3 x4 : Option D) (zs : List Int), ys = zs.map .int ∧ e = [x0, some (.ref 3), x2, x3, x4] ∧ s = jst sc ⟨ds, m, l, []⟩ ++ [.lst (sl.map .int)] ∧ ds.length + 130 * ys.length ≤ 130 * 52
theorem jug_outer (K : Cal) {sc sl : List Int} {x0 : Option D} (d : D) (ys : List D) (e : Ev) (s : Stt) (h : jugQ sc sl x0 (d :: ys) e s) : (forF K none (.var 2) jugB d e s).Post (jugQ sc sl x0 ys) (fun _ _ => False) (fun _ _ => False) := by
  obtain ⟨ds, m, l, x2, x3, x4, zs, h0, h1, h2, h3⟩ := h
  subst h1 h2
  cases zs with
  | nil => cases h0
  | cons i zs =>
    simp only [List.map_cons, List.cons.injEq] at h0
    obtain ⟨h0, h00⟩ := h0
    subst h0 h00
    have s1 : small 39373 = true := by decide
    have s2 : small 7 = true := by decide
    have s3 : small 1 = true := by decide
    have hp : decide (0 < (1 : Int) * 2 ^ (1300 : Int).toNat) = true := by
      apply decide_eq_true
      have : (0 : Int) < 2 ^ (1300 : Int).toNat := Int.pow_pos (by omega)
      omega
    have h5 := fun s => R1_i 130 (by omega) (s := s) (by omega)
    generalize hS : (if i < 0 then -i else i) % ((1 : Int) * 2 ^ (1300 : Int).toNat) = S
    generalize hM : (m * 39373 + S % 1000003 + 7 * (if decide (i < 0) = true then 1 else 0)) % 2147483587 = M
    simp only [List.length_cons, List.length_map] at h3
    obtain ⟨e', s', h6, h7⟩ := loopF_nx (loopF_post (g := []) (fun _ _ _ _ => trivial) (jug_inner K (sc := sc) (sl := sl) (x0 := x0) (x2 := some (.int i)) (B := 130 * 52 - 130 * zs.length) (by omega)) (rngL 0 1 (130 : Int).toNat) [x0, some (.ref 3), some (.int i), some (.int S), x4] (jst sc ⟨ds, M, l, []⟩ ++ [.lst (sl.map .int)]) ⟨ds, S, M, l, x4, rfl, rfl, by rw [rngL_ln]; show _ + 130 ≤ _; omega⟩)
    have h8 : jugP sc sl x0 (some (.int i)) (130 * 52 - 130 * zs.length) [] e' s' := by rcases h7 with q | q <;> exact q
    obtain ⟨ds', size', m', l', x4', h9, h10, h11⟩ := h8
    subst h9 h10
    unfold jugB jst
    unfold jst at h6
    simp only [List.cons_append, List.nil_append] at h6
    generalize hF : forF K none (.var 4) jugI = F at h6 ⊢
    simp (config := {implicitDefEqProofs := false}) only [v_var, v_get, v_non, v_bl, v_int, v_str, v_cint, v_cstr, v_bin, v_bin1, v_bin2, v_neg, v_neg1, v_not, v_not1, v_NB, v_Bl, v_cmp, v_cmp1, v_cmp2, v_chain, v_ch1, v_ch2, v_ch3t, v_ch3f, v_and, v_and1, v_and2t, v_and2f, v_or, v_or1, v_or2t, v_or2f, v_ite, v_itet, v_itef, v_tup, v_tup1, v_newl, v_newl1, v_dct, v_dct1, v_idx, v_idx1, v_idx2, v_slc, v_slc1, v_slc2, v_slc3, v_rev, v_rev1, v_call, v_call1, v_kw, v_kw1, v_kw2, v_b1, v_b11, v_bs, v_bs1, v_min2, v_min, v_mini, v_max2, v_max, v_maxi, v_join, v_join1, v_join2, v_join2t, v_join3, v_m0, v_m01, v_m1, v_m11, v_m12, v_isi, v_isi1, v_xfld, v_xis, v_tval, v_val1, v_tnot, v_TN, v_tand, v_TAt, v_TAf, v_tor, v_TOt, v_TOf, v_tite, v_TIt, v_TIf, v_yes, v_pn, v_ps, v_p1, v_nil, v_cons, v_a1, v_a2, v_comp, v_cp, v_cpF, v_cpG, v_cpBt, v_cpBf, v_some, v_cp2, v_lst, v_l1, v_qval, v_q1, v_q2, v_rng1, v_rng2, v_r2, v_enm, v_en1, v_zip, v_z1, v_z2t, v_irev, v_rvl, v_rvt, v_ival, v_iv1, w_skip, w_seq, w_asg, w_asg1, w_asg2, w_par, w_par1, w_sub, w_sub1, w_sub2, w_sub3, w_put, w_aug, w_aug1, w_aug2, w_aug3, w_augs, w_as1, w_as2, w_as3, w_as4, w_as5, w_exp, w_nx, w_ret, w_rt, w_ite, w_ift, w_iff, w_whil, w_for, w_for1, w_forF, w_forG, w_brk, w_cont, w_rais, w_rs1, w_rs2, w_try, w_tryok, w_tryx, g_var, g_nil, g_cons, g_tg, g_many0, g_many, g_wipe0, g_wipe, t_non, t_bl, t_int, t_str, t_tup, t_ref, t_lst, t_rol, t_dct, q_tup, q_str, q_ref, q_lget, q_lst, q_rol, q_il, q_it, q_is, q_gt, q_gs, q_gn, q_gr, c_eqi, c_eqs, c_eqb, c_nei, c_nes, c_neb, c_lt, c_le, c_gt, c_ge, c_ltS, c_isnon, c_nisnon, c_isbl, c_nisbl, c_isint, c_nisint, c_isstr, c_nisstr, c_istup, c_nistup, c_isref, c_nisref, c_in, c_nin, c_mstr, c_mtup, c_mref, c_mlst, c_mdst, c_mdin, b_addi, b_adds, b_addt, b_sub, b_mul, b_muls, b_fdiv, b_mod, b_pow, b_shl, b_aug, b_augs, b_augu, i_tup, i_str, i_chs, i_ref, i_lst, i_rol, i_dst, i_din, Ev.s_tup, Ev.s_str', Ev.s_ref, Ev.s_lst, r_str, r_ref, r_lst, l_str, l_tup, l_ref, l_lst, l_rol, l_dct, l_abs, l_int, l_intb, l_ord, z_tl, z_tt, z_ll, z_lt, z_any, z_all, z_sum, z_any1, z_all1, z_sum1, z_srt, z_srs, z_sri, y_tup_tuple, y_tup_list, y_tup_bool, y_tup_int, y_tup_str, y_tup_dict, y_str_tuple, y_str_list, y_str_bool, y_str_int, y_str_str, y_str_dict, y_int_tuple, y_int_list, y_int_bool, y_int_int, y_int_str, y_int_dict, y_bl_tuple, y_bl_list, y_bl_bool, y_bl_int, y_bl_str, y_bl_dict, y_non_tuple, y_non_list, y_non_bool, y_non_int, y_non_str, y_non_dict, m_pop, m_pop1, m_rca, m_app, m_app1, p_ref, p_get, p_gst, p_gin, SZ, Nat.reduceLT, Nat.reduceBEq, Int.reduceLT, Int.reduceLE, Int.reduceBEq, Int.reduceNeg, Int.reduceAdd, Int.reduceSub, Int.reduceMul, R.bind_ok, R.bind_exc, R.quiet_ok, R.to_ok, R.to_exc, RS.nxt_nx, RS.nxt_rt, RS.nxt_bk, RS.nxt_ct, RS.nxt_exc, RS.hush_nx, RS.hush_rt, RS.turn_nx, RS.turn_ct, RS.turn_bk, RS.turn_rt, RS.turn_exc, ok?_some, chk_true, Option.bind_some, Option.map_some, Option.isSome_some, List.getElem?_cons_zero, List.getElem?_cons_succ, List.getElem?_nil, List.set_cons_zero, List.set_cons_succ, List.length_cons, List.length_nil, Nat.reduceAdd, Nat.reduceLeDiff, decide_true, decide_false, Bool.not_true, Bool.not_false, Bool.and_self, Bool.true_and, Bool.and_true, Bool.or_true, Bool.true_or, Bool.or_false, Bool.false_or, if_true, List.nil_append, List.cons_append, Nat.zero_add, List.map_cons, List.map_nil, List.replicate_succ, List.replicate_zero, Nat.reduceSub, List.isEmpty_cons, List.isEmpty_nil, s1, s2, s3, hp, hS, hM, jd_mix, jd_smix, h5, hF, h6]
    refine ⟨ds', m', l', _, _, _, zs, rfl, rfl, rfl, ?_⟩
    simp only [List.length_nil, List.length_map] at h11 ⊢
    omega
theorem jug_body (K : Cal) (sc : List Int) : ∃ (j : Jug) (e : Ev) (sl : List Int), iS K none jugC [some (.ref 0), none, none, none, none] [.rol (sc.map .int)] = .ok (.rt (.ref 3)) (jst sc j ++ [.lst (sl.map .int)]) ∧ j.hs = [] ∧ j.ds.length ≤ 6760 := by
  have hsl : cut (sc.map D.int) none (some 52) = (sc.take 52).map .int := by
    unfold cut HT.sIx
    simp
  obtain ⟨e', s', h6, h7⟩ := loopF_nx (loopF_post (g := [(4, (sc.take 52).map .int)]) (P := jugQ sc (sc.take 52) (some (.ref 0))) (Q := fun _ _ => False) (T := fun _ _ => False) (fun ds e s h => by
    obtain ⟨_, _, _, _, _, _, _, _, _, h2, _⟩ := h
    subst h2
    exact ⟨rfl, trivial⟩) (jug_outer K) ((sc.take 52).map .int) [some (.ref 0), some (.ref 3), none, none, none] (jst sc ⟨[], 10013, 0, []⟩ ++ [.lst ((sc.take 52).map .int)]) ⟨[], 10013, 0, _, _, _, _, rfl, rfl, rfl, by simp; omega⟩)
  rcases h7 with h7 | h7
  · obtain ⟨ds, m, l, x2, x3, x4, zs, h0, h1, h2, h3⟩ := h7
    subst h1 h2
    refine ⟨⟨ds, m, l, []⟩, [], sc.take 52, ?_, rfl, by simpa using h3⟩
    unfold jugC jst
    unfold jst at h6
    simp only [List.cons_append, List.nil_append] at h6
    generalize hF : forF K none (.var 2) jugB = F at h6 ⊢
    simp (config := {implicitDefEqProofs := false}) only [v_var, v_get, v_non, v_bl, v_int, v_str, v_cint, v_cstr, v_bin, v_bin1, v_bin2, v_neg, v_neg1, v_not, v_not1, v_NB, v_Bl, v_cmp, v_cmp1, v_cmp2, v_chain, v_ch1, v_ch2, v_ch3t, v_ch3f, v_and, v_and1, v_and2t, v_and2f, v_or, v_or1, v_or2t, v_or2f, v_ite, v_itet, v_itef, v_tup, v_tup1, v_newl, v_newl1, v_dct, v_dct1, v_idx, v_idx1, v_idx2, v_slc, v_slc1, v_slc2, v_slc3, v_rev, v_rev1, v_call, v_call1, v_kw, v_kw1, v_kw2, v_b1, v_b11, v_bs, v_bs1, v_min2, v_min, v_mini, v_max2, v_max, v_maxi, v_join, v_join1, v_join2, v_join2t, v_join3, v_m0, v_m01, v_m1, v_m11, v_m12, v_isi, v_isi1, v_xfld, v_xis, v_tval, v_val1, v_tnot, v_TN, v_tand, v_TAt, v_TAf, v_tor, v_TOt, v_TOf, v_tite, v_TIt, v_TIf, v_yes, v_pn, v_ps, v_p1, v_nil, v_cons, v_a1, v_a2, v_comp, v_cp, v_cpF, v_cpG, v_cpBt, v_cpBf, v_some, v_cp2, v_lst, v_l1, v_qval, v_q1, v_q2, v_rng1, v_rng2, v_r2, v_enm, v_en1, v_zip, v_z1, v_z2t, v_irev, v_rvl, v_rvt, v_ival, v_iv1, w_skip, w_seq, w_asg, w_asg1, w_asg2, w_par, w_par1, w_sub, w_sub1, w_sub2, w_sub3, w_put, w_aug, w_aug1, w_aug2, w_aug3, w_augs, w_as1, w_as2, w_as3, w_as4, w_as5, w_exp, w_nx, w_ret, w_rt, w_ite, w_ift, w_iff, w_whil, w_for, w_for1, w_forF, w_forG, w_brk, w_cont, w_rais, w_rs1, w_rs2, w_try, w_tryok, w_tryx, g_var, g_nil, g_cons, g_tg, g_many0, g_many, g_wipe0, g_wipe, t_non, t_bl, t_int, t_str, t_tup, t_ref, t_lst, t_rol, t_dct, q_tup, q_str, q_ref, q_lget, q_lst, q_rol, q_il, q_it, q_is, q_gt, q_gs, q_gn, q_gr, c_eqi, c_eqs, c_eqb, c_nei, c_nes, c_neb, c_lt, c_le, c_gt, c_ge, c_ltS, c_isnon, c_nisnon, c_isbl, c_nisbl, c_isint, c_nisint, c_isstr, c_nisstr, c_istup, c_nistup, c_isref, c_nisref, c_in, c_nin, c_mstr, c_mtup, c_mref, c_mlst, c_mdst, c_mdin, b_addi, b_adds, b_addt, b_sub, b_mul, b_muls, b_fdiv, b_mod, b_pow, b_shl, b_aug, b_augs, b_augu, i_tup, i_str, i_chs, i_ref, i_lst, i_rol, i_dst, i_din, Ev.s_tup, Ev.s_str', Ev.s_ref, Ev.s_lst, r_str, r_ref, r_lst, l_str, l_tup, l_ref, l_lst, l_rol, l_dct, l_abs, l_int, l_intb, l_ord, z_tl, z_tt, z_ll, z_lt, z_any, z_all, z_sum, z_any1, z_all1, z_sum1, z_srt, z_srs, z_sri, y_tup_tuple, y_tup_list, y_tup_bool, y_tup_int, y_tup_str, y_tup_dict, y_str_tuple, y_str_list, y_str_bool, y_str_int, y_str_str, y_str_dict, y_int_tuple, y_int_list, y_int_bool, y_int_int, y_int_str, y_int_dict, y_bl_tuple, y_bl_list, y_bl_bool, y_bl_int, y_bl_str, y_bl_dict, y_non_tuple, y_non_list, y_non_bool, y_non_int, y_non_str, y_non_dict, m_pop, m_pop1, m_rca, m_app, m_app1, p_ref, p_get, p_gst, p_gin, SZ, Nat.reduceLT, Nat.reduceBEq, Int.reduceLT, Int.reduceLE, Int.reduceBEq, Int.reduceNeg, Int.reduceAdd, Int.reduceSub, Int.reduceMul, R.bind_ok, R.bind_exc, R.quiet_ok, R.to_ok, R.to_exc, RS.nxt_nx, RS.nxt_rt, RS.nxt_bk, RS.nxt_ct, RS.nxt_exc, RS.hush_nx, RS.hush_rt, RS.turn_nx, RS.turn_ct, RS.turn_bk, RS.turn_rt, RS.turn_exc, ok?_some, chk_true, Option.bind_some, Option.map_some, Option.isSome_some, List.getElem?_cons_zero, List.getElem?_cons_succ, List.getElem?_nil, List.set_cons_zero, List.set_cons_succ, List.length_cons, List.length_nil, Nat.reduceAdd, Nat.reduceLeDiff, decide_true, decide_false, Bool.not_true, Bool.not_false, Bool.and_self, Bool.true_and, Bool.and_true, Bool.or_true, Bool.true_or, Bool.or_false, Bool.false_or, if_true, List.nil_append, List.cons_append, Nat.zero_add, List.map_cons, List.map_nil, List.replicate_succ, List.replicate_zero, Nat.reduceSub, List.isEmpty_cons, List.isEmpty_nil, hsl, hF]
    exact Eq.trans (congrArg (fun r => r.nxt (iS K none (S.ret (C.var 1)))) h6) rfl
  · exact h7.elim
end Lk

end
section
set_option linter.all false
set_option maxRecDepth 100000
namespace Lk
open PySem L2 Ev
theorem blws_ints (n : Nat) (xs : List Int) : D.blws n (xs.map .int) = true := by
  rw [blws_all, List.all_map, List.all_eq_true]; intro x _; rfl
theorem blws_strs (n : Nat) (xs : List (List Nat)) : D.blws n (xs.map .str) = true := by
  rw [blws_all, List.all_map, List.all_eq_true]; intro x _; rfl
theorem jst_blw (sc : List Int) (j : Jug) : ∀ o ∈ jst sc j, o.blw 4 = true := by
  intro o ho
  unfold jst at ho
  simp only [List.mem_cons, List.not_mem_nil, or_false] at ho
  rcases ho with q | q | q | q <;> subst q
  · exact blws_ints _ _
  · exact blws_ints _ _
  · show D.blws 4 ((hsK j.hs).map (·.2)) = true
    unfold hsK
    rw [blws_all, List.map_map, List.all_map, List.all_eq_true]; intro x _; rfl
  · rfl
theorem pour_call {T : List Fd} {f : Nat} (hT : T[f]? = some ⟨3, 5, pourC⟩) (n : Nat) {pl : List (List Nat)} {sc : List Int} {j : Jug} {p : List Nat} {m : Int} (hj : j.ok pl) (hp : p ∈ pl) (hl : pl.length < 1000) (hm : 0 < m) (rest : Stt) :
    ∃ v j', 0 ≤ v ∧ v < m ∧ j'.ok pl ∧ j'.ds.length ≤ j.ds.length ∧ callN T (n + 1) f [.ref 3, .str p, .int m] (jst sc j ++ rest) = .ok (.int v) (jst sc j' ++ rest) := by
  obtain ⟨v, j', h1, h2, h3, h4, hb⟩ := pour_body (callN T n) (sc := sc) hj hp hl hm
  refine ⟨v, j', h1, h2, h3, h4, callN_beside rest ?_ rfl rfl (jst_blw sc j) rfl (jst_blw sc j')⟩
  rw [callN_eq T n f _ _ hT rfl]
  show (match iS (callN T n) none pourC [some (.ref 3), some (.str p), some (.int m), none, none] (jst sc j) with
      | .ok (.rt d) s' => shut (jst sc j) d s'
      | .ok (.nx _) s' => shut (jst sc j) .non s'
      | .exc x _ s' => .exc x s'
      | _ => .err) = _
  rw [hb]
  show (if _ then _ else _) = _
  split <;> rfl
theorem jug_call {T : List Fd} {f : Nat} (hT : T[f]? = some ⟨1, 5, jugC⟩) (n : Nat) (sc : List Int) (pl : List (List Nat)) :
    ∃ j rest, j.ok pl ∧ callN T (n + 1) f [.ref 0] [.rol (sc.map .int)] = .ok (.ref 3) (jst sc j ++ rest) := by
  obtain ⟨j, _, sl, hb, h1, h2⟩ := jug_body (callN T n) sc
  refine ⟨j, [.lst (sl.map .int)], ⟨by rw [h1]; exact List.nodup_nil, by rw [h1]; intro h hh; cases hh⟩, ?_⟩
  rw [callN_eq T n f _ _ hT rfl]
  show (match iS (callN T n) none jugC [some (.ref 0), none, none, none, none] [.rol (sc.map .int)] with
      | .ok (.rt d) s' => shut _ d s'
      | .ok (.nx _) s' => shut _ .non s'
      | .exc x _ s' => .exc x s'
      | _ => .err) = _
  rw [hb]
  exact if_neg (fun h => by cases h.1)
theorem same_call {T : List Fd} {f : Nat} (hT : T[f]? = some ⟨2, 7, sameC⟩) (n : Nat) (d : D) (hc : d.blw 0 = true) (hn : d.nd < 3000000) (s : Stt) : callN T (n + 1) f [d, d] s = .ok (.bl true) s := by
  obtain ⟨s', h⟩ := same_ok (callN T n) d hc hn
  exact callP hT rfl (by rw [D.blws, D.blws, hc]; rfl) rfl h s
end Lk

end
section
set_option linter.all false
set_option maxRecDepth 100000
namespace Lk
open PySem L2 Ev
theorem rngL_cons (i : Int) (n : Nat) : rngL i 1 (n + 1) = .int i :: rngL (i + 1) 1 n := rfl
theorem loopF_rng {f : D → Ev → Stt → RS} {P : Nat → Ev → Stt → Prop} : ∀ (n i : Nat), (∀ j e s, i ≤ j → j < i + n → P j e s → ∃ e' s', (f (.int j) e s = .ok (.nx e') s' ∨ f (.int j) e s = .ok (.ct e') s') ∧ P (j + 1) e' s') → ∀ e s, P i e s → ∃ e' s', loopF [] f (rngL i 1 n) e s = .ok (.nx e') s' ∧ P (i + n) e' s' := by
  intro n
  induction n with
  | zero => intro i _ e s h; exact ⟨e, s, w_lf0, h⟩
  | succ n ih =>
    intro i hf e s h
    obtain ⟨e1, s1, h1, h2⟩ := hf i e s (Nat.le_refl _) (by omega) h
    obtain ⟨e2, s2, h3, h4⟩ := ih (i + 1) (fun j e s a b => hf j e s (by omega) (by omega)) e1 s1 h2
    refine ⟨e2, s2, ?_, by rw [show i + (n + 1) = i + 1 + n by omega]; exact h4⟩
    rw [rngL_cons, w_lf1]
    rw [show (((i + 1 : Nat)) : Int) = (i : Int) + 1 by omega] at h3
    rcases h1 with h1 | h1 <;> rw [h1]
    · rw [RS.turn_nx]; exact h3
    · rw [RS.turn_ct]; exact h3
theorem loopF_rng0 {f : D → Ev → Stt → RS} {P : Nat → Ev → Stt → Prop} (n : Nat) (hf : ∀ j e s, j < n → P j e s → ∃ e' s', (f (.int j) e s = .ok (.nx e') s' ∨ f (.int j) e s = .ok (.ct e') s') ∧ P (j + 1) e' s') (e : Ev) (s : Stt) (h : P 0 e s) : ∃ e' s', loopF [] f (rngL 0 1 n) e s = .ok (.nx e') s' ∧ P n e' s' := by
  obtain ⟨e', s', h1, h2⟩ := loopF_rng (f := f) (P := P) n 0 (fun j e s _ b => hf j e s (by omega)) e s h
  rw [Nat.zero_add] at h2
  exact ⟨e', s', h1, h2⟩
theorem loopL_rng {f : D → Stt → R (Option D)} {α : Type} {q : α → D} {P : Stt → Prop} {Q : α → Prop} (hf : ∀ (k : Int) s, P s → ∃ a s', f (.int k) s = .ok (some (q a)) s' ∧ P s' ∧ Q a) : ∀ (n : Nat) (i : Int) (s : Stt), P s → ∃ (xs : List α) (s' : Stt), loopL [] f (rngL i 1 n) s = .ok (xs.map q) s' ∧ P s' ∧ xs.length = n ∧ ∀ a ∈ xs, Q a := by
  intro n
  induction n with
  | zero => intro i s h; exact ⟨[], s, guard_nil _ _, h, rfl, fun a ha => by cases ha⟩
  | succ n ih =>
    intro i s h
    obtain ⟨a, s1, h1, h2, h3⟩ := hf i s h
    obtain ⟨xs, s2, h4, h5, h6, h7⟩ := ih (i + 1) s1 h2
    refine ⟨a :: xs, s2, ?_, h5, by rw [List.length_cons, h6], ?_⟩
    · rw [rngL_cons]
      show guard s [] ((f (.int i) s).bind _) = _
      rw [guard_nil, h1, R.bind_ok, h4, R.bind_ok]; rfl
    · intro b hb
      rcases List.mem_cons.1 hb with q | q
      · rw [q]; exact h3
      · exact h7 b q
theorem atI_rng {α : Type} {xs : List α} {v : Int} (h0 : 0 ≤ v) (h1 : v < xs.length) : ∃ x ∈ xs, atI xs v = some x := by
  obtain ⟨n, rfl⟩ := Int.eq_ofNat_of_zero_le h0
  have h2 : n < xs.length := by omega
  exact ⟨xs[n], List.getElem_mem h2, atI_get xs n _ (List.getElem?_eq_getElem h2)⟩
theorem atI_map {α β : Type} (g : α → β) (xs : List α) (v : Int) : atI (xs.map g) v = (atI xs v).map g := by
  unfold atI ixN
  rw [List.length_map]
  split
  · split
    · exact List.getElem?_map ..
    · rfl
  · split
    · exact List.getElem?_map ..
    · rfl
theorem atI_last {α : Type} {xs : List α} (h : 0 < xs.length) : ∃ x ∈ xs, atI xs (-1) = some x := by
  refine ⟨xs[xs.length - 1], List.getElem_mem (by omega), ?_⟩
  unfold atI ixN
  rw [if_neg (by omega), if_pos (by omega)]
  show xs[((xs.length : Int) + -1).toNat]? = _
  rw [show ((xs.length : Int) + -1).toNat = xs.length - 1 by omega]
  exact List.getElem?_eq_getElem (by omega)
theorem reps1 (c : Nat) (k : Int) : (reps [c] k).length = k.toNat := by
  unfold reps; rw [List.length_flatten]; simp
theorem reps_len {α : Type} (x : List α) (k : Int) : (reps x k).length = k.toNat * x.length := by
  unfold reps; rw [List.length_flatten]; simp
theorem cut_mm {α : Type} {xs : List α} {lo hi : Option Int} {c : α} (h : c ∈ cut xs lo hi) : c ∈ xs := by
  unfold cut at h; exact List.mem_of_mem_drop (List.mem_of_mem_take h)
theorem join1 (cs : List Nat) : joinL [] (cs.map fun c => [c]) = cs := by
  rw [joinL_nil]
  induction cs with
  | nil => rfl
  | cons c cs ih => show [c] ++ _ = _; rw [show ((cs.map fun c => [c]).flatten) = cs from ih]; rfl
theorem chars_map (cs : List Nat) : (cs.map fun c => D.str [c]) = (cs.map fun c => [c]).map D.str := by rw [List.map_map]; rfl
theorem sum1 (cs : List Nat) : ((cs.map fun c => [c]).map List.length).sum = cs.length := by
  induction cs with
  | nil => rfl
  | cons c cs ih => simp only [List.map_cons, List.sum_cons, ih, List.length_cons, List.length_nil]; omega
theorem insS_prm (x : List Nat) (ys : List (List Nat)) : (insS x ys).Perm (x :: ys) := by
  induction ys with
  | nil => exact .refl _
  | cons y r ih =>
    unfold insS
    split
    · exact (ih.cons y).trans (.swap ..)
    · exact .refl _
theorem sortS_prm (xs : List (List Nat)) : (sortS xs).Perm xs := by
  induction xs with
  | nil => exact .refl _
  | cons x r ih => exact (insS_prm x _).trans (ih.cons x)
theorem add_ref {s : Stt} {a b : Nat} {x y : List D} (ha : s[a]? = some (.lst x)) (hb : s[b]? = some (.lst y)) (hl : x.length + y.length ≤ 16777216) : binD s .add (.ref a) (.ref b) = .ok (D.ref s.length) (s ++ [Ob.lst (x ++ y)]) := by
  show (match s[a]?, s[b]? with
    | some (.lst x), some (.lst y) => chk (decide (x.length + y.length ≤ SZ)) (R.ok (D.ref s.length) (s ++ [Ob.lst (x ++ y)]))
    | _, _ => .err) = _
  rw [ha, hb]
  show chk (decide (x.length + y.length ≤ SZ)) _ = _
  rw [decide_eq_true hl]; rfl
theorem jshut (sc : List Int) (j j' : Jug) (more : Stt) (d : D) (hd : d.blw 4 = true) : shut (jst sc j) d (jst sc j' ++ more) = .ok d (jst sc j') := by
  unfold shut
  have hS : Shut (jst sc j).length (jst sc j) d (jst sc j' ++ more) := by
    refine ⟨hd, fun l hl => Or.inr ?_⟩
    replace hl : l < 4 := hl
    have h4 : l < (jst sc j').length := hl
    rw [List.getElem?_append_left h4, List.getElem?_eq_getElem h4]
    exact jst_blw sc j' _ (List.getElem_mem h4)
  rw [if_pos hS]
  rfl
/-- a call with the jug -/
theorem callJ {T : List Fd} {n f : Nat} {ds : List D} {np ns : Nat} {body : S} {d : D} {sc : List Int} {j j' : Jug} {more : Stt} {e : Ev} (hT : T[f]? = some ⟨np, ns, body⟩) (hl : ds.length = np) (he : ds.map some ++ List.replicate (ns - np) none = e) (hd : D.blws 4 ds = true) (hr : d.blw 4 = true) (hb : iS (callN T n) none body e (jst sc j) = .ok (.rt d) (jst sc j' ++ more)) (rest : Stt) : callN T (n + 1) f ds (jst sc j ++ rest) = .ok d (jst sc j' ++ rest) := by
  subst he
  refine callN_beside rest ?_ hd hr (jst_blw sc j) rfl (jst_blw sc j')
  rw [callN_eq T n f _ _ hT hl]
  show (match iS (callN T n) none body (ds.map some ++ List.replicate (ns - np) none) (jst sc j) with
      | .ok (.rt d) s' => shut (jst sc j) d s'
      | .ok (.nx _) s' => shut (jst sc j) .non s'
      | .exc x _ s' => .exc x s'
      | _ => .err) = _
  rw [hb]
  exact jshut sc j j' more d hr
end Lk

end
section
set_option linter.all false
set_option maxRecDepth 100000
namespace Lk.K10
open PySem L2 Ev
theorem tb_pour : Lw.tb[6]? = some ⟨3, 5, pourC⟩ := by rfl
theorem tb_jug : Lw.tb[5]? = some ⟨1, 5, jugC⟩ := by rfl
theorem tb_same : Lw.tb[9]? = some ⟨2, 7, sameC⟩ := by rfl
theorem hand (s : Stt) : callN Lw.tb 19 13 [] s = .ok (.bl true) s :=
  callN_pure (show callN Lw.tb 19 13 [] [] = .ok (.bl true) [] by kernel_rfl) rfl rfl s
theorem at0 {α : Type} (x : α) (xs : List α) : atI (x :: xs) 0 = some x := by
  have := atI_get (x :: xs) 0 x rfl
  exact this
theorem at1 {α : Type} (x y : α) (xs : List α) : atI (x :: y :: xs) 1 = some y := by
  have := atI_get (x :: y :: xs) 1 y rfl
  exact this
theorem at2 {α : Type} (x y z : α) (xs : List α) : atI (x :: y :: z :: xs) 2 = some z := by
  have := atI_get (x :: y :: z :: xs) 2 z rfl
  exact this
structure Bk where
  keys : List (List Nat × List Nat)
  words : List (List Nat)
  dead : Int
def keyD (k : List Nat × List Nat) : D := .tup [.str k.1, .str k.2]
def Bk.ks (b : Bk) : D := .tup (b.keys.map keyD)
def Bk.ws (b : Bk) : D := .tup (b.words.map .str)
def Bk.d (b : Bk) : D := .tup [b.ks, b.ws, .int b.dead]
def Bk.used (b : Bk) : List Nat := (b.keys.map (·.2)).flatten
def abc : List Nat := [97, 98, 99, 100, 101, 102, 103, 104, 105, 106, 107, 108, 109, 110, 111, 112, 113, 114, 115, 116, 117, 118, 119, 120, 121, 122]
def sWord : List Nat := [119, 111, 114, 100]
theorem chars_len (w : List Nat) : (chars w).length = w.length := by unfold chars; rw [List.length_map]
theorem chars_emp (w : List Nat) : (chars w).isEmpty = w.isEmpty := by cases w <;> rfl
structure Bk.ok (b : Bk) : Prop where
  nk : b.keys.length ≤ 12
  nw : b.words.length ≤ 60
  nu : b.used.length ≤ 1000
theorem callPe {T : List Fd} {n f : Nat} {ds : List D} {np ns : Nat} {body : S} {d : D} {s' : Stt} {e : Ev} (h : T[f]? = some ⟨np, ns, body⟩) (hl : ds.length = np) (he : ds.map some ++ List.replicate (ns - np) none = e) (hd : D.blws 0 ds = true) (hr : d.blw 0 = true) (hb : iS (callN T n) none body e [] = .ok (.rt d) s') (s : Stt) : callN T (n + 1) f ds s = .ok d s := by
  subst he
  exact callP h hl hd hr hb s
theorem Bk.cl (b : Bk) : b.d.blw 0 = true := by
  unfold Bk.d Bk.ks Bk.ws
  simp only [D.blw, D.blws, Bool.and_true, Bool.true_and, blws_strs]
  rw [blws_all, List.all_map, List.all_eq_true]; intro x _; rfl
def wErr (x : List Nat) : Xn := ⟨0, [(sWord, .str x)]⟩
theorem callXe {T : List Fd} {n f : Nat} {ds : List D} {np ns : Nat} {body : S} {x : Xn} {s' : Stt} {e e' : Ev} (h : T[f]? = some ⟨np, ns, body⟩) (hl : ds.length = np) (he : ds.map some ++ List.replicate (ns - np) none = e) (hd : D.blws 0 ds = true) (hx : D.blws 0 (x.fs.map (·.2)) = true) (hb : iS (callN T n) none body e [] = .exc x e' s') (s : Stt) : ∃ g, callN T (n + 1) f ds s = .exc x (s ++ g) := by
  subst he
  exact callX h hl hd hx hb s
theorem callPn {T : List Fd} {n f : Nat} {ds : List D} {np ns : Nat} {body : S} {s' : Stt} {e e' : Ev} (h : T[f]? = some ⟨np, ns, body⟩) (hl : ds.length = np) (he : ds.map some ++ List.replicate (ns - np) none = e) (hd : D.blws 0 ds = true) (hb : iS (callN T n) none body e [] = .ok (.nx e') s') (s : Stt) : callN T (n + 1) f ds s = .ok .non s := by
  subst he
  exact callP0 h hl hd hb s
theorem cut_len {α : Type} (xs : List α) (lo hi : Option Int) : (cut xs lo hi).length ≤ xs.length := by
  unfold cut; rw [List.length_take, List.length_drop]; omega
def pl : List (List Nat) := [[97, 108, 112, 104, 97, 98, 101, 116], [107, 101, 121, 115], [108, 101, 116, 116, 101, 114, 115], [119, 111, 114, 100, 115], [108, 101, 116, 116, 101, 114], [108, 111, 110, 103], [110, 101, 97, 114], [112, 108, 97, 99, 101], [110, 101, 97, 114, 32, 119, 97, 121], [100, 101, 97, 100], [116, 101, 120, 116, 32, 108, 101, 116, 116, 101, 114], [116, 101, 120, 116], [119, 111, 114, 100], [111, 116, 104, 101, 114], [119, 105, 100, 101]]
structure Bk.gd (b : Bk) : Prop where
  ok : b.ok
  un : 0 < b.used.length
  ud : b.used.Nodup
  ua : ∀ c ∈ b.used, c ∈ abc
  wn : 0 < b.words.length
  wd : b.words.Nodup
  wl : ∀ w ∈ b.words, 1 ≤ w.length ∧ w.length ≤ 16
  wu : ∀ w ∈ b.words, ∀ c ∈ w, c ∈ b.used
theorem Bk.cln (b : Bk) (n : Nat) : b.d.blw n = true := by
  unfold Bk.d Bk.ks Bk.ws
  simp only [D.blw, D.blws, Bool.and_true, Bool.true_and, blws_strs]
  rw [blws_all, List.all_map, List.all_eq_true]; intro x _; rfl
theorem bd0 (b : Bk) (s : Stt) : idxD s b.d (.int 0) = some b.ks := rfl
theorem bd1 (b : Bk) (s : Stt) : idxD s b.d (.int 1) = some b.ws := rfl
theorem bwl (b : Bk) (s : Stt) : b1D s .len b.ws = some (.int b.words.length) := by
  show some (D.int (b.words.map D.str).length) = _; rw [List.length_map]
theorem bwi (b : Bk) (s : Stt) (i : Int) : idxD s b.ws (.int i) = (atI b.words i).map .str := atI_map _ _ _
theorem bsi (xs : List (List Nat)) (s : Stt) (i : Int) : idxD s (.tup (xs.map .str)) (.int i) = (atI xs i).map .str := atI_map _ _ _
theorem bii (xs : List Int) (s : Stt) (i : Int) : idxD s (.tup (xs.map .int)) (.int i) = (atI xs i).map .int := atI_map _ _ _
theorem bkq (b : Bk) (s : Stt) : seqOf s b.ks = some (.t (b.keys.map keyD)) := rfl
theorem nds_strs (xs : List (List Nat)) : D.nds (xs.map .str) = xs.length := by
  induction xs with
  | nil => rfl
  | cons x xs ih => simp only [List.map_cons, D.nds, D.nd, ih, List.length_cons]; omega
theorem nds_keys (xs : List (List Nat × List Nat)) : D.nds (xs.map keyD) = 3 * xs.length := by
  induction xs with
  | nil => rfl
  | cons x xs ih => simp only [List.map_cons, D.nds, keyD, D.nd, ih, List.length_cons]; omega
end Lk.K10

end
section
set_option linter.all false
set_option maxRecDepth 100000
namespace Lk.K10
open PySem L2 Ev
def hits {α : Type} (P : α → Bool) : Nat → List α → List Int
  | _, [] => []
  | i, x :: xs => if P x = true then (i : Int) :: hits P (i + 1) xs else hits P (i + 1) xs
theorem hits_cons {α : Type} (P : α → Bool) (i : Nat) (x : α) (xs : List α) : hits P i (x :: xs) = if P x = true then (i : Int) :: hits P (i + 1) xs else hits P (i + 1) xs := rfl
theorem loopL_enum {α : Type} {f : D → Stt → R (Option D)} {P : α → Bool} {q : α → D} {s : Stt} : ∀ (xs : List α) (i : Nat), (∀ (i : Nat) x, x ∈ xs → f (.tup [.int i, q x]) s = .ok (if P x = true then some (.int i) else none) s) → loopL [] f (enumD i (xs.map q)) s = .ok ((hits P i xs).map .int) s := by
  intro xs
  induction xs with
  | nil => intro i _; exact guard_nil _ _
  | cons x xs ih =>
    intro i hf
    show guard s [] ((f (.tup [.int i, q x]) s).bind _) = _
    rw [guard_nil, hf i x (List.mem_cons_self ..), R.bind_ok, ih (i + 1) (fun j y hy => hf j y (List.mem_cons_of_mem _ hy)), R.bind_ok, hits_cons]
    by_cases h : P x = true
    · rw [if_pos h, if_pos h]; rfl
    · rw [if_neg h, if_neg h]
theorem hits_mem {α : Type} {P : α → Bool} : ∀ (xs : List α) (i : Nat) (v : Int), v ∈ hits P i xs ↔ ∃ (j : Nat) (x : α), xs[j]? = some x ∧ P x = true ∧ v = ((i + j : Nat) : Int) := by
  intro xs
  induction xs with
  | nil => intro i v; simp [hits]
  | cons x xs ih =>
    intro i v
    have step : v ∈ hits P i (x :: xs) ↔ (P x = true ∧ v = (i : Int)) ∨ v ∈ hits P (i + 1) xs := by
      show v ∈ (if P x = true then (i : Int) :: hits P (i + 1) xs else hits P (i + 1) xs) ↔ _
      by_cases h : P x = true
      · rw [if_pos h, List.mem_cons]; simp [h]
      · rw [if_neg h]; simp [h]
    rw [step, ih]
    constructor
    · rintro (⟨h1, h2⟩ | ⟨j, y, h1, h2, h3⟩)
      · exact ⟨0, x, rfl, h1, h2⟩
      · exact ⟨j + 1, y, h1, h2, by rw [h3]; congr 1; omega⟩
    · rintro ⟨j, y, h1, h2, h3⟩
      cases j with
      | zero =>
        simp only [List.getElem?_cons_zero, Option.some.injEq] at h1
        subst h1
        exact Or.inl ⟨h2, h3⟩
      | succ j => exact Or.inr ⟨j, y, h1, h2, by rw [h3]; congr 1; omega⟩
theorem hits_lt {α : Type} {P : α → Bool} : ∀ (xs : List α) (i : Nat), (hits P i xs).Pairwise (· < ·) := by
  intro xs
  induction xs with
  | nil => intro i; exact List.Pairwise.nil
  | cons x xs ih =>
    intro i
    rw [hits_cons]
    split
    · refine List.pairwise_cons.2 ⟨fun v hv => ?_, ih _⟩
      obtain ⟨j, _, _, _, e⟩ := (hits_mem _ _ _).1 hv
      omega
    · exact ih _
theorem hits_len {α : Type} {P : α → Bool} : ∀ (xs : List α) (i : Nat), (hits P i xs).length ≤ xs.length := by
  intro xs
  induction xs with
  | nil => intro i; exact Nat.le_refl _
  | cons x xs ih =>
    intro i
    rw [hits_cons]
    have := ih (i + 1)
    split <;> simp only [List.length_cons] <;> omega
def hdD : List Int → D
  | [] => .non
  | x :: _ => .int x
def has (c : Nat) (k : List Nat × List Nat) : Bool := decide (c ∈ k.2)
def hasT (w : List Nat) (k : List Nat × List Nat) : Bool := (w.map fun c => decide (c ∈ k.2)).any id
theorem eks (b : Bk) (s : Stt) : seqOf s b.ks = some (.t (b.keys.map keyD)) := rfl
theorem egk (b : Bk) (q : Sq) : gdOf b.ks q = [] := q_gt
theorem one_one : ((1 : Int) == 1) = true := rfl
theorem ko_loop (K : Cal) {a0 a2 a3 a4 a5 : Option D} (c : Nat) (ks : List (List Nat × List Nat)) (i : Nat) (s : Stt) : loopL [] (cpF K none [3, 4, 5] (.cons (.var 3) (.cons (.cons (.var 4) (.cons (.var 5) .nil)) .nil)) (.and (.val (.cmp .eq (.b1 .len (.var 1)) (.int 1))) (.val (.cmp .isin (.var 1) (.var 5)))) (.var 3) [a0, some (.str [c]), a2, a3, a4, a5]) (enumD i (ks.map keyD)) s = .ok ((hits (has c) i ks).map .int) s := by
  refine loopL_enum ks i fun i k hk => ?_
  unfold keyD has
  by_cases h : c ∈ k.2
  · simp (config := {implicitDefEqProofs := false}) only [v_var, v_get, v_non, v_bl, v_int, v_str, v_cint, v_cstr, v_bin, v_bin1, v_bin2, v_neg, v_neg1, v_not, v_not1, v_NB, v_Bl, v_cmp, v_cmp1, v_cmp2, v_chain, v_ch1, v_ch2, v_ch3t, v_ch3f, v_and, v_and1, v_and2t, v_and2f, v_or, v_or1, v_or2t, v_or2f, v_ite, v_itet, v_itef, v_tup, v_tup1, v_newl, v_newl1, v_dct, v_dct1, v_idx, v_idx1, v_idx2, v_slc, v_slc1, v_slc2, v_slc3, v_rev, v_rev1, v_call, v_call1, v_kw, v_kw1, v_kw2, v_b1, v_b11, v_bs, v_bs1, v_min2, v_min, v_mini, v_max2, v_max, v_maxi, v_join, v_join1, v_join2, v_join2t, v_join3, v_m0, v_m01, v_m1, v_m11, v_m12, v_isi, v_isi1, v_xfld, v_xis, v_tval, v_val1, v_tnot, v_TN, v_tand, v_TAt, v_TAf, v_tor, v_TOt, v_TOf, v_tite, v_TIt, v_TIf, v_yes, v_pn, v_ps, v_p1, v_nil, v_cons, v_a1, v_a2, v_comp, v_cp, v_cpF, v_cpG, v_cpBt, v_cpBf, v_some, v_cp2, v_lst, v_l1, v_qval, v_q1, v_q2, v_rng1, v_rng2, v_r2, v_enm, v_en1, v_zip, v_z1, v_z2t, v_irev, v_rvl, v_rvt, v_ival, v_iv1, w_skip, w_seq, w_asg, w_asg1, w_asg2, w_par, w_par1, w_sub, w_sub1, w_sub2, w_sub3, w_put, w_aug, w_aug1, w_aug2, w_aug3, w_augs, w_as1, w_as2, w_as3, w_as4, w_as5, w_exp, w_nx, w_ret, w_rt, w_ite, w_ift, w_iff, w_whil, w_for, w_for1, w_forF, w_forG, w_brk, w_cont, w_rais, w_rs1, w_rs2, w_try, w_tryok, w_tryx, g_var, g_nil, g_cons, g_tg, g_many0, g_many, g_wipe0, g_wipe, t_non, t_bl, t_int, t_str, t_tup, t_ref, t_lst, t_rol, t_dct, q_tup, q_str, q_ref, q_lget, q_lst, q_rol, q_il, q_it, q_is, q_gt, q_gs, q_gn, q_gr, c_eqi, c_eqs, c_eqb, c_nei, c_nes, c_neb, c_lt, c_le, c_gt, c_ge, c_ltS, c_isnon, c_nisnon, c_isbl, c_nisbl, c_isint, c_nisint, c_isstr, c_nisstr, c_istup, c_nistup, c_isref, c_nisref, c_in, c_nin, c_mstr, c_mtup, c_mref, c_mlst, c_mdst, c_mdin, b_addi, b_adds, b_addt, b_sub, b_mul, b_muls, b_fdiv, b_mod, b_pow, b_shl, b_aug, b_augs, b_augu, i_tup, i_str, i_chs, i_ref, i_lst, i_rol, i_dst, i_din, Ev.s_tup, Ev.s_str', Ev.s_ref, Ev.s_lst, r_str, r_ref, r_lst, l_str, l_tup, l_ref, l_lst, l_rol, l_dct, l_abs, l_int, l_intb, l_ord, z_tl, z_tt, z_ll, z_lt, z_any, z_all, z_sum, z_any1, z_all1, z_sum1, z_srt, z_srs, z_sri, y_tup_tuple, y_tup_list, y_tup_bool, y_tup_int, y_tup_str, y_tup_dict, y_str_tuple, y_str_list, y_str_bool, y_str_int, y_str_str, y_str_dict, y_int_tuple, y_int_list, y_int_bool, y_int_int, y_int_str, y_int_dict, y_bl_tuple, y_bl_list, y_bl_bool, y_bl_int, y_bl_str, y_bl_dict, y_non_tuple, y_non_list, y_non_bool, y_non_int, y_non_str, y_non_dict, m_pop, m_pop1, m_rca, m_app, m_app1, p_ref, p_get, p_gst, p_gin, SZ, Nat.reduceLT, Nat.reduceBEq, Int.reduceLT, Int.reduceLE, Int.reduceBEq, Int.reduceNeg, Int.reduceAdd, Int.reduceSub, Int.reduceMul, R.bind_ok, R.bind_exc, R.quiet_ok, R.to_ok, R.to_exc, RS.nxt_nx, RS.nxt_rt, RS.nxt_bk, RS.nxt_ct, RS.nxt_exc, RS.hush_nx, RS.hush_rt, RS.turn_nx, RS.turn_ct, RS.turn_bk, RS.turn_rt, RS.turn_exc, ok?_some, chk_true, Option.bind_some, Option.map_some, Option.isSome_some, List.getElem?_cons_zero, List.getElem?_cons_succ, List.getElem?_nil, List.set_cons_zero, List.set_cons_succ, List.length_cons, List.length_nil, Nat.reduceAdd, Nat.reduceLeDiff, decide_true, decide_false, Bool.not_true, Bool.not_false, Bool.and_self, Bool.true_and, Bool.and_true, Bool.or_true, Bool.true_or, Bool.or_false, Bool.false_or, if_true, List.nil_append, List.cons_append, Nat.zero_add, List.map_cons, List.map_nil, List.replicate_succ, List.replicate_zero, Nat.reduceSub, List.isEmpty_cons, List.isEmpty_nil, h, Int.natCast_one, one_one]
    all_goals rfl
  · simp (config := {implicitDefEqProofs := false}) only [v_var, v_get, v_non, v_bl, v_int, v_str, v_cint, v_cstr, v_bin, v_bin1, v_bin2, v_neg, v_neg1, v_not, v_not1, v_NB, v_Bl, v_cmp, v_cmp1, v_cmp2, v_chain, v_ch1, v_ch2, v_ch3t, v_ch3f, v_and, v_and1, v_and2t, v_and2f, v_or, v_or1, v_or2t, v_or2f, v_ite, v_itet, v_itef, v_tup, v_tup1, v_newl, v_newl1, v_dct, v_dct1, v_idx, v_idx1, v_idx2, v_slc, v_slc1, v_slc2, v_slc3, v_rev, v_rev1, v_call, v_call1, v_kw, v_kw1, v_kw2, v_b1, v_b11, v_bs, v_bs1, v_min2, v_min, v_mini, v_max2, v_max, v_maxi, v_join, v_join1, v_join2, v_join2t, v_join3, v_m0, v_m01, v_m1, v_m11, v_m12, v_isi, v_isi1, v_xfld, v_xis, v_tval, v_val1, v_tnot, v_TN, v_tand, v_TAt, v_TAf, v_tor, v_TOt, v_TOf, v_tite, v_TIt, v_TIf, v_yes, v_pn, v_ps, v_p1, v_nil, v_cons, v_a1, v_a2, v_comp, v_cp, v_cpF, v_cpG, v_cpBt, v_cpBf, v_some, v_cp2, v_lst, v_l1, v_qval, v_q1, v_q2, v_rng1, v_rng2, v_r2, v_enm, v_en1, v_zip, v_z1, v_z2t, v_irev, v_rvl, v_rvt, v_ival, v_iv1, w_skip, w_seq, w_asg, w_asg1, w_asg2, w_par, w_par1, w_sub, w_sub1, w_sub2, w_sub3, w_put, w_aug, w_aug1, w_aug2, w_aug3, w_augs, w_as1, w_as2, w_as3, w_as4, w_as5, w_exp, w_nx, w_ret, w_rt, w_ite, w_ift, w_iff, w_whil, w_for, w_for1, w_forF, w_forG, w_brk, w_cont, w_rais, w_rs1, w_rs2, w_try, w_tryok, w_tryx, g_var, g_nil, g_cons, g_tg, g_many0, g_many, g_wipe0, g_wipe, t_non, t_bl, t_int, t_str, t_tup, t_ref, t_lst, t_rol, t_dct, q_tup, q_str, q_ref, q_lget, q_lst, q_rol, q_il, q_it, q_is, q_gt, q_gs, q_gn, q_gr, c_eqi, c_eqs, c_eqb, c_nei, c_nes, c_neb, c_lt, c_le, c_gt, c_ge, c_ltS, c_isnon, c_nisnon, c_isbl, c_nisbl, c_isint, c_nisint, c_isstr, c_nisstr, c_istup, c_nistup, c_isref, c_nisref, c_in, c_nin, c_mstr, c_mtup, c_mref, c_mlst, c_mdst, c_mdin, b_addi, b_adds, b_addt, b_sub, b_mul, b_muls, b_fdiv, b_mod, b_pow, b_shl, b_aug, b_augs, b_augu, i_tup, i_str, i_chs, i_ref, i_lst, i_rol, i_dst, i_din, Ev.s_tup, Ev.s_str', Ev.s_ref, Ev.s_lst, r_str, r_ref, r_lst, l_str, l_tup, l_ref, l_lst, l_rol, l_dct, l_abs, l_int, l_intb, l_ord, z_tl, z_tt, z_ll, z_lt, z_any, z_all, z_sum, z_any1, z_all1, z_sum1, z_srt, z_srs, z_sri, y_tup_tuple, y_tup_list, y_tup_bool, y_tup_int, y_tup_str, y_tup_dict, y_str_tuple, y_str_list, y_str_bool, y_str_int, y_str_str, y_str_dict, y_int_tuple, y_int_list, y_int_bool, y_int_int, y_int_str, y_int_dict, y_bl_tuple, y_bl_list, y_bl_bool, y_bl_int, y_bl_str, y_bl_dict, y_non_tuple, y_non_list, y_non_bool, y_non_int, y_non_str, y_non_dict, m_pop, m_pop1, m_rca, m_app, m_app1, p_ref, p_get, p_gst, p_gin, SZ, Nat.reduceLT, Nat.reduceBEq, Int.reduceLT, Int.reduceLE, Int.reduceBEq, Int.reduceNeg, Int.reduceAdd, Int.reduceSub, Int.reduceMul, R.bind_ok, R.bind_exc, R.quiet_ok, R.to_ok, R.to_exc, RS.nxt_nx, RS.nxt_rt, RS.nxt_bk, RS.nxt_ct, RS.nxt_exc, RS.hush_nx, RS.hush_rt, RS.turn_nx, RS.turn_ct, RS.turn_bk, RS.turn_rt, RS.turn_exc, ok?_some, chk_true, Option.bind_some, Option.map_some, Option.isSome_some, List.getElem?_cons_zero, List.getElem?_cons_succ, List.getElem?_nil, List.set_cons_zero, List.set_cons_succ, List.length_cons, List.length_nil, Nat.reduceAdd, Nat.reduceLeDiff, decide_true, decide_false, Bool.not_true, Bool.not_false, Bool.and_self, Bool.true_and, Bool.and_true, Bool.or_true, Bool.true_or, Bool.or_false, Bool.false_or, if_true, List.nil_append, List.cons_append, Nat.zero_add, List.map_cons, List.map_nil, List.replicate_succ, List.replicate_zero, Nat.reduceSub, List.isEmpty_cons, List.isEmpty_nil, h, Int.natCast_one, one_one]
    all_goals rfl
theorem enumD_ln : ∀ (ds : List D) (k : Nat), (enumD k ds).length = ds.length
  | [], _ => rfl
  | d :: ds, k => by show (enumD (k + 1) ds).length + 1 = ds.length + 1; rw [enumD_ln ds]
theorem tb_ko : Lw.tb[0]? = some ⟨2, 6, core0⟩ := by rfl
theorem ko_call (n : Nat) (b : Bk) (hb : b.ok) (c : Nat) (s : Stt) : callN Lw.tb (n + 1) 0 [b.d, .str [c]] s = .ok (hdD (hits (has c) 0 b.keys)) s := by
  have d2 : decide (b.keys.length ≤ 16777216) = true := decide_eq_true (by have := hb.nk; omega)
  have l1 := fun (a0 a2 a3 a4 a5 : Option D) (s : Stt) => ko_loop (callN Lw.tb n) (a0 := a0) (a2 := a2) (a3 := a3) (a4 := a4) (a5 := a5) c b.keys 0 s
  refine callPe (e := [some b.d, some (.str [c]), none, none, none, none]) (s' := [.lst ((hits (has c) 0 b.keys).map .int)]) tb_ko rfl rfl (by simp only [D.blws, b.cl, D.blw, Bool.and_self]) (by cases hits (has c) 0 b.keys <;> rfl) ?_ s
  unfold core0
  cases h : hits (has c) 0 b.keys with
  | nil =>
    rw [h] at l1
    have z : decide ((0 : Int) < 0) = false := rfl
    simp (config := {implicitDefEqProofs := false}) only [v_var, v_get, v_non, v_bl, v_int, v_str, v_cint, v_cstr, v_bin, v_bin1, v_bin2, v_neg, v_neg1, v_not, v_not1, v_NB, v_Bl, v_cmp, v_cmp1, v_cmp2, v_chain, v_ch1, v_ch2, v_ch3t, v_ch3f, v_and, v_and1, v_and2t, v_and2f, v_or, v_or1, v_or2t, v_or2f, v_ite, v_itet, v_itef, v_tup, v_tup1, v_newl, v_newl1, v_dct, v_dct1, v_idx, v_idx1, v_idx2, v_slc, v_slc1, v_slc2, v_slc3, v_rev, v_rev1, v_call, v_call1, v_kw, v_kw1, v_kw2, v_b1, v_b11, v_bs, v_bs1, v_min2, v_min, v_mini, v_max2, v_max, v_maxi, v_join, v_join1, v_join2, v_join2t, v_join3, v_m0, v_m01, v_m1, v_m11, v_m12, v_isi, v_isi1, v_xfld, v_xis, v_tval, v_val1, v_tnot, v_TN, v_tand, v_TAt, v_TAf, v_tor, v_TOt, v_TOf, v_tite, v_TIt, v_TIf, v_yes, v_pn, v_ps, v_p1, v_nil, v_cons, v_a1, v_a2, v_comp, v_cp, v_cpF, v_cpG, v_cpBt, v_cpBf, v_some, v_cp2, v_lst, v_l1, v_qval, v_q1, v_q2, v_rng1, v_rng2, v_r2, v_enm, v_en1, v_zip, v_z1, v_z2t, v_irev, v_rvl, v_rvt, v_ival, v_iv1, w_skip, w_seq, w_asg, w_asg1, w_asg2, w_par, w_par1, w_sub, w_sub1, w_sub2, w_sub3, w_put, w_aug, w_aug1, w_aug2, w_aug3, w_augs, w_as1, w_as2, w_as3, w_as4, w_as5, w_exp, w_nx, w_ret, w_rt, w_ite, w_ift, w_iff, w_whil, w_for, w_for1, w_forF, w_forG, w_brk, w_cont, w_rais, w_rs1, w_rs2, w_try, w_tryok, w_tryx, g_var, g_nil, g_cons, g_tg, g_many0, g_many, g_wipe0, g_wipe, t_non, t_bl, t_int, t_str, t_tup, t_ref, t_lst, t_rol, t_dct, q_tup, q_str, q_ref, q_lget, q_lst, q_rol, q_il, q_it, q_is, q_gt, q_gs, q_gn, q_gr, c_eqi, c_eqs, c_eqb, c_nei, c_nes, c_neb, c_lt, c_le, c_gt, c_ge, c_ltS, c_isnon, c_nisnon, c_isbl, c_nisbl, c_isint, c_nisint, c_isstr, c_nisstr, c_istup, c_nistup, c_isref, c_nisref, c_in, c_nin, c_mstr, c_mtup, c_mref, c_mlst, c_mdst, c_mdin, b_addi, b_adds, b_addt, b_sub, b_mul, b_muls, b_fdiv, b_mod, b_pow, b_shl, b_aug, b_augs, b_augu, i_tup, i_str, i_chs, i_ref, i_lst, i_rol, i_dst, i_din, Ev.s_tup, Ev.s_str', Ev.s_ref, Ev.s_lst, r_str, r_ref, r_lst, l_str, l_tup, l_ref, l_lst, l_rol, l_dct, l_abs, l_int, l_intb, l_ord, z_tl, z_tt, z_ll, z_lt, z_any, z_all, z_sum, z_any1, z_all1, z_sum1, z_srt, z_srs, z_sri, y_tup_tuple, y_tup_list, y_tup_bool, y_tup_int, y_tup_str, y_tup_dict, y_str_tuple, y_str_list, y_str_bool, y_str_int, y_str_str, y_str_dict, y_int_tuple, y_int_list, y_int_bool, y_int_int, y_int_str, y_int_dict, y_bl_tuple, y_bl_list, y_bl_bool, y_bl_int, y_bl_str, y_bl_dict, y_non_tuple, y_non_list, y_non_bool, y_non_int, y_non_str, y_non_dict, m_pop, m_pop1, m_rca, m_app, m_app1, p_ref, p_get, p_gst, p_gin, SZ, Nat.reduceLT, Nat.reduceBEq, Int.reduceLT, Int.reduceLE, Int.reduceBEq, Int.reduceNeg, Int.reduceAdd, Int.reduceSub, Int.reduceMul, R.bind_ok, R.bind_exc, R.quiet_ok, R.to_ok, R.to_exc, RS.nxt_nx, RS.nxt_rt, RS.nxt_bk, RS.nxt_ct, RS.nxt_exc, RS.hush_nx, RS.hush_rt, RS.turn_nx, RS.turn_ct, RS.turn_bk, RS.turn_rt, RS.turn_exc, ok?_some, chk_true, Option.bind_some, Option.map_some, Option.isSome_some, List.getElem?_cons_zero, List.getElem?_cons_succ, List.getElem?_nil, List.set_cons_zero, List.set_cons_succ, List.length_cons, List.length_nil, Nat.reduceAdd, Nat.reduceLeDiff, decide_true, decide_false, Bool.not_true, Bool.not_false, Bool.and_self, Bool.true_and, Bool.and_true, Bool.or_true, Bool.true_or, Bool.or_false, Bool.false_or, if_true, List.nil_append, List.cons_append, Nat.zero_add, List.map_cons, List.map_nil, List.replicate_succ, List.replicate_zero, Nat.reduceSub, List.isEmpty_cons, List.isEmpty_nil, bd0, eks, egk, enumD_ln, List.length_map, d2, l1, Int.natCast_zero, z]
    rfl
  | cons x xs =>
    rw [h] at l1
    have z : decide ((0 : Int) < (((xs.length + 1 : Nat)) : Int)) = true := decide_eq_true (by omega)
    simp (config := {implicitDefEqProofs := false}) only [v_var, v_get, v_non, v_bl, v_int, v_str, v_cint, v_cstr, v_bin, v_bin1, v_bin2, v_neg, v_neg1, v_not, v_not1, v_NB, v_Bl, v_cmp, v_cmp1, v_cmp2, v_chain, v_ch1, v_ch2, v_ch3t, v_ch3f, v_and, v_and1, v_and2t, v_and2f, v_or, v_or1, v_or2t, v_or2f, v_ite, v_itet, v_itef, v_tup, v_tup1, v_newl, v_newl1, v_dct, v_dct1, v_idx, v_idx1, v_idx2, v_slc, v_slc1, v_slc2, v_slc3, v_rev, v_rev1, v_call, v_call1, v_kw, v_kw1, v_kw2, v_b1, v_b11, v_bs, v_bs1, v_min2, v_min, v_mini, v_max2, v_max, v_maxi, v_join, v_join1, v_join2, v_join2t, v_join3, v_m0, v_m01, v_m1, v_m11, v_m12, v_isi, v_isi1, v_xfld, v_xis, v_tval, v_val1, v_tnot, v_TN, v_tand, v_TAt, v_TAf, v_tor, v_TOt, v_TOf, v_tite, v_TIt, v_TIf, v_yes, v_pn, v_ps, v_p1, v_nil, v_cons, v_a1, v_a2, v_comp, v_cp, v_cpF, v_cpG, v_cpBt, v_cpBf, v_some, v_cp2, v_lst, v_l1, v_qval, v_q1, v_q2, v_rng1, v_rng2, v_r2, v_enm, v_en1, v_zip, v_z1, v_z2t, v_irev, v_rvl, v_rvt, v_ival, v_iv1, w_skip, w_seq, w_asg, w_asg1, w_asg2, w_par, w_par1, w_sub, w_sub1, w_sub2, w_sub3, w_put, w_aug, w_aug1, w_aug2, w_aug3, w_augs, w_as1, w_as2, w_as3, w_as4, w_as5, w_exp, w_nx, w_ret, w_rt, w_ite, w_ift, w_iff, w_whil, w_for, w_for1, w_forF, w_forG, w_brk, w_cont, w_rais, w_rs1, w_rs2, w_try, w_tryok, w_tryx, g_var, g_nil, g_cons, g_tg, g_many0, g_many, g_wipe0, g_wipe, t_non, t_bl, t_int, t_str, t_tup, t_ref, t_lst, t_rol, t_dct, q_tup, q_str, q_ref, q_lget, q_lst, q_rol, q_il, q_it, q_is, q_gt, q_gs, q_gn, q_gr, c_eqi, c_eqs, c_eqb, c_nei, c_nes, c_neb, c_lt, c_le, c_gt, c_ge, c_ltS, c_isnon, c_nisnon, c_isbl, c_nisbl, c_isint, c_nisint, c_isstr, c_nisstr, c_istup, c_nistup, c_isref, c_nisref, c_in, c_nin, c_mstr, c_mtup, c_mref, c_mlst, c_mdst, c_mdin, b_addi, b_adds, b_addt, b_sub, b_mul, b_muls, b_fdiv, b_mod, b_pow, b_shl, b_aug, b_augs, b_augu, i_tup, i_str, i_chs, i_ref, i_lst, i_rol, i_dst, i_din, Ev.s_tup, Ev.s_str', Ev.s_ref, Ev.s_lst, r_str, r_ref, r_lst, l_str, l_tup, l_ref, l_lst, l_rol, l_dct, l_abs, l_int, l_intb, l_ord, z_tl, z_tt, z_ll, z_lt, z_any, z_all, z_sum, z_any1, z_all1, z_sum1, z_srt, z_srs, z_sri, y_tup_tuple, y_tup_list, y_tup_bool, y_tup_int, y_tup_str, y_tup_dict, y_str_tuple, y_str_list, y_str_bool, y_str_int, y_str_str, y_str_dict, y_int_tuple, y_int_list, y_int_bool, y_int_int, y_int_str, y_int_dict, y_bl_tuple, y_bl_list, y_bl_bool, y_bl_int, y_bl_str, y_bl_dict, y_non_tuple, y_non_list, y_non_bool, y_non_int, y_non_str, y_non_dict, m_pop, m_pop1, m_rca, m_app, m_app1, p_ref, p_get, p_gst, p_gin, SZ, Nat.reduceLT, Nat.reduceBEq, Int.reduceLT, Int.reduceLE, Int.reduceBEq, Int.reduceNeg, Int.reduceAdd, Int.reduceSub, Int.reduceMul, R.bind_ok, R.bind_exc, R.quiet_ok, R.to_ok, R.to_exc, RS.nxt_nx, RS.nxt_rt, RS.nxt_bk, RS.nxt_ct, RS.nxt_exc, RS.hush_nx, RS.hush_rt, RS.turn_nx, RS.turn_ct, RS.turn_bk, RS.turn_rt, RS.turn_exc, ok?_some, chk_true, Option.bind_some, Option.map_some, Option.isSome_some, List.getElem?_cons_zero, List.getElem?_cons_succ, List.getElem?_nil, List.set_cons_zero, List.set_cons_succ, List.length_cons, List.length_nil, Nat.reduceAdd, Nat.reduceLeDiff, decide_true, decide_false, Bool.not_true, Bool.not_false, Bool.and_self, Bool.true_and, Bool.and_true, Bool.or_true, Bool.true_or, Bool.or_false, Bool.false_or, if_true, List.nil_append, List.cons_append, Nat.zero_add, List.map_cons, List.map_nil, List.replicate_succ, List.replicate_zero, Nat.reduceSub, List.isEmpty_cons, List.isEmpty_nil, bd0, eks, egk, enumD_ln, List.length_map, d2, l1, z, at0]
    rfl
theorem any_loop (K : Cal) {a0 a1 a2 a3 a5 : Option D} (w u : List Nat) (s : Stt) : loopL [] (cpF K none [5] (.var 5) .yes (.cmp .isin (.var 5) (.var 4)) [a0, a1, a2, a3, some (.str u), a5]) (chars w) s = .ok ((w.map fun c => decide (c ∈ u)).map .bl) s := by
  rw [show chars w = w.map fun c => D.str [c] from rfl, loopL_map1 (g := []) (fun c => D.str [c]) (fun c => D.bl (decide (c ∈ u))) trivial (fun c hc => ?_), List.map_map]; rfl
  simp (config := {implicitDefEqProofs := false}) only [v_var, v_get, v_non, v_bl, v_int, v_str, v_cint, v_cstr, v_bin, v_bin1, v_bin2, v_neg, v_neg1, v_not, v_not1, v_NB, v_Bl, v_cmp, v_cmp1, v_cmp2, v_chain, v_ch1, v_ch2, v_ch3t, v_ch3f, v_and, v_and1, v_and2t, v_and2f, v_or, v_or1, v_or2t, v_or2f, v_ite, v_itet, v_itef, v_tup, v_tup1, v_newl, v_newl1, v_dct, v_dct1, v_idx, v_idx1, v_idx2, v_slc, v_slc1, v_slc2, v_slc3, v_rev, v_rev1, v_call, v_call1, v_kw, v_kw1, v_kw2, v_b1, v_b11, v_bs, v_bs1, v_min2, v_min, v_mini, v_max2, v_max, v_maxi, v_join, v_join1, v_join2, v_join2t, v_join3, v_m0, v_m01, v_m1, v_m11, v_m12, v_isi, v_isi1, v_xfld, v_xis, v_tval, v_val1, v_tnot, v_TN, v_tand, v_TAt, v_TAf, v_tor, v_TOt, v_TOf, v_tite, v_TIt, v_TIf, v_yes, v_pn, v_ps, v_p1, v_nil, v_cons, v_a1, v_a2, v_comp, v_cp, v_cpF, v_cpG, v_cpBt, v_cpBf, v_some, v_cp2, v_lst, v_l1, v_qval, v_q1, v_q2, v_rng1, v_rng2, v_r2, v_enm, v_en1, v_zip, v_z1, v_z2t, v_irev, v_rvl, v_rvt, v_ival, v_iv1, w_skip, w_seq, w_asg, w_asg1, w_asg2, w_par, w_par1, w_sub, w_sub1, w_sub2, w_sub3, w_put, w_aug, w_aug1, w_aug2, w_aug3, w_augs, w_as1, w_as2, w_as3, w_as4, w_as5, w_exp, w_nx, w_ret, w_rt, w_ite, w_ift, w_iff, w_whil, w_for, w_for1, w_forF, w_forG, w_brk, w_cont, w_rais, w_rs1, w_rs2, w_try, w_tryok, w_tryx, g_var, g_nil, g_cons, g_tg, g_many0, g_many, g_wipe0, g_wipe, t_non, t_bl, t_int, t_str, t_tup, t_ref, t_lst, t_rol, t_dct, q_tup, q_str, q_ref, q_lget, q_lst, q_rol, q_il, q_it, q_is, q_gt, q_gs, q_gn, q_gr, c_eqi, c_eqs, c_eqb, c_nei, c_nes, c_neb, c_lt, c_le, c_gt, c_ge, c_ltS, c_isnon, c_nisnon, c_isbl, c_nisbl, c_isint, c_nisint, c_isstr, c_nisstr, c_istup, c_nistup, c_isref, c_nisref, c_in, c_nin, c_mstr, c_mtup, c_mref, c_mlst, c_mdst, c_mdin, b_addi, b_adds, b_addt, b_sub, b_mul, b_muls, b_fdiv, b_mod, b_pow, b_shl, b_aug, b_augs, b_augu, i_tup, i_str, i_chs, i_ref, i_lst, i_rol, i_dst, i_din, Ev.s_tup, Ev.s_str', Ev.s_ref, Ev.s_lst, r_str, r_ref, r_lst, l_str, l_tup, l_ref, l_lst, l_rol, l_dct, l_abs, l_int, l_intb, l_ord, z_tl, z_tt, z_ll, z_lt, z_any, z_all, z_sum, z_any1, z_all1, z_sum1, z_srt, z_srs, z_sri, y_tup_tuple, y_tup_list, y_tup_bool, y_tup_int, y_tup_str, y_tup_dict, y_str_tuple, y_str_list, y_str_bool, y_str_int, y_str_str, y_str_dict, y_int_tuple, y_int_list, y_int_bool, y_int_int, y_int_str, y_int_dict, y_bl_tuple, y_bl_list, y_bl_bool, y_bl_int, y_bl_str, y_bl_dict, y_non_tuple, y_non_list, y_non_bool, y_non_int, y_non_str, y_non_dict, m_pop, m_pop1, m_rca, m_app, m_app1, p_ref, p_get, p_gst, p_gin, SZ, Nat.reduceLT, Nat.reduceBEq, Int.reduceLT, Int.reduceLE, Int.reduceBEq, Int.reduceNeg, Int.reduceAdd, Int.reduceSub, Int.reduceMul, R.bind_ok, R.bind_exc, R.quiet_ok, R.to_ok, R.to_exc, RS.nxt_nx, RS.nxt_rt, RS.nxt_bk, RS.nxt_ct, RS.nxt_exc, RS.hush_nx, RS.hush_rt, RS.turn_nx, RS.turn_ct, RS.turn_bk, RS.turn_rt, RS.turn_exc, ok?_some, chk_true, Option.bind_some, Option.map_some, Option.isSome_some, List.getElem?_cons_zero, List.getElem?_cons_succ, List.getElem?_nil, List.set_cons_zero, List.set_cons_succ, List.length_cons, List.length_nil, Nat.reduceAdd, Nat.reduceLeDiff, decide_true, decide_false, Bool.not_true, Bool.not_false, Bool.and_self, Bool.true_and, Bool.and_true, Bool.or_true, Bool.true_or, Bool.or_false, Bool.false_or, if_true, List.nil_append, List.cons_append, Nat.zero_add, List.map_cons, List.map_nil, List.replicate_succ, List.replicate_zero, Nat.reduceSub, List.isEmpty_cons, List.isEmpty_nil]
theorem kt_loop (K : Cal) {a0 a2 a3 a4 a5 : Option D} (w : List Nat) (hw : w.length ≤ 1000) (ks : List (List Nat × List Nat)) (i : Nat) (s : Stt) : loopL [] (cpF K none [2, 3, 4] (.cons (.var 2) (.cons (.cons (.var 3) (.cons (.var 4) .nil)) .nil)) (.val (.bs .any (.comp [5] (.var 5) (.val (.val (.var 1))) .yes (.cmp .isin (.var 5) (.var 4))))) (.var 2) [a0, some (.str w), a2, a3, a4, a5]) (enumD i (ks.map keyD)) s = .ok ((hits (hasT w) i ks).map .int) s := by
  have d1 : decide (w.length ≤ 16777216) = true := decide_eq_true (by omega)
  refine loopL_enum ks i fun i k hk => ?_
  unfold keyD
  have l := fun (a0 a1 a2 a3 a5 : Option D) (s : Stt) => any_loop K (a0 := a0) (a1 := a1) (a2 := a2) (a3 := a3) (a5 := a5) w k.2 s
  cases h : hasT w k with
  | true =>
    unfold hasT at h
    simp (config := {implicitDefEqProofs := false}) only [v_var, v_get, v_non, v_bl, v_int, v_str, v_cint, v_cstr, v_bin, v_bin1, v_bin2, v_neg, v_neg1, v_not, v_not1, v_NB, v_Bl, v_cmp, v_cmp1, v_cmp2, v_chain, v_ch1, v_ch2, v_ch3t, v_ch3f, v_and, v_and1, v_and2t, v_and2f, v_or, v_or1, v_or2t, v_or2f, v_ite, v_itet, v_itef, v_tup, v_tup1, v_newl, v_newl1, v_dct, v_dct1, v_idx, v_idx1, v_idx2, v_slc, v_slc1, v_slc2, v_slc3, v_rev, v_rev1, v_call, v_call1, v_kw, v_kw1, v_kw2, v_b1, v_b11, v_bs, v_bs1, v_min2, v_min, v_mini, v_max2, v_max, v_maxi, v_join, v_join1, v_join2, v_join2t, v_join3, v_m0, v_m01, v_m1, v_m11, v_m12, v_isi, v_isi1, v_xfld, v_xis, v_tval, v_val1, v_tnot, v_TN, v_tand, v_TAt, v_TAf, v_tor, v_TOt, v_TOf, v_tite, v_TIt, v_TIf, v_yes, v_pn, v_ps, v_p1, v_nil, v_cons, v_a1, v_a2, v_comp, v_cp, v_cpF, v_cpG, v_cpBt, v_cpBf, v_some, v_cp2, v_lst, v_l1, v_qval, v_q1, v_q2, v_rng1, v_rng2, v_r2, v_enm, v_en1, v_zip, v_z1, v_z2t, v_irev, v_rvl, v_rvt, v_ival, v_iv1, w_skip, w_seq, w_asg, w_asg1, w_asg2, w_par, w_par1, w_sub, w_sub1, w_sub2, w_sub3, w_put, w_aug, w_aug1, w_aug2, w_aug3, w_augs, w_as1, w_as2, w_as3, w_as4, w_as5, w_exp, w_nx, w_ret, w_rt, w_ite, w_ift, w_iff, w_whil, w_for, w_for1, w_forF, w_forG, w_brk, w_cont, w_rais, w_rs1, w_rs2, w_try, w_tryok, w_tryx, g_var, g_nil, g_cons, g_tg, g_many0, g_many, g_wipe0, g_wipe, t_non, t_bl, t_int, t_str, t_tup, t_ref, t_lst, t_rol, t_dct, q_tup, q_str, q_ref, q_lget, q_lst, q_rol, q_il, q_it, q_is, q_gt, q_gs, q_gn, q_gr, c_eqi, c_eqs, c_eqb, c_nei, c_nes, c_neb, c_lt, c_le, c_gt, c_ge, c_ltS, c_isnon, c_nisnon, c_isbl, c_nisbl, c_isint, c_nisint, c_isstr, c_nisstr, c_istup, c_nistup, c_isref, c_nisref, c_in, c_nin, c_mstr, c_mtup, c_mref, c_mlst, c_mdst, c_mdin, b_addi, b_adds, b_addt, b_sub, b_mul, b_muls, b_fdiv, b_mod, b_pow, b_shl, b_aug, b_augs, b_augu, i_tup, i_str, i_chs, i_ref, i_lst, i_rol, i_dst, i_din, Ev.s_tup, Ev.s_str', Ev.s_ref, Ev.s_lst, r_str, r_ref, r_lst, l_str, l_tup, l_ref, l_lst, l_rol, l_dct, l_abs, l_int, l_intb, l_ord, z_tl, z_tt, z_ll, z_lt, z_any, z_all, z_sum, z_any1, z_all1, z_sum1, z_srt, z_srs, z_sri, y_tup_tuple, y_tup_list, y_tup_bool, y_tup_int, y_tup_str, y_tup_dict, y_str_tuple, y_str_list, y_str_bool, y_str_int, y_str_str, y_str_dict, y_int_tuple, y_int_list, y_int_bool, y_int_int, y_int_str, y_int_dict, y_bl_tuple, y_bl_list, y_bl_bool, y_bl_int, y_bl_str, y_bl_dict, y_non_tuple, y_non_list, y_non_bool, y_non_int, y_non_str, y_non_dict, m_pop, m_pop1, m_rca, m_app, m_app1, p_ref, p_get, p_gst, p_gin, SZ, Nat.reduceLT, Nat.reduceBEq, Int.reduceLT, Int.reduceLE, Int.reduceBEq, Int.reduceNeg, Int.reduceAdd, Int.reduceSub, Int.reduceMul, R.bind_ok, R.bind_exc, R.quiet_ok, R.to_ok, R.to_exc, RS.nxt_nx, RS.nxt_rt, RS.nxt_bk, RS.nxt_ct, RS.nxt_exc, RS.hush_nx, RS.hush_rt, RS.turn_nx, RS.turn_ct, RS.turn_bk, RS.turn_rt, RS.turn_exc, ok?_some, chk_true, Option.bind_some, Option.map_some, Option.isSome_some, List.getElem?_cons_zero, List.getElem?_cons_succ, List.getElem?_nil, List.set_cons_zero, List.set_cons_succ, List.length_cons, List.length_nil, Nat.reduceAdd, Nat.reduceLeDiff, decide_true, decide_false, Bool.not_true, Bool.not_false, Bool.and_self, Bool.true_and, Bool.and_true, Bool.or_true, Bool.true_or, Bool.or_false, Bool.false_or, if_true, List.nil_append, List.cons_append, Nat.zero_add, List.map_cons, List.map_nil, List.replicate_succ, List.replicate_zero, Nat.reduceSub, List.isEmpty_cons, List.isEmpty_nil, chars_len, d1, l, dbls_map, h]
  | false =>
    unfold hasT at h
    simp (config := {implicitDefEqProofs := false}) only [v_var, v_get, v_non, v_bl, v_int, v_str, v_cint, v_cstr, v_bin, v_bin1, v_bin2, v_neg, v_neg1, v_not, v_not1, v_NB, v_Bl, v_cmp, v_cmp1, v_cmp2, v_chain, v_ch1, v_ch2, v_ch3t, v_ch3f, v_and, v_and1, v_and2t, v_and2f, v_or, v_or1, v_or2t, v_or2f, v_ite, v_itet, v_itef, v_tup, v_tup1, v_newl, v_newl1, v_dct, v_dct1, v_idx, v_idx1, v_idx2, v_slc, v_slc1, v_slc2, v_slc3, v_rev, v_rev1, v_call, v_call1, v_kw, v_kw1, v_kw2, v_b1, v_b11, v_bs, v_bs1, v_min2, v_min, v_mini, v_max2, v_max, v_maxi, v_join, v_join1, v_join2, v_join2t, v_join3, v_m0, v_m01, v_m1, v_m11, v_m12, v_isi, v_isi1, v_xfld, v_xis, v_tval, v_val1, v_tnot, v_TN, v_tand, v_TAt, v_TAf, v_tor, v_TOt, v_TOf, v_tite, v_TIt, v_TIf, v_yes, v_pn, v_ps, v_p1, v_nil, v_cons, v_a1, v_a2, v_comp, v_cp, v_cpF, v_cpG, v_cpBt, v_cpBf, v_some, v_cp2, v_lst, v_l1, v_qval, v_q1, v_q2, v_rng1, v_rng2, v_r2, v_enm, v_en1, v_zip, v_z1, v_z2t, v_irev, v_rvl, v_rvt, v_ival, v_iv1, w_skip, w_seq, w_asg, w_asg1, w_asg2, w_par, w_par1, w_sub, w_sub1, w_sub2, w_sub3, w_put, w_aug, w_aug1, w_aug2, w_aug3, w_augs, w_as1, w_as2, w_as3, w_as4, w_as5, w_exp, w_nx, w_ret, w_rt, w_ite, w_ift, w_iff, w_whil, w_for, w_for1, w_forF, w_forG, w_brk, w_cont, w_rais, w_rs1, w_rs2, w_try, w_tryok, w_tryx, g_var, g_nil, g_cons, g_tg, g_many0, g_many, g_wipe0, g_wipe, t_non, t_bl, t_int, t_str, t_tup, t_ref, t_lst, t_rol, t_dct, q_tup, q_str, q_ref, q_lget, q_lst, q_rol, q_il, q_it, q_is, q_gt, q_gs, q_gn, q_gr, c_eqi, c_eqs, c_eqb, c_nei, c_nes, c_neb, c_lt, c_le, c_gt, c_ge, c_ltS, c_isnon, c_nisnon, c_isbl, c_nisbl, c_isint, c_nisint, c_isstr, c_nisstr, c_istup, c_nistup, c_isref, c_nisref, c_in, c_nin, c_mstr, c_mtup, c_mref, c_mlst, c_mdst, c_mdin, b_addi, b_adds, b_addt, b_sub, b_mul, b_muls, b_fdiv, b_mod, b_pow, b_shl, b_aug, b_augs, b_augu, i_tup, i_str, i_chs, i_ref, i_lst, i_rol, i_dst, i_din, Ev.s_tup, Ev.s_str', Ev.s_ref, Ev.s_lst, r_str, r_ref, r_lst, l_str, l_tup, l_ref, l_lst, l_rol, l_dct, l_abs, l_int, l_intb, l_ord, z_tl, z_tt, z_ll, z_lt, z_any, z_all, z_sum, z_any1, z_all1, z_sum1, z_srt, z_srs, z_sri, y_tup_tuple, y_tup_list, y_tup_bool, y_tup_int, y_tup_str, y_tup_dict, y_str_tuple, y_str_list, y_str_bool, y_str_int, y_str_str, y_str_dict, y_int_tuple, y_int_list, y_int_bool, y_int_int, y_int_str, y_int_dict, y_bl_tuple, y_bl_list, y_bl_bool, y_bl_int, y_bl_str, y_bl_dict, y_non_tuple, y_non_list, y_non_bool, y_non_int, y_non_str, y_non_dict, m_pop, m_pop1, m_rca, m_app, m_app1, p_ref, p_get, p_gst, p_gin, SZ, Nat.reduceLT, Nat.reduceBEq, Int.reduceLT, Int.reduceLE, Int.reduceBEq, Int.reduceNeg, Int.reduceAdd, Int.reduceSub, Int.reduceMul, R.bind_ok, R.bind_exc, R.quiet_ok, R.to_ok, R.to_exc, RS.nxt_nx, RS.nxt_rt, RS.nxt_bk, RS.nxt_ct, RS.nxt_exc, RS.hush_nx, RS.hush_rt, RS.turn_nx, RS.turn_ct, RS.turn_bk, RS.turn_rt, RS.turn_exc, ok?_some, chk_true, Option.bind_some, Option.map_some, Option.isSome_some, List.getElem?_cons_zero, List.getElem?_cons_succ, List.getElem?_nil, List.set_cons_zero, List.set_cons_succ, List.length_cons, List.length_nil, Nat.reduceAdd, Nat.reduceLeDiff, decide_true, decide_false, Bool.not_true, Bool.not_false, Bool.and_self, Bool.true_and, Bool.and_true, Bool.or_true, Bool.true_or, Bool.or_false, Bool.false_or, if_true, List.nil_append, List.cons_append, Nat.zero_add, List.map_cons, List.map_nil, List.replicate_succ, List.replicate_zero, Nat.reduceSub, List.isEmpty_cons, List.isEmpty_nil, chars_len, d1, l, dbls_map, h]
    rfl
theorem tb_kt : Lw.tb[1]? = some ⟨2, 6, core1⟩ := by rfl
def tupI (xs : List Int) : D := .tup (xs.map .int)
theorem tupI_cl (xs : List Int) : (tupI xs).blw 0 = true := blws_ints 0 xs
theorem kt_call (n : Nat) (b : Bk) (hb : b.ok) (w : List Nat) (hw : w.length ≤ 1000) (s : Stt) : callN Lw.tb (n + 1) 1 [b.d, .str w] s = .ok (tupI (hits (hasT w) 0 b.keys)) s := by
  have d2 : decide (b.keys.length ≤ 16777216) = true := decide_eq_true (by have := hb.nk; omega)
  have l1 := fun (a0 a2 a3 a4 a5 : Option D) (s : Stt) => kt_loop (callN Lw.tb n) (a0 := a0) (a2 := a2) (a3 := a3) (a4 := a4) (a5 := a5) w hw b.keys 0 s
  refine callPe (e := [some b.d, some (.str w), none, none, none, none]) (s' := []) tb_kt rfl rfl (by simp only [D.blws, b.cl, D.blw, Bool.and_self]) (tupI_cl _) ?_ s
  unfold core1
  simp (config := {implicitDefEqProofs := false}) only [v_var, v_get, v_non, v_bl, v_int, v_str, v_cint, v_cstr, v_bin, v_bin1, v_bin2, v_neg, v_neg1, v_not, v_not1, v_NB, v_Bl, v_cmp, v_cmp1, v_cmp2, v_chain, v_ch1, v_ch2, v_ch3t, v_ch3f, v_and, v_and1, v_and2t, v_and2f, v_or, v_or1, v_or2t, v_or2f, v_ite, v_itet, v_itef, v_tup, v_tup1, v_newl, v_newl1, v_dct, v_dct1, v_idx, v_idx1, v_idx2, v_slc, v_slc1, v_slc2, v_slc3, v_rev, v_rev1, v_call, v_call1, v_kw, v_kw1, v_kw2, v_b1, v_b11, v_bs, v_bs1, v_min2, v_min, v_mini, v_max2, v_max, v_maxi, v_join, v_join1, v_join2, v_join2t, v_join3, v_m0, v_m01, v_m1, v_m11, v_m12, v_isi, v_isi1, v_xfld, v_xis, v_tval, v_val1, v_tnot, v_TN, v_tand, v_TAt, v_TAf, v_tor, v_TOt, v_TOf, v_tite, v_TIt, v_TIf, v_yes, v_pn, v_ps, v_p1, v_nil, v_cons, v_a1, v_a2, v_comp, v_cp, v_cpF, v_cpG, v_cpBt, v_cpBf, v_some, v_cp2, v_lst, v_l1, v_qval, v_q1, v_q2, v_rng1, v_rng2, v_r2, v_enm, v_en1, v_zip, v_z1, v_z2t, v_irev, v_rvl, v_rvt, v_ival, v_iv1, w_skip, w_seq, w_asg, w_asg1, w_asg2, w_par, w_par1, w_sub, w_sub1, w_sub2, w_sub3, w_put, w_aug, w_aug1, w_aug2, w_aug3, w_augs, w_as1, w_as2, w_as3, w_as4, w_as5, w_exp, w_nx, w_ret, w_rt, w_ite, w_ift, w_iff, w_whil, w_for, w_for1, w_forF, w_forG, w_brk, w_cont, w_rais, w_rs1, w_rs2, w_try, w_tryok, w_tryx, g_var, g_nil, g_cons, g_tg, g_many0, g_many, g_wipe0, g_wipe, t_non, t_bl, t_int, t_str, t_tup, t_ref, t_lst, t_rol, t_dct, q_tup, q_str, q_ref, q_lget, q_lst, q_rol, q_il, q_it, q_is, q_gt, q_gs, q_gn, q_gr, c_eqi, c_eqs, c_eqb, c_nei, c_nes, c_neb, c_lt, c_le, c_gt, c_ge, c_ltS, c_isnon, c_nisnon, c_isbl, c_nisbl, c_isint, c_nisint, c_isstr, c_nisstr, c_istup, c_nistup, c_isref, c_nisref, c_in, c_nin, c_mstr, c_mtup, c_mref, c_mlst, c_mdst, c_mdin, b_addi, b_adds, b_addt, b_sub, b_mul, b_muls, b_fdiv, b_mod, b_pow, b_shl, b_aug, b_augs, b_augu, i_tup, i_str, i_chs, i_ref, i_lst, i_rol, i_dst, i_din, Ev.s_tup, Ev.s_str', Ev.s_ref, Ev.s_lst, r_str, r_ref, r_lst, l_str, l_tup, l_ref, l_lst, l_rol, l_dct, l_abs, l_int, l_intb, l_ord, z_tl, z_tt, z_ll, z_lt, z_any, z_all, z_sum, z_any1, z_all1, z_sum1, z_srt, z_srs, z_sri, y_tup_tuple, y_tup_list, y_tup_bool, y_tup_int, y_tup_str, y_tup_dict, y_str_tuple, y_str_list, y_str_bool, y_str_int, y_str_str, y_str_dict, y_int_tuple, y_int_list, y_int_bool, y_int_int, y_int_str, y_int_dict, y_bl_tuple, y_bl_list, y_bl_bool, y_bl_int, y_bl_str, y_bl_dict, y_non_tuple, y_non_list, y_non_bool, y_non_int, y_non_str, y_non_dict, m_pop, m_pop1, m_rca, m_app, m_app1, p_ref, p_get, p_gst, p_gin, SZ, Nat.reduceLT, Nat.reduceBEq, Int.reduceLT, Int.reduceLE, Int.reduceBEq, Int.reduceNeg, Int.reduceAdd, Int.reduceSub, Int.reduceMul, R.bind_ok, R.bind_exc, R.quiet_ok, R.to_ok, R.to_exc, RS.nxt_nx, RS.nxt_rt, RS.nxt_bk, RS.nxt_ct, RS.nxt_exc, RS.hush_nx, RS.hush_rt, RS.turn_nx, RS.turn_ct, RS.turn_bk, RS.turn_rt, RS.turn_exc, ok?_some, chk_true, Option.bind_some, Option.map_some, Option.isSome_some, List.getElem?_cons_zero, List.getElem?_cons_succ, List.getElem?_nil, List.set_cons_zero, List.set_cons_succ, List.length_cons, List.length_nil, Nat.reduceAdd, Nat.reduceLeDiff, decide_true, decide_false, Bool.not_true, Bool.not_false, Bool.and_self, Bool.true_and, Bool.and_true, Bool.or_true, Bool.true_or, Bool.or_false, Bool.false_or, if_true, List.nil_append, List.cons_append, Nat.zero_add, List.map_cons, List.map_nil, List.replicate_succ, List.replicate_zero, Nat.reduceSub, List.isEmpty_cons, List.isEmpty_nil, bd0, eks, egk, enumD_ln, List.length_map, d2, l1]
  rfl
theorem ksi (b : Bk) (s : Stt) (i : Int) : idxD s b.ks (.int i) = (atI b.keys i).map keyD := atI_map _ _ _
theorem ksl (b : Bk) (s : Stt) : b1D s .len b.ks = some (.int b.keys.length) := by
  show some (D.int (b.keys.map keyD).length) = _; rw [List.length_map]
theorem kd1 (k : List Nat × List Nat) (s : Stt) : idxD s (keyD k) (.int 1) = some (.str k.2) := rfl
theorem lk_loop (K : Cal) (b : Bk) (c : Nat) (s : Stt) : ∀ (m i : Nat) (x : Option D), i + m = b.keys.length → ∃ x', loopF [] (forF K none (.var 2) (.ite (.val (.cmp .isin (.var 1) (.idx (.idx (.idx (.var 0) (.int 0)) (.var 2)) (.int 1)))) (.ret (.var 2)) .skip)) (rngL i 1 m) [some b.d, some (.str [c]), x] s = (match hits (has c) i (b.keys.drop i) with
    | [] => .ok (.nx [some b.d, some (.str [c]), x']) s
    | v :: _ => .ok (.rt (.int v)) s) := by
  intro m
  induction m with
  | zero =>
    intro i x h
    rw [List.drop_of_length_le (by omega)]
    exact ⟨x, w_lf0⟩
  | succ m ih =>
    intro i x h
    have hi : i < b.keys.length := by omega
    have hg : b.keys[i]? = some b.keys[i] := List.getElem?_eq_getElem hi
    have h1 := atI_get b.keys i _ hg
    rw [List.drop_eq_getElem_cons hi, rngL_cons, w_lf1]
    by_cases hc : c ∈ (b.keys[i]).2
    · refine ⟨none, ?_⟩
      have e : hits (has c) i (b.keys[i] :: b.keys.drop (i + 1)) = (i : Int) :: hits (has c) (i + 1) (b.keys.drop (i + 1)) := if_pos (decide_eq_true hc)
      rw [e]
      have z : forF K none (.var 2) (.ite (.val (.cmp .isin (.var 1) (.idx (.idx (.idx (.var 0) (.int 0)) (.var 2)) (.int 1)))) (.ret (.var 2)) .skip) (.int i) [some b.d, some (.str [c]), x] s = .ok (.rt (.int i)) s := by
        simp (config := {implicitDefEqProofs := false}) only [v_var, v_get, v_non, v_bl, v_int, v_str, v_cint, v_cstr, v_bin, v_bin1, v_bin2, v_neg, v_neg1, v_not, v_not1, v_NB, v_Bl, v_cmp, v_cmp1, v_cmp2, v_chain, v_ch1, v_ch2, v_ch3t, v_ch3f, v_and, v_and1, v_and2t, v_and2f, v_or, v_or1, v_or2t, v_or2f, v_ite, v_itet, v_itef, v_tup, v_tup1, v_newl, v_newl1, v_dct, v_dct1, v_idx, v_idx1, v_idx2, v_slc, v_slc1, v_slc2, v_slc3, v_rev, v_rev1, v_call, v_call1, v_kw, v_kw1, v_kw2, v_b1, v_b11, v_bs, v_bs1, v_min2, v_min, v_mini, v_max2, v_max, v_maxi, v_join, v_join1, v_join2, v_join2t, v_join3, v_m0, v_m01, v_m1, v_m11, v_m12, v_isi, v_isi1, v_xfld, v_xis, v_tval, v_val1, v_tnot, v_TN, v_tand, v_TAt, v_TAf, v_tor, v_TOt, v_TOf, v_tite, v_TIt, v_TIf, v_yes, v_pn, v_ps, v_p1, v_nil, v_cons, v_a1, v_a2, v_comp, v_cp, v_cpF, v_cpG, v_cpBt, v_cpBf, v_some, v_cp2, v_lst, v_l1, v_qval, v_q1, v_q2, v_rng1, v_rng2, v_r2, v_enm, v_en1, v_zip, v_z1, v_z2t, v_irev, v_rvl, v_rvt, v_ival, v_iv1, w_skip, w_seq, w_asg, w_asg1, w_asg2, w_par, w_par1, w_sub, w_sub1, w_sub2, w_sub3, w_put, w_aug, w_aug1, w_aug2, w_aug3, w_augs, w_as1, w_as2, w_as3, w_as4, w_as5, w_exp, w_nx, w_ret, w_rt, w_ite, w_ift, w_iff, w_whil, w_for, w_for1, w_forF, w_forG, w_brk, w_cont, w_rais, w_rs1, w_rs2, w_try, w_tryok, w_tryx, g_var, g_nil, g_cons, g_tg, g_many0, g_many, g_wipe0, g_wipe, t_non, t_bl, t_int, t_str, t_tup, t_ref, t_lst, t_rol, t_dct, q_tup, q_str, q_ref, q_lget, q_lst, q_rol, q_il, q_it, q_is, q_gt, q_gs, q_gn, q_gr, c_eqi, c_eqs, c_eqb, c_nei, c_nes, c_neb, c_lt, c_le, c_gt, c_ge, c_ltS, c_isnon, c_nisnon, c_isbl, c_nisbl, c_isint, c_nisint, c_isstr, c_nisstr, c_istup, c_nistup, c_isref, c_nisref, c_in, c_nin, c_mstr, c_mtup, c_mref, c_mlst, c_mdst, c_mdin, b_addi, b_adds, b_addt, b_sub, b_mul, b_muls, b_fdiv, b_mod, b_pow, b_shl, b_aug, b_augs, b_augu, i_tup, i_str, i_chs, i_ref, i_lst, i_rol, i_dst, i_din, Ev.s_tup, Ev.s_str', Ev.s_ref, Ev.s_lst, r_str, r_ref, r_lst, l_str, l_tup, l_ref, l_lst, l_rol, l_dct, l_abs, l_int, l_intb, l_ord, z_tl, z_tt, z_ll, z_lt, z_any, z_all, z_sum, z_any1, z_all1, z_sum1, z_srt, z_srs, z_sri, y_tup_tuple, y_tup_list, y_tup_bool, y_tup_int, y_tup_str, y_tup_dict, y_str_tuple, y_str_list, y_str_bool, y_str_int, y_str_str, y_str_dict, y_int_tuple, y_int_list, y_int_bool, y_int_int, y_int_str, y_int_dict, y_bl_tuple, y_bl_list, y_bl_bool, y_bl_int, y_bl_str, y_bl_dict, y_non_tuple, y_non_list, y_non_bool, y_non_int, y_non_str, y_non_dict, m_pop, m_pop1, m_rca, m_app, m_app1, p_ref, p_get, p_gst, p_gin, SZ, Nat.reduceLT, Nat.reduceBEq, Int.reduceLT, Int.reduceLE, Int.reduceBEq, Int.reduceNeg, Int.reduceAdd, Int.reduceSub, Int.reduceMul, R.bind_ok, R.bind_exc, R.quiet_ok, R.to_ok, R.to_exc, RS.nxt_nx, RS.nxt_rt, RS.nxt_bk, RS.nxt_ct, RS.nxt_exc, RS.hush_nx, RS.hush_rt, RS.turn_nx, RS.turn_ct, RS.turn_bk, RS.turn_rt, RS.turn_exc, ok?_some, chk_true, Option.bind_some, Option.map_some, Option.isSome_some, List.getElem?_cons_zero, List.getElem?_cons_succ, List.getElem?_nil, List.set_cons_zero, List.set_cons_succ, List.length_cons, List.length_nil, Nat.reduceAdd, Nat.reduceLeDiff, decide_true, decide_false, Bool.not_true, Bool.not_false, Bool.and_self, Bool.true_and, Bool.and_true, Bool.or_true, Bool.true_or, Bool.or_false, Bool.false_or, if_true, List.nil_append, List.cons_append, Nat.zero_add, List.map_cons, List.map_nil, List.replicate_succ, List.replicate_zero, Nat.reduceSub, List.isEmpty_cons, List.isEmpty_nil, bd0, ksi, h1, kd1, hc]
      rw [z, RS.turn_rt]
    · obtain ⟨x', h2⟩ := ih (i + 1) (some (.int i)) (by omega)
      refine ⟨x', ?_⟩
      have e : hits (has c) i (b.keys[i] :: b.keys.drop (i + 1)) = hits (has c) (i + 1) (b.keys.drop (i + 1)) := if_neg (by unfold has; simp [hc])
      rw [e]
      have z : forF K none (.var 2) (.ite (.val (.cmp .isin (.var 1) (.idx (.idx (.idx (.var 0) (.int 0)) (.var 2)) (.int 1)))) (.ret (.var 2)) .skip) (.int i) [some b.d, some (.str [c]), x] s = .ok (.nx [some b.d, some (.str [c]), some (.int i)]) s := by
        simp (config := {implicitDefEqProofs := false}) only [v_var, v_get, v_non, v_bl, v_int, v_str, v_cint, v_cstr, v_bin, v_bin1, v_bin2, v_neg, v_neg1, v_not, v_not1, v_NB, v_Bl, v_cmp, v_cmp1, v_cmp2, v_chain, v_ch1, v_ch2, v_ch3t, v_ch3f, v_and, v_and1, v_and2t, v_and2f, v_or, v_or1, v_or2t, v_or2f, v_ite, v_itet, v_itef, v_tup, v_tup1, v_newl, v_newl1, v_dct, v_dct1, v_idx, v_idx1, v_idx2, v_slc, v_slc1, v_slc2, v_slc3, v_rev, v_rev1, v_call, v_call1, v_kw, v_kw1, v_kw2, v_b1, v_b11, v_bs, v_bs1, v_min2, v_min, v_mini, v_max2, v_max, v_maxi, v_join, v_join1, v_join2, v_join2t, v_join3, v_m0, v_m01, v_m1, v_m11, v_m12, v_isi, v_isi1, v_xfld, v_xis, v_tval, v_val1, v_tnot, v_TN, v_tand, v_TAt, v_TAf, v_tor, v_TOt, v_TOf, v_tite, v_TIt, v_TIf, v_yes, v_pn, v_ps, v_p1, v_nil, v_cons, v_a1, v_a2, v_comp, v_cp, v_cpF, v_cpG, v_cpBt, v_cpBf, v_some, v_cp2, v_lst, v_l1, v_qval, v_q1, v_q2, v_rng1, v_rng2, v_r2, v_enm, v_en1, v_zip, v_z1, v_z2t, v_irev, v_rvl, v_rvt, v_ival, v_iv1, w_skip, w_seq, w_asg, w_asg1, w_asg2, w_par, w_par1, w_sub, w_sub1, w_sub2, w_sub3, w_put, w_aug, w_aug1, w_aug2, w_aug3, w_augs, w_as1, w_as2, w_as3, w_as4, w_as5, w_exp, w_nx, w_ret, w_rt, w_ite, w_ift, w_iff, w_whil, w_for, w_for1, w_forF, w_forG, w_brk, w_cont, w_rais, w_rs1, w_rs2, w_try, w_tryok, w_tryx, g_var, g_nil, g_cons, g_tg, g_many0, g_many, g_wipe0, g_wipe, t_non, t_bl, t_int, t_str, t_tup, t_ref, t_lst, t_rol, t_dct, q_tup, q_str, q_ref, q_lget, q_lst, q_rol, q_il, q_it, q_is, q_gt, q_gs, q_gn, q_gr, c_eqi, c_eqs, c_eqb, c_nei, c_nes, c_neb, c_lt, c_le, c_gt, c_ge, c_ltS, c_isnon, c_nisnon, c_isbl, c_nisbl, c_isint, c_nisint, c_isstr, c_nisstr, c_istup, c_nistup, c_isref, c_nisref, c_in, c_nin, c_mstr, c_mtup, c_mref, c_mlst, c_mdst, c_mdin, b_addi, b_adds, b_addt, b_sub, b_mul, b_muls, b_fdiv, b_mod, b_pow, b_shl, b_aug, b_augs, b_augu, i_tup, i_str, i_chs, i_ref, i_lst, i_rol, i_dst, i_din, Ev.s_tup, Ev.s_str', Ev.s_ref, Ev.s_lst, r_str, r_ref, r_lst, l_str, l_tup, l_ref, l_lst, l_rol, l_dct, l_abs, l_int, l_intb, l_ord, z_tl, z_tt, z_ll, z_lt, z_any, z_all, z_sum, z_any1, z_all1, z_sum1, z_srt, z_srs, z_sri, y_tup_tuple, y_tup_list, y_tup_bool, y_tup_int, y_tup_str, y_tup_dict, y_str_tuple, y_str_list, y_str_bool, y_str_int, y_str_str, y_str_dict, y_int_tuple, y_int_list, y_int_bool, y_int_int, y_int_str, y_int_dict, y_bl_tuple, y_bl_list, y_bl_bool, y_bl_int, y_bl_str, y_bl_dict, y_non_tuple, y_non_list, y_non_bool, y_non_int, y_non_str, y_non_dict, m_pop, m_pop1, m_rca, m_app, m_app1, p_ref, p_get, p_gst, p_gin, SZ, Nat.reduceLT, Nat.reduceBEq, Int.reduceLT, Int.reduceLE, Int.reduceBEq, Int.reduceNeg, Int.reduceAdd, Int.reduceSub, Int.reduceMul, R.bind_ok, R.bind_exc, R.quiet_ok, R.to_ok, R.to_exc, RS.nxt_nx, RS.nxt_rt, RS.nxt_bk, RS.nxt_ct, RS.nxt_exc, RS.hush_nx, RS.hush_rt, RS.turn_nx, RS.turn_ct, RS.turn_bk, RS.turn_rt, RS.turn_exc, ok?_some, chk_true, Option.bind_some, Option.map_some, Option.isSome_some, List.getElem?_cons_zero, List.getElem?_cons_succ, List.getElem?_nil, List.set_cons_zero, List.set_cons_succ, List.length_cons, List.length_nil, Nat.reduceAdd, Nat.reduceLeDiff, decide_true, decide_false, Bool.not_true, Bool.not_false, Bool.and_self, Bool.true_and, Bool.and_true, Bool.or_true, Bool.true_or, Bool.or_false, Bool.false_or, if_true, List.nil_append, List.cons_append, Nat.zero_add, List.map_cons, List.map_nil, List.replicate_succ, List.replicate_zero, Nat.reduceSub, List.isEmpty_cons, List.isEmpty_nil, bd0, ksi, h1, kd1, hc]
      rw [z, RS.turn_nx]
      rw [show (((i + 1 : Nat)) : Int) = (i : Int) + 1 by omega] at h2
      exact h2
theorem tb_lk : Lw.tb[7]? = some ⟨2, 3, core7⟩ := by rfl
theorem lk_call (n : Nat) (b : Bk) (hb : b.ok) (c : Nat) (s : Stt) : callN Lw.tb (n + 1) 7 [b.d, .str [c]] s = .ok (hdD (hits (has c) 0 b.keys)) s := by
  refine callPe (e := [some b.d, some (.str [c]), none]) (s' := []) tb_lk rfl rfl (by simp only [D.blws, b.cl, D.blw, Bool.and_self]) (by cases hits (has c) 0 b.keys <;> rfl) ?_ s
  obtain ⟨x', h⟩ := lk_loop (callN Lw.tb n) b c [] b.keys.length 0 none (by omega)
  have n1 : ∀ s, kR1 (.int b.keys.length) s = .ok (rngL 0 1 b.keys.length, []) s := fun s => R1_n _ (by have := hb.nk; omega)
  rw [List.drop_zero] at h
  unfold core7
  generalize hA : ((.ite (.val (.cmp .isin (.var 1) (.idx (.idx (.idx (.var 0) (.int 0)) (.var 2)) (.int 1)))) (.ret (.var 2)) .skip) : S) = A at *
  simp (config := {implicitDefEqProofs := false}) only [v_var, v_get, v_non, v_bl, v_int, v_str, v_cint, v_cstr, v_bin, v_bin1, v_bin2, v_neg, v_neg1, v_not, v_not1, v_NB, v_Bl, v_cmp, v_cmp1, v_cmp2, v_chain, v_ch1, v_ch2, v_ch3t, v_ch3f, v_and, v_and1, v_and2t, v_and2f, v_or, v_or1, v_or2t, v_or2f, v_ite, v_itet, v_itef, v_tup, v_tup1, v_newl, v_newl1, v_dct, v_dct1, v_idx, v_idx1, v_idx2, v_slc, v_slc1, v_slc2, v_slc3, v_rev, v_rev1, v_call, v_call1, v_kw, v_kw1, v_kw2, v_b1, v_b11, v_bs, v_bs1, v_min2, v_min, v_mini, v_max2, v_max, v_maxi, v_join, v_join1, v_join2, v_join2t, v_join3, v_m0, v_m01, v_m1, v_m11, v_m12, v_isi, v_isi1, v_xfld, v_xis, v_tval, v_val1, v_tnot, v_TN, v_tand, v_TAt, v_TAf, v_tor, v_TOt, v_TOf, v_tite, v_TIt, v_TIf, v_yes, v_pn, v_ps, v_p1, v_nil, v_cons, v_a1, v_a2, v_comp, v_cp, v_cpF, v_cpG, v_cpBt, v_cpBf, v_some, v_cp2, v_lst, v_l1, v_qval, v_q1, v_q2, v_rng1, v_rng2, v_r2, v_enm, v_en1, v_zip, v_z1, v_z2t, v_irev, v_rvl, v_rvt, v_ival, v_iv1, w_skip, w_seq, w_asg, w_asg1, w_asg2, w_par, w_par1, w_sub, w_sub1, w_sub2, w_sub3, w_put, w_aug, w_aug1, w_aug2, w_aug3, w_augs, w_as1, w_as2, w_as3, w_as4, w_as5, w_exp, w_nx, w_ret, w_rt, w_ite, w_ift, w_iff, w_whil, w_for, w_for1, w_forF, w_forG, w_brk, w_cont, w_rais, w_rs1, w_rs2, w_try, w_tryok, w_tryx, g_var, g_nil, g_cons, g_tg, g_many0, g_many, g_wipe0, g_wipe, t_non, t_bl, t_int, t_str, t_tup, t_ref, t_lst, t_rol, t_dct, q_tup, q_str, q_ref, q_lget, q_lst, q_rol, q_il, q_it, q_is, q_gt, q_gs, q_gn, q_gr, c_eqi, c_eqs, c_eqb, c_nei, c_nes, c_neb, c_lt, c_le, c_gt, c_ge, c_ltS, c_isnon, c_nisnon, c_isbl, c_nisbl, c_isint, c_nisint, c_isstr, c_nisstr, c_istup, c_nistup, c_isref, c_nisref, c_in, c_nin, c_mstr, c_mtup, c_mref, c_mlst, c_mdst, c_mdin, b_addi, b_adds, b_addt, b_sub, b_mul, b_muls, b_fdiv, b_mod, b_pow, b_shl, b_aug, b_augs, b_augu, i_tup, i_str, i_chs, i_ref, i_lst, i_rol, i_dst, i_din, Ev.s_tup, Ev.s_str', Ev.s_ref, Ev.s_lst, r_str, r_ref, r_lst, l_str, l_tup, l_ref, l_lst, l_rol, l_dct, l_abs, l_int, l_intb, l_ord, z_tl, z_tt, z_ll, z_lt, z_any, z_all, z_sum, z_any1, z_all1, z_sum1, z_srt, z_srs, z_sri, y_tup_tuple, y_tup_list, y_tup_bool, y_tup_int, y_tup_str, y_tup_dict, y_str_tuple, y_str_list, y_str_bool, y_str_int, y_str_str, y_str_dict, y_int_tuple, y_int_list, y_int_bool, y_int_int, y_int_str, y_int_dict, y_bl_tuple, y_bl_list, y_bl_bool, y_bl_int, y_bl_str, y_bl_dict, y_non_tuple, y_non_list, y_non_bool, y_non_int, y_non_str, y_non_dict, m_pop, m_pop1, m_rca, m_app, m_app1, p_ref, p_get, p_gst, p_gin, SZ, Nat.reduceLT, Nat.reduceBEq, Int.reduceLT, Int.reduceLE, Int.reduceBEq, Int.reduceNeg, Int.reduceAdd, Int.reduceSub, Int.reduceMul, R.bind_ok, R.bind_exc, R.quiet_ok, R.to_ok, R.to_exc, RS.nxt_nx, RS.nxt_rt, RS.nxt_bk, RS.nxt_ct, RS.nxt_exc, RS.hush_nx, RS.hush_rt, RS.turn_nx, RS.turn_ct, RS.turn_bk, RS.turn_rt, RS.turn_exc, ok?_some, chk_true, Option.bind_some, Option.map_some, Option.isSome_some, List.getElem?_cons_zero, List.getElem?_cons_succ, List.getElem?_nil, List.set_cons_zero, List.set_cons_succ, List.length_cons, List.length_nil, Nat.reduceAdd, Nat.reduceLeDiff, decide_true, decide_false, Bool.not_true, Bool.not_false, Bool.and_self, Bool.true_and, Bool.and_true, Bool.or_true, Bool.true_or, Bool.or_false, Bool.false_or, if_true, List.nil_append, List.cons_append, Nat.zero_add, List.map_cons, List.map_nil, List.replicate_succ, List.replicate_zero, Nat.reduceSub, List.isEmpty_cons, List.isEmpty_nil, bd0, ksl, n1]
  have h : loopF [] (forF (callN Lw.tb n) none (.var 2) A) (rngL 0 1 b.keys.length) [some b.d, some (.str [c]), none] [] = _ := h
  rw [h]
  cases hits (has c) 0 b.keys with
  | nil => simp (config := {implicitDefEqProofs := false}) only [v_var, v_get, v_non, v_bl, v_int, v_str, v_cint, v_cstr, v_bin, v_bin1, v_bin2, v_neg, v_neg1, v_not, v_not1, v_NB, v_Bl, v_cmp, v_cmp1, v_cmp2, v_chain, v_ch1, v_ch2, v_ch3t, v_ch3f, v_and, v_and1, v_and2t, v_and2f, v_or, v_or1, v_or2t, v_or2f, v_ite, v_itet, v_itef, v_tup, v_tup1, v_newl, v_newl1, v_dct, v_dct1, v_idx, v_idx1, v_idx2, v_slc, v_slc1, v_slc2, v_slc3, v_rev, v_rev1, v_call, v_call1, v_kw, v_kw1, v_kw2, v_b1, v_b11, v_bs, v_bs1, v_min2, v_min, v_mini, v_max2, v_max, v_maxi, v_join, v_join1, v_join2, v_join2t, v_join3, v_m0, v_m01, v_m1, v_m11, v_m12, v_isi, v_isi1, v_xfld, v_xis, v_tval, v_val1, v_tnot, v_TN, v_tand, v_TAt, v_TAf, v_tor, v_TOt, v_TOf, v_tite, v_TIt, v_TIf, v_yes, v_pn, v_ps, v_p1, v_nil, v_cons, v_a1, v_a2, v_comp, v_cp, v_cpF, v_cpG, v_cpBt, v_cpBf, v_some, v_cp2, v_lst, v_l1, v_qval, v_q1, v_q2, v_rng1, v_rng2, v_r2, v_enm, v_en1, v_zip, v_z1, v_z2t, v_irev, v_rvl, v_rvt, v_ival, v_iv1, w_skip, w_seq, w_asg, w_asg1, w_asg2, w_par, w_par1, w_sub, w_sub1, w_sub2, w_sub3, w_put, w_aug, w_aug1, w_aug2, w_aug3, w_augs, w_as1, w_as2, w_as3, w_as4, w_as5, w_exp, w_nx, w_ret, w_rt, w_ite, w_ift, w_iff, w_whil, w_for, w_for1, w_forF, w_forG, w_brk, w_cont, w_rais, w_rs1, w_rs2, w_try, w_tryok, w_tryx, g_var, g_nil, g_cons, g_tg, g_many0, g_many, g_wipe0, g_wipe, t_non, t_bl, t_int, t_str, t_tup, t_ref, t_lst, t_rol, t_dct, q_tup, q_str, q_ref, q_lget, q_lst, q_rol, q_il, q_it, q_is, q_gt, q_gs, q_gn, q_gr, c_eqi, c_eqs, c_eqb, c_nei, c_nes, c_neb, c_lt, c_le, c_gt, c_ge, c_ltS, c_isnon, c_nisnon, c_isbl, c_nisbl, c_isint, c_nisint, c_isstr, c_nisstr, c_istup, c_nistup, c_isref, c_nisref, c_in, c_nin, c_mstr, c_mtup, c_mref, c_mlst, c_mdst, c_mdin, b_addi, b_adds, b_addt, b_sub, b_mul, b_muls, b_fdiv, b_mod, b_pow, b_shl, b_aug, b_augs, b_augu, i_tup, i_str, i_chs, i_ref, i_lst, i_rol, i_dst, i_din, Ev.s_tup, Ev.s_str', Ev.s_ref, Ev.s_lst, r_str, r_ref, r_lst, l_str, l_tup, l_ref, l_lst, l_rol, l_dct, l_abs, l_int, l_intb, l_ord, z_tl, z_tt, z_ll, z_lt, z_any, z_all, z_sum, z_any1, z_all1, z_sum1, z_srt, z_srs, z_sri, y_tup_tuple, y_tup_list, y_tup_bool, y_tup_int, y_tup_str, y_tup_dict, y_str_tuple, y_str_list, y_str_bool, y_str_int, y_str_str, y_str_dict, y_int_tuple, y_int_list, y_int_bool, y_int_int, y_int_str, y_int_dict, y_bl_tuple, y_bl_list, y_bl_bool, y_bl_int, y_bl_str, y_bl_dict, y_non_tuple, y_non_list, y_non_bool, y_non_int, y_non_str, y_non_dict, m_pop, m_pop1, m_rca, m_app, m_app1, p_ref, p_get, p_gst, p_gin, SZ, Nat.reduceLT, Nat.reduceBEq, Int.reduceLT, Int.reduceLE, Int.reduceBEq, Int.reduceNeg, Int.reduceAdd, Int.reduceSub, Int.reduceMul, R.bind_ok, R.bind_exc, R.quiet_ok, R.to_ok, R.to_exc, RS.nxt_nx, RS.nxt_rt, RS.nxt_bk, RS.nxt_ct, RS.nxt_exc, RS.hush_nx, RS.hush_rt, RS.turn_nx, RS.turn_ct, RS.turn_bk, RS.turn_rt, RS.turn_exc, ok?_some, chk_true, Option.bind_some, Option.map_some, Option.isSome_some, List.getElem?_cons_zero, List.getElem?_cons_succ, List.getElem?_nil, List.set_cons_zero, List.set_cons_succ, List.length_cons, List.length_nil, Nat.reduceAdd, Nat.reduceLeDiff, decide_true, decide_false, Bool.not_true, Bool.not_false, Bool.and_self, Bool.true_and, Bool.and_true, Bool.or_true, Bool.true_or, Bool.or_false, Bool.false_or, if_true, List.nil_append, List.cons_append, Nat.zero_add, List.map_cons, List.map_nil, List.replicate_succ, List.replicate_zero, Nat.reduceSub, List.isEmpty_cons, List.isEmpty_nil]; rfl
  | cons v r => simp (config := {implicitDefEqProofs := false}) only [v_var, v_get, v_non, v_bl, v_int, v_str, v_cint, v_cstr, v_bin, v_bin1, v_bin2, v_neg, v_neg1, v_not, v_not1, v_NB, v_Bl, v_cmp, v_cmp1, v_cmp2, v_chain, v_ch1, v_ch2, v_ch3t, v_ch3f, v_and, v_and1, v_and2t, v_and2f, v_or, v_or1, v_or2t, v_or2f, v_ite, v_itet, v_itef, v_tup, v_tup1, v_newl, v_newl1, v_dct, v_dct1, v_idx, v_idx1, v_idx2, v_slc, v_slc1, v_slc2, v_slc3, v_rev, v_rev1, v_call, v_call1, v_kw, v_kw1, v_kw2, v_b1, v_b11, v_bs, v_bs1, v_min2, v_min, v_mini, v_max2, v_max, v_maxi, v_join, v_join1, v_join2, v_join2t, v_join3, v_m0, v_m01, v_m1, v_m11, v_m12, v_isi, v_isi1, v_xfld, v_xis, v_tval, v_val1, v_tnot, v_TN, v_tand, v_TAt, v_TAf, v_tor, v_TOt, v_TOf, v_tite, v_TIt, v_TIf, v_yes, v_pn, v_ps, v_p1, v_nil, v_cons, v_a1, v_a2, v_comp, v_cp, v_cpF, v_cpG, v_cpBt, v_cpBf, v_some, v_cp2, v_lst, v_l1, v_qval, v_q1, v_q2, v_rng1, v_rng2, v_r2, v_enm, v_en1, v_zip, v_z1, v_z2t, v_irev, v_rvl, v_rvt, v_ival, v_iv1, w_skip, w_seq, w_asg, w_asg1, w_asg2, w_par, w_par1, w_sub, w_sub1, w_sub2, w_sub3, w_put, w_aug, w_aug1, w_aug2, w_aug3, w_augs, w_as1, w_as2, w_as3, w_as4, w_as5, w_exp, w_nx, w_ret, w_rt, w_ite, w_ift, w_iff, w_whil, w_for, w_for1, w_forF, w_forG, w_brk, w_cont, w_rais, w_rs1, w_rs2, w_try, w_tryok, w_tryx, g_var, g_nil, g_cons, g_tg, g_many0, g_many, g_wipe0, g_wipe, t_non, t_bl, t_int, t_str, t_tup, t_ref, t_lst, t_rol, t_dct, q_tup, q_str, q_ref, q_lget, q_lst, q_rol, q_il, q_it, q_is, q_gt, q_gs, q_gn, q_gr, c_eqi, c_eqs, c_eqb, c_nei, c_nes, c_neb, c_lt, c_le, c_gt, c_ge, c_ltS, c_isnon, c_nisnon, c_isbl, c_nisbl, c_isint, c_nisint, c_isstr, c_nisstr, c_istup, c_nistup, c_isref, c_nisref, c_in, c_nin, c_mstr, c_mtup, c_mref, c_mlst, c_mdst, c_mdin, b_addi, b_adds, b_addt, b_sub, b_mul, b_muls, b_fdiv, b_mod, b_pow, b_shl, b_aug, b_augs, b_augu, i_tup, i_str, i_chs, i_ref, i_lst, i_rol, i_dst, i_din, Ev.s_tup, Ev.s_str', Ev.s_ref, Ev.s_lst, r_str, r_ref, r_lst, l_str, l_tup, l_ref, l_lst, l_rol, l_dct, l_abs, l_int, l_intb, l_ord, z_tl, z_tt, z_ll, z_lt, z_any, z_all, z_sum, z_any1, z_all1, z_sum1, z_srt, z_srs, z_sri, y_tup_tuple, y_tup_list, y_tup_bool, y_tup_int, y_tup_str, y_tup_dict, y_str_tuple, y_str_list, y_str_bool, y_str_int, y_str_str, y_str_dict, y_int_tuple, y_int_list, y_int_bool, y_int_int, y_int_str, y_int_dict, y_bl_tuple, y_bl_list, y_bl_bool, y_bl_int, y_bl_str, y_bl_dict, y_non_tuple, y_non_list, y_non_bool, y_non_int, y_non_str, y_non_dict, m_pop, m_pop1, m_rca, m_app, m_app1, p_ref, p_get, p_gst, p_gin, SZ, Nat.reduceLT, Nat.reduceBEq, Int.reduceLT, Int.reduceLE, Int.reduceBEq, Int.reduceNeg, Int.reduceAdd, Int.reduceSub, Int.reduceMul, R.bind_ok, R.bind_exc, R.quiet_ok, R.to_ok, R.to_exc, RS.nxt_nx, RS.nxt_rt, RS.nxt_bk, RS.nxt_ct, RS.nxt_exc, RS.hush_nx, RS.hush_rt, RS.turn_nx, RS.turn_ct, RS.turn_bk, RS.turn_rt, RS.turn_exc, ok?_some, chk_true, Option.bind_some, Option.map_some, Option.isSome_some, List.getElem?_cons_zero, List.getElem?_cons_succ, List.getElem?_nil, List.set_cons_zero, List.set_cons_succ, List.length_cons, List.length_nil, Nat.reduceAdd, Nat.reduceLeDiff, decide_true, decide_false, Bool.not_true, Bool.not_false, Bool.and_self, Bool.true_and, Bool.and_true, Bool.or_true, Bool.true_or, Bool.or_false, Bool.false_or, if_true, List.nil_append, List.cons_append, Nat.zero_add, List.map_cons, List.map_nil, List.replicate_succ, List.replicate_zero, Nat.reduceSub, List.isEmpty_cons, List.isEmpty_nil]; rfl
def kx (b : Bk) (c : Nat) : Int := (hits (has c) 0 b.keys).headD 0
theorem kx_hd (b : Bk) (c : Nat) (h : c ∈ b.used) : hdD (hits (has c) 0 b.keys) = .int (kx b c) := by
  unfold kx
  cases e : hits (has c) 0 b.keys with
  | cons v r => rfl
  | nil =>
    unfold Bk.used at h
    obtain ⟨l, hl, hc⟩ := List.mem_flatten.1 h
    obtain ⟨k, hk, rfl⟩ := List.mem_map.1 hl
    obtain ⟨j, hj⟩ := List.getElem?_of_mem hk
    have : ((0 + j : Nat) : Int) ∈ hits (has c) 0 b.keys := (hits_mem _ _ _).2 ⟨j, k, hj, decide_eq_true hc, rfl⟩
    rw [e] at this
    cases this
theorem lks_loop (n : Nat) (b : Bk) (hb : b.ok) (w : List Nat) (hw : ∀ c ∈ w, c ∈ b.used) {a1 a2 : Option D} (s : Stt) : loopL [] (cpF (callN Lw.tb (n + 1)) none [2] (.var 2) .yes (.call 7 (.cons (.var 0) (.cons (.var 2) .nil))) [some b.d, a1, a2]) (chars w) s = .ok ((w.map (kx b)).map .int) s := by
  rw [show chars w = w.map fun c => D.str [c] from rfl, loopL_map1 (g := []) (fun c => D.str [c]) (fun c => D.int (kx b c)) trivial (fun c hc => ?_), List.map_map]; rfl
  have h := lk_call n b hb c
  rw [kx_hd b c (hw c hc)] at h
  simp (config := {implicitDefEqProofs := false}) only [v_var, v_get, v_non, v_bl, v_int, v_str, v_cint, v_cstr, v_bin, v_bin1, v_bin2, v_neg, v_neg1, v_not, v_not1, v_NB, v_Bl, v_cmp, v_cmp1, v_cmp2, v_chain, v_ch1, v_ch2, v_ch3t, v_ch3f, v_and, v_and1, v_and2t, v_and2f, v_or, v_or1, v_or2t, v_or2f, v_ite, v_itet, v_itef, v_tup, v_tup1, v_newl, v_newl1, v_dct, v_dct1, v_idx, v_idx1, v_idx2, v_slc, v_slc1, v_slc2, v_slc3, v_rev, v_rev1, v_call, v_call1, v_kw, v_kw1, v_kw2, v_b1, v_b11, v_bs, v_bs1, v_min2, v_min, v_mini, v_max2, v_max, v_maxi, v_join, v_join1, v_join2, v_join2t, v_join3, v_m0, v_m01, v_m1, v_m11, v_m12, v_isi, v_isi1, v_xfld, v_xis, v_tval, v_val1, v_tnot, v_TN, v_tand, v_TAt, v_TAf, v_tor, v_TOt, v_TOf, v_tite, v_TIt, v_TIf, v_yes, v_pn, v_ps, v_p1, v_nil, v_cons, v_a1, v_a2, v_comp, v_cp, v_cpF, v_cpG, v_cpBt, v_cpBf, v_some, v_cp2, v_lst, v_l1, v_qval, v_q1, v_q2, v_rng1, v_rng2, v_r2, v_enm, v_en1, v_zip, v_z1, v_z2t, v_irev, v_rvl, v_rvt, v_ival, v_iv1, w_skip, w_seq, w_asg, w_asg1, w_asg2, w_par, w_par1, w_sub, w_sub1, w_sub2, w_sub3, w_put, w_aug, w_aug1, w_aug2, w_aug3, w_augs, w_as1, w_as2, w_as3, w_as4, w_as5, w_exp, w_nx, w_ret, w_rt, w_ite, w_ift, w_iff, w_whil, w_for, w_for1, w_forF, w_forG, w_brk, w_cont, w_rais, w_rs1, w_rs2, w_try, w_tryok, w_tryx, g_var, g_nil, g_cons, g_tg, g_many0, g_many, g_wipe0, g_wipe, t_non, t_bl, t_int, t_str, t_tup, t_ref, t_lst, t_rol, t_dct, q_tup, q_str, q_ref, q_lget, q_lst, q_rol, q_il, q_it, q_is, q_gt, q_gs, q_gn, q_gr, c_eqi, c_eqs, c_eqb, c_nei, c_nes, c_neb, c_lt, c_le, c_gt, c_ge, c_ltS, c_isnon, c_nisnon, c_isbl, c_nisbl, c_isint, c_nisint, c_isstr, c_nisstr, c_istup, c_nistup, c_isref, c_nisref, c_in, c_nin, c_mstr, c_mtup, c_mref, c_mlst, c_mdst, c_mdin, b_addi, b_adds, b_addt, b_sub, b_mul, b_muls, b_fdiv, b_mod, b_pow, b_shl, b_aug, b_augs, b_augu, i_tup, i_str, i_chs, i_ref, i_lst, i_rol, i_dst, i_din, Ev.s_tup, Ev.s_str', Ev.s_ref, Ev.s_lst, r_str, r_ref, r_lst, l_str, l_tup, l_ref, l_lst, l_rol, l_dct, l_abs, l_int, l_intb, l_ord, z_tl, z_tt, z_ll, z_lt, z_any, z_all, z_sum, z_any1, z_all1, z_sum1, z_srt, z_srs, z_sri, y_tup_tuple, y_tup_list, y_tup_bool, y_tup_int, y_tup_str, y_tup_dict, y_str_tuple, y_str_list, y_str_bool, y_str_int, y_str_str, y_str_dict, y_int_tuple, y_int_list, y_int_bool, y_int_int, y_int_str, y_int_dict, y_bl_tuple, y_bl_list, y_bl_bool, y_bl_int, y_bl_str, y_bl_dict, y_non_tuple, y_non_list, y_non_bool, y_non_int, y_non_str, y_non_dict, m_pop, m_pop1, m_rca, m_app, m_app1, p_ref, p_get, p_gst, p_gin, SZ, Nat.reduceLT, Nat.reduceBEq, Int.reduceLT, Int.reduceLE, Int.reduceBEq, Int.reduceNeg, Int.reduceAdd, Int.reduceSub, Int.reduceMul, R.bind_ok, R.bind_exc, R.quiet_ok, R.to_ok, R.to_exc, RS.nxt_nx, RS.nxt_rt, RS.nxt_bk, RS.nxt_ct, RS.nxt_exc, RS.hush_nx, RS.hush_rt, RS.turn_nx, RS.turn_ct, RS.turn_bk, RS.turn_rt, RS.turn_exc, ok?_some, chk_true, Option.bind_some, Option.map_some, Option.isSome_some, List.getElem?_cons_zero, List.getElem?_cons_succ, List.getElem?_nil, List.set_cons_zero, List.set_cons_succ, List.length_cons, List.length_nil, Nat.reduceAdd, Nat.reduceLeDiff, decide_true, decide_false, Bool.not_true, Bool.not_false, Bool.and_self, Bool.true_and, Bool.and_true, Bool.or_true, Bool.true_or, Bool.or_false, Bool.false_or, if_true, List.nil_append, List.cons_append, Nat.zero_add, List.map_cons, List.map_nil, List.replicate_succ, List.replicate_zero, Nat.reduceSub, List.isEmpty_cons, List.isEmpty_nil, h]
theorem z_set (s : Stt) (ns : List Int) (h : ns.length ≤ 63) : bsD s .sortedSet (.l (ns.map .int)) = .ok (D.ref s.length) (s ++ [.lst ((sortI (dedI ns)).map .int)]) := by
  have dl : ∀ l : List Int, (dedI l).length ≤ l.length := by
    intro l
    induction l with
    | nil => exact Nat.le_refl _
    | cons x r ih => unfold dedI; split <;> simp only [List.length_cons] <;> omega
  have := dl ns
  show (match dints (ns.map .int) with
    | some ns => Lk.chk (decide (ns.length ≤ 1000) && decide ((dedI ns).length < 64)) (R.ok (D.ref s.length) (s ++ [Ob.lst ((sortI (dedI ns)).map .int)]))
    | none => .err) = _
  rw [dints_map]
  show Lk.chk (decide (ns.length ≤ 1000) && decide ((dedI ns).length < 64)) _ = _
  rw [decide_eq_true (show ns.length ≤ 1000 by omega), decide_eq_true (show (dedI ns).length < 64 by omega)]
  rfl
theorem tb_lks : Lw.tb[8]? = some ⟨2, 3, core8⟩ := by rfl
theorem lks_call (n : Nat) (b : Bk) (hb : b.ok) (w : List Nat) (hw : ∀ c ∈ w, c ∈ b.used) (hl : w.length ≤ 63) (s : Stt) : callN Lw.tb (n + 2) 8 [b.d, .str w] s = .ok (tupI (sortI (dedI (w.map (kx b))))) s := by
  have d1 : decide (w.length ≤ 16777216) = true := decide_eq_true (by omega)
  have l1 := fun (a1 a2 : Option D) (s : Stt) => lks_loop n b hb w hw (a1 := a1) (a2 := a2) s
  have z := fun s => z_set s (w.map (kx b)) (by rw [List.length_map]; exact hl)
  refine callPe (e := [some b.d, some (.str w), none]) (s' := [.lst ((sortI (dedI (w.map (kx b)))).map .int)]) tb_lks rfl rfl (by simp only [D.blws, b.cl, D.blw, Bool.and_self]) (tupI_cl _) ?_ s
  unfold core8
  simp (config := {implicitDefEqProofs := false}) only [v_var, v_get, v_non, v_bl, v_int, v_str, v_cint, v_cstr, v_bin, v_bin1, v_bin2, v_neg, v_neg1, v_not, v_not1, v_NB, v_Bl, v_cmp, v_cmp1, v_cmp2, v_chain, v_ch1, v_ch2, v_ch3t, v_ch3f, v_and, v_and1, v_and2t, v_and2f, v_or, v_or1, v_or2t, v_or2f, v_ite, v_itet, v_itef, v_tup, v_tup1, v_newl, v_newl1, v_dct, v_dct1, v_idx, v_idx1, v_idx2, v_slc, v_slc1, v_slc2, v_slc3, v_rev, v_rev1, v_call, v_call1, v_kw, v_kw1, v_kw2, v_b1, v_b11, v_bs, v_bs1, v_min2, v_min, v_mini, v_max2, v_max, v_maxi, v_join, v_join1, v_join2, v_join2t, v_join3, v_m0, v_m01, v_m1, v_m11, v_m12, v_isi, v_isi1, v_xfld, v_xis, v_tval, v_val1, v_tnot, v_TN, v_tand, v_TAt, v_TAf, v_tor, v_TOt, v_TOf, v_tite, v_TIt, v_TIf, v_yes, v_pn, v_ps, v_p1, v_nil, v_cons, v_a1, v_a2, v_comp, v_cp, v_cpF, v_cpG, v_cpBt, v_cpBf, v_some, v_cp2, v_lst, v_l1, v_qval, v_q1, v_q2, v_rng1, v_rng2, v_r2, v_enm, v_en1, v_zip, v_z1, v_z2t, v_irev, v_rvl, v_rvt, v_ival, v_iv1, w_skip, w_seq, w_asg, w_asg1, w_asg2, w_par, w_par1, w_sub, w_sub1, w_sub2, w_sub3, w_put, w_aug, w_aug1, w_aug2, w_aug3, w_augs, w_as1, w_as2, w_as3, w_as4, w_as5, w_exp, w_nx, w_ret, w_rt, w_ite, w_ift, w_iff, w_whil, w_for, w_for1, w_forF, w_forG, w_brk, w_cont, w_rais, w_rs1, w_rs2, w_try, w_tryok, w_tryx, g_var, g_nil, g_cons, g_tg, g_many0, g_many, g_wipe0, g_wipe, t_non, t_bl, t_int, t_str, t_tup, t_ref, t_lst, t_rol, t_dct, q_tup, q_str, q_ref, q_lget, q_lst, q_rol, q_il, q_it, q_is, q_gt, q_gs, q_gn, q_gr, c_eqi, c_eqs, c_eqb, c_nei, c_nes, c_neb, c_lt, c_le, c_gt, c_ge, c_ltS, c_isnon, c_nisnon, c_isbl, c_nisbl, c_isint, c_nisint, c_isstr, c_nisstr, c_istup, c_nistup, c_isref, c_nisref, c_in, c_nin, c_mstr, c_mtup, c_mref, c_mlst, c_mdst, c_mdin, b_addi, b_adds, b_addt, b_sub, b_mul, b_muls, b_fdiv, b_mod, b_pow, b_shl, b_aug, b_augs, b_augu, i_tup, i_str, i_chs, i_ref, i_lst, i_rol, i_dst, i_din, Ev.s_tup, Ev.s_str', Ev.s_ref, Ev.s_lst, r_str, r_ref, r_lst, l_str, l_tup, l_ref, l_lst, l_rol, l_dct, l_abs, l_int, l_intb, l_ord, z_tl, z_tt, z_ll, z_lt, z_any, z_all, z_sum, z_any1, z_all1, z_sum1, z_srt, z_srs, z_sri, y_tup_tuple, y_tup_list, y_tup_bool, y_tup_int, y_tup_str, y_tup_dict, y_str_tuple, y_str_list, y_str_bool, y_str_int, y_str_str, y_str_dict, y_int_tuple, y_int_list, y_int_bool, y_int_int, y_int_str, y_int_dict, y_bl_tuple, y_bl_list, y_bl_bool, y_bl_int, y_bl_str, y_bl_dict, y_non_tuple, y_non_list, y_non_bool, y_non_int, y_non_str, y_non_dict, m_pop, m_pop1, m_rca, m_app, m_app1, p_ref, p_get, p_gst, p_gin, SZ, Nat.reduceLT, Nat.reduceBEq, Int.reduceLT, Int.reduceLE, Int.reduceBEq, Int.reduceNeg, Int.reduceAdd, Int.reduceSub, Int.reduceMul, R.bind_ok, R.bind_exc, R.quiet_ok, R.to_ok, R.to_exc, RS.nxt_nx, RS.nxt_rt, RS.nxt_bk, RS.nxt_ct, RS.nxt_exc, RS.hush_nx, RS.hush_rt, RS.turn_nx, RS.turn_ct, RS.turn_bk, RS.turn_rt, RS.turn_exc, ok?_some, chk_true, Option.bind_some, Option.map_some, Option.isSome_some, List.getElem?_cons_zero, List.getElem?_cons_succ, List.getElem?_nil, List.set_cons_zero, List.set_cons_succ, List.length_cons, List.length_nil, Nat.reduceAdd, Nat.reduceLeDiff, decide_true, decide_false, Bool.not_true, Bool.not_false, Bool.and_self, Bool.true_and, Bool.and_true, Bool.or_true, Bool.true_or, Bool.or_false, Bool.false_or, if_true, List.nil_append, List.cons_append, Nat.zero_add, List.map_cons, List.map_nil, List.replicate_succ, List.replicate_zero, Nat.reduceSub, List.isEmpty_cons, List.isEmpty_nil, chars_len, d1, l1, z]
  rfl
end Lk.K10

end
section
set_option linter.all false
set_option maxRecDepth 100000
namespace Lk.K10
open PySem L2 Ev
theorem srt_D (s : Stt) (cs : List Nat) (h : 0 < cs.length) : bsD s .sorted (.l (cs.map fun c => D.str [c])) = .ok (D.ref s.length) (s ++ [.lst ((sortS (cs.map fun c => [c])).map .str)]) := by
  cases cs with
  | nil => exact absurd h (by simp)
  | cons c cs => rw [chars_map]; exact z_srs
theorem srt_len (cs : List Nat) : (joinL [] (sortS (cs.map fun c => [c]))).Perm cs := by
  rw [joinL_nil]
  have h := (sortS_prm (cs.map fun c => [c])).flatten
  rw [← joinL_nil (cs.map _), join1] at h
  exact h
theorem srt_sum (cs : List Nat) : ((sortS (cs.map fun c => [c])).map List.length).sum = cs.length := by
  rw [← List.length_flatten, ← joinL_nil]; exact (srt_len cs).length_eq
theorem flat_uniq {c : Nat} : ∀ (ls : List (List Nat)), ls.flatten.Nodup → ∀ (i j : Nat) (a b : List Nat), ls[i]? = some a → ls[j]? = some b → c ∈ a → c ∈ b → i = j := by
  intro ls
  induction ls with
  | nil => intro _ i j a b h; simp at h
  | cons l ls ih =>
    intro hn i j a b h1 h2 ca cb
    rw [List.flatten_cons, List.nodup_append] at hn
    obtain ⟨n1, n2, n3⟩ := hn
    cases i with
    | zero =>
      cases j with
      | zero => rfl
      | succ j =>
        exfalso
        simp only [List.getElem?_cons_zero, Option.some.injEq] at h1
        subst h1
        exact n3 c ca c (List.mem_flatten.2 ⟨b, List.mem_of_getElem? h2, cb⟩) rfl
    | succ i =>
      cases j with
      | zero =>
        exfalso
        simp only [List.getElem?_cons_zero, Option.some.injEq] at h2
        subst h2
        exact n3 c cb c (List.mem_flatten.2 ⟨a, List.mem_of_getElem? h1, ca⟩) rfl
      | succ j => rw [ih n2 i j a b h1 h2 ca cb]
theorem key_uniq {b : Bk} (hn : b.used.Nodup) {c i j : Nat} {k l : List Nat × List Nat} (h1 : b.keys[i]? = some k) (h2 : b.keys[j]? = some l) (h3 : c ∈ k.2) (h4 : c ∈ l.2) : i = j :=
  flat_uniq _ hn i j k.2 l.2 (by rw [List.getElem?_map, h1]; rfl) (by rw [List.getElem?_map, h2]; rfl) h3 h4
theorem kx_eq {b : Bk} (hn : b.used.Nodup) {c j : Nat} {k : List Nat × List Nat} (h1 : b.keys[j]? = some k) (h2 : c ∈ k.2) : kx b c = (j : Int) := by
  have hm : ((0 + j : Nat) : Int) ∈ hits (has c) 0 b.keys := (hits_mem _ _ _).2 ⟨j, k, h1, decide_eq_true h2, rfl⟩
  unfold kx
  cases e : hits (has c) 0 b.keys with
  | nil => rw [e] at hm; cases hm
  | cons v r =>
    have hv : v ∈ hits (has c) 0 b.keys := by rw [e]; exact List.mem_cons_self ..
    obtain ⟨i, l, h3, h4, h5⟩ := (hits_mem _ _ _).1 hv
    have := key_uniq hn h3 h1 (of_decide_eq_true h4) h2
    show v = _
    rw [h5, this]; congr 1; omega
theorem keys_law {b : Bk} (hn : b.used.Nodup) (w : List Nat) (hw : ∀ c ∈ w, c ∈ b.used) : sortI (dedI (w.map (kx b))) = hits (hasT w) 0 b.keys := by
  refine lt_pw_eq (sortI_lt (dedI_nodup _)) (hits_lt _ _) fun x => ?_
  rw [(sortI_perm _).mem_iff, dedI_mem, List.mem_map, hits_mem]
  constructor
  · rintro ⟨c, hc, rfl⟩
    have hu := hw c hc
    unfold Bk.used at hu
    obtain ⟨l, hl, hcl⟩ := List.mem_flatten.1 hu
    obtain ⟨k, hk, rfl⟩ := List.mem_map.1 hl
    obtain ⟨j, hj⟩ := List.getElem?_of_mem hk
    refine ⟨j, k, hj, ?_, ?_⟩
    · unfold hasT
      rw [List.any_map, List.any_eq_true]
      exact ⟨c, hc, decide_eq_true hcl⟩
    · rw [kx_eq hn hj hcl]; congr 1; omega
  · rintro ⟨j, k, hj, hP, rfl⟩
    unfold hasT at hP
    rw [List.any_map, List.any_eq_true] at hP
    obtain ⟨c, hc, hcl⟩ := hP
    exact ⟨c, hc, by rw [kx_eq hn hj (of_decide_eq_true hcl)]; congr 1; omega⟩
theorem tb_al : Lw.tb[3]? = some ⟨1, 3, core3⟩ := by rfl
theorem al_loop (K : Cal) {a x1 x2 : Option D} (ks : List (List Nat × List Nat)) (s : Stt) : loopL [] (cpF K none [1, 2] (.cons (.var 1) (.cons (.var 2) .nil)) .yes (.var 2) [a, x1, x2]) (ks.map keyD) s = .ok ((ks.map (·.2)).map .str) s := by
  rw [loopL_map1 (g := []) keyD (fun k => D.str k.2) trivial (fun k hk => ?_), List.map_map]; rfl
  unfold keyD
  simp (config := {implicitDefEqProofs := false}) only [v_var, v_get, v_non, v_bl, v_int, v_str, v_cint, v_cstr, v_bin, v_bin1, v_bin2, v_neg, v_neg1, v_not, v_not1, v_NB, v_Bl, v_cmp, v_cmp1, v_cmp2, v_chain, v_ch1, v_ch2, v_ch3t, v_ch3f, v_and, v_and1, v_and2t, v_and2f, v_or, v_or1, v_or2t, v_or2f, v_ite, v_itet, v_itef, v_tup, v_tup1, v_newl, v_newl1, v_dct, v_dct1, v_idx, v_idx1, v_idx2, v_slc, v_slc1, v_slc2, v_slc3, v_rev, v_rev1, v_call, v_call1, v_kw, v_kw1, v_kw2, v_b1, v_b11, v_bs, v_bs1, v_min2, v_min, v_mini, v_max2, v_max, v_maxi, v_join, v_join1, v_join2, v_join2t, v_join3, v_m0, v_m01, v_m1, v_m11, v_m12, v_isi, v_isi1, v_xfld, v_xis, v_tval, v_val1, v_tnot, v_TN, v_tand, v_TAt, v_TAf, v_tor, v_TOt, v_TOf, v_tite, v_TIt, v_TIf, v_yes, v_pn, v_ps, v_p1, v_nil, v_cons, v_a1, v_a2, v_comp, v_cp, v_cpF, v_cpG, v_cpBt, v_cpBf, v_some, v_cp2, v_lst, v_l1, v_qval, v_q1, v_q2, v_rng1, v_rng2, v_r2, v_enm, v_en1, v_zip, v_z1, v_z2t, v_irev, v_rvl, v_rvt, v_ival, v_iv1, w_skip, w_seq, w_asg, w_asg1, w_asg2, w_par, w_par1, w_sub, w_sub1, w_sub2, w_sub3, w_put, w_aug, w_aug1, w_aug2, w_aug3, w_augs, w_as1, w_as2, w_as3, w_as4, w_as5, w_exp, w_nx, w_ret, w_rt, w_ite, w_ift, w_iff, w_whil, w_for, w_for1, w_forF, w_forG, w_brk, w_cont, w_rais, w_rs1, w_rs2, w_try, w_tryok, w_tryx, g_var, g_nil, g_cons, g_tg, g_many0, g_many, g_wipe0, g_wipe, t_non, t_bl, t_int, t_str, t_tup, t_ref, t_lst, t_rol, t_dct, q_tup, q_str, q_ref, q_lget, q_lst, q_rol, q_il, q_it, q_is, q_gt, q_gs, q_gn, q_gr, c_eqi, c_eqs, c_eqb, c_nei, c_nes, c_neb, c_lt, c_le, c_gt, c_ge, c_ltS, c_isnon, c_nisnon, c_isbl, c_nisbl, c_isint, c_nisint, c_isstr, c_nisstr, c_istup, c_nistup, c_isref, c_nisref, c_in, c_nin, c_mstr, c_mtup, c_mref, c_mlst, c_mdst, c_mdin, b_addi, b_adds, b_addt, b_sub, b_mul, b_muls, b_fdiv, b_mod, b_pow, b_shl, b_aug, b_augs, b_augu, i_tup, i_str, i_chs, i_ref, i_lst, i_rol, i_dst, i_din, Ev.s_tup, Ev.s_str', Ev.s_ref, Ev.s_lst, r_str, r_ref, r_lst, l_str, l_tup, l_ref, l_lst, l_rol, l_dct, l_abs, l_int, l_intb, l_ord, z_tl, z_tt, z_ll, z_lt, z_any, z_all, z_sum, z_any1, z_all1, z_sum1, z_srt, z_srs, z_sri, y_tup_tuple, y_tup_list, y_tup_bool, y_tup_int, y_tup_str, y_tup_dict, y_str_tuple, y_str_list, y_str_bool, y_str_int, y_str_str, y_str_dict, y_int_tuple, y_int_list, y_int_bool, y_int_int, y_int_str, y_int_dict, y_bl_tuple, y_bl_list, y_bl_bool, y_bl_int, y_bl_str, y_bl_dict, y_non_tuple, y_non_list, y_non_bool, y_non_int, y_non_str, y_non_dict, m_pop, m_pop1, m_rca, m_app, m_app1, p_ref, p_get, p_gst, p_gin, SZ, Nat.reduceLT, Nat.reduceBEq, Int.reduceLT, Int.reduceLE, Int.reduceBEq, Int.reduceNeg, Int.reduceAdd, Int.reduceSub, Int.reduceMul, R.bind_ok, R.bind_exc, R.quiet_ok, R.to_ok, R.to_exc, RS.nxt_nx, RS.nxt_rt, RS.nxt_bk, RS.nxt_ct, RS.nxt_exc, RS.hush_nx, RS.hush_rt, RS.turn_nx, RS.turn_ct, RS.turn_bk, RS.turn_rt, RS.turn_exc, ok?_some, chk_true, Option.bind_some, Option.map_some, Option.isSome_some, List.getElem?_cons_zero, List.getElem?_cons_succ, List.getElem?_nil, List.set_cons_zero, List.set_cons_succ, List.length_cons, List.length_nil, Nat.reduceAdd, Nat.reduceLeDiff, decide_true, decide_false, Bool.not_true, Bool.not_false, Bool.and_self, Bool.true_and, Bool.and_true, Bool.or_true, Bool.true_or, Bool.or_false, Bool.false_or, if_true, List.nil_append, List.cons_append, Nat.zero_add, List.map_cons, List.map_nil, List.replicate_succ, List.replicate_zero, Nat.reduceSub, List.isEmpty_cons, List.isEmpty_nil]
theorem al_call (n : Nat) (b : Bk) (hb : b.ok) (s : Stt) : callN Lw.tb (n + 1) 3 [b.d] s = .ok (.str b.used) s := by
  have d2 : decide (b.keys.length ≤ 16777216) = true := decide_eq_true (by have := hb.nk; omega)
  have d3 : decide ((((b.keys.map (·.2)).map List.length).sum + b.keys.length * 0) ≤ 16777216) = true := decide_eq_true (by have := hb.nu; unfold Bk.used at this; rw [List.length_flatten] at this; omega)
  have j1 : joinL [] (b.keys.map (·.2)) = b.used := joinL_nil _
  refine callPe (e := [some b.d, none, none]) (s' := []) tb_al rfl rfl (by simp only [D.blws, b.cl, Bool.and_self]) rfl ?_ s
  unfold core3
  simp (config := {implicitDefEqProofs := false}) only [v_var, v_get, v_non, v_bl, v_int, v_str, v_cint, v_cstr, v_bin, v_bin1, v_bin2, v_neg, v_neg1, v_not, v_not1, v_NB, v_Bl, v_cmp, v_cmp1, v_cmp2, v_chain, v_ch1, v_ch2, v_ch3t, v_ch3f, v_and, v_and1, v_and2t, v_and2f, v_or, v_or1, v_or2t, v_or2f, v_ite, v_itet, v_itef, v_tup, v_tup1, v_newl, v_newl1, v_dct, v_dct1, v_idx, v_idx1, v_idx2, v_slc, v_slc1, v_slc2, v_slc3, v_rev, v_rev1, v_call, v_call1, v_kw, v_kw1, v_kw2, v_b1, v_b11, v_bs, v_bs1, v_min2, v_min, v_mini, v_max2, v_max, v_maxi, v_join, v_join1, v_join2, v_join2t, v_join3, v_m0, v_m01, v_m1, v_m11, v_m12, v_isi, v_isi1, v_xfld, v_xis, v_tval, v_val1, v_tnot, v_TN, v_tand, v_TAt, v_TAf, v_tor, v_TOt, v_TOf, v_tite, v_TIt, v_TIf, v_yes, v_pn, v_ps, v_p1, v_nil, v_cons, v_a1, v_a2, v_comp, v_cp, v_cpF, v_cpG, v_cpBt, v_cpBf, v_some, v_cp2, v_lst, v_l1, v_qval, v_q1, v_q2, v_rng1, v_rng2, v_r2, v_enm, v_en1, v_zip, v_z1, v_z2t, v_irev, v_rvl, v_rvt, v_ival, v_iv1, w_skip, w_seq, w_asg, w_asg1, w_asg2, w_par, w_par1, w_sub, w_sub1, w_sub2, w_sub3, w_put, w_aug, w_aug1, w_aug2, w_aug3, w_augs, w_as1, w_as2, w_as3, w_as4, w_as5, w_exp, w_nx, w_ret, w_rt, w_ite, w_ift, w_iff, w_whil, w_for, w_for1, w_forF, w_forG, w_brk, w_cont, w_rais, w_rs1, w_rs2, w_try, w_tryok, w_tryx, g_var, g_nil, g_cons, g_tg, g_many0, g_many, g_wipe0, g_wipe, t_non, t_bl, t_int, t_str, t_tup, t_ref, t_lst, t_rol, t_dct, q_tup, q_str, q_ref, q_lget, q_lst, q_rol, q_il, q_it, q_is, q_gt, q_gs, q_gn, q_gr, c_eqi, c_eqs, c_eqb, c_nei, c_nes, c_neb, c_lt, c_le, c_gt, c_ge, c_ltS, c_isnon, c_nisnon, c_isbl, c_nisbl, c_isint, c_nisint, c_isstr, c_nisstr, c_istup, c_nistup, c_isref, c_nisref, c_in, c_nin, c_mstr, c_mtup, c_mref, c_mlst, c_mdst, c_mdin, b_addi, b_adds, b_addt, b_sub, b_mul, b_muls, b_fdiv, b_mod, b_pow, b_shl, b_aug, b_augs, b_augu, i_tup, i_str, i_chs, i_ref, i_lst, i_rol, i_dst, i_din, Ev.s_tup, Ev.s_str', Ev.s_ref, Ev.s_lst, r_str, r_ref, r_lst, l_str, l_tup, l_ref, l_lst, l_rol, l_dct, l_abs, l_int, l_intb, l_ord, z_tl, z_tt, z_ll, z_lt, z_any, z_all, z_sum, z_any1, z_all1, z_sum1, z_srt, z_srs, z_sri, y_tup_tuple, y_tup_list, y_tup_bool, y_tup_int, y_tup_str, y_tup_dict, y_str_tuple, y_str_list, y_str_bool, y_str_int, y_str_str, y_str_dict, y_int_tuple, y_int_list, y_int_bool, y_int_int, y_int_str, y_int_dict, y_bl_tuple, y_bl_list, y_bl_bool, y_bl_int, y_bl_str, y_bl_dict, y_non_tuple, y_non_list, y_non_bool, y_non_int, y_non_str, y_non_dict, m_pop, m_pop1, m_rca, m_app, m_app1, p_ref, p_get, p_gst, p_gin, SZ, Nat.reduceLT, Nat.reduceBEq, Int.reduceLT, Int.reduceLE, Int.reduceBEq, Int.reduceNeg, Int.reduceAdd, Int.reduceSub, Int.reduceMul, R.bind_ok, R.bind_exc, R.quiet_ok, R.to_ok, R.to_exc, RS.nxt_nx, RS.nxt_rt, RS.nxt_bk, RS.nxt_ct, RS.nxt_exc, RS.hush_nx, RS.hush_rt, RS.turn_nx, RS.turn_ct, RS.turn_bk, RS.turn_rt, RS.turn_exc, ok?_some, chk_true, Option.bind_some, Option.map_some, Option.isSome_some, List.getElem?_cons_zero, List.getElem?_cons_succ, List.getElem?_nil, List.set_cons_zero, List.set_cons_succ, List.length_cons, List.length_nil, Nat.reduceAdd, Nat.reduceLeDiff, decide_true, decide_false, Bool.not_true, Bool.not_false, Bool.and_self, Bool.true_and, Bool.and_true, Bool.or_true, Bool.true_or, Bool.or_false, Bool.false_or, if_true, List.nil_append, List.cons_append, Nat.zero_add, List.map_cons, List.map_nil, List.replicate_succ, List.replicate_zero, Nat.reduceSub, List.isEmpty_cons, List.isEmpty_nil, bd0, eks, egk, al_loop, List.length_map, d2, dstrs_map, d3, j1]
def srt (us : List Nat) : List Nat := joinL [] (sortS (us.map fun c => [c]))
theorem tb_lo : Lw.tb[4]? = some ⟨1, 1, core4⟩ := by rfl
theorem lo_call (n : Nat) (b : Bk) (hb : b.ok) (s : Stt) : callN Lw.tb (n + 2) 4 [b.d] s = .ok (.str (srt b.used)) s := by
  have l1 := al_call n b hb
  have d4 : decide ((((sortS (b.used.map fun c => [c])).map List.length).sum + (sortS (b.used.map fun c => [c])).length * 0) ≤ 16777216) = true := decide_eq_true (by rw [srt_sum]; have := hb.nu; omega)
  refine callPe (e := [some b.d]) (s' := [.lst ((sortS (b.used.map fun c => [c])).map .str)]) tb_lo rfl rfl (by simp only [D.blws, b.cl, Bool.and_self]) rfl ?_ s
  unfold core4
  simp (config := {implicitDefEqProofs := false}) only [v_var, v_get, v_non, v_bl, v_int, v_str, v_cint, v_cstr, v_bin, v_bin1, v_bin2, v_neg, v_neg1, v_not, v_not1, v_NB, v_Bl, v_cmp, v_cmp1, v_cmp2, v_chain, v_ch1, v_ch2, v_ch3t, v_ch3f, v_and, v_and1, v_and2t, v_and2f, v_or, v_or1, v_or2t, v_or2f, v_ite, v_itet, v_itef, v_tup, v_tup1, v_newl, v_newl1, v_dct, v_dct1, v_idx, v_idx1, v_idx2, v_slc, v_slc1, v_slc2, v_slc3, v_rev, v_rev1, v_call, v_call1, v_kw, v_kw1, v_kw2, v_b1, v_b11, v_bs, v_bs1, v_min2, v_min, v_mini, v_max2, v_max, v_maxi, v_join, v_join1, v_join2, v_join2t, v_join3, v_m0, v_m01, v_m1, v_m11, v_m12, v_isi, v_isi1, v_xfld, v_xis, v_tval, v_val1, v_tnot, v_TN, v_tand, v_TAt, v_TAf, v_tor, v_TOt, v_TOf, v_tite, v_TIt, v_TIf, v_yes, v_pn, v_ps, v_p1, v_nil, v_cons, v_a1, v_a2, v_comp, v_cp, v_cpF, v_cpG, v_cpBt, v_cpBf, v_some, v_cp2, v_lst, v_l1, v_qval, v_q1, v_q2, v_rng1, v_rng2, v_r2, v_enm, v_en1, v_zip, v_z1, v_z2t, v_irev, v_rvl, v_rvt, v_ival, v_iv1, w_skip, w_seq, w_asg, w_asg1, w_asg2, w_par, w_par1, w_sub, w_sub1, w_sub2, w_sub3, w_put, w_aug, w_aug1, w_aug2, w_aug3, w_augs, w_as1, w_as2, w_as3, w_as4, w_as5, w_exp, w_nx, w_ret, w_rt, w_ite, w_ift, w_iff, w_whil, w_for, w_for1, w_forF, w_forG, w_brk, w_cont, w_rais, w_rs1, w_rs2, w_try, w_tryok, w_tryx, g_var, g_nil, g_cons, g_tg, g_many0, g_many, g_wipe0, g_wipe, t_non, t_bl, t_int, t_str, t_tup, t_ref, t_lst, t_rol, t_dct, q_tup, q_str, q_ref, q_lget, q_lst, q_rol, q_il, q_it, q_is, q_gt, q_gs, q_gn, q_gr, c_eqi, c_eqs, c_eqb, c_nei, c_nes, c_neb, c_lt, c_le, c_gt, c_ge, c_ltS, c_isnon, c_nisnon, c_isbl, c_nisbl, c_isint, c_nisint, c_isstr, c_nisstr, c_istup, c_nistup, c_isref, c_nisref, c_in, c_nin, c_mstr, c_mtup, c_mref, c_mlst, c_mdst, c_mdin, b_addi, b_adds, b_addt, b_sub, b_mul, b_muls, b_fdiv, b_mod, b_pow, b_shl, b_aug, b_augs, b_augu, i_tup, i_str, i_chs, i_ref, i_lst, i_rol, i_dst, i_din, Ev.s_tup, Ev.s_str', Ev.s_ref, Ev.s_lst, r_str, r_ref, r_lst, l_str, l_tup, l_ref, l_lst, l_rol, l_dct, l_abs, l_int, l_intb, l_ord, z_tl, z_tt, z_ll, z_lt, z_any, z_all, z_sum, z_any1, z_all1, z_sum1, z_srt, z_srs, z_sri, y_tup_tuple, y_tup_list, y_tup_bool, y_tup_int, y_tup_str, y_tup_dict, y_str_tuple, y_str_list, y_str_bool, y_str_int, y_str_str, y_str_dict, y_int_tuple, y_int_list, y_int_bool, y_int_int, y_int_str, y_int_dict, y_bl_tuple, y_bl_list, y_bl_bool, y_bl_int, y_bl_str, y_bl_dict, y_non_tuple, y_non_list, y_non_bool, y_non_int, y_non_str, y_non_dict, m_pop, m_pop1, m_rca, m_app, m_app1, p_ref, p_get, p_gst, p_gin, SZ, Nat.reduceLT, Nat.reduceBEq, Int.reduceLT, Int.reduceLE, Int.reduceBEq, Int.reduceNeg, Int.reduceAdd, Int.reduceSub, Int.reduceMul, R.bind_ok, R.bind_exc, R.quiet_ok, R.to_ok, R.to_exc, RS.nxt_nx, RS.nxt_rt, RS.nxt_bk, RS.nxt_ct, RS.nxt_exc, RS.hush_nx, RS.hush_rt, RS.turn_nx, RS.turn_ct, RS.turn_bk, RS.turn_rt, RS.turn_exc, ok?_some, chk_true, Option.bind_some, Option.map_some, Option.isSome_some, List.getElem?_cons_zero, List.getElem?_cons_succ, List.getElem?_nil, List.set_cons_zero, List.set_cons_succ, List.length_cons, List.length_nil, Nat.reduceAdd, Nat.reduceLeDiff, decide_true, decide_false, Bool.not_true, Bool.not_false, Bool.and_self, Bool.true_and, Bool.and_true, Bool.or_true, Bool.true_or, Bool.or_false, Bool.false_or, if_true, List.nil_append, List.cons_append, Nat.zero_add, List.map_cons, List.map_nil, List.replicate_succ, List.replicate_zero, Nat.reduceSub, List.isEmpty_cons, List.isEmpty_nil, l1, dstrs_map, d4]
  rfl
theorem brc (b : Bk) (s : Stt) : rcv s .index b.ws = true := by
  show (dstrs (b.words.map D.str)).isSome = true
  rw [dstrs_map]; rfl
theorem bix (b : Bk) (s : Stt) (w : List Nat) (i : Nat) (h : firstAt (.str w) 0 (b.words.map .str) = some i) : m1D s .index b.ws (.str w) = .ok (D.int (i : Nat)) s := by
  show (match dstrs (b.words.map D.str) with
    | some _ => (match firstAt (.str w) 0 (b.words.map .str) with
      | some i => R.ok (D.int (i : Nat)) s
      | none => .err)
    | none => .err) = _
  rw [dstrs_map, h]
theorem bmem (b : Bk) (s : Stt) (w : List Nat) : memD s (.str w) b.ws = some (decide (w ∈ b.words)) := inSeq_strs w b.words
theorem first_some (w : List Nat) : ∀ (ws : List (List Nat)) (k : Nat), w ∈ ws → ∃ i, firstAt (.str w) k (ws.map .str) = some i := by
  intro ws
  induction ws with
  | nil => intro k h; cases h
  | cons x ws ih =>
    intro k h
    by_cases e : x = w
    · subst e
      exact ⟨k, if_pos (beq_self_eq_true x)⟩
    · obtain ⟨i, hi⟩ := ih (k + 1) ((List.mem_cons.1 h).resolve_left (fun q => e q.symm))
      refine ⟨i, ?_⟩
      have : ¬ (D.feq (.str x) (.str w) = true) := fun q => e (by simpa [D.feq] using q)
      show (if D.feq (.str x) (.str w) = true then _ else _) = _
      rw [if_neg this]; exact hi
def wnD (b : Bk) (w : List Nat) : D := if w ∈ b.words then .tup [.str [116, 111, 108, 100], .int (((firstAt (.str w) 0 (b.words.map .str)).getD 0 : Nat))] else .tup [.str [114, 97, 105, 115, 101, 100], .str [119, 111, 114, 100]]
theorem wnD_cl (b : Bk) (w : List Nat) : (wnD b w).blw 0 = true := by unfold wnD; split <;> rfl
theorem tb_wn : Lw.tb[2]? = some ⟨2, 2, core2⟩ := by rfl
theorem wn_ok (n : Nat) (b : Bk) (w : List Nat) (i : Nat) (hw : w ∈ b.words) (h : firstAt (.str w) 0 (b.words.map .str) = some i) (s : Stt) : callN Lw.tb (n + 1) 2 [b.d, .str w] s = .ok (.int i) s := by
  refine callPe (e := [some b.d, some (.str w)]) (s' := []) tb_wn rfl rfl (by simp only [D.blws, b.cl, D.blw, Bool.and_self]) rfl ?_ s
  have h1 := fun s => bix b s w i h
  unfold core2
  simp (config := {implicitDefEqProofs := false}) only [v_var, v_get, v_non, v_bl, v_int, v_str, v_cint, v_cstr, v_bin, v_bin1, v_bin2, v_neg, v_neg1, v_not, v_not1, v_NB, v_Bl, v_cmp, v_cmp1, v_cmp2, v_chain, v_ch1, v_ch2, v_ch3t, v_ch3f, v_and, v_and1, v_and2t, v_and2f, v_or, v_or1, v_or2t, v_or2f, v_ite, v_itet, v_itef, v_tup, v_tup1, v_newl, v_newl1, v_dct, v_dct1, v_idx, v_idx1, v_idx2, v_slc, v_slc1, v_slc2, v_slc3, v_rev, v_rev1, v_call, v_call1, v_kw, v_kw1, v_kw2, v_b1, v_b11, v_bs, v_bs1, v_min2, v_min, v_mini, v_max2, v_max, v_maxi, v_join, v_join1, v_join2, v_join2t, v_join3, v_m0, v_m01, v_m1, v_m11, v_m12, v_isi, v_isi1, v_xfld, v_xis, v_tval, v_val1, v_tnot, v_TN, v_tand, v_TAt, v_TAf, v_tor, v_TOt, v_TOf, v_tite, v_TIt, v_TIf, v_yes, v_pn, v_ps, v_p1, v_nil, v_cons, v_a1, v_a2, v_comp, v_cp, v_cpF, v_cpG, v_cpBt, v_cpBf, v_some, v_cp2, v_lst, v_l1, v_qval, v_q1, v_q2, v_rng1, v_rng2, v_r2, v_enm, v_en1, v_zip, v_z1, v_z2t, v_irev, v_rvl, v_rvt, v_ival, v_iv1, w_skip, w_seq, w_asg, w_asg1, w_asg2, w_par, w_par1, w_sub, w_sub1, w_sub2, w_sub3, w_put, w_aug, w_aug1, w_aug2, w_aug3, w_augs, w_as1, w_as2, w_as3, w_as4, w_as5, w_exp, w_nx, w_ret, w_rt, w_ite, w_ift, w_iff, w_whil, w_for, w_for1, w_forF, w_forG, w_brk, w_cont, w_rais, w_rs1, w_rs2, w_try, w_tryok, w_tryx, g_var, g_nil, g_cons, g_tg, g_many0, g_many, g_wipe0, g_wipe, t_non, t_bl, t_int, t_str, t_tup, t_ref, t_lst, t_rol, t_dct, q_tup, q_str, q_ref, q_lget, q_lst, q_rol, q_il, q_it, q_is, q_gt, q_gs, q_gn, q_gr, c_eqi, c_eqs, c_eqb, c_nei, c_nes, c_neb, c_lt, c_le, c_gt, c_ge, c_ltS, c_isnon, c_nisnon, c_isbl, c_nisbl, c_isint, c_nisint, c_isstr, c_nisstr, c_istup, c_nistup, c_isref, c_nisref, c_in, c_nin, c_mstr, c_mtup, c_mref, c_mlst, c_mdst, c_mdin, b_addi, b_adds, b_addt, b_sub, b_mul, b_muls, b_fdiv, b_mod, b_pow, b_shl, b_aug, b_augs, b_augu, i_tup, i_str, i_chs, i_ref, i_lst, i_rol, i_dst, i_din, Ev.s_tup, Ev.s_str', Ev.s_ref, Ev.s_lst, r_str, r_ref, r_lst, l_str, l_tup, l_ref, l_lst, l_rol, l_dct, l_abs, l_int, l_intb, l_ord, z_tl, z_tt, z_ll, z_lt, z_any, z_all, z_sum, z_any1, z_all1, z_sum1, z_srt, z_srs, z_sri, y_tup_tuple, y_tup_list, y_tup_bool, y_tup_int, y_tup_str, y_tup_dict, y_str_tuple, y_str_list, y_str_bool, y_str_int, y_str_str, y_str_dict, y_int_tuple, y_int_list, y_int_bool, y_int_int, y_int_str, y_int_dict, y_bl_tuple, y_bl_list, y_bl_bool, y_bl_int, y_bl_str, y_bl_dict, y_non_tuple, y_non_list, y_non_bool, y_non_int, y_non_str, y_non_dict, m_pop, m_pop1, m_rca, m_app, m_app1, p_ref, p_get, p_gst, p_gin, SZ, Nat.reduceLT, Nat.reduceBEq, Int.reduceLT, Int.reduceLE, Int.reduceBEq, Int.reduceNeg, Int.reduceAdd, Int.reduceSub, Int.reduceMul, R.bind_ok, R.bind_exc, R.quiet_ok, R.to_ok, R.to_exc, RS.nxt_nx, RS.nxt_rt, RS.nxt_bk, RS.nxt_ct, RS.nxt_exc, RS.hush_nx, RS.hush_rt, RS.turn_nx, RS.turn_ct, RS.turn_bk, RS.turn_rt, RS.turn_exc, ok?_some, chk_true, Option.bind_some, Option.map_some, Option.isSome_some, List.getElem?_cons_zero, List.getElem?_cons_succ, List.getElem?_nil, List.set_cons_zero, List.set_cons_succ, List.length_cons, List.length_nil, Nat.reduceAdd, Nat.reduceLeDiff, decide_true, decide_false, Bool.not_true, Bool.not_false, Bool.and_self, Bool.true_and, Bool.and_true, Bool.or_true, Bool.true_or, Bool.or_false, Bool.false_or, if_true, List.nil_append, List.cons_append, Nat.zero_add, List.map_cons, List.map_nil, List.replicate_succ, List.replicate_zero, Nat.reduceSub, List.isEmpty_cons, List.isEmpty_nil, bd1, bmem, hw, brc, h1]
theorem wn_bad (n : Nat) (b : Bk) (w : List Nat) (hw : w ∉ b.words) (s : Stt) : ∃ g, callN Lw.tb (n + 1) 2 [b.d, .str w] s = .exc (wErr sWord) (s ++ g) := by
  refine callXe (e := [some b.d, some (.str w)]) (e' := [some b.d, some (.str w)]) (s' := []) tb_wn rfl rfl (by simp only [D.blws, b.cl, D.blw, Bool.and_self]) rfl ?_ s
  unfold core2
  simp (config := {implicitDefEqProofs := false}) only [v_var, v_get, v_non, v_bl, v_int, v_str, v_cint, v_cstr, v_bin, v_bin1, v_bin2, v_neg, v_neg1, v_not, v_not1, v_NB, v_Bl, v_cmp, v_cmp1, v_cmp2, v_chain, v_ch1, v_ch2, v_ch3t, v_ch3f, v_and, v_and1, v_and2t, v_and2f, v_or, v_or1, v_or2t, v_or2f, v_ite, v_itet, v_itef, v_tup, v_tup1, v_newl, v_newl1, v_dct, v_dct1, v_idx, v_idx1, v_idx2, v_slc, v_slc1, v_slc2, v_slc3, v_rev, v_rev1, v_call, v_call1, v_kw, v_kw1, v_kw2, v_b1, v_b11, v_bs, v_bs1, v_min2, v_min, v_mini, v_max2, v_max, v_maxi, v_join, v_join1, v_join2, v_join2t, v_join3, v_m0, v_m01, v_m1, v_m11, v_m12, v_isi, v_isi1, v_xfld, v_xis, v_tval, v_val1, v_tnot, v_TN, v_tand, v_TAt, v_TAf, v_tor, v_TOt, v_TOf, v_tite, v_TIt, v_TIf, v_yes, v_pn, v_ps, v_p1, v_nil, v_cons, v_a1, v_a2, v_comp, v_cp, v_cpF, v_cpG, v_cpBt, v_cpBf, v_some, v_cp2, v_lst, v_l1, v_qval, v_q1, v_q2, v_rng1, v_rng2, v_r2, v_enm, v_en1, v_zip, v_z1, v_z2t, v_irev, v_rvl, v_rvt, v_ival, v_iv1, w_skip, w_seq, w_asg, w_asg1, w_asg2, w_par, w_par1, w_sub, w_sub1, w_sub2, w_sub3, w_put, w_aug, w_aug1, w_aug2, w_aug3, w_augs, w_as1, w_as2, w_as3, w_as4, w_as5, w_exp, w_nx, w_ret, w_rt, w_ite, w_ift, w_iff, w_whil, w_for, w_for1, w_forF, w_forG, w_brk, w_cont, w_rais, w_rs1, w_rs2, w_try, w_tryok, w_tryx, g_var, g_nil, g_cons, g_tg, g_many0, g_many, g_wipe0, g_wipe, t_non, t_bl, t_int, t_str, t_tup, t_ref, t_lst, t_rol, t_dct, q_tup, q_str, q_ref, q_lget, q_lst, q_rol, q_il, q_it, q_is, q_gt, q_gs, q_gn, q_gr, c_eqi, c_eqs, c_eqb, c_nei, c_nes, c_neb, c_lt, c_le, c_gt, c_ge, c_ltS, c_isnon, c_nisnon, c_isbl, c_nisbl, c_isint, c_nisint, c_isstr, c_nisstr, c_istup, c_nistup, c_isref, c_nisref, c_in, c_nin, c_mstr, c_mtup, c_mref, c_mlst, c_mdst, c_mdin, b_addi, b_adds, b_addt, b_sub, b_mul, b_muls, b_fdiv, b_mod, b_pow, b_shl, b_aug, b_augs, b_augu, i_tup, i_str, i_chs, i_ref, i_lst, i_rol, i_dst, i_din, Ev.s_tup, Ev.s_str', Ev.s_ref, Ev.s_lst, r_str, r_ref, r_lst, l_str, l_tup, l_ref, l_lst, l_rol, l_dct, l_abs, l_int, l_intb, l_ord, z_tl, z_tt, z_ll, z_lt, z_any, z_all, z_sum, z_any1, z_all1, z_sum1, z_srt, z_srs, z_sri, y_tup_tuple, y_tup_list, y_tup_bool, y_tup_int, y_tup_str, y_tup_dict, y_str_tuple, y_str_list, y_str_bool, y_str_int, y_str_str, y_str_dict, y_int_tuple, y_int_list, y_int_bool, y_int_int, y_int_str, y_int_dict, y_bl_tuple, y_bl_list, y_bl_bool, y_bl_int, y_bl_str, y_bl_dict, y_non_tuple, y_non_list, y_non_bool, y_non_int, y_non_str, y_non_dict, m_pop, m_pop1, m_rca, m_app, m_app1, p_ref, p_get, p_gst, p_gin, SZ, Nat.reduceLT, Nat.reduceBEq, Int.reduceLT, Int.reduceLE, Int.reduceBEq, Int.reduceNeg, Int.reduceAdd, Int.reduceSub, Int.reduceMul, R.bind_ok, R.bind_exc, R.quiet_ok, R.to_ok, R.to_exc, RS.nxt_nx, RS.nxt_rt, RS.nxt_bk, RS.nxt_ct, RS.nxt_exc, RS.hush_nx, RS.hush_rt, RS.turn_nx, RS.turn_ct, RS.turn_bk, RS.turn_rt, RS.turn_exc, ok?_some, chk_true, Option.bind_some, Option.map_some, Option.isSome_some, List.getElem?_cons_zero, List.getElem?_cons_succ, List.getElem?_nil, List.set_cons_zero, List.set_cons_succ, List.length_cons, List.length_nil, Nat.reduceAdd, Nat.reduceLeDiff, decide_true, decide_false, Bool.not_true, Bool.not_false, Bool.and_self, Bool.true_and, Bool.and_true, Bool.or_true, Bool.true_or, Bool.or_false, Bool.false_or, if_true, List.nil_append, List.cons_append, Nat.zero_add, List.map_cons, List.map_nil, List.replicate_succ, List.replicate_zero, Nat.reduceSub, List.isEmpty_cons, List.isEmpty_nil, bd1, bmem, hw]
  rfl
theorem e0 : ([0] : List Nat).contains 0 = true := rfl
theorem e1 (x : List Nat) : ([([119, 111, 114, 100], D.str x)] : List (List Nat × D)).lookup [119, 111, 114, 100] = some (.str x) := rfl
theorem tb_ln : Lw.tb[11]? = some ⟨2, 3, core11⟩ := by rfl
theorem ln_call (n : Nat) (b : Bk) (w : List Nat) (s : Stt) : callN Lw.tb (n + 2) 11 [b.d, .str w] s = .ok (wnD b w) s := by
  by_cases hw : w ∈ b.words
  · obtain ⟨i, hi⟩ := first_some w b.words 0 hw
    have h := wn_ok n b w i hw hi
    refine callPe (e := [some b.d, some (.str w), none]) (s' := []) tb_ln rfl rfl (by simp only [D.blws, b.cl, D.blw, Bool.and_self]) (wnD_cl _ _) ?_ s
    unfold core11 wnD
    rw [if_pos hw, hi]
    simp (config := {implicitDefEqProofs := false}) only [v_var, v_get, v_non, v_bl, v_int, v_str, v_cint, v_cstr, v_bin, v_bin1, v_bin2, v_neg, v_neg1, v_not, v_not1, v_NB, v_Bl, v_cmp, v_cmp1, v_cmp2, v_chain, v_ch1, v_ch2, v_ch3t, v_ch3f, v_and, v_and1, v_and2t, v_and2f, v_or, v_or1, v_or2t, v_or2f, v_ite, v_itet, v_itef, v_tup, v_tup1, v_newl, v_newl1, v_dct, v_dct1, v_idx, v_idx1, v_idx2, v_slc, v_slc1, v_slc2, v_slc3, v_rev, v_rev1, v_call, v_call1, v_kw, v_kw1, v_kw2, v_b1, v_b11, v_bs, v_bs1, v_min2, v_min, v_mini, v_max2, v_max, v_maxi, v_join, v_join1, v_join2, v_join2t, v_join3, v_m0, v_m01, v_m1, v_m11, v_m12, v_isi, v_isi1, v_xfld, v_xis, v_tval, v_val1, v_tnot, v_TN, v_tand, v_TAt, v_TAf, v_tor, v_TOt, v_TOf, v_tite, v_TIt, v_TIf, v_yes, v_pn, v_ps, v_p1, v_nil, v_cons, v_a1, v_a2, v_comp, v_cp, v_cpF, v_cpG, v_cpBt, v_cpBf, v_some, v_cp2, v_lst, v_l1, v_qval, v_q1, v_q2, v_rng1, v_rng2, v_r2, v_enm, v_en1, v_zip, v_z1, v_z2t, v_irev, v_rvl, v_rvt, v_ival, v_iv1, w_skip, w_seq, w_asg, w_asg1, w_asg2, w_par, w_par1, w_sub, w_sub1, w_sub2, w_sub3, w_put, w_aug, w_aug1, w_aug2, w_aug3, w_augs, w_as1, w_as2, w_as3, w_as4, w_as5, w_exp, w_nx, w_ret, w_rt, w_ite, w_ift, w_iff, w_whil, w_for, w_for1, w_forF, w_forG, w_brk, w_cont, w_rais, w_rs1, w_rs2, w_try, w_tryok, w_tryx, g_var, g_nil, g_cons, g_tg, g_many0, g_many, g_wipe0, g_wipe, t_non, t_bl, t_int, t_str, t_tup, t_ref, t_lst, t_rol, t_dct, q_tup, q_str, q_ref, q_lget, q_lst, q_rol, q_il, q_it, q_is, q_gt, q_gs, q_gn, q_gr, c_eqi, c_eqs, c_eqb, c_nei, c_nes, c_neb, c_lt, c_le, c_gt, c_ge, c_ltS, c_isnon, c_nisnon, c_isbl, c_nisbl, c_isint, c_nisint, c_isstr, c_nisstr, c_istup, c_nistup, c_isref, c_nisref, c_in, c_nin, c_mstr, c_mtup, c_mref, c_mlst, c_mdst, c_mdin, b_addi, b_adds, b_addt, b_sub, b_mul, b_muls, b_fdiv, b_mod, b_pow, b_shl, b_aug, b_augs, b_augu, i_tup, i_str, i_chs, i_ref, i_lst, i_rol, i_dst, i_din, Ev.s_tup, Ev.s_str', Ev.s_ref, Ev.s_lst, r_str, r_ref, r_lst, l_str, l_tup, l_ref, l_lst, l_rol, l_dct, l_abs, l_int, l_intb, l_ord, z_tl, z_tt, z_ll, z_lt, z_any, z_all, z_sum, z_any1, z_all1, z_sum1, z_srt, z_srs, z_sri, y_tup_tuple, y_tup_list, y_tup_bool, y_tup_int, y_tup_str, y_tup_dict, y_str_tuple, y_str_list, y_str_bool, y_str_int, y_str_str, y_str_dict, y_int_tuple, y_int_list, y_int_bool, y_int_int, y_int_str, y_int_dict, y_bl_tuple, y_bl_list, y_bl_bool, y_bl_int, y_bl_str, y_bl_dict, y_non_tuple, y_non_list, y_non_bool, y_non_int, y_non_str, y_non_dict, m_pop, m_pop1, m_rca, m_app, m_app1, p_ref, p_get, p_gst, p_gin, SZ, Nat.reduceLT, Nat.reduceBEq, Int.reduceLT, Int.reduceLE, Int.reduceBEq, Int.reduceNeg, Int.reduceAdd, Int.reduceSub, Int.reduceMul, R.bind_ok, R.bind_exc, R.quiet_ok, R.to_ok, R.to_exc, RS.nxt_nx, RS.nxt_rt, RS.nxt_bk, RS.nxt_ct, RS.nxt_exc, RS.hush_nx, RS.hush_rt, RS.turn_nx, RS.turn_ct, RS.turn_bk, RS.turn_rt, RS.turn_exc, ok?_some, chk_true, Option.bind_some, Option.map_some, Option.isSome_some, List.getElem?_cons_zero, List.getElem?_cons_succ, List.getElem?_nil, List.set_cons_zero, List.set_cons_succ, List.length_cons, List.length_nil, Nat.reduceAdd, Nat.reduceLeDiff, decide_true, decide_false, Bool.not_true, Bool.not_false, Bool.and_self, Bool.true_and, Bool.and_true, Bool.or_true, Bool.true_or, Bool.or_false, Bool.false_or, if_true, List.nil_append, List.cons_append, Nat.zero_add, List.map_cons, List.map_nil, List.replicate_succ, List.replicate_zero, Nat.reduceSub, List.isEmpty_cons, List.isEmpty_nil, h]
    all_goals rfl
  · obtain ⟨g, h⟩ := wn_bad n b w hw []
    unfold wErr sWord at h
    refine callPe (e := [some b.d, some (.str w), none]) (s' := [] ++ g) tb_ln rfl rfl (by simp only [D.blws, b.cl, D.blw, Bool.and_self]) (wnD_cl _ _) ?_ s
    unfold core11 wnD
    rw [if_neg hw]
    simp (config := {implicitDefEqProofs := false}) only [v_var, v_get, v_non, v_bl, v_int, v_str, v_cint, v_cstr, v_bin, v_bin1, v_bin2, v_neg, v_neg1, v_not, v_not1, v_NB, v_Bl, v_cmp, v_cmp1, v_cmp2, v_chain, v_ch1, v_ch2, v_ch3t, v_ch3f, v_and, v_and1, v_and2t, v_and2f, v_or, v_or1, v_or2t, v_or2f, v_ite, v_itet, v_itef, v_tup, v_tup1, v_newl, v_newl1, v_dct, v_dct1, v_idx, v_idx1, v_idx2, v_slc, v_slc1, v_slc2, v_slc3, v_rev, v_rev1, v_call, v_call1, v_kw, v_kw1, v_kw2, v_b1, v_b11, v_bs, v_bs1, v_min2, v_min, v_mini, v_max2, v_max, v_maxi, v_join, v_join1, v_join2, v_join2t, v_join3, v_m0, v_m01, v_m1, v_m11, v_m12, v_isi, v_isi1, v_xfld, v_xis, v_tval, v_val1, v_tnot, v_TN, v_tand, v_TAt, v_TAf, v_tor, v_TOt, v_TOf, v_tite, v_TIt, v_TIf, v_yes, v_pn, v_ps, v_p1, v_nil, v_cons, v_a1, v_a2, v_comp, v_cp, v_cpF, v_cpG, v_cpBt, v_cpBf, v_some, v_cp2, v_lst, v_l1, v_qval, v_q1, v_q2, v_rng1, v_rng2, v_r2, v_enm, v_en1, v_zip, v_z1, v_z2t, v_irev, v_rvl, v_rvt, v_ival, v_iv1, w_skip, w_seq, w_asg, w_asg1, w_asg2, w_par, w_par1, w_sub, w_sub1, w_sub2, w_sub3, w_put, w_aug, w_aug1, w_aug2, w_aug3, w_augs, w_as1, w_as2, w_as3, w_as4, w_as5, w_exp, w_nx, w_ret, w_rt, w_ite, w_ift, w_iff, w_whil, w_for, w_for1, w_forF, w_forG, w_brk, w_cont, w_rais, w_rs1, w_rs2, w_try, w_tryok, w_tryx, g_var, g_nil, g_cons, g_tg, g_many0, g_many, g_wipe0, g_wipe, t_non, t_bl, t_int, t_str, t_tup, t_ref, t_lst, t_rol, t_dct, q_tup, q_str, q_ref, q_lget, q_lst, q_rol, q_il, q_it, q_is, q_gt, q_gs, q_gn, q_gr, c_eqi, c_eqs, c_eqb, c_nei, c_nes, c_neb, c_lt, c_le, c_gt, c_ge, c_ltS, c_isnon, c_nisnon, c_isbl, c_nisbl, c_isint, c_nisint, c_isstr, c_nisstr, c_istup, c_nistup, c_isref, c_nisref, c_in, c_nin, c_mstr, c_mtup, c_mref, c_mlst, c_mdst, c_mdin, b_addi, b_adds, b_addt, b_sub, b_mul, b_muls, b_fdiv, b_mod, b_pow, b_shl, b_aug, b_augs, b_augu, i_tup, i_str, i_chs, i_ref, i_lst, i_rol, i_dst, i_din, Ev.s_tup, Ev.s_str', Ev.s_ref, Ev.s_lst, r_str, r_ref, r_lst, l_str, l_tup, l_ref, l_lst, l_rol, l_dct, l_abs, l_int, l_intb, l_ord, z_tl, z_tt, z_ll, z_lt, z_any, z_all, z_sum, z_any1, z_all1, z_sum1, z_srt, z_srs, z_sri, y_tup_tuple, y_tup_list, y_tup_bool, y_tup_int, y_tup_str, y_tup_dict, y_str_tuple, y_str_list, y_str_bool, y_str_int, y_str_str, y_str_dict, y_int_tuple, y_int_list, y_int_bool, y_int_int, y_int_str, y_int_dict, y_bl_tuple, y_bl_list, y_bl_bool, y_bl_int, y_bl_str, y_bl_dict, y_non_tuple, y_non_list, y_non_bool, y_non_int, y_non_str, y_non_dict, m_pop, m_pop1, m_rca, m_app, m_app1, p_ref, p_get, p_gst, p_gin, SZ, Nat.reduceLT, Nat.reduceBEq, Int.reduceLT, Int.reduceLE, Int.reduceBEq, Int.reduceNeg, Int.reduceAdd, Int.reduceSub, Int.reduceMul, R.bind_ok, R.bind_exc, R.quiet_ok, R.to_ok, R.to_exc, RS.nxt_nx, RS.nxt_rt, RS.nxt_bk, RS.nxt_ct, RS.nxt_exc, RS.hush_nx, RS.hush_rt, RS.turn_nx, RS.turn_ct, RS.turn_bk, RS.turn_rt, RS.turn_exc, ok?_some, chk_true, Option.bind_some, Option.map_some, Option.isSome_some, List.getElem?_cons_zero, List.getElem?_cons_succ, List.getElem?_nil, List.set_cons_zero, List.set_cons_succ, List.length_cons, List.length_nil, Nat.reduceAdd, Nat.reduceLeDiff, decide_true, decide_false, Bool.not_true, Bool.not_false, Bool.and_self, Bool.true_and, Bool.and_true, Bool.or_true, Bool.true_or, Bool.or_false, Bool.false_or, if_true, List.nil_append, List.cons_append, Nat.zero_add, List.map_cons, List.map_nil, List.replicate_succ, List.replicate_zero, Nat.reduceSub, List.isEmpty_cons, List.isEmpty_nil, h, e0, e1, eq_self]
    all_goals rfl
end Lk.K10

end
section
set_option linter.all false
set_option maxRecDepth 100000
namespace Lk.K10
open PySem L2 Ev
def nmL : List (List Nat) := [[97], [107, 48], [98, 55], [107, 101, 121, 115], [122, 122, 122, 122, 122, 122, 122, 122], [109], [110, 49], [111], [112], [113], [114], [115, 57]]
def nmD : D := .tup (nmL.map .str)
theorem top1 (A B : Stt) (x : Ob) : (A ++ (B ++ [x]))[(A ++ B).length]? = some x := by
  rw [← List.append_assoc]; exact List.getElem?_concat_length
theorem top2 (A B : Stt) (x y : Ob) : (A ++ (B ++ [x, y]))[(A ++ (B ++ [x])).length]? = some y := by
  rw [show A ++ (B ++ [x, y]) = (A ++ (B ++ [x])) ++ [y] by simp]; exact List.getElem?_concat_length
theorem abc_at : ∀ v : Nat, v < 26 → atI abc (v : Int) = some (97 + v) := by decide
theorem abc_mem : ∀ v : Nat, v < 26 → 97 + v ∈ abc := by decide
def sgn (st i : Int) : Nat := 97 + ((st + i) % 26).toNat
theorem sgn_abc (st i : Int) : sgn st i ∈ abc := abc_mem _ (by omega)
theorem sgn_inj {st i j : Int} (h1 : 0 ≤ i) (h2 : i < 26) (h3 : 0 ≤ j) (h4 : j < 26) (h : sgn st i = sgn st j) : i = j := by
  unfold sgn at h
  omega
def row (st at' : Int) (m : Nat) : List Nat := (List.range m).map fun (k : Nat) => sgn st (at' + (k : Int))
theorem row_len (st at' : Int) (m : Nat) : (row st at' m).length = m := by unfold row; rw [List.length_map, List.length_range]
theorem row_mem {st at' : Int} {m c : Nat} (h : c ∈ row st at' m) : ∃ k : Nat, k < m ∧ c = sgn st (at' + k) := by
  unfold row at h
  obtain ⟨k, hk, rfl⟩ := List.mem_map.1 h
  exact ⟨k, List.mem_range.1 hk, rfl⟩
theorem row_nodup {st at' : Int} {m : Nat} (h0 : 0 ≤ at') (h : at' + m ≤ 26) : (row st at' m).Nodup := by
  unfold row
  refine List.pairwise_map.2 (List.Pairwise.imp_of_mem (R := (· ≠ ·)) (fun {a b} ha hb hne e => hne ?_) (List.nodup_range (n := m)))
  have ha := List.mem_range.1 ha
  have hb := List.mem_range.1 hb
  have := sgn_inj (by omega) (by omega) (by omega) (by omega) e
  omega
theorem rngL_map (n : Nat) : ∀ i : Int, rngL i 1 n = (List.range n).map fun (k : Nat) => D.int (i + k) := by
  induction n with
  | zero => intro i; rfl
  | succ n ih =>
    intro i
    rw [rngL_cons, ih, List.range_succ_eq_map, List.map_cons, List.map_map]
    congr 1
    · simp
    · apply List.map_congr_left
      intro k _
      show D.int (i + 1 + k) = D.int (i + ((k + 1 : Nat) : Int))
      congr 1; omega
theorem bk_let (K : Cal) {a0 a1 a2 a3 a6 a7 a8 a9 b0 b1 b2 b3 b4 : Option D} (st at' : Int) (m : Nat) (s : Stt) : loopL [] (cpF K none [13] (.var 13) .yes (.idx (.str [97, 98, 99, 100, 101, 102, 103, 104, 105, 106, 107, 108, 109, 110, 111, 112, 113, 114, 115, 116, 117, 118, 119, 120, 121, 122]) (.bin .mod (.b1 .int (.bin .add (.bin .add (.var 4) (.var 5)) (.var 13))) (.int 26))) [a0, a1, a2, a3, some (.int st), some (.int at'), a6, a7, a8, a9, b0, b1, b2, b3, b4]) (rngL 0 1 m) s = .ok ((row st at' m).map fun c => D.str [c]) s := by
  rw [rngL_map]
  unfold row
  rw [List.map_map]
  refine loopL_map1 (g := []) (fun (k : Nat) => D.int (0 + k)) (fun k => D.str [sgn st (at' + (k : Int))]) trivial (fun k hk => ?_)
  have h := abc_at ((st + at' + k) % 26).toNat (by omega)
  rw [Int.toNat_of_nonneg (by omega)] at h
  have e : st + at' + (0 + (k : Int)) = st + at' + k := by omega
  have e2 : sgn st (at' + (k : Int)) = 97 + ((st + at' + k) % 26).toNat := by unfold sgn; rw [Int.add_assoc]
  rw [e2]
  unfold abc at h
  simp (config := {implicitDefEqProofs := false}) only [v_var, v_get, v_non, v_bl, v_int, v_str, v_cint, v_cstr, v_bin, v_bin1, v_bin2, v_neg, v_neg1, v_not, v_not1, v_NB, v_Bl, v_cmp, v_cmp1, v_cmp2, v_chain, v_ch1, v_ch2, v_ch3t, v_ch3f, v_and, v_and1, v_and2t, v_and2f, v_or, v_or1, v_or2t, v_or2f, v_ite, v_itet, v_itef, v_tup, v_tup1, v_newl, v_newl1, v_dct, v_dct1, v_idx, v_idx1, v_idx2, v_slc, v_slc1, v_slc2, v_slc3, v_rev, v_rev1, v_call, v_call1, v_kw, v_kw1, v_kw2, v_b1, v_b11, v_bs, v_bs1, v_min2, v_min, v_mini, v_max2, v_max, v_maxi, v_join, v_join1, v_join2, v_join2t, v_join3, v_m0, v_m01, v_m1, v_m11, v_m12, v_isi, v_isi1, v_xfld, v_xis, v_tval, v_val1, v_tnot, v_TN, v_tand, v_TAt, v_TAf, v_tor, v_TOt, v_TOf, v_tite, v_TIt, v_TIf, v_yes, v_pn, v_ps, v_p1, v_nil, v_cons, v_a1, v_a2, v_comp, v_cp, v_cpF, v_cpG, v_cpBt, v_cpBf, v_some, v_cp2, v_lst, v_l1, v_qval, v_q1, v_q2, v_rng1, v_rng2, v_r2, v_enm, v_en1, v_zip, v_z1, v_z2t, v_irev, v_rvl, v_rvt, v_ival, v_iv1, w_skip, w_seq, w_asg, w_asg1, w_asg2, w_par, w_par1, w_sub, w_sub1, w_sub2, w_sub3, w_put, w_aug, w_aug1, w_aug2, w_aug3, w_augs, w_as1, w_as2, w_as3, w_as4, w_as5, w_exp, w_nx, w_ret, w_rt, w_ite, w_ift, w_iff, w_whil, w_for, w_for1, w_forF, w_forG, w_brk, w_cont, w_rais, w_rs1, w_rs2, w_try, w_tryok, w_tryx, g_var, g_nil, g_cons, g_tg, g_many0, g_many, g_wipe0, g_wipe, t_non, t_bl, t_int, t_str, t_tup, t_ref, t_lst, t_rol, t_dct, q_tup, q_str, q_ref, q_lget, q_lst, q_rol, q_il, q_it, q_is, q_gt, q_gs, q_gn, q_gr, c_eqi, c_eqs, c_eqb, c_nei, c_nes, c_neb, c_lt, c_le, c_gt, c_ge, c_ltS, c_isnon, c_nisnon, c_isbl, c_nisbl, c_isint, c_nisint, c_isstr, c_nisstr, c_istup, c_nistup, c_isref, c_nisref, c_in, c_nin, c_mstr, c_mtup, c_mref, c_mlst, c_mdst, c_mdin, b_addi, b_adds, b_addt, b_sub, b_mul, b_muls, b_fdiv, b_mod, b_pow, b_shl, b_aug, b_augs, b_augu, i_tup, i_str, i_chs, i_ref, i_lst, i_rol, i_dst, i_din, Ev.s_tup, Ev.s_str', Ev.s_ref, Ev.s_lst, r_str, r_ref, r_lst, l_str, l_tup, l_ref, l_lst, l_rol, l_dct, l_abs, l_int, l_intb, l_ord, z_tl, z_tt, z_ll, z_lt, z_any, z_all, z_sum, z_any1, z_all1, z_sum1, z_srt, z_srs, z_sri, y_tup_tuple, y_tup_list, y_tup_bool, y_tup_int, y_tup_str, y_tup_dict, y_str_tuple, y_str_list, y_str_bool, y_str_int, y_str_str, y_str_dict, y_int_tuple, y_int_list, y_int_bool, y_int_int, y_int_str, y_int_dict, y_bl_tuple, y_bl_list, y_bl_bool, y_bl_int, y_bl_str, y_bl_dict, y_non_tuple, y_non_list, y_non_bool, y_non_int, y_non_str, y_non_dict, m_pop, m_pop1, m_rca, m_app, m_app1, p_ref, p_get, p_gst, p_gin, SZ, Nat.reduceLT, Nat.reduceBEq, Int.reduceLT, Int.reduceLE, Int.reduceBEq, Int.reduceNeg, Int.reduceAdd, Int.reduceSub, Int.reduceMul, R.bind_ok, R.bind_exc, R.quiet_ok, R.to_ok, R.to_exc, RS.nxt_nx, RS.nxt_rt, RS.nxt_bk, RS.nxt_ct, RS.nxt_exc, RS.hush_nx, RS.hush_rt, RS.turn_nx, RS.turn_ct, RS.turn_bk, RS.turn_rt, RS.turn_exc, ok?_some, chk_true, Option.bind_some, Option.map_some, Option.isSome_some, List.getElem?_cons_zero, List.getElem?_cons_succ, List.getElem?_nil, List.set_cons_zero, List.set_cons_succ, List.length_cons, List.length_nil, Nat.reduceAdd, Nat.reduceLeDiff, decide_true, decide_false, Bool.not_true, Bool.not_false, Bool.and_self, Bool.true_and, Bool.and_true, Bool.or_true, Bool.true_or, Bool.or_false, Bool.false_or, if_true, List.nil_append, List.cons_append, Nat.zero_add, List.map_cons, List.map_nil, List.replicate_succ, List.replicate_zero, Nat.reduceSub, List.isEmpty_cons, List.isEmpty_nil, e, h]
theorem bk_turn1 (n : Nat) (wd : Bool) (sc : List Int) (j : Jug) (hj : j.ok pl) (keys : List (List Nat × List Nat)) (hk : keys.length ≤ 12) (junk : Stt) (st at' i : Int) (h0 : 0 ≤ i) (hi : i < 12) (x7 x8 : Option D) :
    ∃ (j' : Jug) (nm ls : List Nat) (m : Nat) (many : Int) (l : Nat) (x y : Ob), j'.ok pl ∧ (1 ≤ m ∧ m ≤ (if wd then 2 else 3) ∧ many = m ∧ ls.Perm (row st at' m)) ∧ iS (callN Lw.tb (n + 1)) none (.seq (.asg (.var 7) (.bin .add (.int 1) (.call 6 (.cons (.var 0) (.cons (.str [108, 101, 116, 116, 101, 114, 115]) (.cons (.ite (.val (.var 1)) (.int 2) (.int 3)) .nil)))))) (.seq (.asg (.var 8) (.newl (.comp [13] (.var 13) (.rng1 (.var 7)) .yes (.idx (.str [97, 98, 99, 100, 101, 102, 103, 104, 105, 106, 107, 108, 109, 110, 111, 112, 113, 114, 115, 116, 117, 118, 119, 120, 121, 122]) (.bin .mod (.b1 .int (.bin .add (.bin .add (.var 4) (.var 5)) (.var 13))) (.int 26)))))) (.seq (.aug 5 .add (.var 7)) (.exp (.m1 .append (.var 6) (.tup (.cons (.idx (.var 2) (.var 3)) (.cons (.join (.str []) (.val (.bs .sorted (.val (.var 8))))) .nil)))))))) [some (.ref 3), some (.bl wd), some nmD, some (.int i), some (.int st), some (.int at'), some (.ref 4), x7, x8, none, none, none, none, none, none] (jst sc j ++ (.lst (keys.map keyD) :: junk)) = .ok (.nx [some (.ref 3), some (.bl wd), some nmD, some (.int i), some (.int st), some (.int (at' + many)), some (.ref 4), some (.int many), some (.ref l), none, none, none, none, none, none]) (jst sc j' ++ (.lst ((keys ++ [(nm, ls)]).map keyD) :: (junk ++ [x, y]))) := by
  obtain ⟨v, j2, a1, b1, hj2, _, p1⟩ := pour_call tb_pour n (sc := sc) hj (p := [108, 101, 116, 116, 101, 114, 115]) (m := if wd then 2 else 3) (by decide) (by decide) (by cases wd <;> decide) (.lst (keys.map keyD) :: junk)
  have b2 : v < 3 := by cases wd <;> simp at b1 <;> omega
  obtain ⟨nm, _, h2⟩ := atI_rng (xs := nmL) (v := i) h0 hi
  have r2 := bsi nmL
  have h3 := bk_let (callN Lw.tb (n + 1)) (a0 := some (.ref 3)) (a1 := some (.bl wd)) (a2 := some nmD) (a3 := some (.int i)) (a6 := some (.ref 4)) (a7 := some (.int (1 + v))) (a8 := x8) (a9 := none) (b0 := none) (b1 := none) (b2 := none) (b3 := none) (b4 := none) st at' (1 + v).toNat (jst sc j2 ++ (.lst (keys.map keyD) :: junk))
  obtain ⟨cs, hcs⟩ : ∃ cs, cs = row st at' (1 + v).toNat := ⟨_, rfl⟩
  have l3 : cs.length = (1 + v).toNat := by rw [hcs]; exact row_len _ _ _
  rw [← hcs] at h3
  have n1 : kR1 (.int (1 + v)) = fun s => .ok (rngL 0 1 (1 + v).toNat, []) s := funext fun s => R1_i (1 + v) (by omega) (by omega)
  have d3 : decide ((1 + v).toNat ≤ 16777216) = true := decide_eq_true (by omega)
  have t1 : ∀ x, (jst sc j2 ++ (.lst (keys.map keyD) :: (junk ++ [x])))[(jst sc j2 ++ (.lst (keys.map keyD) :: junk)).length]? = some x := top1 (jst sc j2) (.lst (keys.map keyD) :: junk)
  have t2 : ∀ x y, (jst sc j2 ++ (.lst (keys.map keyD) :: (junk ++ [x, y])))[(jst sc j2 ++ (.lst (keys.map keyD) :: (junk ++ [x]))).length]? = some y := top2 (jst sc j2) (.lst (keys.map keyD) :: junk)
  have t4 : ∀ (K : List D) (r : Stt), (jst sc j2 ++ (.lst K :: r))[4]? = some (.lst K) := fun _ _ => rfl
  have s4 : ∀ (K : List D) (r : Stt) (x : Ob), (jst sc j2 ++ (.lst K :: r)).set 4 x = jst sc j2 ++ (x :: r) := fun _ _ _ => rfl
  have hp := srt_len cs
  have sd := fun s => srt_D s cs (by omega)
  have d4 : decide ((((sortS (cs.map fun c => [c])).map List.length).sum + (sortS (cs.map fun c => [c])).length * 0) ≤ 16777216) = true := decide_eq_true (by rw [srt_sum]; omega)
  have d5 : decide (keys.length < 16777216) = true := decide_eq_true (by omega)
  have ka : (keys ++ [(nm, joinL [] (sortS (cs.map fun c => [c])))]).map keyD = keys.map keyD ++ [.tup [.str nm, .str (joinL [] (sortS (cs.map fun c => [c])))]] := by rw [List.map_append]; rfl
  refine ⟨j2, nm, joinL [] (sortS (cs.map fun c => [c])), (1 + v).toNat, 1 + v, (jst sc j2 ++ (.lst (keys.map keyD) :: junk)).length, .lst (cs.map fun c => D.str [c]), .lst ((sortS (cs.map fun c => [c])).map .str), hj2, ⟨by omega, by cases wd <;> simp at b1 ⊢ <;> omega, by omega, by rw [← hcs]; exact hp⟩, ?_⟩
  rw [ka]
  unfold nmD at *
  generalize hN : nmL.map D.str = N at *
  cases wd <;> simp only [Bool.false_eq_true, if_false, if_true] at p1 <;> simp (config := {implicitDefEqProofs := false}) only [v_var, v_get, v_non, v_bl, v_int, v_str, v_cint, v_cstr, v_bin, v_bin1, v_bin2, v_neg, v_neg1, v_not, v_not1, v_NB, v_Bl, v_cmp, v_cmp1, v_cmp2, v_chain, v_ch1, v_ch2, v_ch3t, v_ch3f, v_and, v_and1, v_and2t, v_and2f, v_or, v_or1, v_or2t, v_or2f, v_ite, v_itet, v_itef, v_tup, v_tup1, v_newl, v_newl1, v_dct, v_dct1, v_idx, v_idx1, v_idx2, v_slc, v_slc1, v_slc2, v_slc3, v_rev, v_rev1, v_call, v_call1, v_kw, v_kw1, v_kw2, v_b1, v_b11, v_bs, v_bs1, v_min2, v_min, v_mini, v_max2, v_max, v_maxi, v_join, v_join1, v_join2, v_join2t, v_join3, v_m0, v_m01, v_m1, v_m11, v_m12, v_isi, v_isi1, v_xfld, v_xis, v_tval, v_val1, v_tnot, v_TN, v_tand, v_TAt, v_TAf, v_tor, v_TOt, v_TOf, v_tite, v_TIt, v_TIf, v_yes, v_pn, v_ps, v_p1, v_nil, v_cons, v_a1, v_a2, v_comp, v_cp, v_cpF, v_cpG, v_cpBt, v_cpBf, v_some, v_cp2, v_lst, v_l1, v_qval, v_q1, v_q2, v_rng1, v_rng2, v_r2, v_enm, v_en1, v_zip, v_z1, v_z2t, v_irev, v_rvl, v_rvt, v_ival, v_iv1, w_skip, w_seq, w_asg, w_asg1, w_asg2, w_par, w_par1, w_sub, w_sub1, w_sub2, w_sub3, w_put, w_aug, w_aug1, w_aug2, w_aug3, w_augs, w_as1, w_as2, w_as3, w_as4, w_as5, w_exp, w_nx, w_ret, w_rt, w_ite, w_ift, w_iff, w_whil, w_for, w_for1, w_forF, w_forG, w_brk, w_cont, w_rais, w_rs1, w_rs2, w_try, w_tryok, w_tryx, g_var, g_nil, g_cons, g_tg, g_many0, g_many, g_wipe0, g_wipe, t_non, t_bl, t_int, t_str, t_tup, t_ref, t_lst, t_rol, t_dct, q_tup, q_str, q_ref, q_lget, q_lst, q_rol, q_il, q_it, q_is, q_gt, q_gs, q_gn, q_gr, c_eqi, c_eqs, c_eqb, c_nei, c_nes, c_neb, c_lt, c_le, c_gt, c_ge, c_ltS, c_isnon, c_nisnon, c_isbl, c_nisbl, c_isint, c_nisint, c_isstr, c_nisstr, c_istup, c_nistup, c_isref, c_nisref, c_in, c_nin, c_mstr, c_mtup, c_mref, c_mlst, c_mdst, c_mdin, b_addi, b_adds, b_addt, b_sub, b_mul, b_muls, b_fdiv, b_mod, b_pow, b_shl, b_aug, b_augs, b_augu, i_tup, i_str, i_chs, i_ref, i_lst, i_rol, i_dst, i_din, Ev.s_tup, Ev.s_str', Ev.s_ref, Ev.s_lst, r_str, r_ref, r_lst, l_str, l_tup, l_ref, l_lst, l_rol, l_dct, l_abs, l_int, l_intb, l_ord, z_tl, z_tt, z_ll, z_lt, z_any, z_all, z_sum, z_any1, z_all1, z_sum1, z_srt, z_srs, z_sri, y_tup_tuple, y_tup_list, y_tup_bool, y_tup_int, y_tup_str, y_tup_dict, y_str_tuple, y_str_list, y_str_bool, y_str_int, y_str_str, y_str_dict, y_int_tuple, y_int_list, y_int_bool, y_int_int, y_int_str, y_int_dict, y_bl_tuple, y_bl_list, y_bl_bool, y_bl_int, y_bl_str, y_bl_dict, y_non_tuple, y_non_list, y_non_bool, y_non_int, y_non_str, y_non_dict, m_pop, m_pop1, m_rca, m_app, m_app1, p_ref, p_get, p_gst, p_gin, SZ, Nat.reduceLT, Nat.reduceBEq, Int.reduceLT, Int.reduceLE, Int.reduceBEq, Int.reduceNeg, Int.reduceAdd, Int.reduceSub, Int.reduceMul, R.bind_ok, R.bind_exc, R.quiet_ok, R.to_ok, R.to_exc, RS.nxt_nx, RS.nxt_rt, RS.nxt_bk, RS.nxt_ct, RS.nxt_exc, RS.hush_nx, RS.hush_rt, RS.turn_nx, RS.turn_ct, RS.turn_bk, RS.turn_rt, RS.turn_exc, ok?_some, chk_true, Option.bind_some, Option.map_some, Option.isSome_some, List.getElem?_cons_zero, List.getElem?_cons_succ, List.getElem?_nil, List.set_cons_zero, List.set_cons_succ, List.length_cons, List.length_nil, Nat.reduceAdd, Nat.reduceLeDiff, decide_true, decide_false, Bool.not_true, Bool.not_false, Bool.and_self, Bool.true_and, Bool.and_true, Bool.or_true, Bool.true_or, Bool.or_false, Bool.false_or, if_true, List.nil_append, List.cons_append, Nat.zero_add, List.map_cons, List.map_nil, List.replicate_succ, List.replicate_zero, Nat.reduceSub, List.isEmpty_cons, List.isEmpty_nil, p1, n1, rngL_ln, d3, h3, t4, t1, t2, sd, r2, h2, dstrs_map, d4, List.length_map, d5, s4, List.append_assoc]
end Lk.K10

end
section
set_option linter.all false
set_option maxRecDepth 100000
namespace Lk.K10
open PySem L2 Ev
theorem bk_draw (n : Nat) {sc : List Int} {rest : Stt} (us : List Nat) (hu : 0 < us.length) {a1 a2 a3 a4 a5 a6 a7 a9 b0 b1 b2 b3 b4 : Option D} (j : Jug) (hj : j.ok pl) (m : Nat) :
    ∃ (cs : List Nat) (j' : Jug), loopL [] (cpF (callN Lw.tb (n + 1)) none [13] (.var 13) .yes (.idx (.var 8) (.call 6 (.cons (.var 0) (.cons (.str [108, 101, 116, 116, 101, 114]) (.cons (.b1 .len (.var 8)) .nil))))) [some (.ref 3), a1, a2, a3, a4, a5, a6, a7, some (.str us), a9, b0, b1, b2, b3, b4]) (rngL 0 1 m) (jst sc j ++ rest) = .ok (cs.map fun c => .str [c]) (jst sc j' ++ rest) ∧ j'.ok pl ∧ cs.length = m ∧ ∀ c ∈ cs, c ∈ us := by
  have hf : ∀ (k : Int) (s : Stt), (∃ j', s = jst sc j' ++ rest ∧ j'.ok pl) → ∃ (a : Nat) (s' : Stt), (cpF (callN Lw.tb (n + 1)) none [13] (.var 13) .yes (.idx (.var 8) (.call 6 (.cons (.var 0) (.cons (.str [108, 101, 116, 116, 101, 114]) (.cons (.b1 .len (.var 8)) .nil))))) [some (.ref 3), a1, a2, a3, a4, a5, a6, a7, some (.str us), a9, b0, b1, b2, b3, b4]) (.int k) s = .ok (some (D.str [a])) s' ∧ (∃ j', s' = jst sc j' ++ rest ∧ j'.ok pl) ∧ a ∈ us := by
    rintro k s ⟨j', rfl, hj'⟩
    obtain ⟨v, j2, v1, v2, h3, _, h4⟩ := pour_call tb_pour n (sc := sc) hj' (p := [108, 101, 116, 116, 101, 114]) (m := us.length) (by decide) (by decide) (by omega) rest
    obtain ⟨c, hc, h5⟩ := atI_rng v1 v2
    refine ⟨c, _, ?_, ⟨j2, rfl, h3⟩, hc⟩
    simp (config := {implicitDefEqProofs := false}) only [v_var, v_get, v_non, v_bl, v_int, v_str, v_cint, v_cstr, v_bin, v_bin1, v_bin2, v_neg, v_neg1, v_not, v_not1, v_NB, v_Bl, v_cmp, v_cmp1, v_cmp2, v_chain, v_ch1, v_ch2, v_ch3t, v_ch3f, v_and, v_and1, v_and2t, v_and2f, v_or, v_or1, v_or2t, v_or2f, v_ite, v_itet, v_itef, v_tup, v_tup1, v_newl, v_newl1, v_dct, v_dct1, v_idx, v_idx1, v_idx2, v_slc, v_slc1, v_slc2, v_slc3, v_rev, v_rev1, v_call, v_call1, v_kw, v_kw1, v_kw2, v_b1, v_b11, v_bs, v_bs1, v_min2, v_min, v_mini, v_max2, v_max, v_maxi, v_join, v_join1, v_join2, v_join2t, v_join3, v_m0, v_m01, v_m1, v_m11, v_m12, v_isi, v_isi1, v_xfld, v_xis, v_tval, v_val1, v_tnot, v_TN, v_tand, v_TAt, v_TAf, v_tor, v_TOt, v_TOf, v_tite, v_TIt, v_TIf, v_yes, v_pn, v_ps, v_p1, v_nil, v_cons, v_a1, v_a2, v_comp, v_cp, v_cpF, v_cpG, v_cpBt, v_cpBf, v_some, v_cp2, v_lst, v_l1, v_qval, v_q1, v_q2, v_rng1, v_rng2, v_r2, v_enm, v_en1, v_zip, v_z1, v_z2t, v_irev, v_rvl, v_rvt, v_ival, v_iv1, w_skip, w_seq, w_asg, w_asg1, w_asg2, w_par, w_par1, w_sub, w_sub1, w_sub2, w_sub3, w_put, w_aug, w_aug1, w_aug2, w_aug3, w_augs, w_as1, w_as2, w_as3, w_as4, w_as5, w_exp, w_nx, w_ret, w_rt, w_ite, w_ift, w_iff, w_whil, w_for, w_for1, w_forF, w_forG, w_brk, w_cont, w_rais, w_rs1, w_rs2, w_try, w_tryok, w_tryx, g_var, g_nil, g_cons, g_tg, g_many0, g_many, g_wipe0, g_wipe, t_non, t_bl, t_int, t_str, t_tup, t_ref, t_lst, t_rol, t_dct, q_tup, q_str, q_ref, q_lget, q_lst, q_rol, q_il, q_it, q_is, q_gt, q_gs, q_gn, q_gr, c_eqi, c_eqs, c_eqb, c_nei, c_nes, c_neb, c_lt, c_le, c_gt, c_ge, c_ltS, c_isnon, c_nisnon, c_isbl, c_nisbl, c_isint, c_nisint, c_isstr, c_nisstr, c_istup, c_nistup, c_isref, c_nisref, c_in, c_nin, c_mstr, c_mtup, c_mref, c_mlst, c_mdst, c_mdin, b_addi, b_adds, b_addt, b_sub, b_mul, b_muls, b_fdiv, b_mod, b_pow, b_shl, b_aug, b_augs, b_augu, i_tup, i_str, i_chs, i_ref, i_lst, i_rol, i_dst, i_din, Ev.s_tup, Ev.s_str', Ev.s_ref, Ev.s_lst, r_str, r_ref, r_lst, l_str, l_tup, l_ref, l_lst, l_rol, l_dct, l_abs, l_int, l_intb, l_ord, z_tl, z_tt, z_ll, z_lt, z_any, z_all, z_sum, z_any1, z_all1, z_sum1, z_srt, z_srs, z_sri, y_tup_tuple, y_tup_list, y_tup_bool, y_tup_int, y_tup_str, y_tup_dict, y_str_tuple, y_str_list, y_str_bool, y_str_int, y_str_str, y_str_dict, y_int_tuple, y_int_list, y_int_bool, y_int_int, y_int_str, y_int_dict, y_bl_tuple, y_bl_list, y_bl_bool, y_bl_int, y_bl_str, y_bl_dict, y_non_tuple, y_non_list, y_non_bool, y_non_int, y_non_str, y_non_dict, m_pop, m_pop1, m_rca, m_app, m_app1, p_ref, p_get, p_gst, p_gin, SZ, Nat.reduceLT, Nat.reduceBEq, Int.reduceLT, Int.reduceLE, Int.reduceBEq, Int.reduceNeg, Int.reduceAdd, Int.reduceSub, Int.reduceMul, R.bind_ok, R.bind_exc, R.quiet_ok, R.to_ok, R.to_exc, RS.nxt_nx, RS.nxt_rt, RS.nxt_bk, RS.nxt_ct, RS.nxt_exc, RS.hush_nx, RS.hush_rt, RS.turn_nx, RS.turn_ct, RS.turn_bk, RS.turn_rt, RS.turn_exc, ok?_some, chk_true, Option.bind_some, Option.map_some, Option.isSome_some, List.getElem?_cons_zero, List.getElem?_cons_succ, List.getElem?_nil, List.set_cons_zero, List.set_cons_succ, List.length_cons, List.length_nil, Nat.reduceAdd, Nat.reduceLeDiff, decide_true, decide_false, Bool.not_true, Bool.not_false, Bool.and_self, Bool.true_and, Bool.and_true, Bool.or_true, Bool.true_or, Bool.or_false, Bool.false_or, if_true, List.nil_append, List.cons_append, Nat.zero_add, List.map_cons, List.map_nil, List.replicate_succ, List.replicate_zero, Nat.reduceSub, List.isEmpty_cons, List.isEmpty_nil, h4, h5]
  obtain ⟨cs, s', h1, ⟨j', rfl, h3⟩, h4, h5⟩ := loopL_rng (q := fun c => D.str [c]) hf m 0 _ ⟨j, rfl, hj⟩
  exact ⟨cs, j', h1, h3, h4, h5⟩
theorem bk_word (n : Nat) (wd : Bool) (sc : List Int) (j : Jug) (hj : j.ok pl) (us : List Nat) (hu : 0 < us.length) (rest : Stt) (a2 a3 a4 a5 a6 a7 a9 b0 b1 b2 b3 b4 : Option D) :
    ∃ (j' : Jug) (cs : List Nat), j'.ok pl ∧ (1 ≤ cs.length ∧ cs.length ≤ 16 ∧ ∀ c ∈ cs, c ∈ us) ∧ iS (callN Lw.tb (n + 1)) none (.asg (.var 10) (.join (.str []) (.comp [13] (.var 13) (.rng1 (.ite (.val (.var 1)) (.int 16) (.bin .add (.int 1) (.call 6 (.cons (.var 0) (.cons (.str [108, 111, 110, 103]) (.cons (.int 6) .nil))))))) .yes (.idx (.var 8) (.call 6 (.cons (.var 0) (.cons (.str [108, 101, 116, 116, 101, 114]) (.cons (.b1 .len (.var 8)) .nil)))))))) [some (.ref 3), some (.bl wd), a2, a3, a4, a5, a6, a7, some (.str us), a9, b0, b1, b2, b3, b4] (jst sc j ++ rest) = .ok (.nx [some (.ref 3), some (.bl wd), a2, a3, a4, a5, a6, a7, some (.str us), a9, some (.str cs), b1, b2, b3, b4]) (jst sc j' ++ rest) := by
  have dj : ∀ cs : List Nat, cs.length ≤ 16 → decide (((cs.map fun c => [c]).map List.length).sum + cs.length * 0 ≤ 16777216) = true := fun cs h => decide_eq_true (by rw [sum1]; omega)
  cases wd with
  | true =>
    obtain ⟨cs, j3, p3, hj3, ld, hd⟩ := bk_draw n (sc := sc) (rest := rest) us hu (a1 := some (.bl true)) (a2 := a2) (a3 := a3) (a4 := a4) (a5 := a5) (a6 := a6) (a7 := a7) (a9 := a9) (b0 := b0) (b1 := b1) (b2 := b2) (b3 := b3) (b4 := b4) j hj 16
    have n1 : kR1 (.int 16) = fun s => .ok (rngL 0 1 16, []) s := funext fun s => R1_i 16 (by decide) (by decide)
    have d4 := dj cs (by omega)
    refine ⟨j3, cs, hj3, ⟨by omega, by omega, hd⟩, ?_⟩
    simp (config := {implicitDefEqProofs := false}) only [v_var, v_get, v_non, v_bl, v_int, v_str, v_cint, v_cstr, v_bin, v_bin1, v_bin2, v_neg, v_neg1, v_not, v_not1, v_NB, v_Bl, v_cmp, v_cmp1, v_cmp2, v_chain, v_ch1, v_ch2, v_ch3t, v_ch3f, v_and, v_and1, v_and2t, v_and2f, v_or, v_or1, v_or2t, v_or2f, v_ite, v_itet, v_itef, v_tup, v_tup1, v_newl, v_newl1, v_dct, v_dct1, v_idx, v_idx1, v_idx2, v_slc, v_slc1, v_slc2, v_slc3, v_rev, v_rev1, v_call, v_call1, v_kw, v_kw1, v_kw2, v_b1, v_b11, v_bs, v_bs1, v_min2, v_min, v_mini, v_max2, v_max, v_maxi, v_join, v_join1, v_join2, v_join2t, v_join3, v_m0, v_m01, v_m1, v_m11, v_m12, v_isi, v_isi1, v_xfld, v_xis, v_tval, v_val1, v_tnot, v_TN, v_tand, v_TAt, v_TAf, v_tor, v_TOt, v_TOf, v_tite, v_TIt, v_TIf, v_yes, v_pn, v_ps, v_p1, v_nil, v_cons, v_a1, v_a2, v_comp, v_cp, v_cpF, v_cpG, v_cpBt, v_cpBf, v_some, v_cp2, v_lst, v_l1, v_qval, v_q1, v_q2, v_rng1, v_rng2, v_r2, v_enm, v_en1, v_zip, v_z1, v_z2t, v_irev, v_rvl, v_rvt, v_ival, v_iv1, w_skip, w_seq, w_asg, w_asg1, w_asg2, w_par, w_par1, w_sub, w_sub1, w_sub2, w_sub3, w_put, w_aug, w_aug1, w_aug2, w_aug3, w_augs, w_as1, w_as2, w_as3, w_as4, w_as5, w_exp, w_nx, w_ret, w_rt, w_ite, w_ift, w_iff, w_whil, w_for, w_for1, w_forF, w_forG, w_brk, w_cont, w_rais, w_rs1, w_rs2, w_try, w_tryok, w_tryx, g_var, g_nil, g_cons, g_tg, g_many0, g_many, g_wipe0, g_wipe, t_non, t_bl, t_int, t_str, t_tup, t_ref, t_lst, t_rol, t_dct, q_tup, q_str, q_ref, q_lget, q_lst, q_rol, q_il, q_it, q_is, q_gt, q_gs, q_gn, q_gr, c_eqi, c_eqs, c_eqb, c_nei, c_nes, c_neb, c_lt, c_le, c_gt, c_ge, c_ltS, c_isnon, c_nisnon, c_isbl, c_nisbl, c_isint, c_nisint, c_isstr, c_nisstr, c_istup, c_nistup, c_isref, c_nisref, c_in, c_nin, c_mstr, c_mtup, c_mref, c_mlst, c_mdst, c_mdin, b_addi, b_adds, b_addt, b_sub, b_mul, b_muls, b_fdiv, b_mod, b_pow, b_shl, b_aug, b_augs, b_augu, i_tup, i_str, i_chs, i_ref, i_lst, i_rol, i_dst, i_din, Ev.s_tup, Ev.s_str', Ev.s_ref, Ev.s_lst, r_str, r_ref, r_lst, l_str, l_tup, l_ref, l_lst, l_rol, l_dct, l_abs, l_int, l_intb, l_ord, z_tl, z_tt, z_ll, z_lt, z_any, z_all, z_sum, z_any1, z_all1, z_sum1, z_srt, z_srs, z_sri, y_tup_tuple, y_tup_list, y_tup_bool, y_tup_int, y_tup_str, y_tup_dict, y_str_tuple, y_str_list, y_str_bool, y_str_int, y_str_str, y_str_dict, y_int_tuple, y_int_list, y_int_bool, y_int_int, y_int_str, y_int_dict, y_bl_tuple, y_bl_list, y_bl_bool, y_bl_int, y_bl_str, y_bl_dict, y_non_tuple, y_non_list, y_non_bool, y_non_int, y_non_str, y_non_dict, m_pop, m_pop1, m_rca, m_app, m_app1, p_ref, p_get, p_gst, p_gin, SZ, Nat.reduceLT, Nat.reduceBEq, Int.reduceLT, Int.reduceLE, Int.reduceBEq, Int.reduceNeg, Int.reduceAdd, Int.reduceSub, Int.reduceMul, R.bind_ok, R.bind_exc, R.quiet_ok, R.to_ok, R.to_exc, RS.nxt_nx, RS.nxt_rt, RS.nxt_bk, RS.nxt_ct, RS.nxt_exc, RS.hush_nx, RS.hush_rt, RS.turn_nx, RS.turn_ct, RS.turn_bk, RS.turn_rt, RS.turn_exc, ok?_some, chk_true, Option.bind_some, Option.map_some, Option.isSome_some, List.getElem?_cons_zero, List.getElem?_cons_succ, List.getElem?_nil, List.set_cons_zero, List.set_cons_succ, List.length_cons, List.length_nil, Nat.reduceAdd, Nat.reduceLeDiff, decide_true, decide_false, Bool.not_true, Bool.not_false, Bool.and_self, Bool.true_and, Bool.and_true, Bool.or_true, Bool.true_or, Bool.or_false, Bool.false_or, if_true, List.nil_append, List.cons_append, Nat.zero_add, List.map_cons, List.map_nil, List.replicate_succ, List.replicate_zero, Nat.reduceSub, List.isEmpty_cons, List.isEmpty_nil, n1, rngL_ln, p3, chars_map, dstrs_map, List.length_map, d4, join1]
  | false =>
    obtain ⟨v2, j2, a2', b2', hj2, _, p2⟩ := pour_call tb_pour n (sc := sc) hj (p := [108, 111, 110, 103]) (m := 6) (by decide) (by decide) (by decide) rest
    obtain ⟨cs, j3, p3, hj3, ld, hd⟩ := bk_draw n (sc := sc) (rest := rest) us hu (a1 := some (.bl false)) (a2 := a2) (a3 := a3) (a4 := a4) (a5 := a5) (a6 := a6) (a7 := a7) (a9 := a9) (b0 := b0) (b1 := b1) (b2 := b2) (b3 := b3) (b4 := b4) j2 hj2 (1 + v2).toNat
    have n1 : kR1 (.int (1 + v2)) = fun s => .ok (rngL 0 1 (1 + v2).toNat, []) s := funext fun s => R1_i (1 + v2) (by omega) (by omega)
    have d3 : decide ((1 + v2).toNat ≤ 16777216) = true := decide_eq_true (by omega)
    have d4 := dj cs (by omega)
    refine ⟨j3, cs, hj3, ⟨by omega, by omega, hd⟩, ?_⟩
    simp (config := {implicitDefEqProofs := false}) only [v_var, v_get, v_non, v_bl, v_int, v_str, v_cint, v_cstr, v_bin, v_bin1, v_bin2, v_neg, v_neg1, v_not, v_not1, v_NB, v_Bl, v_cmp, v_cmp1, v_cmp2, v_chain, v_ch1, v_ch2, v_ch3t, v_ch3f, v_and, v_and1, v_and2t, v_and2f, v_or, v_or1, v_or2t, v_or2f, v_ite, v_itet, v_itef, v_tup, v_tup1, v_newl, v_newl1, v_dct, v_dct1, v_idx, v_idx1, v_idx2, v_slc, v_slc1, v_slc2, v_slc3, v_rev, v_rev1, v_call, v_call1, v_kw, v_kw1, v_kw2, v_b1, v_b11, v_bs, v_bs1, v_min2, v_min, v_mini, v_max2, v_max, v_maxi, v_join, v_join1, v_join2, v_join2t, v_join3, v_m0, v_m01, v_m1, v_m11, v_m12, v_isi, v_isi1, v_xfld, v_xis, v_tval, v_val1, v_tnot, v_TN, v_tand, v_TAt, v_TAf, v_tor, v_TOt, v_TOf, v_tite, v_TIt, v_TIf, v_yes, v_pn, v_ps, v_p1, v_nil, v_cons, v_a1, v_a2, v_comp, v_cp, v_cpF, v_cpG, v_cpBt, v_cpBf, v_some, v_cp2, v_lst, v_l1, v_qval, v_q1, v_q2, v_rng1, v_rng2, v_r2, v_enm, v_en1, v_zip, v_z1, v_z2t, v_irev, v_rvl, v_rvt, v_ival, v_iv1, w_skip, w_seq, w_asg, w_asg1, w_asg2, w_par, w_par1, w_sub, w_sub1, w_sub2, w_sub3, w_put, w_aug, w_aug1, w_aug2, w_aug3, w_augs, w_as1, w_as2, w_as3, w_as4, w_as5, w_exp, w_nx, w_ret, w_rt, w_ite, w_ift, w_iff, w_whil, w_for, w_for1, w_forF, w_forG, w_brk, w_cont, w_rais, w_rs1, w_rs2, w_try, w_tryok, w_tryx, g_var, g_nil, g_cons, g_tg, g_many0, g_many, g_wipe0, g_wipe, t_non, t_bl, t_int, t_str, t_tup, t_ref, t_lst, t_rol, t_dct, q_tup, q_str, q_ref, q_lget, q_lst, q_rol, q_il, q_it, q_is, q_gt, q_gs, q_gn, q_gr, c_eqi, c_eqs, c_eqb, c_nei, c_nes, c_neb, c_lt, c_le, c_gt, c_ge, c_ltS, c_isnon, c_nisnon, c_isbl, c_nisbl, c_isint, c_nisint, c_isstr, c_nisstr, c_istup, c_nistup, c_isref, c_nisref, c_in, c_nin, c_mstr, c_mtup, c_mref, c_mlst, c_mdst, c_mdin, b_addi, b_adds, b_addt, b_sub, b_mul, b_muls, b_fdiv, b_mod, b_pow, b_shl, b_aug, b_augs, b_augu, i_tup, i_str, i_chs, i_ref, i_lst, i_rol, i_dst, i_din, Ev.s_tup, Ev.s_str', Ev.s_ref, Ev.s_lst, r_str, r_ref, r_lst, l_str, l_tup, l_ref, l_lst, l_rol, l_dct, l_abs, l_int, l_intb, l_ord, z_tl, z_tt, z_ll, z_lt, z_any, z_all, z_sum, z_any1, z_all1, z_sum1, z_srt, z_srs, z_sri, y_tup_tuple, y_tup_list, y_tup_bool, y_tup_int, y_tup_str, y_tup_dict, y_str_tuple, y_str_list, y_str_bool, y_str_int, y_str_str, y_str_dict, y_int_tuple, y_int_list, y_int_bool, y_int_int, y_int_str, y_int_dict, y_bl_tuple, y_bl_list, y_bl_bool, y_bl_int, y_bl_str, y_bl_dict, y_non_tuple, y_non_list, y_non_bool, y_non_int, y_non_str, y_non_dict, m_pop, m_pop1, m_rca, m_app, m_app1, p_ref, p_get, p_gst, p_gin, SZ, Nat.reduceLT, Nat.reduceBEq, Int.reduceLT, Int.reduceLE, Int.reduceBEq, Int.reduceNeg, Int.reduceAdd, Int.reduceSub, Int.reduceMul, R.bind_ok, R.bind_exc, R.quiet_ok, R.to_ok, R.to_exc, RS.nxt_nx, RS.nxt_rt, RS.nxt_bk, RS.nxt_ct, RS.nxt_exc, RS.hush_nx, RS.hush_rt, RS.turn_nx, RS.turn_ct, RS.turn_bk, RS.turn_rt, RS.turn_exc, ok?_some, chk_true, Option.bind_some, Option.map_some, Option.isSome_some, List.getElem?_cons_zero, List.getElem?_cons_succ, List.getElem?_nil, List.set_cons_zero, List.set_cons_succ, List.length_cons, List.length_nil, Nat.reduceAdd, Nat.reduceLeDiff, decide_true, decide_false, Bool.not_true, Bool.not_false, Bool.and_self, Bool.true_and, Bool.and_true, Bool.or_true, Bool.true_or, Bool.or_false, Bool.false_or, if_true, List.nil_append, List.cons_append, Nat.zero_add, List.map_cons, List.map_nil, List.replicate_succ, List.replicate_zero, Nat.reduceSub, List.isEmpty_cons, List.isEmpty_nil, p2, n1, d3, rngL_ln, p3, chars_map, dstrs_map, List.length_map, d4, join1]
structure Wg (us : List Nat) (ws : List (List Nat)) : Prop where
  nd : ws.Nodup
  wl : ∀ w ∈ ws, 1 ≤ w.length ∧ w.length ≤ 16
  wu : ∀ w ∈ ws, ∀ c ∈ w, c ∈ us
theorem bk_near (n : Nat) (wd : Bool) (sc : List Int) (j : Jug) (hj : j.ok pl) (us : List Nat) (ws : List (List Nat)) (hw : Wg us ws) (B : Stt) (cs : List Nat) (hc : 1 ≤ cs.length ∧ cs.length ≤ 16 ∧ ∀ c ∈ cs, c ∈ us) (a2 a3 a4 a5 a6 a7 b1 b2 b3 b4 : Option D) :
    ∃ (j' : Jug) (w : List Nat) (y1 y2 : Option D), j'.ok pl ∧ (w.length ≤ 100 ∧ ∀ c ∈ w, c ∈ us) ∧ iS (callN Lw.tb (n + 1)) none (.ite (.and (.val (.var 9)) (.and (.not (.val (.var 1))) (.val (.cmp .eq (.call 6 (.cons (.var 0) (.cons (.str [110, 101, 97, 114]) (.cons (.int 2) .nil)))) (.int 0))))) (.seq (.asg (.var 11) (.call 6 (.cons (.var 0) (.cons (.str [112, 108, 97, 99, 101]) (.cons (.b1 .len (.idx (.var 9) (.neg (.int 1)))) .nil))))) (.seq (.asg (.var 12) (.idx (.var 9) (.neg (.int 1)))) (.asg (.var 10) (.idx (.tup (.cons (.bin .add (.var 12) (.idx (.var 10) (.int 0))) (.cons (.bin .add (.slc (.var 12) .none (.some (.var 11))) (.slc (.var 12) (.some (.bin .add (.var 11) (.int 1))) .none)) (.cons (.bin .add (.bin .add (.slc (.var 12) .none (.some (.var 11))) (.idx (.var 10) (.int 0))) (.slc (.var 12) (.some (.bin .add (.var 11) (.int 1))) .none)) (.cons (.bin .add (.slc (.var 12) (.some (.int 1)) .none) (.idx (.var 12) (.int 0))) .nil))))) (.call 6 (.cons (.var 0) (.cons (.str [110, 101, 97, 114, 32, 119, 97, 121]) (.cons (.int 4) .nil)))))))) .skip) [some (.ref 3), some (.bl wd), a2, a3, a4, a5, a6, a7, some (.str us), some (.ref (4 + B.length)), some (.str cs), b1, b2, b3, b4] (jst sc j ++ (B ++ [.lst (ws.map .str)])) = .ok (.nx [some (.ref 3), some (.bl wd), a2, a3, a4, a5, a6, a7, some (.str us), some (.ref (4 + B.length)), some (.str w), y1, y2, b3, b4]) (jst sc j' ++ (B ++ [.lst (ws.map .str)])) := by
  have g : ∀ (q : Jug) (x : Ob), (jst sc q ++ (B ++ [x]))[4 + B.length]? = some x := fun q x => by
    have := top1 (jst sc q) B x
    rwa [List.length_append] at this
  have same : ∃ (j' : Jug) (w : List Nat) (y1 y2 : Option D), j'.ok pl ∧ (w.length ≤ 100 ∧ ∀ c ∈ w, c ∈ us) ∧ (RS.ok (.nx [some (.ref 3), some (.bl wd), a2, a3, a4, a5, a6, a7, some (.str us), some (.ref (4 + B.length)), some (.str cs), b1, b2, b3, b4]) (jst sc j ++ (B ++ [.lst (ws.map .str)])) = .ok (.nx [some (.ref 3), some (.bl wd), a2, a3, a4, a5, a6, a7, some (.str us), some (.ref (4 + B.length)), some (.str w), y1, y2, b3, b4]) (jst sc j' ++ (B ++ [.lst (ws.map .str)]))) := ⟨j, cs, b1, b2, hj, ⟨by omega, hc.2.2⟩, rfl⟩
  by_cases e : ws = []
  · subst e
    simp only [List.map_nil] at *
    simp (config := {implicitDefEqProofs := false}) only [v_var, v_get, v_non, v_bl, v_int, v_str, v_cint, v_cstr, v_bin, v_bin1, v_bin2, v_neg, v_neg1, v_not, v_not1, v_NB, v_Bl, v_cmp, v_cmp1, v_cmp2, v_chain, v_ch1, v_ch2, v_ch3t, v_ch3f, v_and, v_and1, v_and2t, v_and2f, v_or, v_or1, v_or2t, v_or2f, v_ite, v_itet, v_itef, v_tup, v_tup1, v_newl, v_newl1, v_dct, v_dct1, v_idx, v_idx1, v_idx2, v_slc, v_slc1, v_slc2, v_slc3, v_rev, v_rev1, v_call, v_call1, v_kw, v_kw1, v_kw2, v_b1, v_b11, v_bs, v_bs1, v_min2, v_min, v_mini, v_max2, v_max, v_maxi, v_join, v_join1, v_join2, v_join2t, v_join3, v_m0, v_m01, v_m1, v_m11, v_m12, v_isi, v_isi1, v_xfld, v_xis, v_tval, v_val1, v_tnot, v_TN, v_tand, v_TAt, v_TAf, v_tor, v_TOt, v_TOf, v_tite, v_TIt, v_TIf, v_yes, v_pn, v_ps, v_p1, v_nil, v_cons, v_a1, v_a2, v_comp, v_cp, v_cpF, v_cpG, v_cpBt, v_cpBf, v_some, v_cp2, v_lst, v_l1, v_qval, v_q1, v_q2, v_rng1, v_rng2, v_r2, v_enm, v_en1, v_zip, v_z1, v_z2t, v_irev, v_rvl, v_rvt, v_ival, v_iv1, w_skip, w_seq, w_asg, w_asg1, w_asg2, w_par, w_par1, w_sub, w_sub1, w_sub2, w_sub3, w_put, w_aug, w_aug1, w_aug2, w_aug3, w_augs, w_as1, w_as2, w_as3, w_as4, w_as5, w_exp, w_nx, w_ret, w_rt, w_ite, w_ift, w_iff, w_whil, w_for, w_for1, w_forF, w_forG, w_brk, w_cont, w_rais, w_rs1, w_rs2, w_try, w_tryok, w_tryx, g_var, g_nil, g_cons, g_tg, g_many0, g_many, g_wipe0, g_wipe, t_non, t_bl, t_int, t_str, t_tup, t_ref, t_lst, t_rol, t_dct, q_tup, q_str, q_ref, q_lget, q_lst, q_rol, q_il, q_it, q_is, q_gt, q_gs, q_gn, q_gr, c_eqi, c_eqs, c_eqb, c_nei, c_nes, c_neb, c_lt, c_le, c_gt, c_ge, c_ltS, c_isnon, c_nisnon, c_isbl, c_nisbl, c_isint, c_nisint, c_isstr, c_nisstr, c_istup, c_nistup, c_isref, c_nisref, c_in, c_nin, c_mstr, c_mtup, c_mref, c_mlst, c_mdst, c_mdin, b_addi, b_adds, b_addt, b_sub, b_mul, b_muls, b_fdiv, b_mod, b_pow, b_shl, b_aug, b_augs, b_augu, i_tup, i_str, i_chs, i_ref, i_lst, i_rol, i_dst, i_din, Ev.s_tup, Ev.s_str', Ev.s_ref, Ev.s_lst, r_str, r_ref, r_lst, l_str, l_tup, l_ref, l_lst, l_rol, l_dct, l_abs, l_int, l_intb, l_ord, z_tl, z_tt, z_ll, z_lt, z_any, z_all, z_sum, z_any1, z_all1, z_sum1, z_srt, z_srs, z_sri, y_tup_tuple, y_tup_list, y_tup_bool, y_tup_int, y_tup_str, y_tup_dict, y_str_tuple, y_str_list, y_str_bool, y_str_int, y_str_str, y_str_dict, y_int_tuple, y_int_list, y_int_bool, y_int_int, y_int_str, y_int_dict, y_bl_tuple, y_bl_list, y_bl_bool, y_bl_int, y_bl_str, y_bl_dict, y_non_tuple, y_non_list, y_non_bool, y_non_int, y_non_str, y_non_dict, m_pop, m_pop1, m_rca, m_app, m_app1, p_ref, p_get, p_gst, p_gin, SZ, Nat.reduceLT, Nat.reduceBEq, Int.reduceLT, Int.reduceLE, Int.reduceBEq, Int.reduceNeg, Int.reduceAdd, Int.reduceSub, Int.reduceMul, R.bind_ok, R.bind_exc, R.quiet_ok, R.to_ok, R.to_exc, RS.nxt_nx, RS.nxt_rt, RS.nxt_bk, RS.nxt_ct, RS.nxt_exc, RS.hush_nx, RS.hush_rt, RS.turn_nx, RS.turn_ct, RS.turn_bk, RS.turn_rt, RS.turn_exc, ok?_some, chk_true, Option.bind_some, Option.map_some, Option.isSome_some, List.getElem?_cons_zero, List.getElem?_cons_succ, List.getElem?_nil, List.set_cons_zero, List.set_cons_succ, List.length_cons, List.length_nil, Nat.reduceAdd, Nat.reduceLeDiff, decide_true, decide_false, Bool.not_true, Bool.not_false, Bool.and_self, Bool.true_and, Bool.and_true, Bool.or_true, Bool.true_or, Bool.or_false, Bool.false_or, if_true, List.nil_append, List.cons_append, Nat.zero_add, List.map_cons, List.map_nil, List.replicate_succ, List.replicate_zero, Nat.reduceSub, List.isEmpty_cons, List.isEmpty_nil, g]
    exact same
  · have he : (ws.map D.str).isEmpty = false := by cases ws with
      | nil => exact absurd rfl e
      | cons _ _ => rfl
    cases wd with
    | true =>
      simp (config := {implicitDefEqProofs := false}) only [v_var, v_get, v_non, v_bl, v_int, v_str, v_cint, v_cstr, v_bin, v_bin1, v_bin2, v_neg, v_neg1, v_not, v_not1, v_NB, v_Bl, v_cmp, v_cmp1, v_cmp2, v_chain, v_ch1, v_ch2, v_ch3t, v_ch3f, v_and, v_and1, v_and2t, v_and2f, v_or, v_or1, v_or2t, v_or2f, v_ite, v_itet, v_itef, v_tup, v_tup1, v_newl, v_newl1, v_dct, v_dct1, v_idx, v_idx1, v_idx2, v_slc, v_slc1, v_slc2, v_slc3, v_rev, v_rev1, v_call, v_call1, v_kw, v_kw1, v_kw2, v_b1, v_b11, v_bs, v_bs1, v_min2, v_min, v_mini, v_max2, v_max, v_maxi, v_join, v_join1, v_join2, v_join2t, v_join3, v_m0, v_m01, v_m1, v_m11, v_m12, v_isi, v_isi1, v_xfld, v_xis, v_tval, v_val1, v_tnot, v_TN, v_tand, v_TAt, v_TAf, v_tor, v_TOt, v_TOf, v_tite, v_TIt, v_TIf, v_yes, v_pn, v_ps, v_p1, v_nil, v_cons, v_a1, v_a2, v_comp, v_cp, v_cpF, v_cpG, v_cpBt, v_cpBf, v_some, v_cp2, v_lst, v_l1, v_qval, v_q1, v_q2, v_rng1, v_rng2, v_r2, v_enm, v_en1, v_zip, v_z1, v_z2t, v_irev, v_rvl, v_rvt, v_ival, v_iv1, w_skip, w_seq, w_asg, w_asg1, w_asg2, w_par, w_par1, w_sub, w_sub1, w_sub2, w_sub3, w_put, w_aug, w_aug1, w_aug2, w_aug3, w_augs, w_as1, w_as2, w_as3, w_as4, w_as5, w_exp, w_nx, w_ret, w_rt, w_ite, w_ift, w_iff, w_whil, w_for, w_for1, w_forF, w_forG, w_brk, w_cont, w_rais, w_rs1, w_rs2, w_try, w_tryok, w_tryx, g_var, g_nil, g_cons, g_tg, g_many0, g_many, g_wipe0, g_wipe, t_non, t_bl, t_int, t_str, t_tup, t_ref, t_lst, t_rol, t_dct, q_tup, q_str, q_ref, q_lget, q_lst, q_rol, q_il, q_it, q_is, q_gt, q_gs, q_gn, q_gr, c_eqi, c_eqs, c_eqb, c_nei, c_nes, c_neb, c_lt, c_le, c_gt, c_ge, c_ltS, c_isnon, c_nisnon, c_isbl, c_nisbl, c_isint, c_nisint, c_isstr, c_nisstr, c_istup, c_nistup, c_isref, c_nisref, c_in, c_nin, c_mstr, c_mtup, c_mref, c_mlst, c_mdst, c_mdin, b_addi, b_adds, b_addt, b_sub, b_mul, b_muls, b_fdiv, b_mod, b_pow, b_shl, b_aug, b_augs, b_augu, i_tup, i_str, i_chs, i_ref, i_lst, i_rol, i_dst, i_din, Ev.s_tup, Ev.s_str', Ev.s_ref, Ev.s_lst, r_str, r_ref, r_lst, l_str, l_tup, l_ref, l_lst, l_rol, l_dct, l_abs, l_int, l_intb, l_ord, z_tl, z_tt, z_ll, z_lt, z_any, z_all, z_sum, z_any1, z_all1, z_sum1, z_srt, z_srs, z_sri, y_tup_tuple, y_tup_list, y_tup_bool, y_tup_int, y_tup_str, y_tup_dict, y_str_tuple, y_str_list, y_str_bool, y_str_int, y_str_str, y_str_dict, y_int_tuple, y_int_list, y_int_bool, y_int_int, y_int_str, y_int_dict, y_bl_tuple, y_bl_list, y_bl_bool, y_bl_int, y_bl_str, y_bl_dict, y_non_tuple, y_non_list, y_non_bool, y_non_int, y_non_str, y_non_dict, m_pop, m_pop1, m_rca, m_app, m_app1, p_ref, p_get, p_gst, p_gin, SZ, Nat.reduceLT, Nat.reduceBEq, Int.reduceLT, Int.reduceLE, Int.reduceBEq, Int.reduceNeg, Int.reduceAdd, Int.reduceSub, Int.reduceMul, R.bind_ok, R.bind_exc, R.quiet_ok, R.to_ok, R.to_exc, RS.nxt_nx, RS.nxt_rt, RS.nxt_bk, RS.nxt_ct, RS.nxt_exc, RS.hush_nx, RS.hush_rt, RS.turn_nx, RS.turn_ct, RS.turn_bk, RS.turn_rt, RS.turn_exc, ok?_some, chk_true, Option.bind_some, Option.map_some, Option.isSome_some, List.getElem?_cons_zero, List.getElem?_cons_succ, List.getElem?_nil, List.set_cons_zero, List.set_cons_succ, List.length_cons, List.length_nil, Nat.reduceAdd, Nat.reduceLeDiff, decide_true, decide_false, Bool.not_true, Bool.not_false, Bool.and_self, Bool.true_and, Bool.and_true, Bool.or_true, Bool.true_or, Bool.or_false, Bool.false_or, if_true, List.nil_append, List.cons_append, Nat.zero_add, List.map_cons, List.map_nil, List.replicate_succ, List.replicate_zero, Nat.reduceSub, List.isEmpty_cons, List.isEmpty_nil, g, he]
      exact same
    | false =>
      obtain ⟨v1, j1, c1, d1, hj1, _, p1⟩ := pour_call tb_pour n (sc := sc) hj (p := [110, 101, 97, 114]) (m := 2) (by decide) (by decide) (by decide) (B ++ [.lst (ws.map .str)])
      by_cases hv : v1 = 0
      · have hv2 : (v1 == 0) = true := beq_iff_eq.2 hv
        obtain ⟨nr, hn, q1⟩ := atI_last (xs := ws) (by cases ws with
          | nil => exact absurd rfl e
          | cons _ _ => simp)
        obtain ⟨l1, l2⟩ := hw.wl nr hn
        have lu := hw.wu nr hn
        obtain ⟨v2, j2, c2, d2, hj2, _, p2⟩ := pour_call tb_pour n (sc := sc) hj1 (p := [112, 108, 97, 99, 101]) (m := nr.length) (by decide) (by decide) (by omega) (B ++ [.lst (ws.map .str)])
        obtain ⟨v3, j3, c3, d3, hj3, _, p3⟩ := pour_call tb_pour n (sc := sc) hj2 (p := [110, 101, 97, 114, 32, 119, 97, 121]) (m := 4) (by decide) (by decide) (by decide) (B ++ [.lst (ws.map .str)])
        obtain ⟨c0, hc0, q2⟩ := atI_rng (xs := cs) (v := 0) (by omega) (by omega)
        obtain ⟨n0, hn0, q3⟩ := atI_rng (xs := nr) (v := 0) (by omega) (by omega)
        have m1 := cut_len nr none (some v2)
        have m2 := cut_len nr (some (v2 + 1)) none
        have m3 := cut_len nr (some 1) none
        obtain ⟨w, hW, q4⟩ := atI_rng (xs := [nr ++ [c0], cut nr none (some v2) ++ cut nr (some (v2 + 1)) none, cut nr none (some v2) ++ [c0] ++ cut nr (some (v2 + 1)) none, cut nr (some 1) none ++ [n0]]) (v := v3) c3 d3
        have r4 := bsi [nr ++ [c0], cut nr none (some v2) ++ cut nr (some (v2 + 1)) none, cut nr none (some v2) ++ [c0] ++ cut nr (some (v2 + 1)) none, cut nr (some 1) none ++ [n0]]
        simp only [List.map_cons, List.map_nil] at r4
        have k1 : decide (nr.length ≤ 16777215) = true := decide_eq_true (by omega)
        have k2 : decide ((cut nr none (some v2)).length + (cut nr (some (v2 + 1)) none).length ≤ 16777216) = true := decide_eq_true (by omega)
        have k3 : decide ((cut nr none (some v2)).length ≤ 16777215) = true := decide_eq_true (by omega)
        have k4 : decide ((cut nr none (some v2)).length + 1 + (cut nr (some (v2 + 1)) none).length ≤ 16777216) = true := decide_eq_true (by omega)
        have k5 : decide ((cut nr (some 1) none).length ≤ 16777215) = true := decide_eq_true (by omega)
        refine ⟨j3, w, some (.int v2), some (.str nr), hj3, ?_, ?_⟩
        · have c0u := hc.2.2 c0 hc0
          have n0u := lu n0 hn0
          simp only [List.mem_cons, List.not_mem_nil, or_false] at hW
          rcases hW with h | h | h | h <;> subst h
          · refine ⟨by rw [List.length_append]; simp only [List.length_cons, List.length_nil]; omega, fun c h => ?_⟩
            rcases List.mem_append.1 h with h | h
            · exact lu c h
            · rw [List.mem_singleton.1 h]; exact c0u
          · refine ⟨by rw [List.length_append]; omega, fun c h => ?_⟩
            rcases List.mem_append.1 h with h | h
            · exact lu c (cut_mm h)
            · exact lu c (cut_mm h)
          · refine ⟨by rw [List.length_append, List.length_append]; simp only [List.length_cons, List.length_nil]; omega, fun c h => ?_⟩
            rcases List.mem_append.1 h with h | h
            · rcases List.mem_append.1 h with h | h
              · exact lu c (cut_mm h)
              · rw [List.mem_singleton.1 h]; exact c0u
            · exact lu c (cut_mm h)
          · refine ⟨by rw [List.length_append]; simp only [List.length_cons, List.length_nil]; omega, fun c h => ?_⟩
            rcases List.mem_append.1 h with h | h
            · exact lu c (cut_mm h)
            · rw [List.mem_singleton.1 h]; exact n0u
        · simp (config := {implicitDefEqProofs := false}) only [v_var, v_get, v_non, v_bl, v_int, v_str, v_cint, v_cstr, v_bin, v_bin1, v_bin2, v_neg, v_neg1, v_not, v_not1, v_NB, v_Bl, v_cmp, v_cmp1, v_cmp2, v_chain, v_ch1, v_ch2, v_ch3t, v_ch3f, v_and, v_and1, v_and2t, v_and2f, v_or, v_or1, v_or2t, v_or2f, v_ite, v_itet, v_itef, v_tup, v_tup1, v_newl, v_newl1, v_dct, v_dct1, v_idx, v_idx1, v_idx2, v_slc, v_slc1, v_slc2, v_slc3, v_rev, v_rev1, v_call, v_call1, v_kw, v_kw1, v_kw2, v_b1, v_b11, v_bs, v_bs1, v_min2, v_min, v_mini, v_max2, v_max, v_maxi, v_join, v_join1, v_join2, v_join2t, v_join3, v_m0, v_m01, v_m1, v_m11, v_m12, v_isi, v_isi1, v_xfld, v_xis, v_tval, v_val1, v_tnot, v_TN, v_tand, v_TAt, v_TAf, v_tor, v_TOt, v_TOf, v_tite, v_TIt, v_TIf, v_yes, v_pn, v_ps, v_p1, v_nil, v_cons, v_a1, v_a2, v_comp, v_cp, v_cpF, v_cpG, v_cpBt, v_cpBf, v_some, v_cp2, v_lst, v_l1, v_qval, v_q1, v_q2, v_rng1, v_rng2, v_r2, v_enm, v_en1, v_zip, v_z1, v_z2t, v_irev, v_rvl, v_rvt, v_ival, v_iv1, w_skip, w_seq, w_asg, w_asg1, w_asg2, w_par, w_par1, w_sub, w_sub1, w_sub2, w_sub3, w_put, w_aug, w_aug1, w_aug2, w_aug3, w_augs, w_as1, w_as2, w_as3, w_as4, w_as5, w_exp, w_nx, w_ret, w_rt, w_ite, w_ift, w_iff, w_whil, w_for, w_for1, w_forF, w_forG, w_brk, w_cont, w_rais, w_rs1, w_rs2, w_try, w_tryok, w_tryx, g_var, g_nil, g_cons, g_tg, g_many0, g_many, g_wipe0, g_wipe, t_non, t_bl, t_int, t_str, t_tup, t_ref, t_lst, t_rol, t_dct, q_tup, q_str, q_ref, q_lget, q_lst, q_rol, q_il, q_it, q_is, q_gt, q_gs, q_gn, q_gr, c_eqi, c_eqs, c_eqb, c_nei, c_nes, c_neb, c_lt, c_le, c_gt, c_ge, c_ltS, c_isnon, c_nisnon, c_isbl, c_nisbl, c_isint, c_nisint, c_isstr, c_nisstr, c_istup, c_nistup, c_isref, c_nisref, c_in, c_nin, c_mstr, c_mtup, c_mref, c_mlst, c_mdst, c_mdin, b_addi, b_adds, b_addt, b_sub, b_mul, b_muls, b_fdiv, b_mod, b_pow, b_shl, b_aug, b_augs, b_augu, i_tup, i_str, i_chs, i_ref, i_lst, i_rol, i_dst, i_din, Ev.s_tup, Ev.s_str', Ev.s_ref, Ev.s_lst, r_str, r_ref, r_lst, l_str, l_tup, l_ref, l_lst, l_rol, l_dct, l_abs, l_int, l_intb, l_ord, z_tl, z_tt, z_ll, z_lt, z_any, z_all, z_sum, z_any1, z_all1, z_sum1, z_srt, z_srs, z_sri, y_tup_tuple, y_tup_list, y_tup_bool, y_tup_int, y_tup_str, y_tup_dict, y_str_tuple, y_str_list, y_str_bool, y_str_int, y_str_str, y_str_dict, y_int_tuple, y_int_list, y_int_bool, y_int_int, y_int_str, y_int_dict, y_bl_tuple, y_bl_list, y_bl_bool, y_bl_int, y_bl_str, y_bl_dict, y_non_tuple, y_non_list, y_non_bool, y_non_int, y_non_str, y_non_dict, m_pop, m_pop1, m_rca, m_app, m_app1, p_ref, p_get, p_gst, p_gin, SZ, Nat.reduceLT, Nat.reduceBEq, Int.reduceLT, Int.reduceLE, Int.reduceBEq, Int.reduceNeg, Int.reduceAdd, Int.reduceSub, Int.reduceMul, R.bind_ok, R.bind_exc, R.quiet_ok, R.to_ok, R.to_exc, RS.nxt_nx, RS.nxt_rt, RS.nxt_bk, RS.nxt_ct, RS.nxt_exc, RS.hush_nx, RS.hush_rt, RS.turn_nx, RS.turn_ct, RS.turn_bk, RS.turn_rt, RS.turn_exc, ok?_some, chk_true, Option.bind_some, Option.map_some, Option.isSome_some, List.getElem?_cons_zero, List.getElem?_cons_succ, List.getElem?_nil, List.set_cons_zero, List.set_cons_succ, List.length_cons, List.length_nil, Nat.reduceAdd, Nat.reduceLeDiff, decide_true, decide_false, Bool.not_true, Bool.not_false, Bool.and_self, Bool.true_and, Bool.and_true, Bool.or_true, Bool.true_or, Bool.or_false, Bool.false_or, if_true, List.nil_append, List.cons_append, Nat.zero_add, List.map_cons, List.map_nil, List.replicate_succ, List.replicate_zero, Nat.reduceSub, List.isEmpty_cons, List.isEmpty_nil, g, he, p1, hv2, atI_map, q1, p2, q2, q3, k1, k2, k3, k4, k5, List.length_append, p3, r4, q4]
      · have hv2 : (v1 == 0) = false := beq_eq_false_iff_ne.2 hv
        refine ⟨j1, cs, b1, b2, hj1, ⟨by omega, hc.2.2⟩, ?_⟩
        simp (config := {implicitDefEqProofs := false}) only [v_var, v_get, v_non, v_bl, v_int, v_str, v_cint, v_cstr, v_bin, v_bin1, v_bin2, v_neg, v_neg1, v_not, v_not1, v_NB, v_Bl, v_cmp, v_cmp1, v_cmp2, v_chain, v_ch1, v_ch2, v_ch3t, v_ch3f, v_and, v_and1, v_and2t, v_and2f, v_or, v_or1, v_or2t, v_or2f, v_ite, v_itet, v_itef, v_tup, v_tup1, v_newl, v_newl1, v_dct, v_dct1, v_idx, v_idx1, v_idx2, v_slc, v_slc1, v_slc2, v_slc3, v_rev, v_rev1, v_call, v_call1, v_kw, v_kw1, v_kw2, v_b1, v_b11, v_bs, v_bs1, v_min2, v_min, v_mini, v_max2, v_max, v_maxi, v_join, v_join1, v_join2, v_join2t, v_join3, v_m0, v_m01, v_m1, v_m11, v_m12, v_isi, v_isi1, v_xfld, v_xis, v_tval, v_val1, v_tnot, v_TN, v_tand, v_TAt, v_TAf, v_tor, v_TOt, v_TOf, v_tite, v_TIt, v_TIf, v_yes, v_pn, v_ps, v_p1, v_nil, v_cons, v_a1, v_a2, v_comp, v_cp, v_cpF, v_cpG, v_cpBt, v_cpBf, v_some, v_cp2, v_lst, v_l1, v_qval, v_q1, v_q2, v_rng1, v_rng2, v_r2, v_enm, v_en1, v_zip, v_z1, v_z2t, v_irev, v_rvl, v_rvt, v_ival, v_iv1, w_skip, w_seq, w_asg, w_asg1, w_asg2, w_par, w_par1, w_sub, w_sub1, w_sub2, w_sub3, w_put, w_aug, w_aug1, w_aug2, w_aug3, w_augs, w_as1, w_as2, w_as3, w_as4, w_as5, w_exp, w_nx, w_ret, w_rt, w_ite, w_ift, w_iff, w_whil, w_for, w_for1, w_forF, w_forG, w_brk, w_cont, w_rais, w_rs1, w_rs2, w_try, w_tryok, w_tryx, g_var, g_nil, g_cons, g_tg, g_many0, g_many, g_wipe0, g_wipe, t_non, t_bl, t_int, t_str, t_tup, t_ref, t_lst, t_rol, t_dct, q_tup, q_str, q_ref, q_lget, q_lst, q_rol, q_il, q_it, q_is, q_gt, q_gs, q_gn, q_gr, c_eqi, c_eqs, c_eqb, c_nei, c_nes, c_neb, c_lt, c_le, c_gt, c_ge, c_ltS, c_isnon, c_nisnon, c_isbl, c_nisbl, c_isint, c_nisint, c_isstr, c_nisstr, c_istup, c_nistup, c_isref, c_nisref, c_in, c_nin, c_mstr, c_mtup, c_mref, c_mlst, c_mdst, c_mdin, b_addi, b_adds, b_addt, b_sub, b_mul, b_muls, b_fdiv, b_mod, b_pow, b_shl, b_aug, b_augs, b_augu, i_tup, i_str, i_chs, i_ref, i_lst, i_rol, i_dst, i_din, Ev.s_tup, Ev.s_str', Ev.s_ref, Ev.s_lst, r_str, r_ref, r_lst, l_str, l_tup, l_ref, l_lst, l_rol, l_dct, l_abs, l_int, l_intb, l_ord, z_tl, z_tt, z_ll, z_lt, z_any, z_all, z_sum, z_any1, z_all1, z_sum1, z_srt, z_srs, z_sri, y_tup_tuple, y_tup_list, y_tup_bool, y_tup_int, y_tup_str, y_tup_dict, y_str_tuple, y_str_list, y_str_bool, y_str_int, y_str_str, y_str_dict, y_int_tuple, y_int_list, y_int_bool, y_int_int, y_int_str, y_int_dict, y_bl_tuple, y_bl_list, y_bl_bool, y_bl_int, y_bl_str, y_bl_dict, y_non_tuple, y_non_list, y_non_bool, y_non_int, y_non_str, y_non_dict, m_pop, m_pop1, m_rca, m_app, m_app1, p_ref, p_get, p_gst, p_gin, SZ, Nat.reduceLT, Nat.reduceBEq, Int.reduceLT, Int.reduceLE, Int.reduceBEq, Int.reduceNeg, Int.reduceAdd, Int.reduceSub, Int.reduceMul, R.bind_ok, R.bind_exc, R.quiet_ok, R.to_ok, R.to_exc, RS.nxt_nx, RS.nxt_rt, RS.nxt_bk, RS.nxt_ct, RS.nxt_exc, RS.hush_nx, RS.hush_rt, RS.turn_nx, RS.turn_ct, RS.turn_bk, RS.turn_rt, RS.turn_exc, ok?_some, chk_true, Option.bind_some, Option.map_some, Option.isSome_some, List.getElem?_cons_zero, List.getElem?_cons_succ, List.getElem?_nil, List.set_cons_zero, List.set_cons_succ, List.length_cons, List.length_nil, Nat.reduceAdd, Nat.reduceLeDiff, decide_true, decide_false, Bool.not_true, Bool.not_false, Bool.and_self, Bool.true_and, Bool.and_true, Bool.or_true, Bool.true_or, Bool.or_false, Bool.false_or, if_true, List.nil_append, List.cons_append, Nat.zero_add, List.map_cons, List.map_nil, List.replicate_succ, List.replicate_zero, Nat.reduceSub, List.isEmpty_cons, List.isEmpty_nil, g, he, p1, hv2]
theorem bk_put (n : Nat) (wd : Bool) (sc : List Int) (j : Jug) (us : List Nat) (ws : List (List Nat)) (hw : Wg us ws) (hl : ws.length ≤ 1000) (B : Stt) (w : List Nat) (hu : ∀ c ∈ w, c ∈ us) (a0 a2 a3 a4 a5 a6 a7 b1 b2 b3 b4 : Option D) :
    ∃ (ws' : List (List Nat)), Wg us ws' ∧ ws'.length ≤ ws.length + 1 ∧ iS (callN Lw.tb (n + 1)) none (.ite (.and (.val (.cmp .ne (.var 10) (.str []))) (.and (.val (.cmp .lt (.b1 .len (.var 10)) (.int 17))) (.val (.cmp .notin (.var 10) (.var 9))))) (.exp (.m1 .append (.var 9) (.var 10))) .skip) [a0, some (.bl wd), a2, a3, a4, a5, a6, a7, some (.str us), some (.ref (4 + B.length)), some (.str w), b1, b2, b3, b4] (jst sc j ++ (B ++ [.lst (ws.map .str)])) = .ok (.nx [a0, some (.bl wd), a2, a3, a4, a5, a6, a7, some (.str us), some (.ref (4 + B.length)), some (.str w), b1, b2, b3, b4]) (jst sc j ++ (B ++ [.lst (ws'.map .str)])) := by
  have g : ∀ (x : Ob), (jst sc j ++ (B ++ [x]))[4 + B.length]? = some x := fun x => by
    have := top1 (jst sc j) B x
    rwa [List.length_append] at this
  have st : ∀ (x y : Ob), (jst sc j ++ (B ++ [x])).set (4 + B.length) y = jst sc j ++ (B ++ [y]) := fun x y => by
    rw [← List.append_assoc, ← List.append_assoc, show 4 + B.length = (jst sc j ++ B).length by rw [List.length_append]; rfl, List.set_append_right _ _ (Nat.le_refl _), Nat.sub_self]; rfl
  by_cases h1 : w = []
  · subst h1
    refine ⟨ws, hw, by omega, ?_⟩
    simp (config := {implicitDefEqProofs := false}) only [v_var, v_get, v_non, v_bl, v_int, v_str, v_cint, v_cstr, v_bin, v_bin1, v_bin2, v_neg, v_neg1, v_not, v_not1, v_NB, v_Bl, v_cmp, v_cmp1, v_cmp2, v_chain, v_ch1, v_ch2, v_ch3t, v_ch3f, v_and, v_and1, v_and2t, v_and2f, v_or, v_or1, v_or2t, v_or2f, v_ite, v_itet, v_itef, v_tup, v_tup1, v_newl, v_newl1, v_dct, v_dct1, v_idx, v_idx1, v_idx2, v_slc, v_slc1, v_slc2, v_slc3, v_rev, v_rev1, v_call, v_call1, v_kw, v_kw1, v_kw2, v_b1, v_b11, v_bs, v_bs1, v_min2, v_min, v_mini, v_max2, v_max, v_maxi, v_join, v_join1, v_join2, v_join2t, v_join3, v_m0, v_m01, v_m1, v_m11, v_m12, v_isi, v_isi1, v_xfld, v_xis, v_tval, v_val1, v_tnot, v_TN, v_tand, v_TAt, v_TAf, v_tor, v_TOt, v_TOf, v_tite, v_TIt, v_TIf, v_yes, v_pn, v_ps, v_p1, v_nil, v_cons, v_a1, v_a2, v_comp, v_cp, v_cpF, v_cpG, v_cpBt, v_cpBf, v_some, v_cp2, v_lst, v_l1, v_qval, v_q1, v_q2, v_rng1, v_rng2, v_r2, v_enm, v_en1, v_zip, v_z1, v_z2t, v_irev, v_rvl, v_rvt, v_ival, v_iv1, w_skip, w_seq, w_asg, w_asg1, w_asg2, w_par, w_par1, w_sub, w_sub1, w_sub2, w_sub3, w_put, w_aug, w_aug1, w_aug2, w_aug3, w_augs, w_as1, w_as2, w_as3, w_as4, w_as5, w_exp, w_nx, w_ret, w_rt, w_ite, w_ift, w_iff, w_whil, w_for, w_for1, w_forF, w_forG, w_brk, w_cont, w_rais, w_rs1, w_rs2, w_try, w_tryok, w_tryx, g_var, g_nil, g_cons, g_tg, g_many0, g_many, g_wipe0, g_wipe, t_non, t_bl, t_int, t_str, t_tup, t_ref, t_lst, t_rol, t_dct, q_tup, q_str, q_ref, q_lget, q_lst, q_rol, q_il, q_it, q_is, q_gt, q_gs, q_gn, q_gr, c_eqi, c_eqs, c_eqb, c_nei, c_nes, c_neb, c_lt, c_le, c_gt, c_ge, c_ltS, c_isnon, c_nisnon, c_isbl, c_nisbl, c_isint, c_nisint, c_isstr, c_nisstr, c_istup, c_nistup, c_isref, c_nisref, c_in, c_nin, c_mstr, c_mtup, c_mref, c_mlst, c_mdst, c_mdin, b_addi, b_adds, b_addt, b_sub, b_mul, b_muls, b_fdiv, b_mod, b_pow, b_shl, b_aug, b_augs, b_augu, i_tup, i_str, i_chs, i_ref, i_lst, i_rol, i_dst, i_din, Ev.s_tup, Ev.s_str', Ev.s_ref, Ev.s_lst, r_str, r_ref, r_lst, l_str, l_tup, l_ref, l_lst, l_rol, l_dct, l_abs, l_int, l_intb, l_ord, z_tl, z_tt, z_ll, z_lt, z_any, z_all, z_sum, z_any1, z_all1, z_sum1, z_srt, z_srs, z_sri, y_tup_tuple, y_tup_list, y_tup_bool, y_tup_int, y_tup_str, y_tup_dict, y_str_tuple, y_str_list, y_str_bool, y_str_int, y_str_str, y_str_dict, y_int_tuple, y_int_list, y_int_bool, y_int_int, y_int_str, y_int_dict, y_bl_tuple, y_bl_list, y_bl_bool, y_bl_int, y_bl_str, y_bl_dict, y_non_tuple, y_non_list, y_non_bool, y_non_int, y_non_str, y_non_dict, m_pop, m_pop1, m_rca, m_app, m_app1, p_ref, p_get, p_gst, p_gin, SZ, Nat.reduceLT, Nat.reduceBEq, Int.reduceLT, Int.reduceLE, Int.reduceBEq, Int.reduceNeg, Int.reduceAdd, Int.reduceSub, Int.reduceMul, R.bind_ok, R.bind_exc, R.quiet_ok, R.to_ok, R.to_exc, RS.nxt_nx, RS.nxt_rt, RS.nxt_bk, RS.nxt_ct, RS.nxt_exc, RS.hush_nx, RS.hush_rt, RS.turn_nx, RS.turn_ct, RS.turn_bk, RS.turn_rt, RS.turn_exc, ok?_some, chk_true, Option.bind_some, Option.map_some, Option.isSome_some, List.getElem?_cons_zero, List.getElem?_cons_succ, List.getElem?_nil, List.set_cons_zero, List.set_cons_succ, List.length_cons, List.length_nil, Nat.reduceAdd, Nat.reduceLeDiff, decide_true, decide_false, Bool.not_true, Bool.not_false, Bool.and_self, Bool.true_and, Bool.and_true, Bool.or_true, Bool.true_or, Bool.or_false, Bool.false_or, if_true, List.nil_append, List.cons_append, Nat.zero_add, List.map_cons, List.map_nil, List.replicate_succ, List.replicate_zero, Nat.reduceSub, List.isEmpty_cons, List.isEmpty_nil, beq_self_eq_true]
  · have h2 : (w == []) = false := beq_eq_false_iff_ne.2 h1
    by_cases h3 : (w.length : Int) < 17
    · by_cases h4 : w ∈ ws
      · refine ⟨ws, hw, by omega, ?_⟩
        simp (config := {implicitDefEqProofs := false}) only [v_var, v_get, v_non, v_bl, v_int, v_str, v_cint, v_cstr, v_bin, v_bin1, v_bin2, v_neg, v_neg1, v_not, v_not1, v_NB, v_Bl, v_cmp, v_cmp1, v_cmp2, v_chain, v_ch1, v_ch2, v_ch3t, v_ch3f, v_and, v_and1, v_and2t, v_and2f, v_or, v_or1, v_or2t, v_or2f, v_ite, v_itet, v_itef, v_tup, v_tup1, v_newl, v_newl1, v_dct, v_dct1, v_idx, v_idx1, v_idx2, v_slc, v_slc1, v_slc2, v_slc3, v_rev, v_rev1, v_call, v_call1, v_kw, v_kw1, v_kw2, v_b1, v_b11, v_bs, v_bs1, v_min2, v_min, v_mini, v_max2, v_max, v_maxi, v_join, v_join1, v_join2, v_join2t, v_join3, v_m0, v_m01, v_m1, v_m11, v_m12, v_isi, v_isi1, v_xfld, v_xis, v_tval, v_val1, v_tnot, v_TN, v_tand, v_TAt, v_TAf, v_tor, v_TOt, v_TOf, v_tite, v_TIt, v_TIf, v_yes, v_pn, v_ps, v_p1, v_nil, v_cons, v_a1, v_a2, v_comp, v_cp, v_cpF, v_cpG, v_cpBt, v_cpBf, v_some, v_cp2, v_lst, v_l1, v_qval, v_q1, v_q2, v_rng1, v_rng2, v_r2, v_enm, v_en1, v_zip, v_z1, v_z2t, v_irev, v_rvl, v_rvt, v_ival, v_iv1, w_skip, w_seq, w_asg, w_asg1, w_asg2, w_par, w_par1, w_sub, w_sub1, w_sub2, w_sub3, w_put, w_aug, w_aug1, w_aug2, w_aug3, w_augs, w_as1, w_as2, w_as3, w_as4, w_as5, w_exp, w_nx, w_ret, w_rt, w_ite, w_ift, w_iff, w_whil, w_for, w_for1, w_forF, w_forG, w_brk, w_cont, w_rais, w_rs1, w_rs2, w_try, w_tryok, w_tryx, g_var, g_nil, g_cons, g_tg, g_many0, g_many, g_wipe0, g_wipe, t_non, t_bl, t_int, t_str, t_tup, t_ref, t_lst, t_rol, t_dct, q_tup, q_str, q_ref, q_lget, q_lst, q_rol, q_il, q_it, q_is, q_gt, q_gs, q_gn, q_gr, c_eqi, c_eqs, c_eqb, c_nei, c_nes, c_neb, c_lt, c_le, c_gt, c_ge, c_ltS, c_isnon, c_nisnon, c_isbl, c_nisbl, c_isint, c_nisint, c_isstr, c_nisstr, c_istup, c_nistup, c_isref, c_nisref, c_in, c_nin, c_mstr, c_mtup, c_mref, c_mlst, c_mdst, c_mdin, b_addi, b_adds, b_addt, b_sub, b_mul, b_muls, b_fdiv, b_mod, b_pow, b_shl, b_aug, b_augs, b_augu, i_tup, i_str, i_chs, i_ref, i_lst, i_rol, i_dst, i_din, Ev.s_tup, Ev.s_str', Ev.s_ref, Ev.s_lst, r_str, r_ref, r_lst, l_str, l_tup, l_ref, l_lst, l_rol, l_dct, l_abs, l_int, l_intb, l_ord, z_tl, z_tt, z_ll, z_lt, z_any, z_all, z_sum, z_any1, z_all1, z_sum1, z_srt, z_srs, z_sri, y_tup_tuple, y_tup_list, y_tup_bool, y_tup_int, y_tup_str, y_tup_dict, y_str_tuple, y_str_list, y_str_bool, y_str_int, y_str_str, y_str_dict, y_int_tuple, y_int_list, y_int_bool, y_int_int, y_int_str, y_int_dict, y_bl_tuple, y_bl_list, y_bl_bool, y_bl_int, y_bl_str, y_bl_dict, y_non_tuple, y_non_list, y_non_bool, y_non_int, y_non_str, y_non_dict, m_pop, m_pop1, m_rca, m_app, m_app1, p_ref, p_get, p_gst, p_gin, SZ, Nat.reduceLT, Nat.reduceBEq, Int.reduceLT, Int.reduceLE, Int.reduceBEq, Int.reduceNeg, Int.reduceAdd, Int.reduceSub, Int.reduceMul, R.bind_ok, R.bind_exc, R.quiet_ok, R.to_ok, R.to_exc, RS.nxt_nx, RS.nxt_rt, RS.nxt_bk, RS.nxt_ct, RS.nxt_exc, RS.hush_nx, RS.hush_rt, RS.turn_nx, RS.turn_ct, RS.turn_bk, RS.turn_rt, RS.turn_exc, ok?_some, chk_true, Option.bind_some, Option.map_some, Option.isSome_some, List.getElem?_cons_zero, List.getElem?_cons_succ, List.getElem?_nil, List.set_cons_zero, List.set_cons_succ, List.length_cons, List.length_nil, Nat.reduceAdd, Nat.reduceLeDiff, decide_true, decide_false, Bool.not_true, Bool.not_false, Bool.and_self, Bool.true_and, Bool.and_true, Bool.or_true, Bool.true_or, Bool.or_false, Bool.false_or, if_true, List.nil_append, List.cons_append, Nat.zero_add, List.map_cons, List.map_nil, List.replicate_succ, List.replicate_zero, Nat.reduceSub, List.isEmpty_cons, List.isEmpty_nil, h2, h3, g, inSeq_strs, h4]
      · have d1 : decide (ws.length < 16777216) = true := decide_eq_true (by omega)
        refine ⟨ws ++ [w], ⟨?_, ?_, ?_⟩, by rw [List.length_append]; simp, ?_⟩
        · rw [List.nodup_append]
          refine ⟨hw.nd, by simp, fun a ha b hb e => ?_⟩
          rw [List.mem_singleton.1 hb] at e
          exact h4 (e ▸ ha)
        · intro x hx
          rcases List.mem_append.1 hx with h | h
          · exact hw.wl x h
          · rw [List.mem_singleton.1 h]
            have : 0 < w.length := List.length_pos_iff.2 h1
            omega
        · intro x hx
          rcases List.mem_append.1 hx with h | h
          · exact hw.wu x h
          · rw [List.mem_singleton.1 h]; exact hu
        · rw [List.map_append, List.map_cons, List.map_nil]
          simp (config := {implicitDefEqProofs := false}) only [v_var, v_get, v_non, v_bl, v_int, v_str, v_cint, v_cstr, v_bin, v_bin1, v_bin2, v_neg, v_neg1, v_not, v_not1, v_NB, v_Bl, v_cmp, v_cmp1, v_cmp2, v_chain, v_ch1, v_ch2, v_ch3t, v_ch3f, v_and, v_and1, v_and2t, v_and2f, v_or, v_or1, v_or2t, v_or2f, v_ite, v_itet, v_itef, v_tup, v_tup1, v_newl, v_newl1, v_dct, v_dct1, v_idx, v_idx1, v_idx2, v_slc, v_slc1, v_slc2, v_slc3, v_rev, v_rev1, v_call, v_call1, v_kw, v_kw1, v_kw2, v_b1, v_b11, v_bs, v_bs1, v_min2, v_min, v_mini, v_max2, v_max, v_maxi, v_join, v_join1, v_join2, v_join2t, v_join3, v_m0, v_m01, v_m1, v_m11, v_m12, v_isi, v_isi1, v_xfld, v_xis, v_tval, v_val1, v_tnot, v_TN, v_tand, v_TAt, v_TAf, v_tor, v_TOt, v_TOf, v_tite, v_TIt, v_TIf, v_yes, v_pn, v_ps, v_p1, v_nil, v_cons, v_a1, v_a2, v_comp, v_cp, v_cpF, v_cpG, v_cpBt, v_cpBf, v_some, v_cp2, v_lst, v_l1, v_qval, v_q1, v_q2, v_rng1, v_rng2, v_r2, v_enm, v_en1, v_zip, v_z1, v_z2t, v_irev, v_rvl, v_rvt, v_ival, v_iv1, w_skip, w_seq, w_asg, w_asg1, w_asg2, w_par, w_par1, w_sub, w_sub1, w_sub2, w_sub3, w_put, w_aug, w_aug1, w_aug2, w_aug3, w_augs, w_as1, w_as2, w_as3, w_as4, w_as5, w_exp, w_nx, w_ret, w_rt, w_ite, w_ift, w_iff, w_whil, w_for, w_for1, w_forF, w_forG, w_brk, w_cont, w_rais, w_rs1, w_rs2, w_try, w_tryok, w_tryx, g_var, g_nil, g_cons, g_tg, g_many0, g_many, g_wipe0, g_wipe, t_non, t_bl, t_int, t_str, t_tup, t_ref, t_lst, t_rol, t_dct, q_tup, q_str, q_ref, q_lget, q_lst, q_rol, q_il, q_it, q_is, q_gt, q_gs, q_gn, q_gr, c_eqi, c_eqs, c_eqb, c_nei, c_nes, c_neb, c_lt, c_le, c_gt, c_ge, c_ltS, c_isnon, c_nisnon, c_isbl, c_nisbl, c_isint, c_nisint, c_isstr, c_nisstr, c_istup, c_nistup, c_isref, c_nisref, c_in, c_nin, c_mstr, c_mtup, c_mref, c_mlst, c_mdst, c_mdin, b_addi, b_adds, b_addt, b_sub, b_mul, b_muls, b_fdiv, b_mod, b_pow, b_shl, b_aug, b_augs, b_augu, i_tup, i_str, i_chs, i_ref, i_lst, i_rol, i_dst, i_din, Ev.s_tup, Ev.s_str', Ev.s_ref, Ev.s_lst, r_str, r_ref, r_lst, l_str, l_tup, l_ref, l_lst, l_rol, l_dct, l_abs, l_int, l_intb, l_ord, z_tl, z_tt, z_ll, z_lt, z_any, z_all, z_sum, z_any1, z_all1, z_sum1, z_srt, z_srs, z_sri, y_tup_tuple, y_tup_list, y_tup_bool, y_tup_int, y_tup_str, y_tup_dict, y_str_tuple, y_str_list, y_str_bool, y_str_int, y_str_str, y_str_dict, y_int_tuple, y_int_list, y_int_bool, y_int_int, y_int_str, y_int_dict, y_bl_tuple, y_bl_list, y_bl_bool, y_bl_int, y_bl_str, y_bl_dict, y_non_tuple, y_non_list, y_non_bool, y_non_int, y_non_str, y_non_dict, m_pop, m_pop1, m_rca, m_app, m_app1, p_ref, p_get, p_gst, p_gin, SZ, Nat.reduceLT, Nat.reduceBEq, Int.reduceLT, Int.reduceLE, Int.reduceBEq, Int.reduceNeg, Int.reduceAdd, Int.reduceSub, Int.reduceMul, R.bind_ok, R.bind_exc, R.quiet_ok, R.to_ok, R.to_exc, RS.nxt_nx, RS.nxt_rt, RS.nxt_bk, RS.nxt_ct, RS.nxt_exc, RS.hush_nx, RS.hush_rt, RS.turn_nx, RS.turn_ct, RS.turn_bk, RS.turn_rt, RS.turn_exc, ok?_some, chk_true, Option.bind_some, Option.map_some, Option.isSome_some, List.getElem?_cons_zero, List.getElem?_cons_succ, List.getElem?_nil, List.set_cons_zero, List.set_cons_succ, List.length_cons, List.length_nil, Nat.reduceAdd, Nat.reduceLeDiff, decide_true, decide_false, Bool.not_true, Bool.not_false, Bool.and_self, Bool.true_and, Bool.and_true, Bool.or_true, Bool.true_or, Bool.or_false, Bool.false_or, if_true, List.nil_append, List.cons_append, Nat.zero_add, List.map_cons, List.map_nil, List.replicate_succ, List.replicate_zero, Nat.reduceSub, List.isEmpty_cons, List.isEmpty_nil, h2, h3, g, inSeq_strs, h4, List.length_map, d1, st]
    · refine ⟨ws, hw, by omega, ?_⟩
      simp (config := {implicitDefEqProofs := false}) only [v_var, v_get, v_non, v_bl, v_int, v_str, v_cint, v_cstr, v_bin, v_bin1, v_bin2, v_neg, v_neg1, v_not, v_not1, v_NB, v_Bl, v_cmp, v_cmp1, v_cmp2, v_chain, v_ch1, v_ch2, v_ch3t, v_ch3f, v_and, v_and1, v_and2t, v_and2f, v_or, v_or1, v_or2t, v_or2f, v_ite, v_itet, v_itef, v_tup, v_tup1, v_newl, v_newl1, v_dct, v_dct1, v_idx, v_idx1, v_idx2, v_slc, v_slc1, v_slc2, v_slc3, v_rev, v_rev1, v_call, v_call1, v_kw, v_kw1, v_kw2, v_b1, v_b11, v_bs, v_bs1, v_min2, v_min, v_mini, v_max2, v_max, v_maxi, v_join, v_join1, v_join2, v_join2t, v_join3, v_m0, v_m01, v_m1, v_m11, v_m12, v_isi, v_isi1, v_xfld, v_xis, v_tval, v_val1, v_tnot, v_TN, v_tand, v_TAt, v_TAf, v_tor, v_TOt, v_TOf, v_tite, v_TIt, v_TIf, v_yes, v_pn, v_ps, v_p1, v_nil, v_cons, v_a1, v_a2, v_comp, v_cp, v_cpF, v_cpG, v_cpBt, v_cpBf, v_some, v_cp2, v_lst, v_l1, v_qval, v_q1, v_q2, v_rng1, v_rng2, v_r2, v_enm, v_en1, v_zip, v_z1, v_z2t, v_irev, v_rvl, v_rvt, v_ival, v_iv1, w_skip, w_seq, w_asg, w_asg1, w_asg2, w_par, w_par1, w_sub, w_sub1, w_sub2, w_sub3, w_put, w_aug, w_aug1, w_aug2, w_aug3, w_augs, w_as1, w_as2, w_as3, w_as4, w_as5, w_exp, w_nx, w_ret, w_rt, w_ite, w_ift, w_iff, w_whil, w_for, w_for1, w_forF, w_forG, w_brk, w_cont, w_rais, w_rs1, w_rs2, w_try, w_tryok, w_tryx, g_var, g_nil, g_cons, g_tg, g_many0, g_many, g_wipe0, g_wipe, t_non, t_bl, t_int, t_str, t_tup, t_ref, t_lst, t_rol, t_dct, q_tup, q_str, q_ref, q_lget, q_lst, q_rol, q_il, q_it, q_is, q_gt, q_gs, q_gn, q_gr, c_eqi, c_eqs, c_eqb, c_nei, c_nes, c_neb, c_lt, c_le, c_gt, c_ge, c_ltS, c_isnon, c_nisnon, c_isbl, c_nisbl, c_isint, c_nisint, c_isstr, c_nisstr, c_istup, c_nistup, c_isref, c_nisref, c_in, c_nin, c_mstr, c_mtup, c_mref, c_mlst, c_mdst, c_mdin, b_addi, b_adds, b_addt, b_sub, b_mul, b_muls, b_fdiv, b_mod, b_pow, b_shl, b_aug, b_augs, b_augu, i_tup, i_str, i_chs, i_ref, i_lst, i_rol, i_dst, i_din, Ev.s_tup, Ev.s_str', Ev.s_ref, Ev.s_lst, r_str, r_ref, r_lst, l_str, l_tup, l_ref, l_lst, l_rol, l_dct, l_abs, l_int, l_intb, l_ord, z_tl, z_tt, z_ll, z_lt, z_any, z_all, z_sum, z_any1, z_all1, z_sum1, z_srt, z_srs, z_sri, y_tup_tuple, y_tup_list, y_tup_bool, y_tup_int, y_tup_str, y_tup_dict, y_str_tuple, y_str_list, y_str_bool, y_str_int, y_str_str, y_str_dict, y_int_tuple, y_int_list, y_int_bool, y_int_int, y_int_str, y_int_dict, y_bl_tuple, y_bl_list, y_bl_bool, y_bl_int, y_bl_str, y_bl_dict, y_non_tuple, y_non_list, y_non_bool, y_non_int, y_non_str, y_non_dict, m_pop, m_pop1, m_rca, m_app, m_app1, p_ref, p_get, p_gst, p_gin, SZ, Nat.reduceLT, Nat.reduceBEq, Int.reduceLT, Int.reduceLE, Int.reduceBEq, Int.reduceNeg, Int.reduceAdd, Int.reduceSub, Int.reduceMul, R.bind_ok, R.bind_exc, R.quiet_ok, R.to_ok, R.to_exc, RS.nxt_nx, RS.nxt_rt, RS.nxt_bk, RS.nxt_ct, RS.nxt_exc, RS.hush_nx, RS.hush_rt, RS.turn_nx, RS.turn_ct, RS.turn_bk, RS.turn_rt, RS.turn_exc, ok?_some, chk_true, Option.bind_some, Option.map_some, Option.isSome_some, List.getElem?_cons_zero, List.getElem?_cons_succ, List.getElem?_nil, List.set_cons_zero, List.set_cons_succ, List.length_cons, List.length_nil, Nat.reduceAdd, Nat.reduceLeDiff, decide_true, decide_false, Bool.not_true, Bool.not_false, Bool.and_self, Bool.true_and, Bool.and_true, Bool.or_true, Bool.true_or, Bool.or_false, Bool.false_or, if_true, List.nil_append, List.cons_append, Nat.zero_add, List.map_cons, List.map_nil, List.replicate_succ, List.replicate_zero, Nat.reduceSub, List.isEmpty_cons, List.isEmpty_nil, h2, h3]
end Lk.K10

end
section
set_option linter.all false
set_option maxRecDepth 100000
namespace Lk.K10
open PySem L2 Ev
theorem bk_join (K : Cal) {a0 a1 a2 a3 a4 a5 a6 a7 a8 a9 b0 b1 b2 b3 b4 : Option D} (ks : List (List Nat × List Nat)) (g : Gd) (s : Stt) (hg : g.stand s) : loopL g (cpF K none [14] (.var 14) .yes (.idx (.var 14) (.int 1)) [a0, a1, a2, a3, a4, a5, a6, a7, a8, a9, b0, b1, b2, b3, b4]) (ks.map keyD) s = .ok ((ks.map (·.2)).map .str) s := by
  rw [loopL_map1 (g := g) keyD (fun k => D.str k.2) hg (fun k hk => ?_), List.map_map]; rfl
  unfold keyD
  simp (config := {implicitDefEqProofs := false}) only [v_var, v_get, v_non, v_bl, v_int, v_str, v_cint, v_cstr, v_bin, v_bin1, v_bin2, v_neg, v_neg1, v_not, v_not1, v_NB, v_Bl, v_cmp, v_cmp1, v_cmp2, v_chain, v_ch1, v_ch2, v_ch3t, v_ch3f, v_and, v_and1, v_and2t, v_and2f, v_or, v_or1, v_or2t, v_or2f, v_ite, v_itet, v_itef, v_tup, v_tup1, v_newl, v_newl1, v_dct, v_dct1, v_idx, v_idx1, v_idx2, v_slc, v_slc1, v_slc2, v_slc3, v_rev, v_rev1, v_call, v_call1, v_kw, v_kw1, v_kw2, v_b1, v_b11, v_bs, v_bs1, v_min2, v_min, v_mini, v_max2, v_max, v_maxi, v_join, v_join1, v_join2, v_join2t, v_join3, v_m0, v_m01, v_m1, v_m11, v_m12, v_isi, v_isi1, v_xfld, v_xis, v_tval, v_val1, v_tnot, v_TN, v_tand, v_TAt, v_TAf, v_tor, v_TOt, v_TOf, v_tite, v_TIt, v_TIf, v_yes, v_pn, v_ps, v_p1, v_nil, v_cons, v_a1, v_a2, v_comp, v_cp, v_cpF, v_cpG, v_cpBt, v_cpBf, v_some, v_cp2, v_lst, v_l1, v_qval, v_q1, v_q2, v_rng1, v_rng2, v_r2, v_enm, v_en1, v_zip, v_z1, v_z2t, v_irev, v_rvl, v_rvt, v_ival, v_iv1, w_skip, w_seq, w_asg, w_asg1, w_asg2, w_par, w_par1, w_sub, w_sub1, w_sub2, w_sub3, w_put, w_aug, w_aug1, w_aug2, w_aug3, w_augs, w_as1, w_as2, w_as3, w_as4, w_as5, w_exp, w_nx, w_ret, w_rt, w_ite, w_ift, w_iff, w_whil, w_for, w_for1, w_forF, w_forG, w_brk, w_cont, w_rais, w_rs1, w_rs2, w_try, w_tryok, w_tryx, g_var, g_nil, g_cons, g_tg, g_many0, g_many, g_wipe0, g_wipe, t_non, t_bl, t_int, t_str, t_tup, t_ref, t_lst, t_rol, t_dct, q_tup, q_str, q_ref, q_lget, q_lst, q_rol, q_il, q_it, q_is, q_gt, q_gs, q_gn, q_gr, c_eqi, c_eqs, c_eqb, c_nei, c_nes, c_neb, c_lt, c_le, c_gt, c_ge, c_ltS, c_isnon, c_nisnon, c_isbl, c_nisbl, c_isint, c_nisint, c_isstr, c_nisstr, c_istup, c_nistup, c_isref, c_nisref, c_in, c_nin, c_mstr, c_mtup, c_mref, c_mlst, c_mdst, c_mdin, b_addi, b_adds, b_addt, b_sub, b_mul, b_muls, b_fdiv, b_mod, b_pow, b_shl, b_aug, b_augs, b_augu, i_tup, i_str, i_chs, i_ref, i_lst, i_rol, i_dst, i_din, Ev.s_tup, Ev.s_str', Ev.s_ref, Ev.s_lst, r_str, r_ref, r_lst, l_str, l_tup, l_ref, l_lst, l_rol, l_dct, l_abs, l_int, l_intb, l_ord, z_tl, z_tt, z_ll, z_lt, z_any, z_all, z_sum, z_any1, z_all1, z_sum1, z_srt, z_srs, z_sri, y_tup_tuple, y_tup_list, y_tup_bool, y_tup_int, y_tup_str, y_tup_dict, y_str_tuple, y_str_list, y_str_bool, y_str_int, y_str_str, y_str_dict, y_int_tuple, y_int_list, y_int_bool, y_int_int, y_int_str, y_int_dict, y_bl_tuple, y_bl_list, y_bl_bool, y_bl_int, y_bl_str, y_bl_dict, y_non_tuple, y_non_list, y_non_bool, y_non_int, y_non_str, y_non_dict, m_pop, m_pop1, m_rca, m_app, m_app1, p_ref, p_get, p_gst, p_gin, SZ, Nat.reduceLT, Nat.reduceBEq, Int.reduceLT, Int.reduceLE, Int.reduceBEq, Int.reduceNeg, Int.reduceAdd, Int.reduceSub, Int.reduceMul, R.bind_ok, R.bind_exc, R.quiet_ok, R.to_ok, R.to_exc, RS.nxt_nx, RS.nxt_rt, RS.nxt_bk, RS.nxt_ct, RS.nxt_exc, RS.hush_nx, RS.hush_rt, RS.turn_nx, RS.turn_ct, RS.turn_bk, RS.turn_rt, RS.turn_exc, ok?_some, chk_true, Option.bind_some, Option.map_some, Option.isSome_some, List.getElem?_cons_zero, List.getElem?_cons_succ, List.getElem?_nil, List.set_cons_zero, List.set_cons_succ, List.length_cons, List.length_nil, Nat.reduceAdd, Nat.reduceLeDiff, decide_true, decide_false, Bool.not_true, Bool.not_false, Bool.and_self, Bool.true_and, Bool.and_true, Bool.or_true, Bool.true_or, Bool.or_false, Bool.false_or, if_true, List.nil_append, List.cons_append, Nat.zero_add, List.map_cons, List.map_nil, List.replicate_succ, List.replicate_zero, Nat.reduceSub, List.isEmpty_cons, List.isEmpty_nil]
  rfl
structure Kg (keys : List (List Nat × List Nat)) : Prop where
  kl : ∀ k ∈ keys, 1 ≤ k.2.length ∧ k.2.length ≤ 3
  ku : ∀ k ∈ keys, ∀ c ∈ k.2, c ∈ abc
def usedK (keys : List (List Nat × List Nat)) : List Nat := (keys.map (·.2)).flatten
theorem Kg.len {keys : List (List Nat × List Nat)} (h : Kg keys) : keys.length ≤ (usedK keys).length ∧ (usedK keys).length ≤ 3 * keys.length := by
  unfold usedK
  induction keys with
  | nil => exact ⟨Nat.le_refl _, Nat.le_refl _⟩
  | cons k ks ih =>
    have h2 := ih ⟨fun x hx => h.kl x (List.mem_cons_of_mem _ hx), fun x hx => h.ku x (List.mem_cons_of_mem _ hx)⟩
    have h3 := h.kl k (List.mem_cons_self ..)
    simp only [List.map_cons, List.flatten_cons, List.length_append, List.length_cons]
    omega
theorem Kg.abc {keys : List (List Nat × List Nat)} (h : Kg keys) : ∀ c ∈ usedK keys, c ∈ abc := by
  intro c hc
  unfold usedK at hc
  obtain ⟨l, hl, hc⟩ := List.mem_flatten.1 hc
  obtain ⟨k, hk, rfl⟩ := List.mem_map.1 hl
  exact h.ku k hk c hc
structure Kd (st : Int) (keys : List (List Nat × List Nat)) : Prop where
  g : Kg keys
  nd : (usedK keys).Nodup
  fr : ∀ c ∈ usedK keys, ∃ i : Int, 0 ≤ i ∧ i < (usedK keys).length ∧ c = sgn st i
theorem usedK_app (keys : List (List Nat × List Nat)) (k : List Nat × List Nat) : usedK (keys ++ [k]) = usedK keys ++ k.2 := by
  unfold usedK
  rw [List.map_append, List.flatten_append]
  simp
theorem Kd.add {st : Int} {keys : List (List Nat × List Nat)} (h : Kd st keys) {m : Nat} (nm ls : List Nat) (hm : 1 ≤ m ∧ m ≤ 3) (hl : ((usedK keys).length : Int) + m ≤ 26) (hp : ls.Perm (row st (usedK keys).length m)) : Kd st (keys ++ [(nm, ls)]) := by
  have len : ls.length = m := by rw [hp.length_eq]; exact row_len _ _ _
  refine ⟨⟨fun k hk => ?_, fun k hk => ?_⟩, ?_, ?_⟩
  · rcases List.mem_append.1 hk with q | q
    · exact h.g.kl k q
    · rw [List.mem_singleton.1 q]; show 1 ≤ ls.length ∧ ls.length ≤ 3; omega
  · rcases List.mem_append.1 hk with q | q
    · exact h.g.ku k q
    · rw [List.mem_singleton.1 q]
      intro c hc
      obtain ⟨i, _, e⟩ := row_mem (hp.mem_iff.1 hc)
      rw [e]; exact sgn_abc _ _
  · rw [usedK_app, List.nodup_append]
    refine ⟨h.nd, hp.nodup_iff.2 (row_nodup (by omega) hl), fun a ha b hb e => ?_⟩
    obtain ⟨i, i1, i2, i3⟩ := h.fr a ha
    obtain ⟨k, k1, k2⟩ := row_mem (hp.mem_iff.1 hb)
    have := sgn_inj (st := st) (i := i) (j := ((usedK keys).length : Int) + k) i1 (by omega) (by omega) (by omega) (by rw [← i3, ← k2]; exact e)
    omega
  · intro c hc
    rw [usedK_app] at hc ⊢
    rw [List.length_append]
    show ∃ i : Int, 0 ≤ i ∧ i < (((usedK keys).length + ls.length : Nat) : Int) ∧ _
    rcases List.mem_append.1 hc with q | q
    · obtain ⟨i, i1, i2, i3⟩ := h.fr c q
      exact ⟨i, i1, by omega, i3⟩
    · obtain ⟨k, k1, k2⟩ := row_mem (hp.mem_iff.1 q)
      exact ⟨((usedK keys).length : Int) + k, by omega, by omega, k2⟩
theorem bk_loop1 (n : Nat) (wd : Bool) (sc : List Int) (j : Jug) (hj : j.ok pl) (st : Int) (m : Nat) (hm : m ≤ if wd then 12 else 4) :
    ∃ (j' : Jug) (keys : List (List Nat × List Nat)) (junk : Stt) (x3 x5 x7 x8 : Option D), j'.ok pl ∧ Kd st keys ∧ keys.length = m ∧ loopF [] (forF (callN Lw.tb (n + 1)) none (.var 3) (.seq (.asg (.var 7) (.bin .add (.int 1) (.call 6 (.cons (.var 0) (.cons (.str [108, 101, 116, 116, 101, 114, 115]) (.cons (.ite (.val (.var 1)) (.int 2) (.int 3)) .nil)))))) (.seq (.asg (.var 8) (.newl (.comp [13] (.var 13) (.rng1 (.var 7)) .yes (.idx (.str [97, 98, 99, 100, 101, 102, 103, 104, 105, 106, 107, 108, 109, 110, 111, 112, 113, 114, 115, 116, 117, 118, 119, 120, 121, 122]) (.bin .mod (.b1 .int (.bin .add (.bin .add (.var 4) (.var 5)) (.var 13))) (.int 26)))))) (.seq (.aug 5 .add (.var 7)) (.exp (.m1 .append (.var 6) (.tup (.cons (.idx (.var 2) (.var 3)) (.cons (.join (.str []) (.val (.bs .sorted (.val (.var 8))))) .nil))))))))) (rngL 0 1 m) [some (.ref 3), some (.bl wd), some nmD, none, some (.int st), some (.int 0), some (.ref 4), none, none, none, none, none, none, none, none] (jst sc j ++ [.lst []]) = .ok (.nx [some (.ref 3), some (.bl wd), some nmD, x3, some (.int st), x5, some (.ref 4), x7, x8, none, none, none, none, none, none]) (jst sc j' ++ (.lst (keys.map keyD) :: junk)) := by
  have hm2 : m ≤ 12 := by cases wd <;> simp at hm <;> omega
  have h := loopF_rng0 (f := forF (callN Lw.tb (n + 1)) none (.var 3) (.seq (.asg (.var 7) (.bin .add (.int 1) (.call 6 (.cons (.var 0) (.cons (.str [108, 101, 116, 116, 101, 114, 115]) (.cons (.ite (.val (.var 1)) (.int 2) (.int 3)) .nil)))))) (.seq (.asg (.var 8) (.newl (.comp [13] (.var 13) (.rng1 (.var 7)) .yes (.idx (.str [97, 98, 99, 100, 101, 102, 103, 104, 105, 106, 107, 108, 109, 110, 111, 112, 113, 114, 115, 116, 117, 118, 119, 120, 121, 122]) (.bin .mod (.b1 .int (.bin .add (.bin .add (.var 4) (.var 5)) (.var 13))) (.int 26)))))) (.seq (.aug 5 .add (.var 7)) (.exp (.m1 .append (.var 6) (.tup (.cons (.idx (.var 2) (.var 3)) (.cons (.join (.str []) (.val (.bs .sorted (.val (.var 8))))) .nil))))))))) (P := fun i e s => ∃ (j' : Jug) (keys : List (List Nat × List Nat)) (junk : Stt) (at' : Int) (x3 x7 x8 : Option D), e = [some (.ref 3), some (.bl wd), some nmD, x3, some (.int st), some (.int at'), some (.ref 4), x7, x8, none, none, none, none, none, none] ∧ s = jst sc j' ++ (.lst (keys.map keyD) :: junk) ∧ j'.ok pl ∧ Kd st keys ∧ keys.length = i ∧ at' = (usedK keys).length ∧ (usedK keys).length ≤ (if wd then 2 else 3) * i) m ?_ [some (.ref 3), some (.bl wd), some nmD, none, some (.int st), some (.int 0), some (.ref 4), none, none, none, none, none, none, none, none] (jst sc j ++ [.lst []]) ⟨j, [], [], 0, none, none, none, rfl, rfl, hj, ⟨⟨by simp, by simp⟩, List.nodup_nil, by intro c hc; cases hc⟩, rfl, rfl, Nat.zero_le _⟩
  · obtain ⟨e', s', h, j', keys, junk, at', x3, x7, x8, rfl, rfl, hj', hk, hl, _, _⟩ := h
    exact ⟨j', keys, junk, x3, _, x7, x8, hj', hk, hl, h⟩
  · rintro i e s hi ⟨j', keys, junk, at', x3, x7, x8, rfl, rfl, hj', hk, hl, ha, hu⟩
    subst ha
    obtain ⟨j2, nm, ls, m', many, l, x, y, hj2, ⟨m1, m2, m3, hp⟩, ht⟩ := bk_turn1 n wd sc j' hj' keys (by omega) junk st (usedK keys).length i (by omega) (by omega) x7 x8
    have hls : ls.length = m' := by rw [hp.length_eq]; exact row_len _ _ _
    have lim : (usedK keys).length + m' ≤ 26 := by cases wd <;> simp at hm hu m2 <;> omega
    refine ⟨_, _, Or.inl ?_, j2, keys ++ [(nm, ls)], junk ++ [x, y], ((usedK keys).length : Int) + many, some (.int i), some (.int many), some (.ref l), rfl, rfl, hj2, hk.add nm ls ⟨m1, by cases wd <;> simp at m2 <;> omega⟩ (by omega) hp, by rw [List.length_append, hl]; rfl, ?_, ?_⟩
    · rw [w_forF, g_var, w_forG]
      exact ht
    · rw [usedK_app, List.length_append, m3]
      show _ = (((usedK keys).length + ls.length : Nat) : Int)
      omega
    · rw [usedK_app, List.length_append]
      show (usedK keys).length + ls.length ≤ _
      cases wd <;> simp at hu m2 ⊢ <;> omega
theorem bk_loop2 (n : Nat) (wd : Bool) (sc : List Int) (j : Jug) (hj : j.ok pl) (us : List Nat) (hu : 0 < us.length) (B : Stt) (m : Nat) (hm : m ≤ 60) (a2 a3 a4 a5 a6 a7 : Option D) :
    ∃ (j' : Jug) (ws : List (List Nat)) (x3 b0 b1 b2 : Option D), j'.ok pl ∧ Wg us ws ∧ ws.length ≤ m ∧ loopF [] (forF (callN Lw.tb (n + 1)) none (.var 3) (.seq (.asg (.var 10) (.join (.str []) (.comp [13] (.var 13) (.rng1 (.ite (.val (.var 1)) (.int 16) (.bin .add (.int 1) (.call 6 (.cons (.var 0) (.cons (.str [108, 111, 110, 103]) (.cons (.int 6) .nil))))))) .yes (.idx (.var 8) (.call 6 (.cons (.var 0) (.cons (.str [108, 101, 116, 116, 101, 114]) (.cons (.b1 .len (.var 8)) .nil)))))))) (.seq (.ite (.and (.val (.var 9)) (.and (.not (.val (.var 1))) (.val (.cmp .eq (.call 6 (.cons (.var 0) (.cons (.str [110, 101, 97, 114]) (.cons (.int 2) .nil)))) (.int 0))))) (.seq (.asg (.var 11) (.call 6 (.cons (.var 0) (.cons (.str [112, 108, 97, 99, 101]) (.cons (.b1 .len (.idx (.var 9) (.neg (.int 1)))) .nil))))) (.seq (.asg (.var 12) (.idx (.var 9) (.neg (.int 1)))) (.asg (.var 10) (.idx (.tup (.cons (.bin .add (.var 12) (.idx (.var 10) (.int 0))) (.cons (.bin .add (.slc (.var 12) .none (.some (.var 11))) (.slc (.var 12) (.some (.bin .add (.var 11) (.int 1))) .none)) (.cons (.bin .add (.bin .add (.slc (.var 12) .none (.some (.var 11))) (.idx (.var 10) (.int 0))) (.slc (.var 12) (.some (.bin .add (.var 11) (.int 1))) .none)) (.cons (.bin .add (.slc (.var 12) (.some (.int 1)) .none) (.idx (.var 12) (.int 0))) .nil))))) (.call 6 (.cons (.var 0) (.cons (.str [110, 101, 97, 114, 32, 119, 97, 121]) (.cons (.int 4) .nil)))))))) .skip) (.ite (.and (.val (.cmp .ne (.var 10) (.str []))) (.and (.val (.cmp .lt (.b1 .len (.var 10)) (.int 17))) (.val (.cmp .notin (.var 10) (.var 9))))) (.exp (.m1 .append (.var 9) (.var 10))) .skip)))) (rngL 0 1 m) [some (.ref 3), some (.bl wd), a2, a3, a4, a5, a6, a7, some (.str us), some (.ref (4 + B.length)), none, none, none, none, none] (jst sc j ++ (B ++ [.lst []])) = .ok (.nx [some (.ref 3), some (.bl wd), a2, x3, a4, a5, a6, a7, some (.str us), some (.ref (4 + B.length)), b0, b1, b2, none, none]) (jst sc j' ++ (B ++ [.lst (ws.map .str)])) := by
  have h := loopF_rng0 (f := forF (callN Lw.tb (n + 1)) none (.var 3) (.seq (.asg (.var 10) (.join (.str []) (.comp [13] (.var 13) (.rng1 (.ite (.val (.var 1)) (.int 16) (.bin .add (.int 1) (.call 6 (.cons (.var 0) (.cons (.str [108, 111, 110, 103]) (.cons (.int 6) .nil))))))) .yes (.idx (.var 8) (.call 6 (.cons (.var 0) (.cons (.str [108, 101, 116, 116, 101, 114]) (.cons (.b1 .len (.var 8)) .nil)))))))) (.seq (.ite (.and (.val (.var 9)) (.and (.not (.val (.var 1))) (.val (.cmp .eq (.call 6 (.cons (.var 0) (.cons (.str [110, 101, 97, 114]) (.cons (.int 2) .nil)))) (.int 0))))) (.seq (.asg (.var 11) (.call 6 (.cons (.var 0) (.cons (.str [112, 108, 97, 99, 101]) (.cons (.b1 .len (.idx (.var 9) (.neg (.int 1)))) .nil))))) (.seq (.asg (.var 12) (.idx (.var 9) (.neg (.int 1)))) (.asg (.var 10) (.idx (.tup (.cons (.bin .add (.var 12) (.idx (.var 10) (.int 0))) (.cons (.bin .add (.slc (.var 12) .none (.some (.var 11))) (.slc (.var 12) (.some (.bin .add (.var 11) (.int 1))) .none)) (.cons (.bin .add (.bin .add (.slc (.var 12) .none (.some (.var 11))) (.idx (.var 10) (.int 0))) (.slc (.var 12) (.some (.bin .add (.var 11) (.int 1))) .none)) (.cons (.bin .add (.slc (.var 12) (.some (.int 1)) .none) (.idx (.var 12) (.int 0))) .nil))))) (.call 6 (.cons (.var 0) (.cons (.str [110, 101, 97, 114, 32, 119, 97, 121]) (.cons (.int 4) .nil)))))))) .skip) (.ite (.and (.val (.cmp .ne (.var 10) (.str []))) (.and (.val (.cmp .lt (.b1 .len (.var 10)) (.int 17))) (.val (.cmp .notin (.var 10) (.var 9))))) (.exp (.m1 .append (.var 9) (.var 10))) .skip)))) (P := fun i e s => ∃ (j' : Jug) (ws : List (List Nat)) (x3 b0 b1 b2 : Option D), e = [some (.ref 3), some (.bl wd), a2, x3, a4, a5, a6, a7, some (.str us), some (.ref (4 + B.length)), b0, b1, b2, none, none] ∧ s = jst sc j' ++ (B ++ [.lst (ws.map .str)]) ∧ j'.ok pl ∧ Wg us ws ∧ ws.length ≤ i) m ?_ [some (.ref 3), some (.bl wd), a2, a3, a4, a5, a6, a7, some (.str us), some (.ref (4 + B.length)), none, none, none, none, none] (jst sc j ++ (B ++ [.lst []])) ⟨j, [], a3, none, none, none, rfl, rfl, hj, ⟨List.nodup_nil, by simp, by simp⟩, Nat.le_refl _⟩
  · obtain ⟨e', s', h, j', ws, x3, b0, b1, b2, rfl, rfl, hj', hk, hl⟩ := h
    exact ⟨j', ws, x3, b0, b1, b2, hj', hk, hl, h⟩
  · rintro i e s hi ⟨j', ws, x3, b0, b1, b2, rfl, rfl, hj', hw, hl⟩
    obtain ⟨j1, cs, hj1, hcs, h1⟩ := bk_word n wd sc j' hj' us hu (B ++ [.lst (ws.map .str)]) a2 (some (.int i)) a4 a5 a6 a7 (some (.ref (4 + B.length))) b0 b1 b2 none none
    obtain ⟨j2, w, y1, y2, hj2, hcw, h2⟩ := bk_near n wd sc j1 hj1 us ws hw B cs hcs a2 (some (.int i)) a4 a5 a6 a7 b1 b2 none none
    obtain ⟨ws', hw', hl', h3⟩ := bk_put n wd sc j2 us ws hw (by omega) B w hcw.2 (some (.ref 3)) a2 (some (.int i)) a4 a5 a6 a7 y1 y2 none none
    refine ⟨_, _, Or.inl ?_, j2, ws', some (.int i), some (.str w), y1, y2, rfl, rfl, hj2, hw', by omega⟩
    rw [w_forF, g_var, w_forG, w_seq]
    simp only [List.set_cons_succ, List.set_cons_zero]
    rw [h1, RS.nxt_nx, w_seq, h2, RS.nxt_nx, h3]
theorem bk_body (n : Nat) (wd : Bool) (sc : List Int) (j : Jug) (hj : j.ok pl) : ∃ (j' : Jug) (b : Bk) (more : Stt), j'.ok pl ∧ b.gd ∧ iS (callN Lw.tb (n + 1)) none core10 [some (.ref 3), some (.bl wd), none, none, none, none, none, none, none, none, none, none, none, none, none] (jst sc j) = .ok (.rt b.d) (jst sc j' ++ more) := by
  obtain ⟨st, j1, _, _, hj1, _, p1⟩ := pour_call tb_pour n (sc := sc) hj (p := [97, 108, 112, 104, 97, 98, 101, 116]) (m := 26) (by decide) (by decide) (by decide) []
  rw [List.append_nil, List.append_nil] at p1
  have e4 : ∀ q : Jug, (jst sc q).length = 4 := fun _ => rfl
  -- the keys
  obtain ⟨m1, j2, hm0, hm1, hj2, p2⟩ : ∃ (m : Nat) (j2 : Jug), 1 ≤ m ∧ m ≤ (if wd then 12 else 4) ∧ j2.ok pl ∧ (iI (callN Lw.tb (n + 1)) none (.rng1 (.ite (.val (.var 1)) (.int 12) (.bin .add (.int 1) (.call 6 (.cons (.var 0) (.cons (.str [107, 101, 121, 115]) (.cons (.int 4) .nil))))))) [some (.ref 3), some (.bl wd), some nmD, none, some (.int st), some (.int 0), some (.ref 4), none, none, none, none, none, none, none, none] (jst sc j1 ++ [.lst []]) = .ok (rngL 0 1 m, []) (jst sc j2 ++ [.lst []])) := by
    cases wd with
    | true =>
      have n1 : kR1 (.int 12) = fun s => .ok (rngL 0 1 12, []) s := funext fun s => R1_i 12 (by decide) (by decide)
      refine ⟨12, j1, by omega, by simp, hj1, ?_⟩
      simp (config := {implicitDefEqProofs := false}) only [v_var, v_get, v_non, v_bl, v_int, v_str, v_cint, v_cstr, v_bin, v_bin1, v_bin2, v_neg, v_neg1, v_not, v_not1, v_NB, v_Bl, v_cmp, v_cmp1, v_cmp2, v_chain, v_ch1, v_ch2, v_ch3t, v_ch3f, v_and, v_and1, v_and2t, v_and2f, v_or, v_or1, v_or2t, v_or2f, v_ite, v_itet, v_itef, v_tup, v_tup1, v_newl, v_newl1, v_dct, v_dct1, v_idx, v_idx1, v_idx2, v_slc, v_slc1, v_slc2, v_slc3, v_rev, v_rev1, v_call, v_call1, v_kw, v_kw1, v_kw2, v_b1, v_b11, v_bs, v_bs1, v_min2, v_min, v_mini, v_max2, v_max, v_maxi, v_join, v_join1, v_join2, v_join2t, v_join3, v_m0, v_m01, v_m1, v_m11, v_m12, v_isi, v_isi1, v_xfld, v_xis, v_tval, v_val1, v_tnot, v_TN, v_tand, v_TAt, v_TAf, v_tor, v_TOt, v_TOf, v_tite, v_TIt, v_TIf, v_yes, v_pn, v_ps, v_p1, v_nil, v_cons, v_a1, v_a2, v_comp, v_cp, v_cpF, v_cpG, v_cpBt, v_cpBf, v_some, v_cp2, v_lst, v_l1, v_qval, v_q1, v_q2, v_rng1, v_rng2, v_r2, v_enm, v_en1, v_zip, v_z1, v_z2t, v_irev, v_rvl, v_rvt, v_ival, v_iv1, w_skip, w_seq, w_asg, w_asg1, w_asg2, w_par, w_par1, w_sub, w_sub1, w_sub2, w_sub3, w_put, w_aug, w_aug1, w_aug2, w_aug3, w_augs, w_as1, w_as2, w_as3, w_as4, w_as5, w_exp, w_nx, w_ret, w_rt, w_ite, w_ift, w_iff, w_whil, w_for, w_for1, w_forF, w_forG, w_brk, w_cont, w_rais, w_rs1, w_rs2, w_try, w_tryok, w_tryx, g_var, g_nil, g_cons, g_tg, g_many0, g_many, g_wipe0, g_wipe, t_non, t_bl, t_int, t_str, t_tup, t_ref, t_lst, t_rol, t_dct, q_tup, q_str, q_ref, q_lget, q_lst, q_rol, q_il, q_it, q_is, q_gt, q_gs, q_gn, q_gr, c_eqi, c_eqs, c_eqb, c_nei, c_nes, c_neb, c_lt, c_le, c_gt, c_ge, c_ltS, c_isnon, c_nisnon, c_isbl, c_nisbl, c_isint, c_nisint, c_isstr, c_nisstr, c_istup, c_nistup, c_isref, c_nisref, c_in, c_nin, c_mstr, c_mtup, c_mref, c_mlst, c_mdst, c_mdin, b_addi, b_adds, b_addt, b_sub, b_mul, b_muls, b_fdiv, b_mod, b_pow, b_shl, b_aug, b_augs, b_augu, i_tup, i_str, i_chs, i_ref, i_lst, i_rol, i_dst, i_din, Ev.s_tup, Ev.s_str', Ev.s_ref, Ev.s_lst, r_str, r_ref, r_lst, l_str, l_tup, l_ref, l_lst, l_rol, l_dct, l_abs, l_int, l_intb, l_ord, z_tl, z_tt, z_ll, z_lt, z_any, z_all, z_sum, z_any1, z_all1, z_sum1, z_srt, z_srs, z_sri, y_tup_tuple, y_tup_list, y_tup_bool, y_tup_int, y_tup_str, y_tup_dict, y_str_tuple, y_str_list, y_str_bool, y_str_int, y_str_str, y_str_dict, y_int_tuple, y_int_list, y_int_bool, y_int_int, y_int_str, y_int_dict, y_bl_tuple, y_bl_list, y_bl_bool, y_bl_int, y_bl_str, y_bl_dict, y_non_tuple, y_non_list, y_non_bool, y_non_int, y_non_str, y_non_dict, m_pop, m_pop1, m_rca, m_app, m_app1, p_ref, p_get, p_gst, p_gin, SZ, Nat.reduceLT, Nat.reduceBEq, Int.reduceLT, Int.reduceLE, Int.reduceBEq, Int.reduceNeg, Int.reduceAdd, Int.reduceSub, Int.reduceMul, R.bind_ok, R.bind_exc, R.quiet_ok, R.to_ok, R.to_exc, RS.nxt_nx, RS.nxt_rt, RS.nxt_bk, RS.nxt_ct, RS.nxt_exc, RS.hush_nx, RS.hush_rt, RS.turn_nx, RS.turn_ct, RS.turn_bk, RS.turn_rt, RS.turn_exc, ok?_some, chk_true, Option.bind_some, Option.map_some, Option.isSome_some, List.getElem?_cons_zero, List.getElem?_cons_succ, List.getElem?_nil, List.set_cons_zero, List.set_cons_succ, List.length_cons, List.length_nil, Nat.reduceAdd, Nat.reduceLeDiff, decide_true, decide_false, Bool.not_true, Bool.not_false, Bool.and_self, Bool.true_and, Bool.and_true, Bool.or_true, Bool.true_or, Bool.or_false, Bool.false_or, if_true, List.nil_append, List.cons_append, Nat.zero_add, List.map_cons, List.map_nil, List.replicate_succ, List.replicate_zero, Nat.reduceSub, List.isEmpty_cons, List.isEmpty_nil, n1]
    | false =>
      obtain ⟨v, j2, c1, c2, hj2, _, p⟩ := pour_call tb_pour n (sc := sc) hj1 (p := [107, 101, 121, 115]) (m := 4) (by decide) (by decide) (by decide) [.lst []]
      have n1 : kR1 (.int (1 + v)) = fun s => .ok (rngL 0 1 (1 + v).toNat, []) s := funext fun s => R1_i (1 + v) (by omega) (by omega)
      refine ⟨(1 + v).toNat, j2, by omega, by simp; omega, hj2, ?_⟩
      simp (config := {implicitDefEqProofs := false}) only [v_var, v_get, v_non, v_bl, v_int, v_str, v_cint, v_cstr, v_bin, v_bin1, v_bin2, v_neg, v_neg1, v_not, v_not1, v_NB, v_Bl, v_cmp, v_cmp1, v_cmp2, v_chain, v_ch1, v_ch2, v_ch3t, v_ch3f, v_and, v_and1, v_and2t, v_and2f, v_or, v_or1, v_or2t, v_or2f, v_ite, v_itet, v_itef, v_tup, v_tup1, v_newl, v_newl1, v_dct, v_dct1, v_idx, v_idx1, v_idx2, v_slc, v_slc1, v_slc2, v_slc3, v_rev, v_rev1, v_call, v_call1, v_kw, v_kw1, v_kw2, v_b1, v_b11, v_bs, v_bs1, v_min2, v_min, v_mini, v_max2, v_max, v_maxi, v_join, v_join1, v_join2, v_join2t, v_join3, v_m0, v_m01, v_m1, v_m11, v_m12, v_isi, v_isi1, v_xfld, v_xis, v_tval, v_val1, v_tnot, v_TN, v_tand, v_TAt, v_TAf, v_tor, v_TOt, v_TOf, v_tite, v_TIt, v_TIf, v_yes, v_pn, v_ps, v_p1, v_nil, v_cons, v_a1, v_a2, v_comp, v_cp, v_cpF, v_cpG, v_cpBt, v_cpBf, v_some, v_cp2, v_lst, v_l1, v_qval, v_q1, v_q2, v_rng1, v_rng2, v_r2, v_enm, v_en1, v_zip, v_z1, v_z2t, v_irev, v_rvl, v_rvt, v_ival, v_iv1, w_skip, w_seq, w_asg, w_asg1, w_asg2, w_par, w_par1, w_sub, w_sub1, w_sub2, w_sub3, w_put, w_aug, w_aug1, w_aug2, w_aug3, w_augs, w_as1, w_as2, w_as3, w_as4, w_as5, w_exp, w_nx, w_ret, w_rt, w_ite, w_ift, w_iff, w_whil, w_for, w_for1, w_forF, w_forG, w_brk, w_cont, w_rais, w_rs1, w_rs2, w_try, w_tryok, w_tryx, g_var, g_nil, g_cons, g_tg, g_many0, g_many, g_wipe0, g_wipe, t_non, t_bl, t_int, t_str, t_tup, t_ref, t_lst, t_rol, t_dct, q_tup, q_str, q_ref, q_lget, q_lst, q_rol, q_il, q_it, q_is, q_gt, q_gs, q_gn, q_gr, c_eqi, c_eqs, c_eqb, c_nei, c_nes, c_neb, c_lt, c_le, c_gt, c_ge, c_ltS, c_isnon, c_nisnon, c_isbl, c_nisbl, c_isint, c_nisint, c_isstr, c_nisstr, c_istup, c_nistup, c_isref, c_nisref, c_in, c_nin, c_mstr, c_mtup, c_mref, c_mlst, c_mdst, c_mdin, b_addi, b_adds, b_addt, b_sub, b_mul, b_muls, b_fdiv, b_mod, b_pow, b_shl, b_aug, b_augs, b_augu, i_tup, i_str, i_chs, i_ref, i_lst, i_rol, i_dst, i_din, Ev.s_tup, Ev.s_str', Ev.s_ref, Ev.s_lst, r_str, r_ref, r_lst, l_str, l_tup, l_ref, l_lst, l_rol, l_dct, l_abs, l_int, l_intb, l_ord, z_tl, z_tt, z_ll, z_lt, z_any, z_all, z_sum, z_any1, z_all1, z_sum1, z_srt, z_srs, z_sri, y_tup_tuple, y_tup_list, y_tup_bool, y_tup_int, y_tup_str, y_tup_dict, y_str_tuple, y_str_list, y_str_bool, y_str_int, y_str_str, y_str_dict, y_int_tuple, y_int_list, y_int_bool, y_int_int, y_int_str, y_int_dict, y_bl_tuple, y_bl_list, y_bl_bool, y_bl_int, y_bl_str, y_bl_dict, y_non_tuple, y_non_list, y_non_bool, y_non_int, y_non_str, y_non_dict, m_pop, m_pop1, m_rca, m_app, m_app1, p_ref, p_get, p_gst, p_gin, SZ, Nat.reduceLT, Nat.reduceBEq, Int.reduceLT, Int.reduceLE, Int.reduceBEq, Int.reduceNeg, Int.reduceAdd, Int.reduceSub, Int.reduceMul, R.bind_ok, R.bind_exc, R.quiet_ok, R.to_ok, R.to_exc, RS.nxt_nx, RS.nxt_rt, RS.nxt_bk, RS.nxt_ct, RS.nxt_exc, RS.hush_nx, RS.hush_rt, RS.turn_nx, RS.turn_ct, RS.turn_bk, RS.turn_rt, RS.turn_exc, ok?_some, chk_true, Option.bind_some, Option.map_some, Option.isSome_some, List.getElem?_cons_zero, List.getElem?_cons_succ, List.getElem?_nil, List.set_cons_zero, List.set_cons_succ, List.length_cons, List.length_nil, Nat.reduceAdd, Nat.reduceLeDiff, decide_true, decide_false, Bool.not_true, Bool.not_false, Bool.and_self, Bool.true_and, Bool.and_true, Bool.or_true, Bool.true_or, Bool.or_false, Bool.false_or, if_true, List.nil_append, List.cons_append, Nat.zero_add, List.map_cons, List.map_nil, List.replicate_succ, List.replicate_zero, Nat.reduceSub, List.isEmpty_cons, List.isEmpty_nil, p, n1]
  obtain ⟨j3, keys, junk, x3, x5, x7, x8, hj3, hk, hkl, p3⟩ := bk_loop1 n wd sc j2 hj2 st m1 hm1
  obtain ⟨B, hB⟩ : ∃ B : Stt, B = (Ob.lst (keys.map keyD) :: junk) := ⟨_, rfl⟩
  rw [← hB] at p3
  have hm12 : m1 ≤ 12 := by cases wd <;> simp at hm1 <;> omega
  obtain ⟨hk, knd, _⟩ := hk
  obtain ⟨u1, u2⟩ := hk.len
  -- the words
  have hus : 0 < (usedK keys).length := by omega
  obtain ⟨m2, j4, hm2, hj4, p4⟩ : ∃ (m : Nat) (j4 : Jug), m ≤ 60 ∧ j4.ok pl ∧ (iI (callN Lw.tb (n + 1)) none (.rng1 (.ite (.val (.var 1)) (.int 60) (.bin .add (.int 1) (.call 6 (.cons (.var 0) (.cons (.str [119, 111, 114, 100, 115]) (.cons (.int 5) .nil))))))) [some (.ref 3), some (.bl wd), some nmD, x3, some (.int st), x5, some (.ref 4), x7, some (.str (usedK keys)), some (.ref (4 + B.length)), none, none, none, none, none] (jst sc j3 ++ (B ++ [.lst []])) = .ok (rngL 0 1 m, []) (jst sc j4 ++ (B ++ [.lst []]))) := by
    cases wd with
    | true =>
      have n1 : kR1 (.int 60) = fun s => .ok (rngL 0 1 60, []) s := funext fun s => R1_i 60 (by decide) (by decide)
      refine ⟨60, j3, by omega, hj3, ?_⟩
      simp (config := {implicitDefEqProofs := false}) only [v_var, v_get, v_non, v_bl, v_int, v_str, v_cint, v_cstr, v_bin, v_bin1, v_bin2, v_neg, v_neg1, v_not, v_not1, v_NB, v_Bl, v_cmp, v_cmp1, v_cmp2, v_chain, v_ch1, v_ch2, v_ch3t, v_ch3f, v_and, v_and1, v_and2t, v_and2f, v_or, v_or1, v_or2t, v_or2f, v_ite, v_itet, v_itef, v_tup, v_tup1, v_newl, v_newl1, v_dct, v_dct1, v_idx, v_idx1, v_idx2, v_slc, v_slc1, v_slc2, v_slc3, v_rev, v_rev1, v_call, v_call1, v_kw, v_kw1, v_kw2, v_b1, v_b11, v_bs, v_bs1, v_min2, v_min, v_mini, v_max2, v_max, v_maxi, v_join, v_join1, v_join2, v_join2t, v_join3, v_m0, v_m01, v_m1, v_m11, v_m12, v_isi, v_isi1, v_xfld, v_xis, v_tval, v_val1, v_tnot, v_TN, v_tand, v_TAt, v_TAf, v_tor, v_TOt, v_TOf, v_tite, v_TIt, v_TIf, v_yes, v_pn, v_ps, v_p1, v_nil, v_cons, v_a1, v_a2, v_comp, v_cp, v_cpF, v_cpG, v_cpBt, v_cpBf, v_some, v_cp2, v_lst, v_l1, v_qval, v_q1, v_q2, v_rng1, v_rng2, v_r2, v_enm, v_en1, v_zip, v_z1, v_z2t, v_irev, v_rvl, v_rvt, v_ival, v_iv1, w_skip, w_seq, w_asg, w_asg1, w_asg2, w_par, w_par1, w_sub, w_sub1, w_sub2, w_sub3, w_put, w_aug, w_aug1, w_aug2, w_aug3, w_augs, w_as1, w_as2, w_as3, w_as4, w_as5, w_exp, w_nx, w_ret, w_rt, w_ite, w_ift, w_iff, w_whil, w_for, w_for1, w_forF, w_forG, w_brk, w_cont, w_rais, w_rs1, w_rs2, w_try, w_tryok, w_tryx, g_var, g_nil, g_cons, g_tg, g_many0, g_many, g_wipe0, g_wipe, t_non, t_bl, t_int, t_str, t_tup, t_ref, t_lst, t_rol, t_dct, q_tup, q_str, q_ref, q_lget, q_lst, q_rol, q_il, q_it, q_is, q_gt, q_gs, q_gn, q_gr, c_eqi, c_eqs, c_eqb, c_nei, c_nes, c_neb, c_lt, c_le, c_gt, c_ge, c_ltS, c_isnon, c_nisnon, c_isbl, c_nisbl, c_isint, c_nisint, c_isstr, c_nisstr, c_istup, c_nistup, c_isref, c_nisref, c_in, c_nin, c_mstr, c_mtup, c_mref, c_mlst, c_mdst, c_mdin, b_addi, b_adds, b_addt, b_sub, b_mul, b_muls, b_fdiv, b_mod, b_pow, b_shl, b_aug, b_augs, b_augu, i_tup, i_str, i_chs, i_ref, i_lst, i_rol, i_dst, i_din, Ev.s_tup, Ev.s_str', Ev.s_ref, Ev.s_lst, r_str, r_ref, r_lst, l_str, l_tup, l_ref, l_lst, l_rol, l_dct, l_abs, l_int, l_intb, l_ord, z_tl, z_tt, z_ll, z_lt, z_any, z_all, z_sum, z_any1, z_all1, z_sum1, z_srt, z_srs, z_sri, y_tup_tuple, y_tup_list, y_tup_bool, y_tup_int, y_tup_str, y_tup_dict, y_str_tuple, y_str_list, y_str_bool, y_str_int, y_str_str, y_str_dict, y_int_tuple, y_int_list, y_int_bool, y_int_int, y_int_str, y_int_dict, y_bl_tuple, y_bl_list, y_bl_bool, y_bl_int, y_bl_str, y_bl_dict, y_non_tuple, y_non_list, y_non_bool, y_non_int, y_non_str, y_non_dict, m_pop, m_pop1, m_rca, m_app, m_app1, p_ref, p_get, p_gst, p_gin, SZ, Nat.reduceLT, Nat.reduceBEq, Int.reduceLT, Int.reduceLE, Int.reduceBEq, Int.reduceNeg, Int.reduceAdd, Int.reduceSub, Int.reduceMul, R.bind_ok, R.bind_exc, R.quiet_ok, R.to_ok, R.to_exc, RS.nxt_nx, RS.nxt_rt, RS.nxt_bk, RS.nxt_ct, RS.nxt_exc, RS.hush_nx, RS.hush_rt, RS.turn_nx, RS.turn_ct, RS.turn_bk, RS.turn_rt, RS.turn_exc, ok?_some, chk_true, Option.bind_some, Option.map_some, Option.isSome_some, List.getElem?_cons_zero, List.getElem?_cons_succ, List.getElem?_nil, List.set_cons_zero, List.set_cons_succ, List.length_cons, List.length_nil, Nat.reduceAdd, Nat.reduceLeDiff, decide_true, decide_false, Bool.not_true, Bool.not_false, Bool.and_self, Bool.true_and, Bool.and_true, Bool.or_true, Bool.true_or, Bool.or_false, Bool.false_or, if_true, List.nil_append, List.cons_append, Nat.zero_add, List.map_cons, List.map_nil, List.replicate_succ, List.replicate_zero, Nat.reduceSub, List.isEmpty_cons, List.isEmpty_nil, n1]
    | false =>
      obtain ⟨v, j2, c1, c2, hj2, _, p⟩ := pour_call tb_pour n (sc := sc) hj3 (p := [119, 111, 114, 100, 115]) (m := 5) (by decide) (by decide) (by decide) (B ++ [.lst []])
      have n1 : kR1 (.int (1 + v)) = fun s => .ok (rngL 0 1 (1 + v).toNat, []) s := funext fun s => R1_i (1 + v) (by omega) (by omega)
      refine ⟨(1 + v).toNat, j2, by omega, hj2, ?_⟩
      simp (config := {implicitDefEqProofs := false}) only [v_var, v_get, v_non, v_bl, v_int, v_str, v_cint, v_cstr, v_bin, v_bin1, v_bin2, v_neg, v_neg1, v_not, v_not1, v_NB, v_Bl, v_cmp, v_cmp1, v_cmp2, v_chain, v_ch1, v_ch2, v_ch3t, v_ch3f, v_and, v_and1, v_and2t, v_and2f, v_or, v_or1, v_or2t, v_or2f, v_ite, v_itet, v_itef, v_tup, v_tup1, v_newl, v_newl1, v_dct, v_dct1, v_idx, v_idx1, v_idx2, v_slc, v_slc1, v_slc2, v_slc3, v_rev, v_rev1, v_call, v_call1, v_kw, v_kw1, v_kw2, v_b1, v_b11, v_bs, v_bs1, v_min2, v_min, v_mini, v_max2, v_max, v_maxi, v_join, v_join1, v_join2, v_join2t, v_join3, v_m0, v_m01, v_m1, v_m11, v_m12, v_isi, v_isi1, v_xfld, v_xis, v_tval, v_val1, v_tnot, v_TN, v_tand, v_TAt, v_TAf, v_tor, v_TOt, v_TOf, v_tite, v_TIt, v_TIf, v_yes, v_pn, v_ps, v_p1, v_nil, v_cons, v_a1, v_a2, v_comp, v_cp, v_cpF, v_cpG, v_cpBt, v_cpBf, v_some, v_cp2, v_lst, v_l1, v_qval, v_q1, v_q2, v_rng1, v_rng2, v_r2, v_enm, v_en1, v_zip, v_z1, v_z2t, v_irev, v_rvl, v_rvt, v_ival, v_iv1, w_skip, w_seq, w_asg, w_asg1, w_asg2, w_par, w_par1, w_sub, w_sub1, w_sub2, w_sub3, w_put, w_aug, w_aug1, w_aug2, w_aug3, w_augs, w_as1, w_as2, w_as3, w_as4, w_as5, w_exp, w_nx, w_ret, w_rt, w_ite, w_ift, w_iff, w_whil, w_for, w_for1, w_forF, w_forG, w_brk, w_cont, w_rais, w_rs1, w_rs2, w_try, w_tryok, w_tryx, g_var, g_nil, g_cons, g_tg, g_many0, g_many, g_wipe0, g_wipe, t_non, t_bl, t_int, t_str, t_tup, t_ref, t_lst, t_rol, t_dct, q_tup, q_str, q_ref, q_lget, q_lst, q_rol, q_il, q_it, q_is, q_gt, q_gs, q_gn, q_gr, c_eqi, c_eqs, c_eqb, c_nei, c_nes, c_neb, c_lt, c_le, c_gt, c_ge, c_ltS, c_isnon, c_nisnon, c_isbl, c_nisbl, c_isint, c_nisint, c_isstr, c_nisstr, c_istup, c_nistup, c_isref, c_nisref, c_in, c_nin, c_mstr, c_mtup, c_mref, c_mlst, c_mdst, c_mdin, b_addi, b_adds, b_addt, b_sub, b_mul, b_muls, b_fdiv, b_mod, b_pow, b_shl, b_aug, b_augs, b_augu, i_tup, i_str, i_chs, i_ref, i_lst, i_rol, i_dst, i_din, Ev.s_tup, Ev.s_str', Ev.s_ref, Ev.s_lst, r_str, r_ref, r_lst, l_str, l_tup, l_ref, l_lst, l_rol, l_dct, l_abs, l_int, l_intb, l_ord, z_tl, z_tt, z_ll, z_lt, z_any, z_all, z_sum, z_any1, z_all1, z_sum1, z_srt, z_srs, z_sri, y_tup_tuple, y_tup_list, y_tup_bool, y_tup_int, y_tup_str, y_tup_dict, y_str_tuple, y_str_list, y_str_bool, y_str_int, y_str_str, y_str_dict, y_int_tuple, y_int_list, y_int_bool, y_int_int, y_int_str, y_int_dict, y_bl_tuple, y_bl_list, y_bl_bool, y_bl_int, y_bl_str, y_bl_dict, y_non_tuple, y_non_list, y_non_bool, y_non_int, y_non_str, y_non_dict, m_pop, m_pop1, m_rca, m_app, m_app1, p_ref, p_get, p_gst, p_gin, SZ, Nat.reduceLT, Nat.reduceBEq, Int.reduceLT, Int.reduceLE, Int.reduceBEq, Int.reduceNeg, Int.reduceAdd, Int.reduceSub, Int.reduceMul, R.bind_ok, R.bind_exc, R.quiet_ok, R.to_ok, R.to_exc, RS.nxt_nx, RS.nxt_rt, RS.nxt_bk, RS.nxt_ct, RS.nxt_exc, RS.hush_nx, RS.hush_rt, RS.turn_nx, RS.turn_ct, RS.turn_bk, RS.turn_rt, RS.turn_exc, ok?_some, chk_true, Option.bind_some, Option.map_some, Option.isSome_some, List.getElem?_cons_zero, List.getElem?_cons_succ, List.getElem?_nil, List.set_cons_zero, List.set_cons_succ, List.length_cons, List.length_nil, Nat.reduceAdd, Nat.reduceLeDiff, decide_true, decide_false, Bool.not_true, Bool.not_false, Bool.and_self, Bool.true_and, Bool.and_true, Bool.or_true, Bool.true_or, Bool.or_false, Bool.false_or, if_true, List.nil_append, List.cons_append, Nat.zero_add, List.map_cons, List.map_nil, List.replicate_succ, List.replicate_zero, Nat.reduceSub, List.isEmpty_cons, List.isEmpty_nil, p, n1]
  obtain ⟨j5, ws, y3, b0, b1, b2, hj5, hw, hwl, p5⟩ := bk_loop2 n wd sc j4 hj4 (usedK keys) hus B m2 hm2 (some nmD) x3 (some (.int st)) x5 (some (.ref 4)) x7
  obtain ⟨c0, hc0, q0⟩ := atI_rng (xs := usedK keys) (v := 0) (by omega) (by omega)
  -- the dead
  obtain ⟨dd, j6, hj6, p6⟩ : ∃ (dd : Int) (j6 : Jug), j6.ok pl ∧ (iE (callN Lw.tb (n + 1)) none (.ite (.not (.val (.var 1))) (.call 6 (.cons (.var 0) (.cons (.str [100, 101, 97, 100]) (.cons (.int 3) .nil)))) (.int 6)) [some (.ref 3), some (.bl wd), some nmD, y3, some (.int st), x5, some (.ref 4), x7, some (.str (usedK keys)), some (.ref (4 + B.length)), b0, b1, b2, none, none] (jst sc j5 ++ (B ++ [.lst (ws.map .str)])) = .ok (.int dd) (jst sc j6 ++ (B ++ [.lst (ws.map .str)]))) := by
    cases wd with
    | true =>
      refine ⟨6, j5, hj5, ?_⟩
      simp (config := {implicitDefEqProofs := false}) only [v_var, v_get, v_non, v_bl, v_int, v_str, v_cint, v_cstr, v_bin, v_bin1, v_bin2, v_neg, v_neg1, v_not, v_not1, v_NB, v_Bl, v_cmp, v_cmp1, v_cmp2, v_chain, v_ch1, v_ch2, v_ch3t, v_ch3f, v_and, v_and1, v_and2t, v_and2f, v_or, v_or1, v_or2t, v_or2f, v_ite, v_itet, v_itef, v_tup, v_tup1, v_newl, v_newl1, v_dct, v_dct1, v_idx, v_idx1, v_idx2, v_slc, v_slc1, v_slc2, v_slc3, v_rev, v_rev1, v_call, v_call1, v_kw, v_kw1, v_kw2, v_b1, v_b11, v_bs, v_bs1, v_min2, v_min, v_mini, v_max2, v_max, v_maxi, v_join, v_join1, v_join2, v_join2t, v_join3, v_m0, v_m01, v_m1, v_m11, v_m12, v_isi, v_isi1, v_xfld, v_xis, v_tval, v_val1, v_tnot, v_TN, v_tand, v_TAt, v_TAf, v_tor, v_TOt, v_TOf, v_tite, v_TIt, v_TIf, v_yes, v_pn, v_ps, v_p1, v_nil, v_cons, v_a1, v_a2, v_comp, v_cp, v_cpF, v_cpG, v_cpBt, v_cpBf, v_some, v_cp2, v_lst, v_l1, v_qval, v_q1, v_q2, v_rng1, v_rng2, v_r2, v_enm, v_en1, v_zip, v_z1, v_z2t, v_irev, v_rvl, v_rvt, v_ival, v_iv1, w_skip, w_seq, w_asg, w_asg1, w_asg2, w_par, w_par1, w_sub, w_sub1, w_sub2, w_sub3, w_put, w_aug, w_aug1, w_aug2, w_aug3, w_augs, w_as1, w_as2, w_as3, w_as4, w_as5, w_exp, w_nx, w_ret, w_rt, w_ite, w_ift, w_iff, w_whil, w_for, w_for1, w_forF, w_forG, w_brk, w_cont, w_rais, w_rs1, w_rs2, w_try, w_tryok, w_tryx, g_var, g_nil, g_cons, g_tg, g_many0, g_many, g_wipe0, g_wipe, t_non, t_bl, t_int, t_str, t_tup, t_ref, t_lst, t_rol, t_dct, q_tup, q_str, q_ref, q_lget, q_lst, q_rol, q_il, q_it, q_is, q_gt, q_gs, q_gn, q_gr, c_eqi, c_eqs, c_eqb, c_nei, c_nes, c_neb, c_lt, c_le, c_gt, c_ge, c_ltS, c_isnon, c_nisnon, c_isbl, c_nisbl, c_isint, c_nisint, c_isstr, c_nisstr, c_istup, c_nistup, c_isref, c_nisref, c_in, c_nin, c_mstr, c_mtup, c_mref, c_mlst, c_mdst, c_mdin, b_addi, b_adds, b_addt, b_sub, b_mul, b_muls, b_fdiv, b_mod, b_pow, b_shl, b_aug, b_augs, b_augu, i_tup, i_str, i_chs, i_ref, i_lst, i_rol, i_dst, i_din, Ev.s_tup, Ev.s_str', Ev.s_ref, Ev.s_lst, r_str, r_ref, r_lst, l_str, l_tup, l_ref, l_lst, l_rol, l_dct, l_abs, l_int, l_intb, l_ord, z_tl, z_tt, z_ll, z_lt, z_any, z_all, z_sum, z_any1, z_all1, z_sum1, z_srt, z_srs, z_sri, y_tup_tuple, y_tup_list, y_tup_bool, y_tup_int, y_tup_str, y_tup_dict, y_str_tuple, y_str_list, y_str_bool, y_str_int, y_str_str, y_str_dict, y_int_tuple, y_int_list, y_int_bool, y_int_int, y_int_str, y_int_dict, y_bl_tuple, y_bl_list, y_bl_bool, y_bl_int, y_bl_str, y_bl_dict, y_non_tuple, y_non_list, y_non_bool, y_non_int, y_non_str, y_non_dict, m_pop, m_pop1, m_rca, m_app, m_app1, p_ref, p_get, p_gst, p_gin, SZ, Nat.reduceLT, Nat.reduceBEq, Int.reduceLT, Int.reduceLE, Int.reduceBEq, Int.reduceNeg, Int.reduceAdd, Int.reduceSub, Int.reduceMul, R.bind_ok, R.bind_exc, R.quiet_ok, R.to_ok, R.to_exc, RS.nxt_nx, RS.nxt_rt, RS.nxt_bk, RS.nxt_ct, RS.nxt_exc, RS.hush_nx, RS.hush_rt, RS.turn_nx, RS.turn_ct, RS.turn_bk, RS.turn_rt, RS.turn_exc, ok?_some, chk_true, Option.bind_some, Option.map_some, Option.isSome_some, List.getElem?_cons_zero, List.getElem?_cons_succ, List.getElem?_nil, List.set_cons_zero, List.set_cons_succ, List.length_cons, List.length_nil, Nat.reduceAdd, Nat.reduceLeDiff, decide_true, decide_false, Bool.not_true, Bool.not_false, Bool.and_self, Bool.true_and, Bool.and_true, Bool.or_true, Bool.true_or, Bool.or_false, Bool.false_or, if_true, List.nil_append, List.cons_append, Nat.zero_add, List.map_cons, List.map_nil, List.replicate_succ, List.replicate_zero, Nat.reduceSub, List.isEmpty_cons, List.isEmpty_nil]
    | false =>
      obtain ⟨v, j2, c1, c2, hj2, _, p⟩ := pour_call tb_pour n (sc := sc) hj5 (p := [100, 101, 97, 100]) (m := 3) (by decide) (by decide) (by decide) (B ++ [.lst (ws.map .str)])
      refine ⟨v, j2, hj2, ?_⟩
      simp (config := {implicitDefEqProofs := false}) only [v_var, v_get, v_non, v_bl, v_int, v_str, v_cint, v_cstr, v_bin, v_bin1, v_bin2, v_neg, v_neg1, v_not, v_not1, v_NB, v_Bl, v_cmp, v_cmp1, v_cmp2, v_chain, v_ch1, v_ch2, v_ch3t, v_ch3f, v_and, v_and1, v_and2t, v_and2f, v_or, v_or1, v_or2t, v_or2f, v_ite, v_itet, v_itef, v_tup, v_tup1, v_newl, v_newl1, v_dct, v_dct1, v_idx, v_idx1, v_idx2, v_slc, v_slc1, v_slc2, v_slc3, v_rev, v_rev1, v_call, v_call1, v_kw, v_kw1, v_kw2, v_b1, v_b11, v_bs, v_bs1, v_min2, v_min, v_mini, v_max2, v_max, v_maxi, v_join, v_join1, v_join2, v_join2t, v_join3, v_m0, v_m01, v_m1, v_m11, v_m12, v_isi, v_isi1, v_xfld, v_xis, v_tval, v_val1, v_tnot, v_TN, v_tand, v_TAt, v_TAf, v_tor, v_TOt, v_TOf, v_tite, v_TIt, v_TIf, v_yes, v_pn, v_ps, v_p1, v_nil, v_cons, v_a1, v_a2, v_comp, v_cp, v_cpF, v_cpG, v_cpBt, v_cpBf, v_some, v_cp2, v_lst, v_l1, v_qval, v_q1, v_q2, v_rng1, v_rng2, v_r2, v_enm, v_en1, v_zip, v_z1, v_z2t, v_irev, v_rvl, v_rvt, v_ival, v_iv1, w_skip, w_seq, w_asg, w_asg1, w_asg2, w_par, w_par1, w_sub, w_sub1, w_sub2, w_sub3, w_put, w_aug, w_aug1, w_aug2, w_aug3, w_augs, w_as1, w_as2, w_as3, w_as4, w_as5, w_exp, w_nx, w_ret, w_rt, w_ite, w_ift, w_iff, w_whil, w_for, w_for1, w_forF, w_forG, w_brk, w_cont, w_rais, w_rs1, w_rs2, w_try, w_tryok, w_tryx, g_var, g_nil, g_cons, g_tg, g_many0, g_many, g_wipe0, g_wipe, t_non, t_bl, t_int, t_str, t_tup, t_ref, t_lst, t_rol, t_dct, q_tup, q_str, q_ref, q_lget, q_lst, q_rol, q_il, q_it, q_is, q_gt, q_gs, q_gn, q_gr, c_eqi, c_eqs, c_eqb, c_nei, c_nes, c_neb, c_lt, c_le, c_gt, c_ge, c_ltS, c_isnon, c_nisnon, c_isbl, c_nisbl, c_isint, c_nisint, c_isstr, c_nisstr, c_istup, c_nistup, c_isref, c_nisref, c_in, c_nin, c_mstr, c_mtup, c_mref, c_mlst, c_mdst, c_mdin, b_addi, b_adds, b_addt, b_sub, b_mul, b_muls, b_fdiv, b_mod, b_pow, b_shl, b_aug, b_augs, b_augu, i_tup, i_str, i_chs, i_ref, i_lst, i_rol, i_dst, i_din, Ev.s_tup, Ev.s_str', Ev.s_ref, Ev.s_lst, r_str, r_ref, r_lst, l_str, l_tup, l_ref, l_lst, l_rol, l_dct, l_abs, l_int, l_intb, l_ord, z_tl, z_tt, z_ll, z_lt, z_any, z_all, z_sum, z_any1, z_all1, z_sum1, z_srt, z_srs, z_sri, y_tup_tuple, y_tup_list, y_tup_bool, y_tup_int, y_tup_str, y_tup_dict, y_str_tuple, y_str_list, y_str_bool, y_str_int, y_str_str, y_str_dict, y_int_tuple, y_int_list, y_int_bool, y_int_int, y_int_str, y_int_dict, y_bl_tuple, y_bl_list, y_bl_bool, y_bl_int, y_bl_str, y_bl_dict, y_non_tuple, y_non_list, y_non_bool, y_non_int, y_non_str, y_non_dict, m_pop, m_pop1, m_rca, m_app, m_app1, p_ref, p_get, p_gst, p_gin, SZ, Nat.reduceLT, Nat.reduceBEq, Int.reduceLT, Int.reduceLE, Int.reduceBEq, Int.reduceNeg, Int.reduceAdd, Int.reduceSub, Int.reduceMul, R.bind_ok, R.bind_exc, R.quiet_ok, R.to_ok, R.to_exc, RS.nxt_nx, RS.nxt_rt, RS.nxt_bk, RS.nxt_ct, RS.nxt_exc, RS.hush_nx, RS.hush_rt, RS.turn_nx, RS.turn_ct, RS.turn_bk, RS.turn_rt, RS.turn_exc, ok?_some, chk_true, Option.bind_some, Option.map_some, Option.isSome_some, List.getElem?_cons_zero, List.getElem?_cons_succ, List.getElem?_nil, List.set_cons_zero, List.set_cons_succ, List.length_cons, List.length_nil, Nat.reduceAdd, Nat.reduceLeDiff, decide_true, decide_false, Bool.not_true, Bool.not_false, Bool.and_self, Bool.true_and, Bool.and_true, Bool.or_true, Bool.true_or, Bool.or_false, Bool.false_or, if_true, List.nil_append, List.cons_append, Nat.zero_add, List.map_cons, List.map_nil, List.replicate_succ, List.replicate_zero, Nat.reduceSub, List.isEmpty_cons, List.isEmpty_nil, p]
  refine ⟨j6, ⟨keys, if ws = [] then [[c0]] else ws, dd⟩, B ++ [.lst (ws.map .str)], hj6, ?_, ?_⟩
  · have ab := hk.abc
    by_cases e : ws = []
    · rw [if_pos e]
      refine ⟨⟨by show keys.length ≤ 12; omega, by show 1 ≤ 60; omega, by show (usedK keys).length ≤ 1000; omega⟩, hus, knd, ab, by show 0 < 1; omega, by simp, ?_, ?_⟩
      · intro w hw; rw [List.mem_singleton.1 hw]; simp
      · intro w hw c hc
        rw [List.mem_singleton.1 hw] at hc
        rw [List.mem_singleton.1 hc]; exact hc0
    · rw [if_neg e]
      exact ⟨⟨by show keys.length ≤ 12; omega, by show ws.length ≤ 60; omega, by show (usedK keys).length ≤ 1000; omega⟩, hus, knd, ab, List.length_pos_iff.2 e, hw.nd, hw.wl, hw.wu⟩
  · have d2 : decide (keys.length ≤ 16777216) = true := decide_eq_true (by omega)
    have d3 : decide ((((keys.map (·.2)).map List.length).sum + keys.length * 0) ≤ 16777216) = true := decide_eq_true (by unfold usedK at u2; rw [List.length_flatten] at u2; omega)
    have jn : joinL [] (keys.map (·.2)) = usedK keys := joinL_nil _
    have lB : ∀ q : Jug, (jst sc q ++ B).length = 4 + B.length := fun q => by rw [List.length_append]; rfl
    have t4 : ∀ (q : Jug) (r : Stt), (jst sc q ++ (B ++ r))[4]? = some (.lst (keys.map keyD)) := fun _ _ => by rw [hB]; rfl
    have t5 : ∀ (q : Jug), (jst sc q ++ B)[4]? = some (.lst (keys.map keyD)) := fun _ => by rw [hB]; rfl
    have tw : ∀ (q : Jug) (x : Ob), (jst sc q ++ (B ++ [x]))[4 + B.length]? = some x := fun q x => by
      have := top1 (jst sc q) B x
      rwa [lB] at this
    have kj := fun (a0 a1 a2 a3 a4 a5 a6 a7 a8 a9 b0 b1 b2 b3 b4 : Option D) => bk_join (callN Lw.tb (n + 1)) (a0 := a0) (a1 := a1) (a2 := a2) (a3 := a3) (a4 := a4) (a5 := a5) (a6 := a6) (a7 := a7) (a8 := a8) (a9 := a9) (b0 := b0) (b1 := b1) (b2 := b2) (b3 := b3) (b4 := b4) keys [(4, keys.map keyD)] (jst sc j3 ++ B) ⟨by unfold lget; rw [t5], trivial⟩
    simp only [nmD, nmL, List.map_cons, List.map_nil] at p2 p3 p4 p5 p6
    unfold core10
    generalize hA : ((.seq (.asg (.var 7) (.bin .add (.int 1) (.call 6 (.cons (.var 0) (.cons (.str [108, 101, 116, 116, 101, 114, 115]) (.cons (.ite (.val (.var 1)) (.int 2) (.int 3)) .nil)))))) (.seq (.asg (.var 8) (.newl (.comp [13] (.var 13) (.rng1 (.var 7)) .yes (.idx (.str [97, 98, 99, 100, 101, 102, 103, 104, 105, 106, 107, 108, 109, 110, 111, 112, 113, 114, 115, 116, 117, 118, 119, 120, 121, 122]) (.bin .mod (.b1 .int (.bin .add (.bin .add (.var 4) (.var 5)) (.var 13))) (.int 26)))))) (.seq (.aug 5 .add (.var 7)) (.exp (.m1 .append (.var 6) (.tup (.cons (.idx (.var 2) (.var 3)) (.cons (.join (.str []) (.val (.bs .sorted (.val (.var 8))))) .nil)))))))) : S) = A at *
    generalize hI : ((.rng1 (.ite (.val (.var 1)) (.int 12) (.bin .add (.int 1) (.call 6 (.cons (.var 0) (.cons (.str [107, 101, 121, 115]) (.cons (.int 4) .nil))))))) : IT) = I at *
    generalize hA2 : ((.seq (.asg (.var 10) (.join (.str []) (.comp [13] (.var 13) (.rng1 (.ite (.val (.var 1)) (.int 16) (.bin .add (.int 1) (.call 6 (.cons (.var 0) (.cons (.str [108, 111, 110, 103]) (.cons (.int 6) .nil))))))) .yes (.idx (.var 8) (.call 6 (.cons (.var 0) (.cons (.str [108, 101, 116, 116, 101, 114]) (.cons (.b1 .len (.var 8)) .nil)))))))) (.seq (.ite (.and (.val (.var 9)) (.and (.not (.val (.var 1))) (.val (.cmp .eq (.call 6 (.cons (.var 0) (.cons (.str [110, 101, 97, 114]) (.cons (.int 2) .nil)))) (.int 0))))) (.seq (.asg (.var 11) (.call 6 (.cons (.var 0) (.cons (.str [112, 108, 97, 99, 101]) (.cons (.b1 .len (.idx (.var 9) (.neg (.int 1)))) .nil))))) (.seq (.asg (.var 12) (.idx (.var 9) (.neg (.int 1)))) (.asg (.var 10) (.idx (.tup (.cons (.bin .add (.var 12) (.idx (.var 10) (.int 0))) (.cons (.bin .add (.slc (.var 12) .none (.some (.var 11))) (.slc (.var 12) (.some (.bin .add (.var 11) (.int 1))) .none)) (.cons (.bin .add (.bin .add (.slc (.var 12) .none (.some (.var 11))) (.idx (.var 10) (.int 0))) (.slc (.var 12) (.some (.bin .add (.var 11) (.int 1))) .none)) (.cons (.bin .add (.slc (.var 12) (.some (.int 1)) .none) (.idx (.var 12) (.int 0))) .nil))))) (.call 6 (.cons (.var 0) (.cons (.str [110, 101, 97, 114, 32, 119, 97, 121]) (.cons (.int 4) .nil)))))))) .skip) (.ite (.and (.val (.cmp .ne (.var 10) (.str []))) (.and (.val (.cmp .lt (.b1 .len (.var 10)) (.int 17))) (.val (.cmp .notin (.var 10) (.var 9))))) (.exp (.m1 .append (.var 9) (.var 10))) .skip))) : S) = A2 at *
    generalize hI2 : ((.rng1 (.ite (.val (.var 1)) (.int 60) (.bin .add (.int 1) (.call 6 (.cons (.var 0) (.cons (.str [119, 111, 114, 100, 115]) (.cons (.int 5) .nil))))))) : IT) = I2 at *
    generalize hC : ((.ite (.not (.val (.var 1))) (.call 6 (.cons (.var 0) (.cons (.str [100, 101, 97, 100]) (.cons (.int 3) .nil)))) (.int 6)) : C) = C at *
    simp (config := {implicitDefEqProofs := false}) only [v_var, v_get, v_non, v_bl, v_int, v_str, v_cint, v_cstr, v_bin, v_bin1, v_bin2, v_neg, v_neg1, v_not, v_not1, v_NB, v_Bl, v_cmp, v_cmp1, v_cmp2, v_chain, v_ch1, v_ch2, v_ch3t, v_ch3f, v_and, v_and1, v_and2t, v_and2f, v_or, v_or1, v_or2t, v_or2f, v_ite, v_itet, v_itef, v_tup, v_tup1, v_newl, v_newl1, v_dct, v_dct1, v_idx, v_idx1, v_idx2, v_slc, v_slc1, v_slc2, v_slc3, v_rev, v_rev1, v_call, v_call1, v_kw, v_kw1, v_kw2, v_b1, v_b11, v_bs, v_bs1, v_min2, v_min, v_mini, v_max2, v_max, v_maxi, v_join, v_join1, v_join2, v_join2t, v_join3, v_m0, v_m01, v_m1, v_m11, v_m12, v_isi, v_isi1, v_xfld, v_xis, v_tval, v_val1, v_tnot, v_TN, v_tand, v_TAt, v_TAf, v_tor, v_TOt, v_TOf, v_tite, v_TIt, v_TIf, v_yes, v_pn, v_ps, v_p1, v_nil, v_cons, v_a1, v_a2, v_comp, v_cp, v_cpF, v_cpG, v_cpBt, v_cpBf, v_some, v_cp2, v_lst, v_l1, v_qval, v_q1, v_q2, v_rng1, v_rng2, v_r2, v_enm, v_en1, v_zip, v_z1, v_z2t, v_irev, v_rvl, v_rvt, v_ival, v_iv1, w_skip, w_seq, w_asg, w_asg1, w_asg2, w_par, w_par1, w_sub, w_sub1, w_sub2, w_sub3, w_put, w_aug, w_aug1, w_aug2, w_aug3, w_augs, w_as1, w_as2, w_as3, w_as4, w_as5, w_exp, w_nx, w_ret, w_rt, w_ite, w_ift, w_iff, w_whil, w_for, w_for1, w_forF, w_forG, w_brk, w_cont, w_rais, w_rs1, w_rs2, w_try, w_tryok, w_tryx, g_var, g_nil, g_cons, g_tg, g_many0, g_many, g_wipe0, g_wipe, t_non, t_bl, t_int, t_str, t_tup, t_ref, t_lst, t_rol, t_dct, q_tup, q_str, q_ref, q_lget, q_lst, q_rol, q_il, q_it, q_is, q_gt, q_gs, q_gn, q_gr, c_eqi, c_eqs, c_eqb, c_nei, c_nes, c_neb, c_lt, c_le, c_gt, c_ge, c_ltS, c_isnon, c_nisnon, c_isbl, c_nisbl, c_isint, c_nisint, c_isstr, c_nisstr, c_istup, c_nistup, c_isref, c_nisref, c_in, c_nin, c_mstr, c_mtup, c_mref, c_mlst, c_mdst, c_mdin, b_addi, b_adds, b_addt, b_sub, b_mul, b_muls, b_fdiv, b_mod, b_pow, b_shl, b_aug, b_augs, b_augu, i_tup, i_str, i_chs, i_ref, i_lst, i_rol, i_dst, i_din, Ev.s_tup, Ev.s_str', Ev.s_ref, Ev.s_lst, r_str, r_ref, r_lst, l_str, l_tup, l_ref, l_lst, l_rol, l_dct, l_abs, l_int, l_intb, l_ord, z_tl, z_tt, z_ll, z_lt, z_any, z_all, z_sum, z_any1, z_all1, z_sum1, z_srt, z_srs, z_sri, y_tup_tuple, y_tup_list, y_tup_bool, y_tup_int, y_tup_str, y_tup_dict, y_str_tuple, y_str_list, y_str_bool, y_str_int, y_str_str, y_str_dict, y_int_tuple, y_int_list, y_int_bool, y_int_int, y_int_str, y_int_dict, y_bl_tuple, y_bl_list, y_bl_bool, y_bl_int, y_bl_str, y_bl_dict, y_non_tuple, y_non_list, y_non_bool, y_non_int, y_non_str, y_non_dict, m_pop, m_pop1, m_rca, m_app, m_app1, p_ref, p_get, p_gst, p_gin, SZ, Nat.reduceLT, Nat.reduceBEq, Int.reduceLT, Int.reduceLE, Int.reduceBEq, Int.reduceNeg, Int.reduceAdd, Int.reduceSub, Int.reduceMul, R.bind_ok, R.bind_exc, R.quiet_ok, R.to_ok, R.to_exc, RS.nxt_nx, RS.nxt_rt, RS.nxt_bk, RS.nxt_ct, RS.nxt_exc, RS.hush_nx, RS.hush_rt, RS.turn_nx, RS.turn_ct, RS.turn_bk, RS.turn_rt, RS.turn_exc, ok?_some, chk_true, Option.bind_some, Option.map_some, Option.isSome_some, List.getElem?_cons_zero, List.getElem?_cons_succ, List.getElem?_nil, List.set_cons_zero, List.set_cons_succ, List.length_cons, List.length_nil, Nat.reduceAdd, Nat.reduceLeDiff, decide_true, decide_false, Bool.not_true, Bool.not_false, Bool.and_self, Bool.true_and, Bool.and_true, Bool.or_true, Bool.true_or, Bool.or_false, Bool.false_or, if_true, List.nil_append, List.cons_append, Nat.zero_add, List.map_cons, List.map_nil, List.replicate_succ, List.replicate_zero, Nat.reduceSub, List.isEmpty_cons, List.isEmpty_nil, p1, e4, p2]
    rw [p3]
    simp (config := {implicitDefEqProofs := false}) only [v_var, v_get, v_non, v_bl, v_int, v_str, v_cint, v_cstr, v_bin, v_bin1, v_bin2, v_neg, v_neg1, v_not, v_not1, v_NB, v_Bl, v_cmp, v_cmp1, v_cmp2, v_chain, v_ch1, v_ch2, v_ch3t, v_ch3f, v_and, v_and1, v_and2t, v_and2f, v_or, v_or1, v_or2t, v_or2f, v_ite, v_itet, v_itef, v_tup, v_tup1, v_newl, v_newl1, v_dct, v_dct1, v_idx, v_idx1, v_idx2, v_slc, v_slc1, v_slc2, v_slc3, v_rev, v_rev1, v_call, v_call1, v_kw, v_kw1, v_kw2, v_b1, v_b11, v_bs, v_bs1, v_min2, v_min, v_mini, v_max2, v_max, v_maxi, v_join, v_join1, v_join2, v_join2t, v_join3, v_m0, v_m01, v_m1, v_m11, v_m12, v_isi, v_isi1, v_xfld, v_xis, v_tval, v_val1, v_tnot, v_TN, v_tand, v_TAt, v_TAf, v_tor, v_TOt, v_TOf, v_tite, v_TIt, v_TIf, v_yes, v_pn, v_ps, v_p1, v_nil, v_cons, v_a1, v_a2, v_comp, v_cp, v_cpF, v_cpG, v_cpBt, v_cpBf, v_some, v_cp2, v_lst, v_l1, v_qval, v_q1, v_q2, v_rng1, v_rng2, v_r2, v_enm, v_en1, v_zip, v_z1, v_z2t, v_irev, v_rvl, v_rvt, v_ival, v_iv1, w_skip, w_seq, w_asg, w_asg1, w_asg2, w_par, w_par1, w_sub, w_sub1, w_sub2, w_sub3, w_put, w_aug, w_aug1, w_aug2, w_aug3, w_augs, w_as1, w_as2, w_as3, w_as4, w_as5, w_exp, w_nx, w_ret, w_rt, w_ite, w_ift, w_iff, w_whil, w_for, w_for1, w_forF, w_forG, w_brk, w_cont, w_rais, w_rs1, w_rs2, w_try, w_tryok, w_tryx, g_var, g_nil, g_cons, g_tg, g_many0, g_many, g_wipe0, g_wipe, t_non, t_bl, t_int, t_str, t_tup, t_ref, t_lst, t_rol, t_dct, q_tup, q_str, q_ref, q_lget, q_lst, q_rol, q_il, q_it, q_is, q_gt, q_gs, q_gn, q_gr, c_eqi, c_eqs, c_eqb, c_nei, c_nes, c_neb, c_lt, c_le, c_gt, c_ge, c_ltS, c_isnon, c_nisnon, c_isbl, c_nisbl, c_isint, c_nisint, c_isstr, c_nisstr, c_istup, c_nistup, c_isref, c_nisref, c_in, c_nin, c_mstr, c_mtup, c_mref, c_mlst, c_mdst, c_mdin, b_addi, b_adds, b_addt, b_sub, b_mul, b_muls, b_fdiv, b_mod, b_pow, b_shl, b_aug, b_augs, b_augu, i_tup, i_str, i_chs, i_ref, i_lst, i_rol, i_dst, i_din, Ev.s_tup, Ev.s_str', Ev.s_ref, Ev.s_lst, r_str, r_ref, r_lst, l_str, l_tup, l_ref, l_lst, l_rol, l_dct, l_abs, l_int, l_intb, l_ord, z_tl, z_tt, z_ll, z_lt, z_any, z_all, z_sum, z_any1, z_all1, z_sum1, z_srt, z_srs, z_sri, y_tup_tuple, y_tup_list, y_tup_bool, y_tup_int, y_tup_str, y_tup_dict, y_str_tuple, y_str_list, y_str_bool, y_str_int, y_str_str, y_str_dict, y_int_tuple, y_int_list, y_int_bool, y_int_int, y_int_str, y_int_dict, y_bl_tuple, y_bl_list, y_bl_bool, y_bl_int, y_bl_str, y_bl_dict, y_non_tuple, y_non_list, y_non_bool, y_non_int, y_non_str, y_non_dict, m_pop, m_pop1, m_rca, m_app, m_app1, p_ref, p_get, p_gst, p_gin, SZ, Nat.reduceLT, Nat.reduceBEq, Int.reduceLT, Int.reduceLE, Int.reduceBEq, Int.reduceNeg, Int.reduceAdd, Int.reduceSub, Int.reduceMul, R.bind_ok, R.bind_exc, R.quiet_ok, R.to_ok, R.to_exc, RS.nxt_nx, RS.nxt_rt, RS.nxt_bk, RS.nxt_ct, RS.nxt_exc, RS.hush_nx, RS.hush_rt, RS.turn_nx, RS.turn_ct, RS.turn_bk, RS.turn_rt, RS.turn_exc, ok?_some, chk_true, Option.bind_some, Option.map_some, Option.isSome_some, List.getElem?_cons_zero, List.getElem?_cons_succ, List.getElem?_nil, List.set_cons_zero, List.set_cons_succ, List.length_cons, List.length_nil, Nat.reduceAdd, Nat.reduceLeDiff, decide_true, decide_false, Bool.not_true, Bool.not_false, Bool.and_self, Bool.true_and, Bool.and_true, Bool.or_true, Bool.true_or, Bool.or_false, Bool.false_or, if_true, List.nil_append, List.cons_append, Nat.zero_add, List.map_cons, List.map_nil, List.replicate_succ, List.replicate_zero, Nat.reduceSub, List.isEmpty_cons, List.isEmpty_nil, t5, List.length_map, d2, kj, dstrs_map, d3, jn, lB, List.append_assoc, p4]
    rw [p5]
    by_cases e : ws = []
    · subst e
      simp only [List.map_nil] at *
      simp (config := {implicitDefEqProofs := false}) only [v_var, v_get, v_non, v_bl, v_int, v_str, v_cint, v_cstr, v_bin, v_bin1, v_bin2, v_neg, v_neg1, v_not, v_not1, v_NB, v_Bl, v_cmp, v_cmp1, v_cmp2, v_chain, v_ch1, v_ch2, v_ch3t, v_ch3f, v_and, v_and1, v_and2t, v_and2f, v_or, v_or1, v_or2t, v_or2f, v_ite, v_itet, v_itef, v_tup, v_tup1, v_newl, v_newl1, v_dct, v_dct1, v_idx, v_idx1, v_idx2, v_slc, v_slc1, v_slc2, v_slc3, v_rev, v_rev1, v_call, v_call1, v_kw, v_kw1, v_kw2, v_b1, v_b11, v_bs, v_bs1, v_min2, v_min, v_mini, v_max2, v_max, v_maxi, v_join, v_join1, v_join2, v_join2t, v_join3, v_m0, v_m01, v_m1, v_m11, v_m12, v_isi, v_isi1, v_xfld, v_xis, v_tval, v_val1, v_tnot, v_TN, v_tand, v_TAt, v_TAf, v_tor, v_TOt, v_TOf, v_tite, v_TIt, v_TIf, v_yes, v_pn, v_ps, v_p1, v_nil, v_cons, v_a1, v_a2, v_comp, v_cp, v_cpF, v_cpG, v_cpBt, v_cpBf, v_some, v_cp2, v_lst, v_l1, v_qval, v_q1, v_q2, v_rng1, v_rng2, v_r2, v_enm, v_en1, v_zip, v_z1, v_z2t, v_irev, v_rvl, v_rvt, v_ival, v_iv1, w_skip, w_seq, w_asg, w_asg1, w_asg2, w_par, w_par1, w_sub, w_sub1, w_sub2, w_sub3, w_put, w_aug, w_aug1, w_aug2, w_aug3, w_augs, w_as1, w_as2, w_as3, w_as4, w_as5, w_exp, w_nx, w_ret, w_rt, w_ite, w_ift, w_iff, w_whil, w_for, w_for1, w_forF, w_forG, w_brk, w_cont, w_rais, w_rs1, w_rs2, w_try, w_tryok, w_tryx, g_var, g_nil, g_cons, g_tg, g_many0, g_many, g_wipe0, g_wipe, t_non, t_bl, t_int, t_str, t_tup, t_ref, t_lst, t_rol, t_dct, q_tup, q_str, q_ref, q_lget, q_lst, q_rol, q_il, q_it, q_is, q_gt, q_gs, q_gn, q_gr, c_eqi, c_eqs, c_eqb, c_nei, c_nes, c_neb, c_lt, c_le, c_gt, c_ge, c_ltS, c_isnon, c_nisnon, c_isbl, c_nisbl, c_isint, c_nisint, c_isstr, c_nisstr, c_istup, c_nistup, c_isref, c_nisref, c_in, c_nin, c_mstr, c_mtup, c_mref, c_mlst, c_mdst, c_mdin, b_addi, b_adds, b_addt, b_sub, b_mul, b_muls, b_fdiv, b_mod, b_pow, b_shl, b_aug, b_augs, b_augu, i_tup, i_str, i_chs, i_ref, i_lst, i_rol, i_dst, i_din, Ev.s_tup, Ev.s_str', Ev.s_ref, Ev.s_lst, r_str, r_ref, r_lst, l_str, l_tup, l_ref, l_lst, l_rol, l_dct, l_abs, l_int, l_intb, l_ord, z_tl, z_tt, z_ll, z_lt, z_any, z_all, z_sum, z_any1, z_all1, z_sum1, z_srt, z_srs, z_sri, y_tup_tuple, y_tup_list, y_tup_bool, y_tup_int, y_tup_str, y_tup_dict, y_str_tuple, y_str_list, y_str_bool, y_str_int, y_str_str, y_str_dict, y_int_tuple, y_int_list, y_int_bool, y_int_int, y_int_str, y_int_dict, y_bl_tuple, y_bl_list, y_bl_bool, y_bl_int, y_bl_str, y_bl_dict, y_non_tuple, y_non_list, y_non_bool, y_non_int, y_non_str, y_non_dict, m_pop, m_pop1, m_rca, m_app, m_app1, p_ref, p_get, p_gst, p_gin, SZ, Nat.reduceLT, Nat.reduceBEq, Int.reduceLT, Int.reduceLE, Int.reduceBEq, Int.reduceNeg, Int.reduceAdd, Int.reduceSub, Int.reduceMul, R.bind_ok, R.bind_exc, R.quiet_ok, R.to_ok, R.to_exc, RS.nxt_nx, RS.nxt_rt, RS.nxt_bk, RS.nxt_ct, RS.nxt_exc, RS.hush_nx, RS.hush_rt, RS.turn_nx, RS.turn_ct, RS.turn_bk, RS.turn_rt, RS.turn_exc, ok?_some, chk_true, Option.bind_some, Option.map_some, Option.isSome_some, List.getElem?_cons_zero, List.getElem?_cons_succ, List.getElem?_nil, List.set_cons_zero, List.set_cons_succ, List.length_cons, List.length_nil, Nat.reduceAdd, Nat.reduceLeDiff, decide_true, decide_false, Bool.not_true, Bool.not_false, Bool.and_self, Bool.true_and, Bool.and_true, Bool.or_true, Bool.true_or, Bool.or_false, Bool.false_or, if_true, List.nil_append, List.cons_append, Nat.zero_add, List.map_cons, List.map_nil, List.replicate_succ, List.replicate_zero, Nat.reduceSub, List.isEmpty_cons, List.isEmpty_nil, t4, tw, q0, p6]
      rfl
    · have he : (ws.map D.str).isEmpty = false := by cases ws with
        | nil => exact absurd rfl e
        | cons _ _ => rfl
      simp (config := {implicitDefEqProofs := false}) only [v_var, v_get, v_non, v_bl, v_int, v_str, v_cint, v_cstr, v_bin, v_bin1, v_bin2, v_neg, v_neg1, v_not, v_not1, v_NB, v_Bl, v_cmp, v_cmp1, v_cmp2, v_chain, v_ch1, v_ch2, v_ch3t, v_ch3f, v_and, v_and1, v_and2t, v_and2f, v_or, v_or1, v_or2t, v_or2f, v_ite, v_itet, v_itef, v_tup, v_tup1, v_newl, v_newl1, v_dct, v_dct1, v_idx, v_idx1, v_idx2, v_slc, v_slc1, v_slc2, v_slc3, v_rev, v_rev1, v_call, v_call1, v_kw, v_kw1, v_kw2, v_b1, v_b11, v_bs, v_bs1, v_min2, v_min, v_mini, v_max2, v_max, v_maxi, v_join, v_join1, v_join2, v_join2t, v_join3, v_m0, v_m01, v_m1, v_m11, v_m12, v_isi, v_isi1, v_xfld, v_xis, v_tval, v_val1, v_tnot, v_TN, v_tand, v_TAt, v_TAf, v_tor, v_TOt, v_TOf, v_tite, v_TIt, v_TIf, v_yes, v_pn, v_ps, v_p1, v_nil, v_cons, v_a1, v_a2, v_comp, v_cp, v_cpF, v_cpG, v_cpBt, v_cpBf, v_some, v_cp2, v_lst, v_l1, v_qval, v_q1, v_q2, v_rng1, v_rng2, v_r2, v_enm, v_en1, v_zip, v_z1, v_z2t, v_irev, v_rvl, v_rvt, v_ival, v_iv1, w_skip, w_seq, w_asg, w_asg1, w_asg2, w_par, w_par1, w_sub, w_sub1, w_sub2, w_sub3, w_put, w_aug, w_aug1, w_aug2, w_aug3, w_augs, w_as1, w_as2, w_as3, w_as4, w_as5, w_exp, w_nx, w_ret, w_rt, w_ite, w_ift, w_iff, w_whil, w_for, w_for1, w_forF, w_forG, w_brk, w_cont, w_rais, w_rs1, w_rs2, w_try, w_tryok, w_tryx, g_var, g_nil, g_cons, g_tg, g_many0, g_many, g_wipe0, g_wipe, t_non, t_bl, t_int, t_str, t_tup, t_ref, t_lst, t_rol, t_dct, q_tup, q_str, q_ref, q_lget, q_lst, q_rol, q_il, q_it, q_is, q_gt, q_gs, q_gn, q_gr, c_eqi, c_eqs, c_eqb, c_nei, c_nes, c_neb, c_lt, c_le, c_gt, c_ge, c_ltS, c_isnon, c_nisnon, c_isbl, c_nisbl, c_isint, c_nisint, c_isstr, c_nisstr, c_istup, c_nistup, c_isref, c_nisref, c_in, c_nin, c_mstr, c_mtup, c_mref, c_mlst, c_mdst, c_mdin, b_addi, b_adds, b_addt, b_sub, b_mul, b_muls, b_fdiv, b_mod, b_pow, b_shl, b_aug, b_augs, b_augu, i_tup, i_str, i_chs, i_ref, i_lst, i_rol, i_dst, i_din, Ev.s_tup, Ev.s_str', Ev.s_ref, Ev.s_lst, r_str, r_ref, r_lst, l_str, l_tup, l_ref, l_lst, l_rol, l_dct, l_abs, l_int, l_intb, l_ord, z_tl, z_tt, z_ll, z_lt, z_any, z_all, z_sum, z_any1, z_all1, z_sum1, z_srt, z_srs, z_sri, y_tup_tuple, y_tup_list, y_tup_bool, y_tup_int, y_tup_str, y_tup_dict, y_str_tuple, y_str_list, y_str_bool, y_str_int, y_str_str, y_str_dict, y_int_tuple, y_int_list, y_int_bool, y_int_int, y_int_str, y_int_dict, y_bl_tuple, y_bl_list, y_bl_bool, y_bl_int, y_bl_str, y_bl_dict, y_non_tuple, y_non_list, y_non_bool, y_non_int, y_non_str, y_non_dict, m_pop, m_pop1, m_rca, m_app, m_app1, p_ref, p_get, p_gst, p_gin, SZ, Nat.reduceLT, Nat.reduceBEq, Int.reduceLT, Int.reduceLE, Int.reduceBEq, Int.reduceNeg, Int.reduceAdd, Int.reduceSub, Int.reduceMul, R.bind_ok, R.bind_exc, R.quiet_ok, R.to_ok, R.to_exc, RS.nxt_nx, RS.nxt_rt, RS.nxt_bk, RS.nxt_ct, RS.nxt_exc, RS.hush_nx, RS.hush_rt, RS.turn_nx, RS.turn_ct, RS.turn_bk, RS.turn_rt, RS.turn_exc, ok?_some, chk_true, Option.bind_some, Option.map_some, Option.isSome_some, List.getElem?_cons_zero, List.getElem?_cons_succ, List.getElem?_nil, List.set_cons_zero, List.set_cons_succ, List.length_cons, List.length_nil, Nat.reduceAdd, Nat.reduceLeDiff, decide_true, decide_false, Bool.not_true, Bool.not_false, Bool.and_self, Bool.true_and, Bool.and_true, Bool.or_true, Bool.true_or, Bool.or_false, Bool.false_or, if_true, List.nil_append, List.cons_append, Nat.zero_add, List.map_cons, List.map_nil, List.replicate_succ, List.replicate_zero, Nat.reduceSub, List.isEmpty_cons, List.isEmpty_nil, t4, tw, he, p6, e, if_false]
      rfl
theorem tb_bk : Lw.tb[10]? = some ⟨2, 15, core10⟩ := by rfl
theorem book_call (n : Nat) (wd : Bool) (sc : List Int) (j : Jug) (hj : j.ok pl) (rest : Stt) : ∃ (j' : Jug) (b : Bk), j'.ok pl ∧ b.gd ∧ callN Lw.tb (n + 2) 10 [.ref 3, .bl wd] (jst sc j ++ rest) = .ok b.d (jst sc j' ++ rest) := by
  obtain ⟨j', b, more, hj', hb, h⟩ := bk_body n wd sc j hj
  exact ⟨j', b, hj', hb, callJ (e := [some (.ref 3), some (.bl wd), none, none, none, none, none, none, none, none, none, none, none, none, none]) tb_bk rfl rfl rfl (b.cln 4) h rest⟩
end Lk.K10

end
section
set_option linter.all false
set_option maxRecDepth 100000
namespace Lk.K10
open PySem L2 Ev
theorem srt_mem {us : List Nat} {c : Nat} : c ∈ srt us ↔ c ∈ us := (srt_len us).mem_iff
theorem srt_ln (us : List Nat) : (srt us).length = us.length := (srt_len us).length_eq
theorem ask_used (K : Cal) {a0 a1 a2 a3 a4 a5 a6 a7 a8 a9 b0 : Option D} (ks : List (List Nat × List Nat)) (s : Stt) : loopL [] (cpF K none [10] (.var 10) .yes (.idx (.var 10) (.int 1)) [a0, a1, a2, a3, a4, a5, a6, a7, a8, a9, b0]) (ks.map keyD) s = .ok ((ks.map (·.2)).map .str) s := by
  rw [loopL_map1 (g := []) keyD (fun k => D.str k.2) trivial (fun k hk => ?_), List.map_map]; rfl
  unfold keyD
  simp (config := {implicitDefEqProofs := false}) only [v_var, v_get, v_non, v_bl, v_int, v_str, v_cint, v_cstr, v_bin, v_bin1, v_bin2, v_neg, v_neg1, v_not, v_not1, v_NB, v_Bl, v_cmp, v_cmp1, v_cmp2, v_chain, v_ch1, v_ch2, v_ch3t, v_ch3f, v_and, v_and1, v_and2t, v_and2f, v_or, v_or1, v_or2t, v_or2f, v_ite, v_itet, v_itef, v_tup, v_tup1, v_newl, v_newl1, v_dct, v_dct1, v_idx, v_idx1, v_idx2, v_slc, v_slc1, v_slc2, v_slc3, v_rev, v_rev1, v_call, v_call1, v_kw, v_kw1, v_kw2, v_b1, v_b11, v_bs, v_bs1, v_min2, v_min, v_mini, v_max2, v_max, v_maxi, v_join, v_join1, v_join2, v_join2t, v_join3, v_m0, v_m01, v_m1, v_m11, v_m12, v_isi, v_isi1, v_xfld, v_xis, v_tval, v_val1, v_tnot, v_TN, v_tand, v_TAt, v_TAf, v_tor, v_TOt, v_TOf, v_tite, v_TIt, v_TIf, v_yes, v_pn, v_ps, v_p1, v_nil, v_cons, v_a1, v_a2, v_comp, v_cp, v_cpF, v_cpG, v_cpBt, v_cpBf, v_some, v_cp2, v_lst, v_l1, v_qval, v_q1, v_q2, v_rng1, v_rng2, v_r2, v_enm, v_en1, v_zip, v_z1, v_z2t, v_irev, v_rvl, v_rvt, v_ival, v_iv1, w_skip, w_seq, w_asg, w_asg1, w_asg2, w_par, w_par1, w_sub, w_sub1, w_sub2, w_sub3, w_put, w_aug, w_aug1, w_aug2, w_aug3, w_augs, w_as1, w_as2, w_as3, w_as4, w_as5, w_exp, w_nx, w_ret, w_rt, w_ite, w_ift, w_iff, w_whil, w_for, w_for1, w_forF, w_forG, w_brk, w_cont, w_rais, w_rs1, w_rs2, w_try, w_tryok, w_tryx, g_var, g_nil, g_cons, g_tg, g_many0, g_many, g_wipe0, g_wipe, t_non, t_bl, t_int, t_str, t_tup, t_ref, t_lst, t_rol, t_dct, q_tup, q_str, q_ref, q_lget, q_lst, q_rol, q_il, q_it, q_is, q_gt, q_gs, q_gn, q_gr, c_eqi, c_eqs, c_eqb, c_nei, c_nes, c_neb, c_lt, c_le, c_gt, c_ge, c_ltS, c_isnon, c_nisnon, c_isbl, c_nisbl, c_isint, c_nisint, c_isstr, c_nisstr, c_istup, c_nistup, c_isref, c_nisref, c_in, c_nin, c_mstr, c_mtup, c_mref, c_mlst, c_mdst, c_mdin, b_addi, b_adds, b_addt, b_sub, b_mul, b_muls, b_fdiv, b_mod, b_pow, b_shl, b_aug, b_augs, b_augu, i_tup, i_str, i_chs, i_ref, i_lst, i_rol, i_dst, i_din, Ev.s_tup, Ev.s_str', Ev.s_ref, Ev.s_lst, r_str, r_ref, r_lst, l_str, l_tup, l_ref, l_lst, l_rol, l_dct, l_abs, l_int, l_intb, l_ord, z_tl, z_tt, z_ll, z_lt, z_any, z_all, z_sum, z_any1, z_all1, z_sum1, z_srt, z_srs, z_sri, y_tup_tuple, y_tup_list, y_tup_bool, y_tup_int, y_tup_str, y_tup_dict, y_str_tuple, y_str_list, y_str_bool, y_str_int, y_str_str, y_str_dict, y_int_tuple, y_int_list, y_int_bool, y_int_int, y_int_str, y_int_dict, y_bl_tuple, y_bl_list, y_bl_bool, y_bl_int, y_bl_str, y_bl_dict, y_non_tuple, y_non_list, y_non_bool, y_non_int, y_non_str, y_non_dict, m_pop, m_pop1, m_rca, m_app, m_app1, p_ref, p_get, p_gst, p_gin, SZ, Nat.reduceLT, Nat.reduceBEq, Int.reduceLT, Int.reduceLE, Int.reduceBEq, Int.reduceNeg, Int.reduceAdd, Int.reduceSub, Int.reduceMul, R.bind_ok, R.bind_exc, R.quiet_ok, R.to_ok, R.to_exc, RS.nxt_nx, RS.nxt_rt, RS.nxt_bk, RS.nxt_ct, RS.nxt_exc, RS.hush_nx, RS.hush_rt, RS.turn_nx, RS.turn_ct, RS.turn_bk, RS.turn_rt, RS.turn_exc, ok?_some, chk_true, Option.bind_some, Option.map_some, Option.isSome_some, List.getElem?_cons_zero, List.getElem?_cons_succ, List.getElem?_nil, List.set_cons_zero, List.set_cons_succ, List.length_cons, List.length_nil, Nat.reduceAdd, Nat.reduceLeDiff, decide_true, decide_false, Bool.not_true, Bool.not_false, Bool.and_self, Bool.true_and, Bool.and_true, Bool.or_true, Bool.true_or, Bool.or_false, Bool.false_or, if_true, List.nil_append, List.cons_append, Nat.zero_add, List.map_cons, List.map_nil, List.replicate_succ, List.replicate_zero, Nat.reduceSub, List.isEmpty_cons, List.isEmpty_nil]
  rfl
theorem ask_pre (n : Nat) (b : Bk) (hb : b.ok) (sc : List Int) (j : Jug) : ∃ more : Stt, iS (callN Lw.tb (n + 3)) none (.asg (.var 2) (.join (.str []) (.val (.bs .sorted (.val (.join (.str []) (.comp [10] (.var 10) (.val (.val (.idx (.var 1) (.int 0)))) .yes (.idx (.var 10) (.int 1))))))))) [some (.ref 3), some b.d, none, none, none, none, none, none, none, none, none] (jst sc j) = .ok (.nx [some (.ref 3), some b.d, some (.str (srt b.used)), none, none, none, none, none, none, none, none]) (jst sc j ++ more) := by
  have d2 : decide (b.keys.length ≤ 16777216) = true := decide_eq_true (by have := hb.nk; omega)
  have d3 : decide ((((b.keys.map (·.2)).map List.length).sum + b.keys.length * 0) ≤ 16777216) = true := decide_eq_true (by have := hb.nu; unfold Bk.used at this; rw [List.length_flatten] at this; omega)
  have j1 : joinL [] (b.keys.map (·.2)) = b.used := joinL_nil _
  have d4 : decide ((((sortS (b.used.map fun c => [c])).map List.length).sum + (sortS (b.used.map fun c => [c])).length * 0) ≤ 16777216) = true := decide_eq_true (by rw [srt_sum]; have := hb.nu; omega)
  refine ⟨[.lst ((sortS (b.used.map fun c => [c])).map .str)], ?_⟩
  have e1 : (jst sc j).length = 4 := rfl
  have e4 : ∀ x, (jst sc j ++ [Ob.lst x])[4]? = some (.lst x) := fun _ => rfl
  simp (config := {implicitDefEqProofs := false}) only [v_var, v_get, v_non, v_bl, v_int, v_str, v_cint, v_cstr, v_bin, v_bin1, v_bin2, v_neg, v_neg1, v_not, v_not1, v_NB, v_Bl, v_cmp, v_cmp1, v_cmp2, v_chain, v_ch1, v_ch2, v_ch3t, v_ch3f, v_and, v_and1, v_and2t, v_and2f, v_or, v_or1, v_or2t, v_or2f, v_ite, v_itet, v_itef, v_tup, v_tup1, v_newl, v_newl1, v_dct, v_dct1, v_idx, v_idx1, v_idx2, v_slc, v_slc1, v_slc2, v_slc3, v_rev, v_rev1, v_call, v_call1, v_kw, v_kw1, v_kw2, v_b1, v_b11, v_bs, v_bs1, v_min2, v_min, v_mini, v_max2, v_max, v_maxi, v_join, v_join1, v_join2, v_join2t, v_join3, v_m0, v_m01, v_m1, v_m11, v_m12, v_isi, v_isi1, v_xfld, v_xis, v_tval, v_val1, v_tnot, v_TN, v_tand, v_TAt, v_TAf, v_tor, v_TOt, v_TOf, v_tite, v_TIt, v_TIf, v_yes, v_pn, v_ps, v_p1, v_nil, v_cons, v_a1, v_a2, v_comp, v_cp, v_cpF, v_cpG, v_cpBt, v_cpBf, v_some, v_cp2, v_lst, v_l1, v_qval, v_q1, v_q2, v_rng1, v_rng2, v_r2, v_enm, v_en1, v_zip, v_z1, v_z2t, v_irev, v_rvl, v_rvt, v_ival, v_iv1, w_skip, w_seq, w_asg, w_asg1, w_asg2, w_par, w_par1, w_sub, w_sub1, w_sub2, w_sub3, w_put, w_aug, w_aug1, w_aug2, w_aug3, w_augs, w_as1, w_as2, w_as3, w_as4, w_as5, w_exp, w_nx, w_ret, w_rt, w_ite, w_ift, w_iff, w_whil, w_for, w_for1, w_forF, w_forG, w_brk, w_cont, w_rais, w_rs1, w_rs2, w_try, w_tryok, w_tryx, g_var, g_nil, g_cons, g_tg, g_many0, g_many, g_wipe0, g_wipe, t_non, t_bl, t_int, t_str, t_tup, t_ref, t_lst, t_rol, t_dct, q_tup, q_str, q_ref, q_lget, q_lst, q_rol, q_il, q_it, q_is, q_gt, q_gs, q_gn, q_gr, c_eqi, c_eqs, c_eqb, c_nei, c_nes, c_neb, c_lt, c_le, c_gt, c_ge, c_ltS, c_isnon, c_nisnon, c_isbl, c_nisbl, c_isint, c_nisint, c_isstr, c_nisstr, c_istup, c_nistup, c_isref, c_nisref, c_in, c_nin, c_mstr, c_mtup, c_mref, c_mlst, c_mdst, c_mdin, b_addi, b_adds, b_addt, b_sub, b_mul, b_muls, b_fdiv, b_mod, b_pow, b_shl, b_aug, b_augs, b_augu, i_tup, i_str, i_chs, i_ref, i_lst, i_rol, i_dst, i_din, Ev.s_tup, Ev.s_str', Ev.s_ref, Ev.s_lst, r_str, r_ref, r_lst, l_str, l_tup, l_ref, l_lst, l_rol, l_dct, l_abs, l_int, l_intb, l_ord, z_tl, z_tt, z_ll, z_lt, z_any, z_all, z_sum, z_any1, z_all1, z_sum1, z_srt, z_srs, z_sri, y_tup_tuple, y_tup_list, y_tup_bool, y_tup_int, y_tup_str, y_tup_dict, y_str_tuple, y_str_list, y_str_bool, y_str_int, y_str_str, y_str_dict, y_int_tuple, y_int_list, y_int_bool, y_int_int, y_int_str, y_int_dict, y_bl_tuple, y_bl_list, y_bl_bool, y_bl_int, y_bl_str, y_bl_dict, y_non_tuple, y_non_list, y_non_bool, y_non_int, y_non_str, y_non_dict, m_pop, m_pop1, m_rca, m_app, m_app1, p_ref, p_get, p_gst, p_gin, SZ, Nat.reduceLT, Nat.reduceBEq, Int.reduceLT, Int.reduceLE, Int.reduceBEq, Int.reduceNeg, Int.reduceAdd, Int.reduceSub, Int.reduceMul, R.bind_ok, R.bind_exc, R.quiet_ok, R.to_ok, R.to_exc, RS.nxt_nx, RS.nxt_rt, RS.nxt_bk, RS.nxt_ct, RS.nxt_exc, RS.hush_nx, RS.hush_rt, RS.turn_nx, RS.turn_ct, RS.turn_bk, RS.turn_rt, RS.turn_exc, ok?_some, chk_true, Option.bind_some, Option.map_some, Option.isSome_some, List.getElem?_cons_zero, List.getElem?_cons_succ, List.getElem?_nil, List.set_cons_zero, List.set_cons_succ, List.length_cons, List.length_nil, Nat.reduceAdd, Nat.reduceLeDiff, decide_true, decide_false, Bool.not_true, Bool.not_false, Bool.and_self, Bool.true_and, Bool.and_true, Bool.or_true, Bool.true_or, Bool.or_false, Bool.false_or, if_true, List.nil_append, List.cons_append, Nat.zero_add, List.map_cons, List.map_nil, List.replicate_succ, List.replicate_zero, Nat.reduceSub, List.isEmpty_cons, List.isEmpty_nil, bd0, eks, egk, List.length_map, d2, ask_used, dstrs_map, d3, j1, e1, e4, d4]
  rfl
theorem ask_let (n : Nat) (b : Bk) (hb : b.ok) {a0 x2 x4 x5 x6 x7 x8 x9 y0 : Option D} (s : Stt) : ∀ (cs : List Nat) (x3 : Option D), ∃ x3', loopF [] (forF (callN Lw.tb (n + 3)) none (.var 3) (.ite (.not (.val (.call 9 (.cons (.call 0 (.cons (.var 1) (.cons (.var 3) .nil))) (.cons (.call 7 (.cons (.var 1) (.cons (.var 3) .nil))) .nil))))) (.ret (.bl false)) .skip)) (chars cs) [a0, some b.d, x2, x3, x4, x5, x6, x7, x8, x9, y0] s = .ok (.nx [a0, some b.d, x2, x3', x4, x5, x6, x7, x8, x9, y0]) s := by
  intro cs
  induction cs with
  | nil => intro x3; exact ⟨x3, w_lf0⟩
  | cons c cs ih =>
    intro x3
    obtain ⟨x3', h⟩ := ih (some (.str [c]))
    refine ⟨x3', ?_⟩
    rw [show chars (c :: cs) = .str [c] :: chars cs from rfl, w_lf1]
    have h1 := ko_call (n + 2) b hb c
    have h2 := lk_call (n + 2) b hb c
    have cl : (hdD (hits (has c) 0 b.keys)).blw 0 = true := by cases hits (has c) 0 b.keys <;> rfl
    have nd : (hdD (hits (has c) 0 b.keys)).nd < 3000000 := by cases hits (has c) 0 b.keys <;> (unfold hdD D.nd; decide)
    have h3 := same_call tb_same (n + 2) (hdD (hits (has c) 0 b.keys)) cl nd
    have z : forF (callN Lw.tb (n + 3)) none (.var 3) (.ite (.not (.val (.call 9 (.cons (.call 0 (.cons (.var 1) (.cons (.var 3) .nil))) (.cons (.call 7 (.cons (.var 1) (.cons (.var 3) .nil))) .nil))))) (.ret (.bl false)) .skip) (.str [c]) [a0, some b.d, x2, x3, x4, x5, x6, x7, x8, x9, y0] s = .ok (.nx [a0, some b.d, x2, some (.str [c]), x4, x5, x6, x7, x8, x9, y0]) s := by
      simp (config := {implicitDefEqProofs := false}) only [v_var, v_get, v_non, v_bl, v_int, v_str, v_cint, v_cstr, v_bin, v_bin1, v_bin2, v_neg, v_neg1, v_not, v_not1, v_NB, v_Bl, v_cmp, v_cmp1, v_cmp2, v_chain, v_ch1, v_ch2, v_ch3t, v_ch3f, v_and, v_and1, v_and2t, v_and2f, v_or, v_or1, v_or2t, v_or2f, v_ite, v_itet, v_itef, v_tup, v_tup1, v_newl, v_newl1, v_dct, v_dct1, v_idx, v_idx1, v_idx2, v_slc, v_slc1, v_slc2, v_slc3, v_rev, v_rev1, v_call, v_call1, v_kw, v_kw1, v_kw2, v_b1, v_b11, v_bs, v_bs1, v_min2, v_min, v_mini, v_max2, v_max, v_maxi, v_join, v_join1, v_join2, v_join2t, v_join3, v_m0, v_m01, v_m1, v_m11, v_m12, v_isi, v_isi1, v_xfld, v_xis, v_tval, v_val1, v_tnot, v_TN, v_tand, v_TAt, v_TAf, v_tor, v_TOt, v_TOf, v_tite, v_TIt, v_TIf, v_yes, v_pn, v_ps, v_p1, v_nil, v_cons, v_a1, v_a2, v_comp, v_cp, v_cpF, v_cpG, v_cpBt, v_cpBf, v_some, v_cp2, v_lst, v_l1, v_qval, v_q1, v_q2, v_rng1, v_rng2, v_r2, v_enm, v_en1, v_zip, v_z1, v_z2t, v_irev, v_rvl, v_rvt, v_ival, v_iv1, w_skip, w_seq, w_asg, w_asg1, w_asg2, w_par, w_par1, w_sub, w_sub1, w_sub2, w_sub3, w_put, w_aug, w_aug1, w_aug2, w_aug3, w_augs, w_as1, w_as2, w_as3, w_as4, w_as5, w_exp, w_nx, w_ret, w_rt, w_ite, w_ift, w_iff, w_whil, w_for, w_for1, w_forF, w_forG, w_brk, w_cont, w_rais, w_rs1, w_rs2, w_try, w_tryok, w_tryx, g_var, g_nil, g_cons, g_tg, g_many0, g_many, g_wipe0, g_wipe, t_non, t_bl, t_int, t_str, t_tup, t_ref, t_lst, t_rol, t_dct, q_tup, q_str, q_ref, q_lget, q_lst, q_rol, q_il, q_it, q_is, q_gt, q_gs, q_gn, q_gr, c_eqi, c_eqs, c_eqb, c_nei, c_nes, c_neb, c_lt, c_le, c_gt, c_ge, c_ltS, c_isnon, c_nisnon, c_isbl, c_nisbl, c_isint, c_nisint, c_isstr, c_nisstr, c_istup, c_nistup, c_isref, c_nisref, c_in, c_nin, c_mstr, c_mtup, c_mref, c_mlst, c_mdst, c_mdin, b_addi, b_adds, b_addt, b_sub, b_mul, b_muls, b_fdiv, b_mod, b_pow, b_shl, b_aug, b_augs, b_augu, i_tup, i_str, i_chs, i_ref, i_lst, i_rol, i_dst, i_din, Ev.s_tup, Ev.s_str', Ev.s_ref, Ev.s_lst, r_str, r_ref, r_lst, l_str, l_tup, l_ref, l_lst, l_rol, l_dct, l_abs, l_int, l_intb, l_ord, z_tl, z_tt, z_ll, z_lt, z_any, z_all, z_sum, z_any1, z_all1, z_sum1, z_srt, z_srs, z_sri, y_tup_tuple, y_tup_list, y_tup_bool, y_tup_int, y_tup_str, y_tup_dict, y_str_tuple, y_str_list, y_str_bool, y_str_int, y_str_str, y_str_dict, y_int_tuple, y_int_list, y_int_bool, y_int_int, y_int_str, y_int_dict, y_bl_tuple, y_bl_list, y_bl_bool, y_bl_int, y_bl_str, y_bl_dict, y_non_tuple, y_non_list, y_non_bool, y_non_int, y_non_str, y_non_dict, m_pop, m_pop1, m_rca, m_app, m_app1, p_ref, p_get, p_gst, p_gin, SZ, Nat.reduceLT, Nat.reduceBEq, Int.reduceLT, Int.reduceLE, Int.reduceBEq, Int.reduceNeg, Int.reduceAdd, Int.reduceSub, Int.reduceMul, R.bind_ok, R.bind_exc, R.quiet_ok, R.to_ok, R.to_exc, RS.nxt_nx, RS.nxt_rt, RS.nxt_bk, RS.nxt_ct, RS.nxt_exc, RS.hush_nx, RS.hush_rt, RS.turn_nx, RS.turn_ct, RS.turn_bk, RS.turn_rt, RS.turn_exc, ok?_some, chk_true, Option.bind_some, Option.map_some, Option.isSome_some, List.getElem?_cons_zero, List.getElem?_cons_succ, List.getElem?_nil, List.set_cons_zero, List.set_cons_succ, List.length_cons, List.length_nil, Nat.reduceAdd, Nat.reduceLeDiff, decide_true, decide_false, Bool.not_true, Bool.not_false, Bool.and_self, Bool.true_and, Bool.and_true, Bool.or_true, Bool.true_or, Bool.or_false, Bool.false_or, if_true, List.nil_append, List.cons_append, Nat.zero_add, List.map_cons, List.map_nil, List.replicate_succ, List.replicate_zero, Nat.reduceSub, List.isEmpty_cons, List.isEmpty_nil, h1, h2, h3]
    rw [z, RS.turn_nx]
    exact h
theorem ask_draw (n : Nat) {sc : List Int} {rest : Stt} (us : List Nat) (hu : 0 < us.length) {a1 a3 a4 a5 a6 a7 a8 a9 b0 : Option D} (j : Jug) (hj : j.ok pl) (m : Nat) :
    ∃ (cs : List Nat) (j' : Jug), loopL [] (cpF (callN Lw.tb (n + 3)) none [9] (.var 9) .yes (.idx (.var 2) (.call 6 (.cons (.var 0) (.cons (.str [116, 101, 120, 116, 32, 108, 101, 116, 116, 101, 114]) (.cons (.b1 .len (.var 2)) .nil))))) [some (.ref 3), a1, some (.str us), a3, a4, a5, a6, a7, a8, a9, b0]) (rngL 0 1 m) (jst sc j ++ rest) = .ok (cs.map fun c => .str [c]) (jst sc j' ++ rest) ∧ j'.ok pl ∧ cs.length = m ∧ ∀ c ∈ cs, c ∈ us := by
  have hf : ∀ (k : Int) (s : Stt), (∃ j', s = jst sc j' ++ rest ∧ j'.ok pl) → ∃ (a : Nat) (s' : Stt), (cpF (callN Lw.tb (n + 3)) none [9] (.var 9) .yes (.idx (.var 2) (.call 6 (.cons (.var 0) (.cons (.str [116, 101, 120, 116, 32, 108, 101, 116, 116, 101, 114]) (.cons (.b1 .len (.var 2)) .nil))))) [some (.ref 3), a1, some (.str us), a3, a4, a5, a6, a7, a8, a9, b0]) (.int k) s = .ok (some (D.str [a])) s' ∧ (∃ j', s' = jst sc j' ++ rest ∧ j'.ok pl) ∧ a ∈ us := by
    rintro k s ⟨j', rfl, hj'⟩
    obtain ⟨v, j2, v1, v2, h3, _, h4⟩ := pour_call tb_pour (n + 2) (sc := sc) hj' (p := [116, 101, 120, 116, 32, 108, 101, 116, 116, 101, 114]) (m := us.length) (by decide) (by decide) (by omega) rest
    obtain ⟨c, hc, h5⟩ := atI_rng v1 v2
    refine ⟨c, _, ?_, ⟨j2, rfl, h3⟩, hc⟩
    simp (config := {implicitDefEqProofs := false}) only [v_var, v_get, v_non, v_bl, v_int, v_str, v_cint, v_cstr, v_bin, v_bin1, v_bin2, v_neg, v_neg1, v_not, v_not1, v_NB, v_Bl, v_cmp, v_cmp1, v_cmp2, v_chain, v_ch1, v_ch2, v_ch3t, v_ch3f, v_and, v_and1, v_and2t, v_and2f, v_or, v_or1, v_or2t, v_or2f, v_ite, v_itet, v_itef, v_tup, v_tup1, v_newl, v_newl1, v_dct, v_dct1, v_idx, v_idx1, v_idx2, v_slc, v_slc1, v_slc2, v_slc3, v_rev, v_rev1, v_call, v_call1, v_kw, v_kw1, v_kw2, v_b1, v_b11, v_bs, v_bs1, v_min2, v_min, v_mini, v_max2, v_max, v_maxi, v_join, v_join1, v_join2, v_join2t, v_join3, v_m0, v_m01, v_m1, v_m11, v_m12, v_isi, v_isi1, v_xfld, v_xis, v_tval, v_val1, v_tnot, v_TN, v_tand, v_TAt, v_TAf, v_tor, v_TOt, v_TOf, v_tite, v_TIt, v_TIf, v_yes, v_pn, v_ps, v_p1, v_nil, v_cons, v_a1, v_a2, v_comp, v_cp, v_cpF, v_cpG, v_cpBt, v_cpBf, v_some, v_cp2, v_lst, v_l1, v_qval, v_q1, v_q2, v_rng1, v_rng2, v_r2, v_enm, v_en1, v_zip, v_z1, v_z2t, v_irev, v_rvl, v_rvt, v_ival, v_iv1, w_skip, w_seq, w_asg, w_asg1, w_asg2, w_par, w_par1, w_sub, w_sub1, w_sub2, w_sub3, w_put, w_aug, w_aug1, w_aug2, w_aug3, w_augs, w_as1, w_as2, w_as3, w_as4, w_as5, w_exp, w_nx, w_ret, w_rt, w_ite, w_ift, w_iff, w_whil, w_for, w_for1, w_forF, w_forG, w_brk, w_cont, w_rais, w_rs1, w_rs2, w_try, w_tryok, w_tryx, g_var, g_nil, g_cons, g_tg, g_many0, g_many, g_wipe0, g_wipe, t_non, t_bl, t_int, t_str, t_tup, t_ref, t_lst, t_rol, t_dct, q_tup, q_str, q_ref, q_lget, q_lst, q_rol, q_il, q_it, q_is, q_gt, q_gs, q_gn, q_gr, c_eqi, c_eqs, c_eqb, c_nei, c_nes, c_neb, c_lt, c_le, c_gt, c_ge, c_ltS, c_isnon, c_nisnon, c_isbl, c_nisbl, c_isint, c_nisint, c_isstr, c_nisstr, c_istup, c_nistup, c_isref, c_nisref, c_in, c_nin, c_mstr, c_mtup, c_mref, c_mlst, c_mdst, c_mdin, b_addi, b_adds, b_addt, b_sub, b_mul, b_muls, b_fdiv, b_mod, b_pow, b_shl, b_aug, b_augs, b_augu, i_tup, i_str, i_chs, i_ref, i_lst, i_rol, i_dst, i_din, Ev.s_tup, Ev.s_str', Ev.s_ref, Ev.s_lst, r_str, r_ref, r_lst, l_str, l_tup, l_ref, l_lst, l_rol, l_dct, l_abs, l_int, l_intb, l_ord, z_tl, z_tt, z_ll, z_lt, z_any, z_all, z_sum, z_any1, z_all1, z_sum1, z_srt, z_srs, z_sri, y_tup_tuple, y_tup_list, y_tup_bool, y_tup_int, y_tup_str, y_tup_dict, y_str_tuple, y_str_list, y_str_bool, y_str_int, y_str_str, y_str_dict, y_int_tuple, y_int_list, y_int_bool, y_int_int, y_int_str, y_int_dict, y_bl_tuple, y_bl_list, y_bl_bool, y_bl_int, y_bl_str, y_bl_dict, y_non_tuple, y_non_list, y_non_bool, y_non_int, y_non_str, y_non_dict, m_pop, m_pop1, m_rca, m_app, m_app1, p_ref, p_get, p_gst, p_gin, SZ, Nat.reduceLT, Nat.reduceBEq, Int.reduceLT, Int.reduceLE, Int.reduceBEq, Int.reduceNeg, Int.reduceAdd, Int.reduceSub, Int.reduceMul, R.bind_ok, R.bind_exc, R.quiet_ok, R.to_ok, R.to_exc, RS.nxt_nx, RS.nxt_rt, RS.nxt_bk, RS.nxt_ct, RS.nxt_exc, RS.hush_nx, RS.hush_rt, RS.turn_nx, RS.turn_ct, RS.turn_bk, RS.turn_rt, RS.turn_exc, ok?_some, chk_true, Option.bind_some, Option.map_some, Option.isSome_some, List.getElem?_cons_zero, List.getElem?_cons_succ, List.getElem?_nil, List.set_cons_zero, List.set_cons_succ, List.length_cons, List.length_nil, Nat.reduceAdd, Nat.reduceLeDiff, decide_true, decide_false, Bool.not_true, Bool.not_false, Bool.and_self, Bool.true_and, Bool.and_true, Bool.or_true, Bool.true_or, Bool.or_false, Bool.false_or, if_true, List.nil_append, List.cons_append, Nat.zero_add, List.map_cons, List.map_nil, List.replicate_succ, List.replicate_zero, Nat.reduceSub, List.isEmpty_cons, List.isEmpty_nil, h4, h5]
  obtain ⟨cs, s', h1, ⟨j', rfl, h3⟩, h4, h5⟩ := loopL_rng (q := fun c => D.str [c]) hf m 0 _ ⟨j, rfl, hj⟩
  exact ⟨cs, j', h1, h3, h4, h5⟩
theorem nds_ints (xs : List Int) : D.nds (xs.map .int) = xs.length := by
  induction xs with
  | nil => rfl
  | cons x xs ih => simp only [List.map_cons, D.nds, D.nd, ih, List.length_cons]; omega
theorem abc_small : ∀ c ∈ abc, c < 128 := by decide
theorem ask_turn (n : Nat) (b : Bk) (hb : b.gd) (sc : List Int) (j : Jug) (hj : j.ok pl) (rest : Stt) (x3 x4 x5 x6 x7 x8 x9 y0 : Option D) : ∃ (j' : Jug) (z5 z6 z7 z8 : Option D), j'.ok pl ∧
    iS (callN Lw.tb (n + 3)) none (.seq (.asg (.var 5) (.join (.str []) (.comp [9] (.var 9) (.rng1 (.call 6 (.cons (.var 0) (.cons (.str [116, 101, 120, 116]) (.cons (.int 9) .nil))))) .yes (.idx (.var 2) (.call 6 (.cons (.var 0) (.cons (.str [116, 101, 120, 116, 32, 108, 101, 116, 116, 101, 114]) (.cons (.b1 .len (.var 2)) .nil)))))))) (.seq (.asg (.var 6) (.idx (.idx (.var 1) (.int 1)) (.call 6 (.cons (.var 0) (.cons (.str [119, 111, 114, 100]) (.cons (.b1 .len (.idx (.var 1) (.int 1))) .nil)))))) (.seq (.ite (.not (.val (.call 9 (.cons (.tup (.cons (.call 1 (.cons (.var 1) (.cons (.var 5) .nil))) (.cons (.call 1 (.cons (.var 1) (.cons (.var 6) .nil))) (.cons (.call 1 (.cons (.var 1) (.cons (.bin .add (.var 6) (.var 5)) .nil))) .nil)))) (.cons (.tup (.cons (.call 8 (.cons (.var 1) (.cons (.var 5) .nil))) (.cons (.call 8 (.cons (.var 1) (.cons (.var 6) .nil))) (.cons (.call 8 (.cons (.var 1) (.cons (.bin .add (.var 6) (.var 5)) .nil))) .nil)))) .nil))))) (.ret (.bl false)) .skip) (.seq (.asg (.var 7) (.idx (.tup (.cons (.var 5) (.cons (.bin .add (.var 6) (.idx (.var 6) (.int 0))) (.cons (.slc (.var 6) (.some (.int 1)) .none) (.cons (.m0 .upper (.var 6)) (.cons (.str []) (.cons (.bin .add (.var 6) (.str [32])) (.cons (.rev (.var 6)) (.cons (.bin .mul (.str [113]) (.int 17)) (.cons (.str [122, 122, 122]) (.cons (.bin .add (.slc (.var 6) .none (.some (.neg (.int 1)))) (.str [90])) .nil))))))))))) (.call 6 (.cons (.var 0) (.cons (.str [111, 116, 104, 101, 114]) (.cons (.int 10) .nil)))))) (.seq (.asg (.var 8) (.ite (.val (.cmp .isin (.var 7) (.idx (.var 1) (.int 1)))) (.tup (.cons (.str [116, 111, 108, 100]) (.cons (.m1 .index (.idx (.var 1) (.int 1)) (.var 7)) .nil))) (.tup (.cons (.str [114, 97, 105, 115, 101, 100]) (.cons (.str [119, 111, 114, 100]) .nil))))) (.ite (.not (.val (.call 9 (.cons (.tup (.cons (.call 11 (.cons (.var 1) (.cons (.var 6) .nil))) (.cons (.call 11 (.cons (.var 1) (.cons (.var 7) .nil))) .nil))) (.cons (.tup (.cons (.tup (.cons (.str [116, 111, 108, 100]) (.cons (.m1 .index (.idx (.var 1) (.int 1)) (.var 6)) .nil))) (.cons (.var 8) .nil))) .nil))))) (.ret (.bl false)) .skip)))))) [some (.ref 3), some b.d, some (.str (srt b.used)), x3, x4, x5, x6, x7, x8, x9, y0] (jst sc j ++ rest) = .ok (.nx [some (.ref 3), some b.d, some (.str (srt b.used)), x3, x4, z5, z6, z7, z8, x9, y0]) (jst sc j' ++ rest) := by
  have hu := hb.un
  obtain ⟨v1, j1, a1, b1, hj1, _, p1⟩ := pour_call tb_pour (n + 2) (sc := sc) hj (p := [116, 101, 120, 116]) (m := 9) (by decide) (by decide) (by decide) rest
  obtain ⟨tx, j2, p2, hj2, lt, ht⟩ := ask_draw n (sc := sc) (rest := rest) (srt b.used) (by rw [srt_ln]; exact hu) (a1 := some b.d) (a3 := x3) (a4 := x4) (a5 := x5) (a6 := x6) (a7 := x7) (a8 := x8) (a9 := x9) (b0 := y0) j1 hj1 v1.toNat
  obtain ⟨v3, j3, a3, b3, hj3, _, p3⟩ := pour_call tb_pour (n + 2) (sc := sc) hj2 (p := [119, 111, 114, 100]) (m := b.words.length) (by decide) (by decide) (by have := hb.wn; omega) rest
  obtain ⟨w, hw, q3⟩ := atI_rng a3 b3
  obtain ⟨l1, l2⟩ := hb.wl w hw
  have wu := hb.wu w hw
  have tu : ∀ c ∈ tx, c ∈ b.used := fun c hc => srt_mem.1 (ht c hc)
  obtain ⟨v4, j4, a4, b4, hj4, _, p4⟩ := pour_call tb_pour (n + 2) (sc := sc) hj3 (p := [111, 116, 104, 101, 114]) (m := 10) (by decide) (by decide) (by decide) rest
  obtain ⟨w0, hw0, q4⟩ := atI_rng (xs := w) (v := 0) (by omega) (by omega)
  obtain ⟨ot, hot, q5⟩ := atI_rng (xs := [tx, w ++ [w0], cut w (some 1) none, w.map PyProof.Rows.up1, [], w ++ [32], w.reverse, reps [113] 17, [122, 122, 122], cut w none (some (-1)) ++ [90]]) (v := v4) a4 b4
  have r5 := bsi [tx, w ++ [w0], cut w (some 1) none, w.map PyProof.Rows.up1, [], w ++ [32], w.reverse, reps [113] 17, [122, 122, 122], cut w none (some (-1)) ++ [90]]
  simp only [List.map_cons, List.map_nil] at r5
  have n1 : kR1 (.int v1) = fun s => .ok (rngL 0 1 v1.toNat, []) s := funext fun s => R1_i v1 (by omega) (by omega)
  have d1 : decide (w.length ≤ 16777215) = true := decide_eq_true (by omega)
  have d2 : decide (w.length + tx.length ≤ 16777216) = true := decide_eq_true (by omega)
  have d3 : decide (v1.toNat ≤ 16777216) = true := decide_eq_true (by omega)
  have d4 : decide (((tx.map fun c => [c]).map List.length).sum + tx.length * 0 ≤ 16777216) = true := decide_eq_true (by rw [sum1]; omega)
  have cl := cut_len w none (some (-1))
  have d5 : decide ((cut w none (some (-1))).length ≤ 16777215) = true := decide_eq_true (by omega)
  have k17 : (decide (-(2 : Int) ^ 63 ≤ 17) && decide ((17 : Int) < 2 ^ 63) && decide (1 * Int.toNat 17 ≤ 16777216)) = true := by decide
  have up : ∀ s, m0D s .upper (.str w) = .ok (.str (w.map PyProof.Rows.up1)) s := fun s => by
    show Lk.chk (w.all (fun c => decide (c < 128)) && decide (w.length ≤ 5592405)) (R.ok (D.str (w.map PyProof.Rows.up1)) s) = _
    have : w.all (fun c => decide (c < 128)) = true := List.all_eq_true.2 fun c hc => decide_eq_true (abc_small c (hb.ua c (wu c hc)))
    rw [this, decide_eq_true (show w.length ≤ 5592405 by omega)]
    rfl
  have nU := hb.ud
  have wtu : ∀ c ∈ w ++ tx, c ∈ b.used := fun c hc => (List.mem_append.1 hc).elim (wu c) (tu c)
  have f1 := kt_call (n + 2) b hb.ok tx (by omega)
  have f2 := kt_call (n + 2) b hb.ok w (by omega)
  have f3 := kt_call (n + 2) b hb.ok (w ++ tx) (by rw [List.length_append]; omega)
  have g1 := lks_call (n + 1) b hb.ok tx tu (by omega)
  have g2 := lks_call (n + 1) b hb.ok w wu (by omega)
  have g3 := lks_call (n + 1) b hb.ok (w ++ tx) wtu (by rw [List.length_append]; omega)
  rw [keys_law nU tx tu] at g1
  rw [keys_law nU w wu] at g2
  rw [keys_law nU (w ++ tx) wtu] at g3
  have nh : ∀ u, (tupI (hits (hasT u) 0 b.keys)).nd ≤ 13 := fun u => by
    have := hits_len (P := hasT u) b.keys 0
    have := hb.ok.nk
    unfold tupI
    simp only [D.nd, nds_ints]
    omega
  have sm1 := same_call tb_same (n + 2) (.tup [tupI (hits (hasT tx) 0 b.keys), tupI (hits (hasT w) 0 b.keys), tupI (hits (hasT (w ++ tx)) 0 b.keys)]) (by simp only [D.blw, D.blws, tupI_cl, Bool.and_self]) (by
    simp only [D.nd, D.nds]
    have := nh tx
    have := nh w
    have := nh (w ++ tx)
    omega)
  obtain ⟨iw, hiw⟩ := first_some w b.words 0 hw
  have x1 := fun s => bix b s w iw hiw
  have e1 := ln_call (n + 1) b w
  have e2 := ln_call (n + 1) b ot
  have ew : wnD b w = .tup [.str [116, 111, 108, 100], .int iw] := by unfold wnD; rw [if_pos hw, hiw]; rfl
  have nw : ∀ u, (wnD b u).nd ≤ 3 := fun u => by unfold wnD; split <;> (simp only [D.nd, D.nds]; omega)
  have sm2 := same_call tb_same (n + 2) (.tup [wnD b w, wnD b ot]) (by simp only [D.blw, D.blws, wnD_cl, Bool.and_self]) (by
    simp only [D.nd, D.nds]
    have := nw w
    have := nw ot
    omega)
  rw [ew] at e1 sm2
  refine ⟨j4, some (.str tx), some (.str w), some (.str ot), some (wnD b ot), hj4, ?_⟩
  by_cases ho : ot ∈ b.words
  · obtain ⟨io, hio⟩ := first_some ot b.words 0 ho
    have x2 := fun s => bix b s ot io hio
    have eo : wnD b ot = .tup [.str [116, 111, 108, 100], .int io] := by unfold wnD; rw [if_pos ho, hio]; rfl
    rw [eo] at e2 sm2 ⊢
    simp (config := {implicitDefEqProofs := false}) only [v_var, v_get, v_non, v_bl, v_int, v_str, v_cint, v_cstr, v_bin, v_bin1, v_bin2, v_neg, v_neg1, v_not, v_not1, v_NB, v_Bl, v_cmp, v_cmp1, v_cmp2, v_chain, v_ch1, v_ch2, v_ch3t, v_ch3f, v_and, v_and1, v_and2t, v_and2f, v_or, v_or1, v_or2t, v_or2f, v_ite, v_itet, v_itef, v_tup, v_tup1, v_newl, v_newl1, v_dct, v_dct1, v_idx, v_idx1, v_idx2, v_slc, v_slc1, v_slc2, v_slc3, v_rev, v_rev1, v_call, v_call1, v_kw, v_kw1, v_kw2, v_b1, v_b11, v_bs, v_bs1, v_min2, v_min, v_mini, v_max2, v_max, v_maxi, v_join, v_join1, v_join2, v_join2t, v_join3, v_m0, v_m01, v_m1, v_m11, v_m12, v_isi, v_isi1, v_xfld, v_xis, v_tval, v_val1, v_tnot, v_TN, v_tand, v_TAt, v_TAf, v_tor, v_TOt, v_TOf, v_tite, v_TIt, v_TIf, v_yes, v_pn, v_ps, v_p1, v_nil, v_cons, v_a1, v_a2, v_comp, v_cp, v_cpF, v_cpG, v_cpBt, v_cpBf, v_some, v_cp2, v_lst, v_l1, v_qval, v_q1, v_q2, v_rng1, v_rng2, v_r2, v_enm, v_en1, v_zip, v_z1, v_z2t, v_irev, v_rvl, v_rvt, v_ival, v_iv1, w_skip, w_seq, w_asg, w_asg1, w_asg2, w_par, w_par1, w_sub, w_sub1, w_sub2, w_sub3, w_put, w_aug, w_aug1, w_aug2, w_aug3, w_augs, w_as1, w_as2, w_as3, w_as4, w_as5, w_exp, w_nx, w_ret, w_rt, w_ite, w_ift, w_iff, w_whil, w_for, w_for1, w_forF, w_forG, w_brk, w_cont, w_rais, w_rs1, w_rs2, w_try, w_tryok, w_tryx, g_var, g_nil, g_cons, g_tg, g_many0, g_many, g_wipe0, g_wipe, t_non, t_bl, t_int, t_str, t_tup, t_ref, t_lst, t_rol, t_dct, q_tup, q_str, q_ref, q_lget, q_lst, q_rol, q_il, q_it, q_is, q_gt, q_gs, q_gn, q_gr, c_eqi, c_eqs, c_eqb, c_nei, c_nes, c_neb, c_lt, c_le, c_gt, c_ge, c_ltS, c_isnon, c_nisnon, c_isbl, c_nisbl, c_isint, c_nisint, c_isstr, c_nisstr, c_istup, c_nistup, c_isref, c_nisref, c_in, c_nin, c_mstr, c_mtup, c_mref, c_mlst, c_mdst, c_mdin, b_addi, b_adds, b_addt, b_sub, b_mul, b_muls, b_fdiv, b_mod, b_pow, b_shl, b_aug, b_augs, b_augu, i_tup, i_str, i_chs, i_ref, i_lst, i_rol, i_dst, i_din, Ev.s_tup, Ev.s_str', Ev.s_ref, Ev.s_lst, r_str, r_ref, r_lst, l_str, l_tup, l_ref, l_lst, l_rol, l_dct, l_abs, l_int, l_intb, l_ord, z_tl, z_tt, z_ll, z_lt, z_any, z_all, z_sum, z_any1, z_all1, z_sum1, z_srt, z_srs, z_sri, y_tup_tuple, y_tup_list, y_tup_bool, y_tup_int, y_tup_str, y_tup_dict, y_str_tuple, y_str_list, y_str_bool, y_str_int, y_str_str, y_str_dict, y_int_tuple, y_int_list, y_int_bool, y_int_int, y_int_str, y_int_dict, y_bl_tuple, y_bl_list, y_bl_bool, y_bl_int, y_bl_str, y_bl_dict, y_non_tuple, y_non_list, y_non_bool, y_non_int, y_non_str, y_non_dict, m_pop, m_pop1, m_rca, m_app, m_app1, p_ref, p_get, p_gst, p_gin, SZ, Nat.reduceLT, Nat.reduceBEq, Int.reduceLT, Int.reduceLE, Int.reduceBEq, Int.reduceNeg, Int.reduceAdd, Int.reduceSub, Int.reduceMul, R.bind_ok, R.bind_exc, R.quiet_ok, R.to_ok, R.to_exc, RS.nxt_nx, RS.nxt_rt, RS.nxt_bk, RS.nxt_ct, RS.nxt_exc, RS.hush_nx, RS.hush_rt, RS.turn_nx, RS.turn_ct, RS.turn_bk, RS.turn_rt, RS.turn_exc, ok?_some, chk_true, Option.bind_some, Option.map_some, Option.isSome_some, List.getElem?_cons_zero, List.getElem?_cons_succ, List.getElem?_nil, List.set_cons_zero, List.set_cons_succ, List.length_cons, List.length_nil, Nat.reduceAdd, Nat.reduceLeDiff, decide_true, decide_false, Bool.not_true, Bool.not_false, Bool.and_self, Bool.true_and, Bool.and_true, Bool.or_true, Bool.true_or, Bool.or_false, Bool.false_or, if_true, List.nil_append, List.cons_append, Nat.zero_add, List.map_cons, List.map_nil, List.replicate_succ, List.replicate_zero, Nat.reduceSub, List.isEmpty_cons, List.isEmpty_nil, p1, n1, d3, rngL_ln, p2, chars_map, dstrs_map, List.length_map, d4, join1, bd1, bwl, p3, bwi, q3, f1, f2, f3, g1, g2, g3, d1, d2, sm1, q4, up, k17, d5, p4, r5, q5, bmem, ho, brc, x1, x2, e1, e2, sm2]
  · have eo : wnD b ot = .tup [.str [114, 97, 105, 115, 101, 100], .str [119, 111, 114, 100]] := by unfold wnD; rw [if_neg ho]
    rw [eo] at e2 sm2 ⊢
    simp (config := {implicitDefEqProofs := false}) only [v_var, v_get, v_non, v_bl, v_int, v_str, v_cint, v_cstr, v_bin, v_bin1, v_bin2, v_neg, v_neg1, v_not, v_not1, v_NB, v_Bl, v_cmp, v_cmp1, v_cmp2, v_chain, v_ch1, v_ch2, v_ch3t, v_ch3f, v_and, v_and1, v_and2t, v_and2f, v_or, v_or1, v_or2t, v_or2f, v_ite, v_itet, v_itef, v_tup, v_tup1, v_newl, v_newl1, v_dct, v_dct1, v_idx, v_idx1, v_idx2, v_slc, v_slc1, v_slc2, v_slc3, v_rev, v_rev1, v_call, v_call1, v_kw, v_kw1, v_kw2, v_b1, v_b11, v_bs, v_bs1, v_min2, v_min, v_mini, v_max2, v_max, v_maxi, v_join, v_join1, v_join2, v_join2t, v_join3, v_m0, v_m01, v_m1, v_m11, v_m12, v_isi, v_isi1, v_xfld, v_xis, v_tval, v_val1, v_tnot, v_TN, v_tand, v_TAt, v_TAf, v_tor, v_TOt, v_TOf, v_tite, v_TIt, v_TIf, v_yes, v_pn, v_ps, v_p1, v_nil, v_cons, v_a1, v_a2, v_comp, v_cp, v_cpF, v_cpG, v_cpBt, v_cpBf, v_some, v_cp2, v_lst, v_l1, v_qval, v_q1, v_q2, v_rng1, v_rng2, v_r2, v_enm, v_en1, v_zip, v_z1, v_z2t, v_irev, v_rvl, v_rvt, v_ival, v_iv1, w_skip, w_seq, w_asg, w_asg1, w_asg2, w_par, w_par1, w_sub, w_sub1, w_sub2, w_sub3, w_put, w_aug, w_aug1, w_aug2, w_aug3, w_augs, w_as1, w_as2, w_as3, w_as4, w_as5, w_exp, w_nx, w_ret, w_rt, w_ite, w_ift, w_iff, w_whil, w_for, w_for1, w_forF, w_forG, w_brk, w_cont, w_rais, w_rs1, w_rs2, w_try, w_tryok, w_tryx, g_var, g_nil, g_cons, g_tg, g_many0, g_many, g_wipe0, g_wipe, t_non, t_bl, t_int, t_str, t_tup, t_ref, t_lst, t_rol, t_dct, q_tup, q_str, q_ref, q_lget, q_lst, q_rol, q_il, q_it, q_is, q_gt, q_gs, q_gn, q_gr, c_eqi, c_eqs, c_eqb, c_nei, c_nes, c_neb, c_lt, c_le, c_gt, c_ge, c_ltS, c_isnon, c_nisnon, c_isbl, c_nisbl, c_isint, c_nisint, c_isstr, c_nisstr, c_istup, c_nistup, c_isref, c_nisref, c_in, c_nin, c_mstr, c_mtup, c_mref, c_mlst, c_mdst, c_mdin, b_addi, b_adds, b_addt, b_sub, b_mul, b_muls, b_fdiv, b_mod, b_pow, b_shl, b_aug, b_augs, b_augu, i_tup, i_str, i_chs, i_ref, i_lst, i_rol, i_dst, i_din, Ev.s_tup, Ev.s_str', Ev.s_ref, Ev.s_lst, r_str, r_ref, r_lst, l_str, l_tup, l_ref, l_lst, l_rol, l_dct, l_abs, l_int, l_intb, l_ord, z_tl, z_tt, z_ll, z_lt, z_any, z_all, z_sum, z_any1, z_all1, z_sum1, z_srt, z_srs, z_sri, y_tup_tuple, y_tup_list, y_tup_bool, y_tup_int, y_tup_str, y_tup_dict, y_str_tuple, y_str_list, y_str_bool, y_str_int, y_str_str, y_str_dict, y_int_tuple, y_int_list, y_int_bool, y_int_int, y_int_str, y_int_dict, y_bl_tuple, y_bl_list, y_bl_bool, y_bl_int, y_bl_str, y_bl_dict, y_non_tuple, y_non_list, y_non_bool, y_non_int, y_non_str, y_non_dict, m_pop, m_pop1, m_rca, m_app, m_app1, p_ref, p_get, p_gst, p_gin, SZ, Nat.reduceLT, Nat.reduceBEq, Int.reduceLT, Int.reduceLE, Int.reduceBEq, Int.reduceNeg, Int.reduceAdd, Int.reduceSub, Int.reduceMul, R.bind_ok, R.bind_exc, R.quiet_ok, R.to_ok, R.to_exc, RS.nxt_nx, RS.nxt_rt, RS.nxt_bk, RS.nxt_ct, RS.nxt_exc, RS.hush_nx, RS.hush_rt, RS.turn_nx, RS.turn_ct, RS.turn_bk, RS.turn_rt, RS.turn_exc, ok?_some, chk_true, Option.bind_some, Option.map_some, Option.isSome_some, List.getElem?_cons_zero, List.getElem?_cons_succ, List.getElem?_nil, List.set_cons_zero, List.set_cons_succ, List.length_cons, List.length_nil, Nat.reduceAdd, Nat.reduceLeDiff, decide_true, decide_false, Bool.not_true, Bool.not_false, Bool.and_self, Bool.true_and, Bool.and_true, Bool.or_true, Bool.true_or, Bool.or_false, Bool.false_or, if_true, List.nil_append, List.cons_append, Nat.zero_add, List.map_cons, List.map_nil, List.replicate_succ, List.replicate_zero, Nat.reduceSub, List.isEmpty_cons, List.isEmpty_nil, p1, n1, d3, rngL_ln, p2, chars_map, dstrs_map, List.length_map, d4, join1, bd1, bwl, p3, bwi, q3, f1, f2, f3, g1, g2, g3, d1, d2, sm1, q4, up, k17, d5, p4, r5, q5, bmem, ho, brc, x1, e1, e2, sm2]
theorem ask_body (n : Nat) (b : Bk) (hb : b.gd) (sc : List Int) (j : Jug) (hj : j.ok pl) : ∃ (j' : Jug) (more : Stt), j'.ok pl ∧ iS (callN Lw.tb (n + 3)) none core12 [some (.ref 3), some b.d, none, none, none, none, none, none, none, none, none] (jst sc j) = .ok (.rt (.bl true)) (jst sc j' ++ more) := by
  obtain ⟨more, h1⟩ := ask_pre n b hb.ok sc j
  have h2 := lo_call (n + 1) b hb.ok
  have h3 := same_call tb_same (n + 2) (.str (srt b.used)) rfl (by unfold D.nd; decide)
  obtain ⟨x3, h4⟩ := ask_let n b hb.ok (a0 := some (.ref 3)) (x2 := some (.str (srt b.used))) (x4 := none) (x5 := none) (x6 := none) (x7 := none) (x8 := none) (x9 := none) (y0 := none) (jst sc j ++ more) abc none
  have h5 := loopF_rng0 (f := forF (callN Lw.tb (n + 3)) none (.var 4) (.seq (.asg (.var 5) (.join (.str []) (.comp [9] (.var 9) (.rng1 (.call 6 (.cons (.var 0) (.cons (.str [116, 101, 120, 116]) (.cons (.int 9) .nil))))) .yes (.idx (.var 2) (.call 6 (.cons (.var 0) (.cons (.str [116, 101, 120, 116, 32, 108, 101, 116, 116, 101, 114]) (.cons (.b1 .len (.var 2)) .nil)))))))) (.seq (.asg (.var 6) (.idx (.idx (.var 1) (.int 1)) (.call 6 (.cons (.var 0) (.cons (.str [119, 111, 114, 100]) (.cons (.b1 .len (.idx (.var 1) (.int 1))) .nil)))))) (.seq (.ite (.not (.val (.call 9 (.cons (.tup (.cons (.call 1 (.cons (.var 1) (.cons (.var 5) .nil))) (.cons (.call 1 (.cons (.var 1) (.cons (.var 6) .nil))) (.cons (.call 1 (.cons (.var 1) (.cons (.bin .add (.var 6) (.var 5)) .nil))) .nil)))) (.cons (.tup (.cons (.call 8 (.cons (.var 1) (.cons (.var 5) .nil))) (.cons (.call 8 (.cons (.var 1) (.cons (.var 6) .nil))) (.cons (.call 8 (.cons (.var 1) (.cons (.bin .add (.var 6) (.var 5)) .nil))) .nil)))) .nil))))) (.ret (.bl false)) .skip) (.seq (.asg (.var 7) (.idx (.tup (.cons (.var 5) (.cons (.bin .add (.var 6) (.idx (.var 6) (.int 0))) (.cons (.slc (.var 6) (.some (.int 1)) .none) (.cons (.m0 .upper (.var 6)) (.cons (.str []) (.cons (.bin .add (.var 6) (.str [32])) (.cons (.rev (.var 6)) (.cons (.bin .mul (.str [113]) (.int 17)) (.cons (.str [122, 122, 122]) (.cons (.bin .add (.slc (.var 6) .none (.some (.neg (.int 1)))) (.str [90])) .nil))))))))))) (.call 6 (.cons (.var 0) (.cons (.str [111, 116, 104, 101, 114]) (.cons (.int 10) .nil)))))) (.seq (.asg (.var 8) (.ite (.val (.cmp .isin (.var 7) (.idx (.var 1) (.int 1)))) (.tup (.cons (.str [116, 111, 108, 100]) (.cons (.m1 .index (.idx (.var 1) (.int 1)) (.var 7)) .nil))) (.tup (.cons (.str [114, 97, 105, 115, 101, 100]) (.cons (.str [119, 111, 114, 100]) .nil))))) (.ite (.not (.val (.call 9 (.cons (.tup (.cons (.call 11 (.cons (.var 1) (.cons (.var 6) .nil))) (.cons (.call 11 (.cons (.var 1) (.cons (.var 7) .nil))) .nil))) (.cons (.tup (.cons (.tup (.cons (.str [116, 111, 108, 100]) (.cons (.m1 .index (.idx (.var 1) (.int 1)) (.var 6)) .nil))) (.cons (.var 8) .nil))) .nil))))) (.ret (.bl false)) .skip))))))) (P := fun i e s => ∃ (j' : Jug) (x4 x5 x6 x7 x8 : Option D), e = [some (.ref 3), some b.d, some (.str (srt b.used)), x3, x4, x5, x6, x7, x8, none, none] ∧ s = jst sc j' ++ more ∧ j'.ok pl) 5 ?_ [some (.ref 3), some b.d, some (.str (srt b.used)), x3, none, none, none, none, none, none, none] (jst sc j ++ more) ⟨j, none, none, none, none, none, rfl, rfl, hj⟩
  · obtain ⟨e', s', h5, j', x4, x5, x6, x7, x8, he, hs, hj'⟩ := h5
    subst he hs
    refine ⟨j', more, hj', ?_⟩
    unfold core12
    generalize hA : ((.asg (.var 2) (.join (.str []) (.val (.bs .sorted (.val (.join (.str []) (.comp [10] (.var 10) (.val (.val (.idx (.var 1) (.int 0)))) .yes (.idx (.var 10) (.int 1))))))))) : S) = A at *
    generalize hB : ((.ite (.not (.val (.call 9 (.cons (.call 0 (.cons (.var 1) (.cons (.var 3) .nil))) (.cons (.call 7 (.cons (.var 1) (.cons (.var 3) .nil))) .nil))))) (.ret (.bl false)) .skip) : S) = B at *
    generalize hC : ((.seq (.asg (.var 5) (.join (.str []) (.comp [9] (.var 9) (.rng1 (.call 6 (.cons (.var 0) (.cons (.str [116, 101, 120, 116]) (.cons (.int 9) .nil))))) .yes (.idx (.var 2) (.call 6 (.cons (.var 0) (.cons (.str [116, 101, 120, 116, 32, 108, 101, 116, 116, 101, 114]) (.cons (.b1 .len (.var 2)) .nil)))))))) (.seq (.asg (.var 6) (.idx (.idx (.var 1) (.int 1)) (.call 6 (.cons (.var 0) (.cons (.str [119, 111, 114, 100]) (.cons (.b1 .len (.idx (.var 1) (.int 1))) .nil)))))) (.seq (.ite (.not (.val (.call 9 (.cons (.tup (.cons (.call 1 (.cons (.var 1) (.cons (.var 5) .nil))) (.cons (.call 1 (.cons (.var 1) (.cons (.var 6) .nil))) (.cons (.call 1 (.cons (.var 1) (.cons (.bin .add (.var 6) (.var 5)) .nil))) .nil)))) (.cons (.tup (.cons (.call 8 (.cons (.var 1) (.cons (.var 5) .nil))) (.cons (.call 8 (.cons (.var 1) (.cons (.var 6) .nil))) (.cons (.call 8 (.cons (.var 1) (.cons (.bin .add (.var 6) (.var 5)) .nil))) .nil)))) .nil))))) (.ret (.bl false)) .skip) (.seq (.asg (.var 7) (.idx (.tup (.cons (.var 5) (.cons (.bin .add (.var 6) (.idx (.var 6) (.int 0))) (.cons (.slc (.var 6) (.some (.int 1)) .none) (.cons (.m0 .upper (.var 6)) (.cons (.str []) (.cons (.bin .add (.var 6) (.str [32])) (.cons (.rev (.var 6)) (.cons (.bin .mul (.str [113]) (.int 17)) (.cons (.str [122, 122, 122]) (.cons (.bin .add (.slc (.var 6) .none (.some (.neg (.int 1)))) (.str [90])) .nil))))))))))) (.call 6 (.cons (.var 0) (.cons (.str [111, 116, 104, 101, 114]) (.cons (.int 10) .nil)))))) (.seq (.asg (.var 8) (.ite (.val (.cmp .isin (.var 7) (.idx (.var 1) (.int 1)))) (.tup (.cons (.str [116, 111, 108, 100]) (.cons (.m1 .index (.idx (.var 1) (.int 1)) (.var 7)) .nil))) (.tup (.cons (.str [114, 97, 105, 115, 101, 100]) (.cons (.str [119, 111, 114, 100]) .nil))))) (.ite (.not (.val (.call 9 (.cons (.tup (.cons (.call 11 (.cons (.var 1) (.cons (.var 6) .nil))) (.cons (.call 11 (.cons (.var 1) (.cons (.var 7) .nil))) .nil))) (.cons (.tup (.cons (.tup (.cons (.str [116, 111, 108, 100]) (.cons (.m1 .index (.idx (.var 1) (.int 1)) (.var 6)) .nil))) (.cons (.var 8) .nil))) .nil))))) (.ret (.bl false)) .skip)))))) : S) = C at *
    have n1 : ∀ s, kR1 (.int 5) s = .ok (rngL 0 1 5, []) s := fun s => R1_i 5 (by decide) (by decide)
    unfold abc at h4
    simp (config := {implicitDefEqProofs := false}) only [v_var, v_get, v_non, v_bl, v_int, v_str, v_cint, v_cstr, v_bin, v_bin1, v_bin2, v_neg, v_neg1, v_not, v_not1, v_NB, v_Bl, v_cmp, v_cmp1, v_cmp2, v_chain, v_ch1, v_ch2, v_ch3t, v_ch3f, v_and, v_and1, v_and2t, v_and2f, v_or, v_or1, v_or2t, v_or2f, v_ite, v_itet, v_itef, v_tup, v_tup1, v_newl, v_newl1, v_dct, v_dct1, v_idx, v_idx1, v_idx2, v_slc, v_slc1, v_slc2, v_slc3, v_rev, v_rev1, v_call, v_call1, v_kw, v_kw1, v_kw2, v_b1, v_b11, v_bs, v_bs1, v_min2, v_min, v_mini, v_max2, v_max, v_maxi, v_join, v_join1, v_join2, v_join2t, v_join3, v_m0, v_m01, v_m1, v_m11, v_m12, v_isi, v_isi1, v_xfld, v_xis, v_tval, v_val1, v_tnot, v_TN, v_tand, v_TAt, v_TAf, v_tor, v_TOt, v_TOf, v_tite, v_TIt, v_TIf, v_yes, v_pn, v_ps, v_p1, v_nil, v_cons, v_a1, v_a2, v_comp, v_cp, v_cpF, v_cpG, v_cpBt, v_cpBf, v_some, v_cp2, v_lst, v_l1, v_qval, v_q1, v_q2, v_rng1, v_rng2, v_r2, v_enm, v_en1, v_zip, v_z1, v_z2t, v_irev, v_rvl, v_rvt, v_ival, v_iv1, w_skip, w_seq, w_asg, w_asg1, w_asg2, w_par, w_par1, w_sub, w_sub1, w_sub2, w_sub3, w_put, w_aug, w_aug1, w_aug2, w_aug3, w_augs, w_as1, w_as2, w_as3, w_as4, w_as5, w_exp, w_nx, w_ret, w_rt, w_ite, w_ift, w_iff, w_whil, w_for, w_for1, w_forF, w_forG, w_brk, w_cont, w_rais, w_rs1, w_rs2, w_try, w_tryok, w_tryx, g_var, g_nil, g_cons, g_tg, g_many0, g_many, g_wipe0, g_wipe, t_non, t_bl, t_int, t_str, t_tup, t_ref, t_lst, t_rol, t_dct, q_tup, q_str, q_ref, q_lget, q_lst, q_rol, q_il, q_it, q_is, q_gt, q_gs, q_gn, q_gr, c_eqi, c_eqs, c_eqb, c_nei, c_nes, c_neb, c_lt, c_le, c_gt, c_ge, c_ltS, c_isnon, c_nisnon, c_isbl, c_nisbl, c_isint, c_nisint, c_isstr, c_nisstr, c_istup, c_nistup, c_isref, c_nisref, c_in, c_nin, c_mstr, c_mtup, c_mref, c_mlst, c_mdst, c_mdin, b_addi, b_adds, b_addt, b_sub, b_mul, b_muls, b_fdiv, b_mod, b_pow, b_shl, b_aug, b_augs, b_augu, i_tup, i_str, i_chs, i_ref, i_lst, i_rol, i_dst, i_din, Ev.s_tup, Ev.s_str', Ev.s_ref, Ev.s_lst, r_str, r_ref, r_lst, l_str, l_tup, l_ref, l_lst, l_rol, l_dct, l_abs, l_int, l_intb, l_ord, z_tl, z_tt, z_ll, z_lt, z_any, z_all, z_sum, z_any1, z_all1, z_sum1, z_srt, z_srs, z_sri, y_tup_tuple, y_tup_list, y_tup_bool, y_tup_int, y_tup_str, y_tup_dict, y_str_tuple, y_str_list, y_str_bool, y_str_int, y_str_str, y_str_dict, y_int_tuple, y_int_list, y_int_bool, y_int_int, y_int_str, y_int_dict, y_bl_tuple, y_bl_list, y_bl_bool, y_bl_int, y_bl_str, y_bl_dict, y_non_tuple, y_non_list, y_non_bool, y_non_int, y_non_str, y_non_dict, m_pop, m_pop1, m_rca, m_app, m_app1, p_ref, p_get, p_gst, p_gin, SZ, Nat.reduceLT, Nat.reduceBEq, Int.reduceLT, Int.reduceLE, Int.reduceBEq, Int.reduceNeg, Int.reduceAdd, Int.reduceSub, Int.reduceMul, R.bind_ok, R.bind_exc, R.quiet_ok, R.to_ok, R.to_exc, RS.nxt_nx, RS.nxt_rt, RS.nxt_bk, RS.nxt_ct, RS.nxt_exc, RS.hush_nx, RS.hush_rt, RS.turn_nx, RS.turn_ct, RS.turn_bk, RS.turn_rt, RS.turn_exc, ok?_some, chk_true, Option.bind_some, Option.map_some, Option.isSome_some, List.getElem?_cons_zero, List.getElem?_cons_succ, List.getElem?_nil, List.set_cons_zero, List.set_cons_succ, List.length_cons, List.length_nil, Nat.reduceAdd, Nat.reduceLeDiff, decide_true, decide_false, Bool.not_true, Bool.not_false, Bool.and_self, Bool.true_and, Bool.and_true, Bool.or_true, Bool.true_or, Bool.or_false, Bool.false_or, if_true, List.nil_append, List.cons_append, Nat.zero_add, List.map_cons, List.map_nil, List.replicate_succ, List.replicate_zero, Nat.reduceSub, List.isEmpty_cons, List.isEmpty_nil, h1, h2, h3]
    rw [h4]
    simp (config := {implicitDefEqProofs := false}) only [v_var, v_get, v_non, v_bl, v_int, v_str, v_cint, v_cstr, v_bin, v_bin1, v_bin2, v_neg, v_neg1, v_not, v_not1, v_NB, v_Bl, v_cmp, v_cmp1, v_cmp2, v_chain, v_ch1, v_ch2, v_ch3t, v_ch3f, v_and, v_and1, v_and2t, v_and2f, v_or, v_or1, v_or2t, v_or2f, v_ite, v_itet, v_itef, v_tup, v_tup1, v_newl, v_newl1, v_dct, v_dct1, v_idx, v_idx1, v_idx2, v_slc, v_slc1, v_slc2, v_slc3, v_rev, v_rev1, v_call, v_call1, v_kw, v_kw1, v_kw2, v_b1, v_b11, v_bs, v_bs1, v_min2, v_min, v_mini, v_max2, v_max, v_maxi, v_join, v_join1, v_join2, v_join2t, v_join3, v_m0, v_m01, v_m1, v_m11, v_m12, v_isi, v_isi1, v_xfld, v_xis, v_tval, v_val1, v_tnot, v_TN, v_tand, v_TAt, v_TAf, v_tor, v_TOt, v_TOf, v_tite, v_TIt, v_TIf, v_yes, v_pn, v_ps, v_p1, v_nil, v_cons, v_a1, v_a2, v_comp, v_cp, v_cpF, v_cpG, v_cpBt, v_cpBf, v_some, v_cp2, v_lst, v_l1, v_qval, v_q1, v_q2, v_rng1, v_rng2, v_r2, v_enm, v_en1, v_zip, v_z1, v_z2t, v_irev, v_rvl, v_rvt, v_ival, v_iv1, w_skip, w_seq, w_asg, w_asg1, w_asg2, w_par, w_par1, w_sub, w_sub1, w_sub2, w_sub3, w_put, w_aug, w_aug1, w_aug2, w_aug3, w_augs, w_as1, w_as2, w_as3, w_as4, w_as5, w_exp, w_nx, w_ret, w_rt, w_ite, w_ift, w_iff, w_whil, w_for, w_for1, w_forF, w_forG, w_brk, w_cont, w_rais, w_rs1, w_rs2, w_try, w_tryok, w_tryx, g_var, g_nil, g_cons, g_tg, g_many0, g_many, g_wipe0, g_wipe, t_non, t_bl, t_int, t_str, t_tup, t_ref, t_lst, t_rol, t_dct, q_tup, q_str, q_ref, q_lget, q_lst, q_rol, q_il, q_it, q_is, q_gt, q_gs, q_gn, q_gr, c_eqi, c_eqs, c_eqb, c_nei, c_nes, c_neb, c_lt, c_le, c_gt, c_ge, c_ltS, c_isnon, c_nisnon, c_isbl, c_nisbl, c_isint, c_nisint, c_isstr, c_nisstr, c_istup, c_nistup, c_isref, c_nisref, c_in, c_nin, c_mstr, c_mtup, c_mref, c_mlst, c_mdst, c_mdin, b_addi, b_adds, b_addt, b_sub, b_mul, b_muls, b_fdiv, b_mod, b_pow, b_shl, b_aug, b_augs, b_augu, i_tup, i_str, i_chs, i_ref, i_lst, i_rol, i_dst, i_din, Ev.s_tup, Ev.s_str', Ev.s_ref, Ev.s_lst, r_str, r_ref, r_lst, l_str, l_tup, l_ref, l_lst, l_rol, l_dct, l_abs, l_int, l_intb, l_ord, z_tl, z_tt, z_ll, z_lt, z_any, z_all, z_sum, z_any1, z_all1, z_sum1, z_srt, z_srs, z_sri, y_tup_tuple, y_tup_list, y_tup_bool, y_tup_int, y_tup_str, y_tup_dict, y_str_tuple, y_str_list, y_str_bool, y_str_int, y_str_str, y_str_dict, y_int_tuple, y_int_list, y_int_bool, y_int_int, y_int_str, y_int_dict, y_bl_tuple, y_bl_list, y_bl_bool, y_bl_int, y_bl_str, y_bl_dict, y_non_tuple, y_non_list, y_non_bool, y_non_int, y_non_str, y_non_dict, m_pop, m_pop1, m_rca, m_app, m_app1, p_ref, p_get, p_gst, p_gin, SZ, Nat.reduceLT, Nat.reduceBEq, Int.reduceLT, Int.reduceLE, Int.reduceBEq, Int.reduceNeg, Int.reduceAdd, Int.reduceSub, Int.reduceMul, R.bind_ok, R.bind_exc, R.quiet_ok, R.to_ok, R.to_exc, RS.nxt_nx, RS.nxt_rt, RS.nxt_bk, RS.nxt_ct, RS.nxt_exc, RS.hush_nx, RS.hush_rt, RS.turn_nx, RS.turn_ct, RS.turn_bk, RS.turn_rt, RS.turn_exc, ok?_some, chk_true, Option.bind_some, Option.map_some, Option.isSome_some, List.getElem?_cons_zero, List.getElem?_cons_succ, List.getElem?_nil, List.set_cons_zero, List.set_cons_succ, List.length_cons, List.length_nil, Nat.reduceAdd, Nat.reduceLeDiff, decide_true, decide_false, Bool.not_true, Bool.not_false, Bool.and_self, Bool.true_and, Bool.and_true, Bool.or_true, Bool.true_or, Bool.or_false, Bool.false_or, if_true, List.nil_append, List.cons_append, Nat.zero_add, List.map_cons, List.map_nil, List.replicate_succ, List.replicate_zero, Nat.reduceSub, List.isEmpty_cons, List.isEmpty_nil, n1]
    rw [h5]
    simp (config := {implicitDefEqProofs := false}) only [v_var, v_get, v_non, v_bl, v_int, v_str, v_cint, v_cstr, v_bin, v_bin1, v_bin2, v_neg, v_neg1, v_not, v_not1, v_NB, v_Bl, v_cmp, v_cmp1, v_cmp2, v_chain, v_ch1, v_ch2, v_ch3t, v_ch3f, v_and, v_and1, v_and2t, v_and2f, v_or, v_or1, v_or2t, v_or2f, v_ite, v_itet, v_itef, v_tup, v_tup1, v_newl, v_newl1, v_dct, v_dct1, v_idx, v_idx1, v_idx2, v_slc, v_slc1, v_slc2, v_slc3, v_rev, v_rev1, v_call, v_call1, v_kw, v_kw1, v_kw2, v_b1, v_b11, v_bs, v_bs1, v_min2, v_min, v_mini, v_max2, v_max, v_maxi, v_join, v_join1, v_join2, v_join2t, v_join3, v_m0, v_m01, v_m1, v_m11, v_m12, v_isi, v_isi1, v_xfld, v_xis, v_tval, v_val1, v_tnot, v_TN, v_tand, v_TAt, v_TAf, v_tor, v_TOt, v_TOf, v_tite, v_TIt, v_TIf, v_yes, v_pn, v_ps, v_p1, v_nil, v_cons, v_a1, v_a2, v_comp, v_cp, v_cpF, v_cpG, v_cpBt, v_cpBf, v_some, v_cp2, v_lst, v_l1, v_qval, v_q1, v_q2, v_rng1, v_rng2, v_r2, v_enm, v_en1, v_zip, v_z1, v_z2t, v_irev, v_rvl, v_rvt, v_ival, v_iv1, w_skip, w_seq, w_asg, w_asg1, w_asg2, w_par, w_par1, w_sub, w_sub1, w_sub2, w_sub3, w_put, w_aug, w_aug1, w_aug2, w_aug3, w_augs, w_as1, w_as2, w_as3, w_as4, w_as5, w_exp, w_nx, w_ret, w_rt, w_ite, w_ift, w_iff, w_whil, w_for, w_for1, w_forF, w_forG, w_brk, w_cont, w_rais, w_rs1, w_rs2, w_try, w_tryok, w_tryx, g_var, g_nil, g_cons, g_tg, g_many0, g_many, g_wipe0, g_wipe, t_non, t_bl, t_int, t_str, t_tup, t_ref, t_lst, t_rol, t_dct, q_tup, q_str, q_ref, q_lget, q_lst, q_rol, q_il, q_it, q_is, q_gt, q_gs, q_gn, q_gr, c_eqi, c_eqs, c_eqb, c_nei, c_nes, c_neb, c_lt, c_le, c_gt, c_ge, c_ltS, c_isnon, c_nisnon, c_isbl, c_nisbl, c_isint, c_nisint, c_isstr, c_nisstr, c_istup, c_nistup, c_isref, c_nisref, c_in, c_nin, c_mstr, c_mtup, c_mref, c_mlst, c_mdst, c_mdin, b_addi, b_adds, b_addt, b_sub, b_mul, b_muls, b_fdiv, b_mod, b_pow, b_shl, b_aug, b_augs, b_augu, i_tup, i_str, i_chs, i_ref, i_lst, i_rol, i_dst, i_din, Ev.s_tup, Ev.s_str', Ev.s_ref, Ev.s_lst, r_str, r_ref, r_lst, l_str, l_tup, l_ref, l_lst, l_rol, l_dct, l_abs, l_int, l_intb, l_ord, z_tl, z_tt, z_ll, z_lt, z_any, z_all, z_sum, z_any1, z_all1, z_sum1, z_srt, z_srs, z_sri, y_tup_tuple, y_tup_list, y_tup_bool, y_tup_int, y_tup_str, y_tup_dict, y_str_tuple, y_str_list, y_str_bool, y_str_int, y_str_str, y_str_dict, y_int_tuple, y_int_list, y_int_bool, y_int_int, y_int_str, y_int_dict, y_bl_tuple, y_bl_list, y_bl_bool, y_bl_int, y_bl_str, y_bl_dict, y_non_tuple, y_non_list, y_non_bool, y_non_int, y_non_str, y_non_dict, m_pop, m_pop1, m_rca, m_app, m_app1, p_ref, p_get, p_gst, p_gin, SZ, Nat.reduceLT, Nat.reduceBEq, Int.reduceLT, Int.reduceLE, Int.reduceBEq, Int.reduceNeg, Int.reduceAdd, Int.reduceSub, Int.reduceMul, R.bind_ok, R.bind_exc, R.quiet_ok, R.to_ok, R.to_exc, RS.nxt_nx, RS.nxt_rt, RS.nxt_bk, RS.nxt_ct, RS.nxt_exc, RS.hush_nx, RS.hush_rt, RS.turn_nx, RS.turn_ct, RS.turn_bk, RS.turn_rt, RS.turn_exc, ok?_some, chk_true, Option.bind_some, Option.map_some, Option.isSome_some, List.getElem?_cons_zero, List.getElem?_cons_succ, List.getElem?_nil, List.set_cons_zero, List.set_cons_succ, List.length_cons, List.length_nil, Nat.reduceAdd, Nat.reduceLeDiff, decide_true, decide_false, Bool.not_true, Bool.not_false, Bool.and_self, Bool.true_and, Bool.and_true, Bool.or_true, Bool.true_or, Bool.or_false, Bool.false_or, if_true, List.nil_append, List.cons_append, Nat.zero_add, List.map_cons, List.map_nil, List.replicate_succ, List.replicate_zero, Nat.reduceSub, List.isEmpty_cons, List.isEmpty_nil]
  · rintro i e s hi ⟨j', x4, x5, x6, x7, x8, rfl, rfl, hj'⟩
    obtain ⟨j2, z5, z6, z7, z8, hj2, ht⟩ := ask_turn n b hb sc j' hj' more x3 (some (.int i)) x5 x6 x7 x8 none none
    refine ⟨_, _, Or.inl ?_, j2, some (.int i), z5, z6, z7, z8, rfl, rfl, hj2⟩
    rw [w_forF, g_var, w_forG]
    exact ht
theorem tb_ask : Lw.tb[12]? = some ⟨2, 11, core12⟩ := by rfl
theorem ask_call (n : Nat) (b : Bk) (hb : b.gd) (sc : List Int) (j : Jug) (hj : j.ok pl) (rest : Stt) : ∃ j' : Jug, j'.ok pl ∧ callN Lw.tb (n + 4) 12 [.ref 3, b.d] (jst sc j ++ rest) = .ok (.bl true) (jst sc j' ++ rest) := by
  obtain ⟨j', more, hj', h⟩ := ask_body n b hb sc j hj
  exact ⟨j', hj', callJ (e := [some (.ref 3), some b.d, none, none, none, none, none, none, none, none, none]) tb_ask rfl rfl (by simp only [D.blws, D.blw, b.cln, Bool.and_self, decide_true, Nat.reduceLT]) rfl h rest⟩
theorem law_turn (sc : List Int) (j : Jug) (hj : j.ok pl) (rest : Stt) (wd : Bool) : ∃ (j1 j2 : Jug) (b : Bk), j2.ok pl ∧ callN Lw.tb 19 10 [.ref 3, .bl wd] (jst sc j ++ rest) = .ok b.d (jst sc j1 ++ rest) ∧ callN Lw.tb 19 12 [.ref 3, b.d] (jst sc j1 ++ rest) = .ok (.bl true) (jst sc j2 ++ rest) := by
  obtain ⟨j1, b, hj1, hb, h1⟩ := book_call 17 wd sc j hj rest
  obtain ⟨j2, hj2, h2⟩ := ask_call 15 b hb sc j1 hj1 rest
  exact ⟨j1, j2, b, hj2, h1, h2⟩
theorem tb_law : Lw.tb[14]? = some ⟨1, 3, core14⟩ := by rfl
theorem law_body (sc : List Int) : ∃ s, iS (callN Lw.tb 19) none core14 [some (.ref 0), none, none] [.rol (sc.map D.int)] = .ok (.rt (.bl true)) s := by
  obtain ⟨j, rest, hj, h1⟩ := jug_call tb_jug 18 sc pl
  have h2 := hand (jst sc j ++ rest)
  have h3 := loopF_rng0 (f := forF (callN Lw.tb 19) none (.var 2) (.ite (.not (.val (.call 12 (.cons (.var 1) (.cons (.call 10 (.cons (.var 1) (.cons (.bl false) .nil))) .nil))))) (.ret (.bl false)) .skip)) (P := fun i e s => ∃ (j' : Jug) (x2 : Option D), e = [some (.ref 0), some (.ref 3), x2] ∧ s = jst sc j' ++ rest ∧ j'.ok pl) 3 ?_ [some (.ref 0), some (.ref 3), none] (jst sc j ++ rest) ⟨j, none, rfl, rfl, hj⟩
  · obtain ⟨e', s', h3, j', x2, rfl, rfl, hj'⟩ := h3
    obtain ⟨v, j2, c1, c2, hj2, _, p⟩ := pour_call tb_pour 18 (sc := sc) hj' (p := [119, 105, 100, 101]) (m := 11) (by decide) (by decide) (by decide) rest
    obtain ⟨j3, j4, b, hj4, p1, p2⟩ := law_turn sc j2 hj2 rest true
    have n1 : ∀ s, kR1 (.int 3) s = .ok (rngL 0 1 3, []) s := fun s => R1_i 3 (by decide) (by decide)
    unfold core14
    generalize hA : ((.ite (.not (.val (.call 12 (.cons (.var 1) (.cons (.call 10 (.cons (.var 1) (.cons (.bl false) .nil))) .nil))))) (.ret (.bl false)) .skip) : S) = A at *
    simp (config := {implicitDefEqProofs := false}) only [v_var, v_get, v_non, v_bl, v_int, v_str, v_cint, v_cstr, v_bin, v_bin1, v_bin2, v_neg, v_neg1, v_not, v_not1, v_NB, v_Bl, v_cmp, v_cmp1, v_cmp2, v_chain, v_ch1, v_ch2, v_ch3t, v_ch3f, v_and, v_and1, v_and2t, v_and2f, v_or, v_or1, v_or2t, v_or2f, v_ite, v_itet, v_itef, v_tup, v_tup1, v_newl, v_newl1, v_dct, v_dct1, v_idx, v_idx1, v_idx2, v_slc, v_slc1, v_slc2, v_slc3, v_rev, v_rev1, v_call, v_call1, v_kw, v_kw1, v_kw2, v_b1, v_b11, v_bs, v_bs1, v_min2, v_min, v_mini, v_max2, v_max, v_maxi, v_join, v_join1, v_join2, v_join2t, v_join3, v_m0, v_m01, v_m1, v_m11, v_m12, v_isi, v_isi1, v_xfld, v_xis, v_tval, v_val1, v_tnot, v_TN, v_tand, v_TAt, v_TAf, v_tor, v_TOt, v_TOf, v_tite, v_TIt, v_TIf, v_yes, v_pn, v_ps, v_p1, v_nil, v_cons, v_a1, v_a2, v_comp, v_cp, v_cpF, v_cpG, v_cpBt, v_cpBf, v_some, v_cp2, v_lst, v_l1, v_qval, v_q1, v_q2, v_rng1, v_rng2, v_r2, v_enm, v_en1, v_zip, v_z1, v_z2t, v_irev, v_rvl, v_rvt, v_ival, v_iv1, w_skip, w_seq, w_asg, w_asg1, w_asg2, w_par, w_par1, w_sub, w_sub1, w_sub2, w_sub3, w_put, w_aug, w_aug1, w_aug2, w_aug3, w_augs, w_as1, w_as2, w_as3, w_as4, w_as5, w_exp, w_nx, w_ret, w_rt, w_ite, w_ift, w_iff, w_whil, w_for, w_for1, w_forF, w_forG, w_brk, w_cont, w_rais, w_rs1, w_rs2, w_try, w_tryok, w_tryx, g_var, g_nil, g_cons, g_tg, g_many0, g_many, g_wipe0, g_wipe, t_non, t_bl, t_int, t_str, t_tup, t_ref, t_lst, t_rol, t_dct, q_tup, q_str, q_ref, q_lget, q_lst, q_rol, q_il, q_it, q_is, q_gt, q_gs, q_gn, q_gr, c_eqi, c_eqs, c_eqb, c_nei, c_nes, c_neb, c_lt, c_le, c_gt, c_ge, c_ltS, c_isnon, c_nisnon, c_isbl, c_nisbl, c_isint, c_nisint, c_isstr, c_nisstr, c_istup, c_nistup, c_isref, c_nisref, c_in, c_nin, c_mstr, c_mtup, c_mref, c_mlst, c_mdst, c_mdin, b_addi, b_adds, b_addt, b_sub, b_mul, b_muls, b_fdiv, b_mod, b_pow, b_shl, b_aug, b_augs, b_augu, i_tup, i_str, i_chs, i_ref, i_lst, i_rol, i_dst, i_din, Ev.s_tup, Ev.s_str', Ev.s_ref, Ev.s_lst, r_str, r_ref, r_lst, l_str, l_tup, l_ref, l_lst, l_rol, l_dct, l_abs, l_int, l_intb, l_ord, z_tl, z_tt, z_ll, z_lt, z_any, z_all, z_sum, z_any1, z_all1, z_sum1, z_srt, z_srs, z_sri, y_tup_tuple, y_tup_list, y_tup_bool, y_tup_int, y_tup_str, y_tup_dict, y_str_tuple, y_str_list, y_str_bool, y_str_int, y_str_str, y_str_dict, y_int_tuple, y_int_list, y_int_bool, y_int_int, y_int_str, y_int_dict, y_bl_tuple, y_bl_list, y_bl_bool, y_bl_int, y_bl_str, y_bl_dict, y_non_tuple, y_non_list, y_non_bool, y_non_int, y_non_str, y_non_dict, m_pop, m_pop1, m_rca, m_app, m_app1, p_ref, p_get, p_gst, p_gin, SZ, Nat.reduceLT, Nat.reduceBEq, Int.reduceLT, Int.reduceLE, Int.reduceBEq, Int.reduceNeg, Int.reduceAdd, Int.reduceSub, Int.reduceMul, R.bind_ok, R.bind_exc, R.quiet_ok, R.to_ok, R.to_exc, RS.nxt_nx, RS.nxt_rt, RS.nxt_bk, RS.nxt_ct, RS.nxt_exc, RS.hush_nx, RS.hush_rt, RS.turn_nx, RS.turn_ct, RS.turn_bk, RS.turn_rt, RS.turn_exc, ok?_some, chk_true, Option.bind_some, Option.map_some, Option.isSome_some, List.getElem?_cons_zero, List.getElem?_cons_succ, List.getElem?_nil, List.set_cons_zero, List.set_cons_succ, List.length_cons, List.length_nil, Nat.reduceAdd, Nat.reduceLeDiff, decide_true, decide_false, Bool.not_true, Bool.not_false, Bool.and_self, Bool.true_and, Bool.and_true, Bool.or_true, Bool.true_or, Bool.or_false, Bool.false_or, if_true, List.nil_append, List.cons_append, Nat.zero_add, List.map_cons, List.map_nil, List.replicate_succ, List.replicate_zero, Nat.reduceSub, List.isEmpty_cons, List.isEmpty_nil, h1, h2, n1]
    rw [h3]
    by_cases hv : v = 7
    · have hv2 : (v == 7) = true := beq_iff_eq.2 hv
      simp (config := {implicitDefEqProofs := false}) only [v_var, v_get, v_non, v_bl, v_int, v_str, v_cint, v_cstr, v_bin, v_bin1, v_bin2, v_neg, v_neg1, v_not, v_not1, v_NB, v_Bl, v_cmp, v_cmp1, v_cmp2, v_chain, v_ch1, v_ch2, v_ch3t, v_ch3f, v_and, v_and1, v_and2t, v_and2f, v_or, v_or1, v_or2t, v_or2f, v_ite, v_itet, v_itef, v_tup, v_tup1, v_newl, v_newl1, v_dct, v_dct1, v_idx, v_idx1, v_idx2, v_slc, v_slc1, v_slc2, v_slc3, v_rev, v_rev1, v_call, v_call1, v_kw, v_kw1, v_kw2, v_b1, v_b11, v_bs, v_bs1, v_min2, v_min, v_mini, v_max2, v_max, v_maxi, v_join, v_join1, v_join2, v_join2t, v_join3, v_m0, v_m01, v_m1, v_m11, v_m12, v_isi, v_isi1, v_xfld, v_xis, v_tval, v_val1, v_tnot, v_TN, v_tand, v_TAt, v_TAf, v_tor, v_TOt, v_TOf, v_tite, v_TIt, v_TIf, v_yes, v_pn, v_ps, v_p1, v_nil, v_cons, v_a1, v_a2, v_comp, v_cp, v_cpF, v_cpG, v_cpBt, v_cpBf, v_some, v_cp2, v_lst, v_l1, v_qval, v_q1, v_q2, v_rng1, v_rng2, v_r2, v_enm, v_en1, v_zip, v_z1, v_z2t, v_irev, v_rvl, v_rvt, v_ival, v_iv1, w_skip, w_seq, w_asg, w_asg1, w_asg2, w_par, w_par1, w_sub, w_sub1, w_sub2, w_sub3, w_put, w_aug, w_aug1, w_aug2, w_aug3, w_augs, w_as1, w_as2, w_as3, w_as4, w_as5, w_exp, w_nx, w_ret, w_rt, w_ite, w_ift, w_iff, w_whil, w_for, w_for1, w_forF, w_forG, w_brk, w_cont, w_rais, w_rs1, w_rs2, w_try, w_tryok, w_tryx, g_var, g_nil, g_cons, g_tg, g_many0, g_many, g_wipe0, g_wipe, t_non, t_bl, t_int, t_str, t_tup, t_ref, t_lst, t_rol, t_dct, q_tup, q_str, q_ref, q_lget, q_lst, q_rol, q_il, q_it, q_is, q_gt, q_gs, q_gn, q_gr, c_eqi, c_eqs, c_eqb, c_nei, c_nes, c_neb, c_lt, c_le, c_gt, c_ge, c_ltS, c_isnon, c_nisnon, c_isbl, c_nisbl, c_isint, c_nisint, c_isstr, c_nisstr, c_istup, c_nistup, c_isref, c_nisref, c_in, c_nin, c_mstr, c_mtup, c_mref, c_mlst, c_mdst, c_mdin, b_addi, b_adds, b_addt, b_sub, b_mul, b_muls, b_fdiv, b_mod, b_pow, b_shl, b_aug, b_augs, b_augu, i_tup, i_str, i_chs, i_ref, i_lst, i_rol, i_dst, i_din, Ev.s_tup, Ev.s_str', Ev.s_ref, Ev.s_lst, r_str, r_ref, r_lst, l_str, l_tup, l_ref, l_lst, l_rol, l_dct, l_abs, l_int, l_intb, l_ord, z_tl, z_tt, z_ll, z_lt, z_any, z_all, z_sum, z_any1, z_all1, z_sum1, z_srt, z_srs, z_sri, y_tup_tuple, y_tup_list, y_tup_bool, y_tup_int, y_tup_str, y_tup_dict, y_str_tuple, y_str_list, y_str_bool, y_str_int, y_str_str, y_str_dict, y_int_tuple, y_int_list, y_int_bool, y_int_int, y_int_str, y_int_dict, y_bl_tuple, y_bl_list, y_bl_bool, y_bl_int, y_bl_str, y_bl_dict, y_non_tuple, y_non_list, y_non_bool, y_non_int, y_non_str, y_non_dict, m_pop, m_pop1, m_rca, m_app, m_app1, p_ref, p_get, p_gst, p_gin, SZ, Nat.reduceLT, Nat.reduceBEq, Int.reduceLT, Int.reduceLE, Int.reduceBEq, Int.reduceNeg, Int.reduceAdd, Int.reduceSub, Int.reduceMul, R.bind_ok, R.bind_exc, R.quiet_ok, R.to_ok, R.to_exc, RS.nxt_nx, RS.nxt_rt, RS.nxt_bk, RS.nxt_ct, RS.nxt_exc, RS.hush_nx, RS.hush_rt, RS.turn_nx, RS.turn_ct, RS.turn_bk, RS.turn_rt, RS.turn_exc, ok?_some, chk_true, Option.bind_some, Option.map_some, Option.isSome_some, List.getElem?_cons_zero, List.getElem?_cons_succ, List.getElem?_nil, List.set_cons_zero, List.set_cons_succ, List.length_cons, List.length_nil, Nat.reduceAdd, Nat.reduceLeDiff, decide_true, decide_false, Bool.not_true, Bool.not_false, Bool.and_self, Bool.true_and, Bool.and_true, Bool.or_true, Bool.true_or, Bool.or_false, Bool.false_or, if_true, List.nil_append, List.cons_append, Nat.zero_add, List.map_cons, List.map_nil, List.replicate_succ, List.replicate_zero, Nat.reduceSub, List.isEmpty_cons, List.isEmpty_nil, p, hv2, p1, p2]
      exact ⟨_, rfl⟩
    · have hv2 : (v == 7) = false := beq_eq_false_iff_ne.2 hv
      simp (config := {implicitDefEqProofs := false}) only [v_var, v_get, v_non, v_bl, v_int, v_str, v_cint, v_cstr, v_bin, v_bin1, v_bin2, v_neg, v_neg1, v_not, v_not1, v_NB, v_Bl, v_cmp, v_cmp1, v_cmp2, v_chain, v_ch1, v_ch2, v_ch3t, v_ch3f, v_and, v_and1, v_and2t, v_and2f, v_or, v_or1, v_or2t, v_or2f, v_ite, v_itet, v_itef, v_tup, v_tup1, v_newl, v_newl1, v_dct, v_dct1, v_idx, v_idx1, v_idx2, v_slc, v_slc1, v_slc2, v_slc3, v_rev, v_rev1, v_call, v_call1, v_kw, v_kw1, v_kw2, v_b1, v_b11, v_bs, v_bs1, v_min2, v_min, v_mini, v_max2, v_max, v_maxi, v_join, v_join1, v_join2, v_join2t, v_join3, v_m0, v_m01, v_m1, v_m11, v_m12, v_isi, v_isi1, v_xfld, v_xis, v_tval, v_val1, v_tnot, v_TN, v_tand, v_TAt, v_TAf, v_tor, v_TOt, v_TOf, v_tite, v_TIt, v_TIf, v_yes, v_pn, v_ps, v_p1, v_nil, v_cons, v_a1, v_a2, v_comp, v_cp, v_cpF, v_cpG, v_cpBt, v_cpBf, v_some, v_cp2, v_lst, v_l1, v_qval, v_q1, v_q2, v_rng1, v_rng2, v_r2, v_enm, v_en1, v_zip, v_z1, v_z2t, v_irev, v_rvl, v_rvt, v_ival, v_iv1, w_skip, w_seq, w_asg, w_asg1, w_asg2, w_par, w_par1, w_sub, w_sub1, w_sub2, w_sub3, w_put, w_aug, w_aug1, w_aug2, w_aug3, w_augs, w_as1, w_as2, w_as3, w_as4, w_as5, w_exp, w_nx, w_ret, w_rt, w_ite, w_ift, w_iff, w_whil, w_for, w_for1, w_forF, w_forG, w_brk, w_cont, w_rais, w_rs1, w_rs2, w_try, w_tryok, w_tryx, g_var, g_nil, g_cons, g_tg, g_many0, g_many, g_wipe0, g_wipe, t_non, t_bl, t_int, t_str, t_tup, t_ref, t_lst, t_rol, t_dct, q_tup, q_str, q_ref, q_lget, q_lst, q_rol, q_il, q_it, q_is, q_gt, q_gs, q_gn, q_gr, c_eqi, c_eqs, c_eqb, c_nei, c_nes, c_neb, c_lt, c_le, c_gt, c_ge, c_ltS, c_isnon, c_nisnon, c_isbl, c_nisbl, c_isint, c_nisint, c_isstr, c_nisstr, c_istup, c_nistup, c_isref, c_nisref, c_in, c_nin, c_mstr, c_mtup, c_mref, c_mlst, c_mdst, c_mdin, b_addi, b_adds, b_addt, b_sub, b_mul, b_muls, b_fdiv, b_mod, b_pow, b_shl, b_aug, b_augs, b_augu, i_tup, i_str, i_chs, i_ref, i_lst, i_rol, i_dst, i_din, Ev.s_tup, Ev.s_str', Ev.s_ref, Ev.s_lst, r_str, r_ref, r_lst, l_str, l_tup, l_ref, l_lst, l_rol, l_dct, l_abs, l_int, l_intb, l_ord, z_tl, z_tt, z_ll, z_lt, z_any, z_all, z_sum, z_any1, z_all1, z_sum1, z_srt, z_srs, z_sri, y_tup_tuple, y_tup_list, y_tup_bool, y_tup_int, y_tup_str, y_tup_dict, y_str_tuple, y_str_list, y_str_bool, y_str_int, y_str_str, y_str_dict, y_int_tuple, y_int_list, y_int_bool, y_int_int, y_int_str, y_int_dict, y_bl_tuple, y_bl_list, y_bl_bool, y_bl_int, y_bl_str, y_bl_dict, y_non_tuple, y_non_list, y_non_bool, y_non_int, y_non_str, y_non_dict, m_pop, m_pop1, m_rca, m_app, m_app1, p_ref, p_get, p_gst, p_gin, SZ, Nat.reduceLT, Nat.reduceBEq, Int.reduceLT, Int.reduceLE, Int.reduceBEq, Int.reduceNeg, Int.reduceAdd, Int.reduceSub, Int.reduceMul, R.bind_ok, R.bind_exc, R.quiet_ok, R.to_ok, R.to_exc, RS.nxt_nx, RS.nxt_rt, RS.nxt_bk, RS.nxt_ct, RS.nxt_exc, RS.hush_nx, RS.hush_rt, RS.turn_nx, RS.turn_ct, RS.turn_bk, RS.turn_rt, RS.turn_exc, ok?_some, chk_true, Option.bind_some, Option.map_some, Option.isSome_some, List.getElem?_cons_zero, List.getElem?_cons_succ, List.getElem?_nil, List.set_cons_zero, List.set_cons_succ, List.length_cons, List.length_nil, Nat.reduceAdd, Nat.reduceLeDiff, decide_true, decide_false, Bool.not_true, Bool.not_false, Bool.and_self, Bool.true_and, Bool.and_true, Bool.or_true, Bool.true_or, Bool.or_false, Bool.false_or, if_true, List.nil_append, List.cons_append, Nat.zero_add, List.map_cons, List.map_nil, List.replicate_succ, List.replicate_zero, Nat.reduceSub, List.isEmpty_cons, List.isEmpty_nil, p, hv2]
      exact ⟨_, rfl⟩
  · rintro i e s hi ⟨j', x2, rfl, rfl, hj'⟩
    obtain ⟨j3, j4, b, hj4, p1, p2⟩ := law_turn sc j' hj' rest false
    refine ⟨_, _, Or.inl ?_, j4, some (.int i), rfl, rfl, hj4⟩
    simp (config := {implicitDefEqProofs := false}) only [v_var, v_get, v_non, v_bl, v_int, v_str, v_cint, v_cstr, v_bin, v_bin1, v_bin2, v_neg, v_neg1, v_not, v_not1, v_NB, v_Bl, v_cmp, v_cmp1, v_cmp2, v_chain, v_ch1, v_ch2, v_ch3t, v_ch3f, v_and, v_and1, v_and2t, v_and2f, v_or, v_or1, v_or2t, v_or2f, v_ite, v_itet, v_itef, v_tup, v_tup1, v_newl, v_newl1, v_dct, v_dct1, v_idx, v_idx1, v_idx2, v_slc, v_slc1, v_slc2, v_slc3, v_rev, v_rev1, v_call, v_call1, v_kw, v_kw1, v_kw2, v_b1, v_b11, v_bs, v_bs1, v_min2, v_min, v_mini, v_max2, v_max, v_maxi, v_join, v_join1, v_join2, v_join2t, v_join3, v_m0, v_m01, v_m1, v_m11, v_m12, v_isi, v_isi1, v_xfld, v_xis, v_tval, v_val1, v_tnot, v_TN, v_tand, v_TAt, v_TAf, v_tor, v_TOt, v_TOf, v_tite, v_TIt, v_TIf, v_yes, v_pn, v_ps, v_p1, v_nil, v_cons, v_a1, v_a2, v_comp, v_cp, v_cpF, v_cpG, v_cpBt, v_cpBf, v_some, v_cp2, v_lst, v_l1, v_qval, v_q1, v_q2, v_rng1, v_rng2, v_r2, v_enm, v_en1, v_zip, v_z1, v_z2t, v_irev, v_rvl, v_rvt, v_ival, v_iv1, w_skip, w_seq, w_asg, w_asg1, w_asg2, w_par, w_par1, w_sub, w_sub1, w_sub2, w_sub3, w_put, w_aug, w_aug1, w_aug2, w_aug3, w_augs, w_as1, w_as2, w_as3, w_as4, w_as5, w_exp, w_nx, w_ret, w_rt, w_ite, w_ift, w_iff, w_whil, w_for, w_for1, w_forF, w_forG, w_brk, w_cont, w_rais, w_rs1, w_rs2, w_try, w_tryok, w_tryx, g_var, g_nil, g_cons, g_tg, g_many0, g_many, g_wipe0, g_wipe, t_non, t_bl, t_int, t_str, t_tup, t_ref, t_lst, t_rol, t_dct, q_tup, q_str, q_ref, q_lget, q_lst, q_rol, q_il, q_it, q_is, q_gt, q_gs, q_gn, q_gr, c_eqi, c_eqs, c_eqb, c_nei, c_nes, c_neb, c_lt, c_le, c_gt, c_ge, c_ltS, c_isnon, c_nisnon, c_isbl, c_nisbl, c_isint, c_nisint, c_isstr, c_nisstr, c_istup, c_nistup, c_isref, c_nisref, c_in, c_nin, c_mstr, c_mtup, c_mref, c_mlst, c_mdst, c_mdin, b_addi, b_adds, b_addt, b_sub, b_mul, b_muls, b_fdiv, b_mod, b_pow, b_shl, b_aug, b_augs, b_augu, i_tup, i_str, i_chs, i_ref, i_lst, i_rol, i_dst, i_din, Ev.s_tup, Ev.s_str', Ev.s_ref, Ev.s_lst, r_str, r_ref, r_lst, l_str, l_tup, l_ref, l_lst, l_rol, l_dct, l_abs, l_int, l_intb, l_ord, z_tl, z_tt, z_ll, z_lt, z_any, z_all, z_sum, z_any1, z_all1, z_sum1, z_srt, z_srs, z_sri, y_tup_tuple, y_tup_list, y_tup_bool, y_tup_int, y_tup_str, y_tup_dict, y_str_tuple, y_str_list, y_str_bool, y_str_int, y_str_str, y_str_dict, y_int_tuple, y_int_list, y_int_bool, y_int_int, y_int_str, y_int_dict, y_bl_tuple, y_bl_list, y_bl_bool, y_bl_int, y_bl_str, y_bl_dict, y_non_tuple, y_non_list, y_non_bool, y_non_int, y_non_str, y_non_dict, m_pop, m_pop1, m_rca, m_app, m_app1, p_ref, p_get, p_gst, p_gin, SZ, Nat.reduceLT, Nat.reduceBEq, Int.reduceLT, Int.reduceLE, Int.reduceBEq, Int.reduceNeg, Int.reduceAdd, Int.reduceSub, Int.reduceMul, R.bind_ok, R.bind_exc, R.quiet_ok, R.to_ok, R.to_exc, RS.nxt_nx, RS.nxt_rt, RS.nxt_bk, RS.nxt_ct, RS.nxt_exc, RS.hush_nx, RS.hush_rt, RS.turn_nx, RS.turn_ct, RS.turn_bk, RS.turn_rt, RS.turn_exc, ok?_some, chk_true, Option.bind_some, Option.map_some, Option.isSome_some, List.getElem?_cons_zero, List.getElem?_cons_succ, List.getElem?_nil, List.set_cons_zero, List.set_cons_succ, List.length_cons, List.length_nil, Nat.reduceAdd, Nat.reduceLeDiff, decide_true, decide_false, Bool.not_true, Bool.not_false, Bool.and_self, Bool.true_and, Bool.and_true, Bool.or_true, Bool.true_or, Bool.or_false, Bool.false_or, if_true, List.nil_append, List.cons_append, Nat.zero_add, List.map_cons, List.map_nil, List.replicate_succ, List.replicate_zero, Nat.reduceSub, List.isEmpty_cons, List.isEmpty_nil, p1, p2]
theorem law_true : ∀ ns : List Int, ns.length ≤ 63 → ∃ s, callN Lw.tb 20 14 [.ref 0] [.rol (ns.map D.int)] = .ok (.bl true) s := by
  intro ns _
  obtain ⟨s, h⟩ := law_body ns
  rw [callN_eq Lw.tb 19 14 _ _ tb_law rfl]
  show ∃ s', (match iS (callN Lw.tb 19) none core14 [some (.ref 0), none, none] [.rol (ns.map D.int)] with
      | .ok (.rt d) s' => shut [.rol (ns.map D.int)] d s'
      | .ok (.nx _) s' => shut [.rol (ns.map D.int)] .non s'
      | .exc x _ s' => .exc x s'
      | _ => .err) = R.ok (D.bl true) s'
  rw [h]
  show ∃ s', shut _ _ _ = _
  unfold shut
  split
  · exact ⟨_, rfl⟩
  · exact ⟨_, rfl⟩
end Lk.K10

end
section
set_option linter.all false
set_option maxRecDepth 100000
set_option maxHeartbeats 0
set_option maxHeartbeats 4000000
namespace Lk.K10
open PySem PySem.Spec PyProof.Rows L2
theorem all_mk {P : Program} {w : World} {K : PySem.W.Frag} {h : Heap} {mg : Str → Option Value} {fa : Addr} (X : K.In h) (G : h.Ns mainGlobals mg) (hfa : mg "law" = some (.ref fa))
    {f0 : Addr} {oc0 kV0 dc0 pm0 cd0 ct0 : Value} {od0 an0 : Option Addr} {sl0 : Array (Option Value)}
    {f1 : Addr} {oc1 kV1 dc1 pm1 cd1 ct1 : Value} {od1 an1 : Option Addr} {sl1 : Array (Option Value)}
    {f2 : Addr} {oc2 kV2 dc2 pm2 cd2 ct2 : Value} {od2 an2 : Option Addr} {sl2 : Array (Option Value)}
    {f3 : Addr} {oc3 kV3 dc3 pm3 cd3 ct3 : Value} {od3 an3 : Option Addr} {sl3 : Array (Option Value)}
    {f4 : Addr} {oc4 kV4 dc4 pm4 cd4 ct4 : Value} {od4 an4 : Option Addr} {sl4 : Array (Option Value)}
    {f5 : Addr} {oc5 kV5 dc5 pm5 cd5 ct5 : Value} {od5 an5 : Option Addr} {sl5 : Array (Option Value)}
    {f6 : Addr} {oc6 kV6 dc6 pm6 cd6 ct6 : Value} {od6 an6 : Option Addr} {sl6 : Array (Option Value)}
    {f7 : Addr} {oc7 kV7 dc7 pm7 cd7 ct7 : Value} {od7 an7 : Option Addr} {sl7 : Array (Option Value)}
    {f8 : Addr} {oc8 kV8 dc8 pm8 cd8 ct8 : Value} {od8 an8 : Option Addr} {sl8 : Array (Option Value)}
    {f9 : Addr} {oc9 kV9 dc9 pm9 cd9 ct9 : Value} {od9 an9 : Option Addr} {sl9 : Array (Option Value)}
    {f10 : Addr} {oc10 kV10 dc10 pm10 cd10 ct10 : Value} {od10 an10 : Option Addr} {sl10 : Array (Option Value)}
    {f11 : Addr} {oc11 kV11 dc11 pm11 cd11 ct11 : Value} {od11 an11 : Option Addr} {sl11 : Array (Option Value)}
    {f12 : Addr} {oc12 kV12 dc12 pm12 cd12 ct12 : Value} {od12 an12 : Option Addr} {sl12 : Array (Option Value)}
    {f13 : Addr} {oc13 kV13 dc13 pm13 cd13 ct13 : Value} {od13 an13 : Option Addr} {sl13 : Array (Option Value)}
    {f14 : Addr} {oc14 kV14 dc14 pm14 cd14 ct14 : Value} {od14 an14 : Option Addr} {sl14 : Array (Option Value)}
    {CBadStep : Addr}
    {CCallError : Addr}
    {CKeysError : Addr}
    {fI0 : Addr} {ocI0 kVI0 dcI0 pmI0 cdI0 ctI0 : Value} {odI0 anI0 : Option Addr} {slI0 : Array (Option Value)}
    (a0 : PySem.W.nsIn K mainGlobals "key_of" = some (some (.ref f0)))
    (l0 : K.lookup f0 = some ⟨oc0, od0, .func (PySem.W.fnOf "key_of" "key_of" (defArgs (topS 5)) (defBody (topS 5)) (defScope (topS 5)) .none kV0 dc0 pm0 an0 cd0 ct0), sl0⟩)
    (c0 : PySem.W.codeIn K cd0 "key_of" = true)
    (k0 : PySem.W.keepIn K (.ref f0) = true)
    (a1 : PySem.W.nsIn K mainGlobals "keys_of" = some (some (.ref f1)))
    (l1 : K.lookup f1 = some ⟨oc1, od1, .func (PySem.W.fnOf "keys_of" "keys_of" (defArgs (topS 6)) (defBody (topS 6)) (defScope (topS 6)) .none kV1 dc1 pm1 an1 cd1 ct1), sl1⟩)
    (c1 : PySem.W.codeIn K cd1 "keys_of" = true)
    (k1 : PySem.W.keepIn K (.ref f1) = true)
    (a2 : PySem.W.nsIn K mainGlobals "word_number" = some (some (.ref f2)))
    (l2 : K.lookup f2 = some ⟨oc2, od2, .func (PySem.W.fnOf "word_number" "word_number" (defArgs (topS 7)) (defBody (topS 7)) (defScope (topS 7)) .none kV2 dc2 pm2 an2 cd2 ct2), sl2⟩)
    (c2 : PySem.W.codeIn K cd2 "word_number" = true)
    (k2 : PySem.W.keepIn K (.ref f2) = true)
    (a3 : PySem.W.nsIn K mainGlobals "all_letters" = some (some (.ref f3)))
    (l3 : K.lookup f3 = some ⟨oc3, od3, .func (PySem.W.fnOf "all_letters" "all_letters" (defArgs (topS 8)) (defBody (topS 8)) (defScope (topS 8)) .none kV3 dc3 pm3 an3 cd3 ct3), sl3⟩)
    (c3 : PySem.W.codeIn K cd3 "all_letters" = true)
    (k3 : PySem.W.keepIn K (.ref f3) = true)
    (a4 : PySem.W.nsIn K mainGlobals "letters_of" = some (some (.ref f4)))
    (l4 : K.lookup f4 = some ⟨oc4, od4, .func (PySem.W.fnOf "letters_of" "letters_of" (defArgs (topS 9)) (defBody (topS 9)) (defScope (topS 9)) .none kV4 dc4 pm4 an4 cd4 ct4), sl4⟩)
    (c4 : PySem.W.codeIn K cd4 "letters_of" = true)
    (k4 : PySem.W.keepIn K (.ref f4) = true)
    (a5 : PySem.W.nsIn K mainGlobals "_law_pan" = some (some (.ref f5)))
    (l5 : K.lookup f5 = some ⟨oc5, od5, .func (PySem.W.fnOf "_law_pan" "_law_pan" (defArgs (topS 11)) (defBody (topS 11)) (defScope (topS 11)) .none kV5 dc5 pm5 an5 cd5 ct5), sl5⟩)
    (c5 : PySem.W.codeIn K cd5 "_law_pan" = true)
    (k5 : PySem.W.keepIn K (.ref f5) = true)
    (a6 : PySem.W.nsIn K mainGlobals "_law_pick" = some (some (.ref f6)))
    (l6 : K.lookup f6 = some ⟨oc6, od6, .func (PySem.W.fnOf "_law_pick" "_law_pick" (defArgs (topS 12)) (defBody (topS 12)) (defScope (topS 12)) .none kV6 dc6 pm6 an6 cd6 ct6), sl6⟩)
    (c6 : PySem.W.codeIn K cd6 "_law_pick" = true)
    (k6 : PySem.W.keepIn K (.ref f6) = true)
    (a7 : PySem.W.nsIn K mainGlobals "_law_key" = some (some (.ref f7)))
    (l7 : K.lookup f7 = some ⟨oc7, od7, .func (PySem.W.fnOf "_law_key" "_law_key" (defArgs (topS 13)) (defBody (topS 13)) (defScope (topS 13)) .none kV7 dc7 pm7 an7 cd7 ct7), sl7⟩)
    (c7 : PySem.W.codeIn K cd7 "_law_key" = true)
    (k7 : PySem.W.keepIn K (.ref f7) = true)
    (a8 : PySem.W.nsIn K mainGlobals "_law_keys" = some (some (.ref f8)))
    (l8 : K.lookup f8 = some ⟨oc8, od8, .func (PySem.W.fnOf "_law_keys" "_law_keys" (defArgs (topS 14)) (defBody (topS 14)) (defScope (topS 14)) .none kV8 dc8 pm8 an8 cd8 ct8), sl8⟩)
    (c8 : PySem.W.codeIn K cd8 "_law_keys" = true)
    (k8 : PySem.W.keepIn K (.ref f8) = true)
    (a9 : PySem.W.nsIn K mainGlobals "_law_same" = some (some (.ref f9)))
    (l9 : K.lookup f9 = some ⟨oc9, od9, .func (PySem.W.fnOf "_law_same" "_law_same" (defArgs (topS 15)) (defBody (topS 15)) (defScope (topS 15)) .none kV9 dc9 pm9 an9 cd9 ct9), sl9⟩)
    (c9 : PySem.W.codeIn K cd9 "_law_same" = true)
    (k9 : PySem.W.keepIn K (.ref f9) = true)
    (a10 : PySem.W.nsIn K mainGlobals "_law_book" = some (some (.ref f10)))
    (l10 : K.lookup f10 = some ⟨oc10, od10, .func (PySem.W.fnOf "_law_book" "_law_book" (defArgs (topS 16)) (defBody (topS 16)) (defScope (topS 16)) .none kV10 dc10 pm10 an10 cd10 ct10), sl10⟩)
    (c10 : PySem.W.codeIn K cd10 "_law_book" = true)
    (k10 : PySem.W.keepIn K (.ref f10) = true)
    (a11 : PySem.W.nsIn K mainGlobals "_law_number" = some (some (.ref f11)))
    (l11 : K.lookup f11 = some ⟨oc11, od11, .func (PySem.W.fnOf "_law_number" "_law_number" (defArgs (topS 17)) (defBody (topS 17)) (defScope (topS 17)) .none kV11 dc11 pm11 an11 cd11 ct11), sl11⟩)
    (c11 : PySem.W.codeIn K cd11 "_law_number" = true)
    (k11 : PySem.W.keepIn K (.ref f11) = true)
    (a12 : PySem.W.nsIn K mainGlobals "_law_asked" = some (some (.ref f12)))
    (l12 : K.lookup f12 = some ⟨oc12, od12, .func (PySem.W.fnOf "_law_asked" "_law_asked" (defArgs (topS 18)) (defBody (topS 18)) (defScope (topS 18)) .none kV12 dc12 pm12 an12 cd12 ct12), sl12⟩)
    (c12 : PySem.W.codeIn K cd12 "_law_asked" = true)
    (k12 : PySem.W.keepIn K (.ref f12) = true)
    (a13 : PySem.W.nsIn K mainGlobals "_law_hand" = some (some (.ref f13)))
    (l13 : K.lookup f13 = some ⟨oc13, od13, .func (PySem.W.fnOf "_law_hand" "_law_hand" (defArgs (topS 19)) (defBody (topS 19)) (defScope (topS 19)) .none kV13 dc13 pm13 an13 cd13 ct13), sl13⟩)
    (c13 : PySem.W.codeIn K cd13 "_law_hand" = true)
    (k13 : PySem.W.keepIn K (.ref f13) = true)
    (a14 : PySem.W.nsIn K mainGlobals "law" = some (some (.ref f14)))
    (l14 : K.lookup f14 = some ⟨oc14, od14, .func (PySem.W.fnOf "law" "law" (defArgs (topS 20)) (defBody (topS 20)) (defScope (topS 20)) .none kV14 dc14 pm14 an14 cd14 ct14), sl14⟩)
    (c14 : PySem.W.codeIn K cd14 "law" = true)
    (k14 : PySem.W.keepIn K (.ref f14) = true)
    (acBadStep : PySem.W.nsIn K mainGlobals "BadStep" = some (some (.ref CBadStep)))
    (tdBadStep : PySem.W.typeIn K (.ref CBadStep) = some (.type "type"))
    (hdBadStep : PySem.W.hasDictIn K CBadStep = true)
    (exBadStep : PySem.W.subIn K (.ref CBadStep) (.type "BaseException") = some true)
    (acCallError : PySem.W.nsIn K mainGlobals "CallError" = some (some (.ref CCallError)))
    (tdCallError : PySem.W.typeIn K (.ref CCallError) = some (.type "type"))
    (hdCallError : PySem.W.hasDictIn K CCallError = true)
    (exCallError : PySem.W.subIn K (.ref CCallError) (.type "BaseException") = some true)
    (acKeysError : PySem.W.nsIn K mainGlobals "KeysError" = some (some (.ref CKeysError)))
    (tdKeysError : PySem.W.typeIn K (.ref CKeysError) = some (.type "type"))
    (hdKeysError : PySem.W.hasDictIn K CKeysError = true)
    (exKeysError : PySem.W.subIn K (.ref CKeysError) (.type "BaseException") = some true)
    (xL0 : ∃ nm q N bs bm sn sub ab col dd k0 k1 k2 k3 k5, K.lookup CBadStep = some (excClassObj nm q CBadStep N bs bm true sn sub ab col dd k0 k1 k2 k3 k5 "ValueError.__new__") ∧ PySem.HandSPX.refsVE bm = true)
    (gsetattr0 : PySem.W.findIn K (.ref CBadStep) "__setattr__" = some (some (.builtin "object.__setattr__")))
    (ggetattribute0 : PySem.W.findIn K (.ref CBadStep) "__getattribute__" = some (some (.builtin "BaseException.__getattribute__")))
    (ggetattr0 : PySem.W.findIn K (.ref CBadStep) "__getattr__" = some none)
    (gclass0 : PySem.W.findIn K (.ref CBadStep) "__class__" = some (some (.builtin "object.__class__")))
    (ginit0 : PySem.W.findIn K (.ref CBadStep) "__init__" = some (some (.ref fI0)))
    (noword0 : PySem.W.findIn K (.ref CBadStep) "word" = some none)
    (kc0 : PySem.W.keepIn K (.ref CBadStep) = true)
    (mo0 : PySem.W.mroIn K CBadStep (.type "object") = some true)
    (ti0 : PySem.W.typeIn K (.ref fI0) = some (.type "function"))
    (li0 : K.lookup fI0 = some ⟨ocI0, odI0, .func (PySem.W.fnOf "__init__" "BadStep.__init__" (defArgs (inClass (topS 3) 0)) (defBody (inClass (topS 3) 0)) (defScope (inClass (topS 3) 0)) .none kVI0 dcI0 pmI0 anI0 cdI0 ctI0), slI0⟩)
    (ci0 : PySem.W.codeIn K cdI0 "BadStep.__init__" = true)
    (ki0 : PySem.W.keepIn K (.ref fI0) = true)
    (su0BadStep : PySem.W.subIn K (.ref CBadStep) (.ref CBadStep) = some true)
    (su0CallError : PySem.W.subIn K (.ref CBadStep) (.ref CCallError) = some true)
    (su0KeysError : PySem.W.subIn K (.ref CBadStep) (.ref CKeysError) = some true)
    (spg : PySem.W.specialIn K (.builtin "object.__class__") "__get__" = some (some (.builtin "getset_descriptor.__get__")))
    (tkg : PySem.W.takesIn K (.builtin "object.__class__") = some true)
    (zabs : PySem.W.nsIn K mainGlobals "abs" = some none)
    (zany : PySem.W.nsIn K mainGlobals "any" = some none)
    (zbool : PySem.W.nsIn K mainGlobals "bool" = some none)
    (zenumerate : PySem.W.nsIn K mainGlobals "enumerate" = some none)
    (zint : PySem.W.nsIn K mainGlobals "int" = some none)
    (zisinstance : PySem.W.nsIn K mainGlobals "isinstance" = some none)
    (zlen : PySem.W.nsIn K mainGlobals "len" = some none)
    (zlist : PySem.W.nsIn K mainGlobals "list" = some none)
    (zrange : PySem.W.nsIn K mainGlobals "range" = some none)
    (zset : PySem.W.nsIn K mainGlobals "set" = some none)
    (zsorted : PySem.W.nsIn K mainGlobals "sorted" = some none)
    (zstr : PySem.W.nsIn K mainGlobals "str" = some none)
    (ztuple : PySem.W.nsIn K mainGlobals "tuple" = some none)
    : ∃ fd : FuncData, (∀ (s : Shared) (v : Value), BindsTo s fd ⟨[v], []⟩ [("script", v)]) ∧ ∀ base : Heap, K.In base → base.Ns mainGlobals mg → FnOk P w K mg base (L2.CX P w) 22 fa fd ["script"] (spLaw K 63) := by
  have el : f14 = fa := Value.ref.inj (Option.some.inj ((PySem.W.mg_of X G a14).symm.trans hfa))
  subst el
  have F0 := fun_mk (st := topS 5) l0 c0 k0
  have b0 := F0.binds (ps := ["book", "letter"]) fun _ _ _ _ _ _ us hl => match us, hl with | [_, _], _ => rfl
  have F1 := fun_mk (st := topS 6) l1 c1 k1
  have b1 := F1.binds (ps := ["book", "text"]) fun _ _ _ _ _ _ us hl => match us, hl with | [_, _], _ => rfl
  have F2 := fun_mk (st := topS 7) l2 c2 k2
  have b2 := F2.binds (ps := ["book", "text"]) fun _ _ _ _ _ _ us hl => match us, hl with | [_, _], _ => rfl
  have F3 := fun_mk (st := topS 8) l3 c3 k3
  have b3 := F3.binds (ps := ["book"]) fun _ _ _ _ _ _ us hl => match us, hl with | [_], _ => rfl
  have F4 := fun_mk (st := topS 9) l4 c4 k4
  have b4 := F4.binds (ps := ["book"]) fun _ _ _ _ _ _ us hl => match us, hl with | [_], _ => rfl
  have F5 := fun_mk (st := topS 11) l5 c5 k5
  have b5 := F5.binds (ps := ["script"]) fun _ _ _ _ _ _ us hl => match us, hl with | [_], _ => rfl
  have F6 := fun_mk (st := topS 12) l6 c6 k6
  have b6 := F6.binds (ps := ["pan", "place", "many"]) fun _ _ _ _ _ _ us hl => match us, hl with | [_, _, _], _ => rfl
  have F7 := fun_mk (st := topS 13) l7 c7 k7
  have b7 := F7.binds (ps := ["book", "letter"]) fun _ _ _ _ _ _ us hl => match us, hl with | [_, _], _ => rfl
  have F8 := fun_mk (st := topS 14) l8 c8 k8
  have b8 := F8.binds (ps := ["book", "text"]) fun _ _ _ _ _ _ us hl => match us, hl with | [_, _], _ => rfl
  have F9 := fun_mk (st := topS 15) l9 c9 k9
  have b9 := F9.binds (ps := ["told", "due"]) fun _ _ _ _ _ _ us hl => match us, hl with | [_, _], _ => rfl
  have F10 := fun_mk (st := topS 16) l10 c10 k10
  have b10 := F10.binds (ps := ["pan", "wide"]) fun _ _ _ _ _ _ us hl => match us, hl with | [_, _], _ => rfl
  have F11 := fun_mk (st := topS 17) l11 c11 k11
  have b11 := F11.binds (ps := ["book", "text"]) fun _ _ _ _ _ _ us hl => match us, hl with | [_, _], _ => rfl
  have F12 := fun_mk (st := topS 18) l12 c12 k12
  have b12 := F12.binds (ps := ["pan", "book"]) fun _ _ _ _ _ _ us hl => match us, hl with | [_, _], _ => rfl
  have F13 := fun_mk (st := topS 19) l13 c13 k13
  have b13 := F13.binds (ps := []) fun _ _ _ _ _ _ us hl => match us, hl with | [], _ => rfl
  have F14 := fun_mk (st := topS 20) l14 c14 k14
  have b14 := F14.binds (ps := ["script"]) fun _ _ _ _ _ _ us hl => match us, hl with | [_], _ => rfl
  have kb0 := kb_mk (ps := ["book", "letter"]) (ks := ["letter", "book"]) (m := 0) (pm := [1, 0]) F0 (by decide) fun _ _ _ _ _ _ us ws h1 h2 => match us, ws, h1, h2 with | [], [_, _], _, _ => rfl
  have kb1 := kb_mk (ps := ["book", "text"]) (ks := ["text", "book"]) (m := 0) (pm := [1, 0]) F1 (by decide) fun _ _ _ _ _ _ us ws h1 h2 => match us, ws, h1, h2 with | [], [_, _], _, _ => rfl
  have kb2 := kb_mk (ps := ["book", "text"]) (ks := ["text", "book"]) (m := 0) (pm := [1, 0]) F2 (by decide) fun _ _ _ _ _ _ us ws h1 h2 => match us, ws, h1, h2 with | [], [_, _], _, _ => rfl
  have E0 : EcF K CBadStep fI0 := ⟨⟨xL0, gsetattr0, exBadStep, tdBadStep, kc0⟩, ⟨ggetattribute0, ggetattr0, exBadStep, hdBadStep⟩, ⟨ggetattribute0, ggetattr0, exBadStep, hdBadStep, gclass0, spg, tkg, mo0⟩, ginit0, ti0⟩
  have FI0 := fun_mk (st := inClass (topS 3) 0) li0 ci0 ki0
  have bI0 := FI0.binds (ps := ["self", "word"]) fun _ _ _ _ _ _ us hl => match us, hl with | [_, _], _ => rfl
  refine ⟨PySem.W.fnOf "law" "law" (defArgs (topS 20)) (defBody (topS 20)) (defScope (topS 20)) .none kV14 dc14 pm14 an14 cd14 ct14, fun s v => .of_eq rfl, fun base _ _ => ?_⟩
  let fdl : List FuncData := [PySem.W.fnOf "key_of" "key_of" (defArgs (topS 5)) (defBody (topS 5)) (defScope (topS 5)) .none kV0 dc0 pm0 an0 cd0 ct0, PySem.W.fnOf "keys_of" "keys_of" (defArgs (topS 6)) (defBody (topS 6)) (defScope (topS 6)) .none kV1 dc1 pm1 an1 cd1 ct1, PySem.W.fnOf "word_number" "word_number" (defArgs (topS 7)) (defBody (topS 7)) (defScope (topS 7)) .none kV2 dc2 pm2 an2 cd2 ct2, PySem.W.fnOf "all_letters" "all_letters" (defArgs (topS 8)) (defBody (topS 8)) (defScope (topS 8)) .none kV3 dc3 pm3 an3 cd3 ct3, PySem.W.fnOf "letters_of" "letters_of" (defArgs (topS 9)) (defBody (topS 9)) (defScope (topS 9)) .none kV4 dc4 pm4 an4 cd4 ct4, PySem.W.fnOf "_law_pan" "_law_pan" (defArgs (topS 11)) (defBody (topS 11)) (defScope (topS 11)) .none kV5 dc5 pm5 an5 cd5 ct5, PySem.W.fnOf "_law_pick" "_law_pick" (defArgs (topS 12)) (defBody (topS 12)) (defScope (topS 12)) .none kV6 dc6 pm6 an6 cd6 ct6, PySem.W.fnOf "_law_key" "_law_key" (defArgs (topS 13)) (defBody (topS 13)) (defScope (topS 13)) .none kV7 dc7 pm7 an7 cd7 ct7, PySem.W.fnOf "_law_keys" "_law_keys" (defArgs (topS 14)) (defBody (topS 14)) (defScope (topS 14)) .none kV8 dc8 pm8 an8 cd8 ct8, PySem.W.fnOf "_law_same" "_law_same" (defArgs (topS 15)) (defBody (topS 15)) (defScope (topS 15)) .none kV9 dc9 pm9 an9 cd9 ct9, PySem.W.fnOf "_law_book" "_law_book" (defArgs (topS 16)) (defBody (topS 16)) (defScope (topS 16)) .none kV10 dc10 pm10 an10 cd10 ct10, PySem.W.fnOf "_law_number" "_law_number" (defArgs (topS 17)) (defBody (topS 17)) (defScope (topS 17)) .none kV11 dc11 pm11 an11 cd11 ct11, PySem.W.fnOf "_law_asked" "_law_asked" (defArgs (topS 18)) (defBody (topS 18)) (defScope (topS 18)) .none kV12 dc12 pm12 an12 cd12 ct12, PySem.W.fnOf "_law_hand" "_law_hand" (defArgs (topS 19)) (defBody (topS 19)) (defScope (topS 19)) .none kV13 dc13 pm13 an13 cd13 ct13, PySem.W.fnOf "law" "law" (defArgs (topS 20)) (defBody (topS 20)) (defScope (topS 20)) .none kV14 dc14 pm14 an14 cd14 ct14]
  have M : ModF P w K mg base Lw (fun j => ([CBadStep] : List Addr)[j]?) (fun i => ([f0, f1, f2, f3, f4, f5, f6, f7, f8, f9, f10, f11, f12, f13, f14] : List Addr).getD i 0) (fun i => fdl.getD i (fdl.headD (PySem.W.fnOf "law" "law" (defArgs (topS 20)) (defBody (topS 20)) (defScope (topS 20)) .none kV14 dc14 pm14 an14 cd14 ct14))) := {
    bl := fun x hx => by
      simp only [Lw, List.mem_cons, List.not_mem_nil, or_false] at hx
      rcases hx with rfl | rfl | rfl | rfl | rfl | rfl | rfl | rfl | rfl | rfl | rfl | rfl | rfl
      · exact PySem.W.mg_none_of X G zabs
      · exact PySem.W.mg_none_of X G zany
      · exact PySem.W.mg_none_of X G zbool
      · exact PySem.W.mg_none_of X G zenumerate
      · exact PySem.W.mg_none_of X G zint
      · exact PySem.W.mg_none_of X G zisinstance
      · exact PySem.W.mg_none_of X G zlen
      · exact PySem.W.mg_none_of X G zlist
      · exact PySem.W.mg_none_of X G zrange
      · exact PySem.W.mg_none_of X G zset
      · exact PySem.W.mg_none_of X G zsorted
      · exact PySem.W.mg_none_of X G zstr
      · exact PySem.W.mg_none_of X G ztuple
    cn := fun x d hx => by
      cases hx
    fn := fun f d hd => by
      match f, hd with
      | 0, hd =>
        cases hd
        refine ⟨F0, PySem.W.mg_of X G a0, b0, fun m ks pm hk => ?_⟩
        simp only [Lw, List.mem_cons, List.not_mem_nil, or_false, Prod.mk.injEq] at hk
        rcases hk with ⟨h, rfl, rfl, rfl⟩ | ⟨h, rfl, rfl, rfl⟩ | ⟨h, rfl, rfl, rfl⟩
        · exact kb0
        · exact absurd h (by decide)
        · exact absurd h (by decide)
      | 1, hd =>
        cases hd
        refine ⟨F1, PySem.W.mg_of X G a1, b1, fun m ks pm hk => ?_⟩
        simp only [Lw, List.mem_cons, List.not_mem_nil, or_false, Prod.mk.injEq] at hk
        rcases hk with ⟨h, rfl, rfl, rfl⟩ | ⟨h, rfl, rfl, rfl⟩ | ⟨h, rfl, rfl, rfl⟩
        · exact absurd h (by decide)
        · exact kb1
        · exact absurd h (by decide)
      | 2, hd =>
        cases hd
        refine ⟨F2, PySem.W.mg_of X G a2, b2, fun m ks pm hk => ?_⟩
        simp only [Lw, List.mem_cons, List.not_mem_nil, or_false, Prod.mk.injEq] at hk
        rcases hk with ⟨h, rfl, rfl, rfl⟩ | ⟨h, rfl, rfl, rfl⟩ | ⟨h, rfl, rfl, rfl⟩
        · exact absurd h (by decide)
        · exact absurd h (by decide)
        · exact kb2
      | 3, hd =>
        cases hd
        refine ⟨F3, PySem.W.mg_of X G a3, b3, fun m ks pm hk => ?_⟩
        simp only [Lw, List.mem_cons, List.not_mem_nil, or_false, Prod.mk.injEq] at hk
        rcases hk with ⟨h, rfl, rfl, rfl⟩ | ⟨h, rfl, rfl, rfl⟩ | ⟨h, rfl, rfl, rfl⟩
        · exact absurd h (by decide)
        · exact absurd h (by decide)
        · exact absurd h (by decide)
      | 4, hd =>
        cases hd
        refine ⟨F4, PySem.W.mg_of X G a4, b4, fun m ks pm hk => ?_⟩
        simp only [Lw, List.mem_cons, List.not_mem_nil, or_false, Prod.mk.injEq] at hk
        rcases hk with ⟨h, rfl, rfl, rfl⟩ | ⟨h, rfl, rfl, rfl⟩ | ⟨h, rfl, rfl, rfl⟩
        · exact absurd h (by decide)
        · exact absurd h (by decide)
        · exact absurd h (by decide)
      | 5, hd =>
        cases hd
        refine ⟨F5, PySem.W.mg_of X G a5, b5, fun m ks pm hk => ?_⟩
        simp only [Lw, List.mem_cons, List.not_mem_nil, or_false, Prod.mk.injEq] at hk
        rcases hk with ⟨h, rfl, rfl, rfl⟩ | ⟨h, rfl, rfl, rfl⟩ | ⟨h, rfl, rfl, rfl⟩
        · exact absurd h (by decide)
        · exact absurd h (by decide)
        · exact absurd h (by decide)
      | 6, hd =>
        cases hd
        refine ⟨F6, PySem.W.mg_of X G a6, b6, fun m ks pm hk => ?_⟩
        simp only [Lw, List.mem_cons, List.not_mem_nil, or_false, Prod.mk.injEq] at hk
        rcases hk with ⟨h, rfl, rfl, rfl⟩ | ⟨h, rfl, rfl, rfl⟩ | ⟨h, rfl, rfl, rfl⟩
        · exact absurd h (by decide)
        · exact absurd h (by decide)
        · exact absurd h (by decide)
      | 7, hd =>
        cases hd
        refine ⟨F7, PySem.W.mg_of X G a7, b7, fun m ks pm hk => ?_⟩
        simp only [Lw, List.mem_cons, List.not_mem_nil, or_false, Prod.mk.injEq] at hk
        rcases hk with ⟨h, rfl, rfl, rfl⟩ | ⟨h, rfl, rfl, rfl⟩ | ⟨h, rfl, rfl, rfl⟩
        · exact absurd h (by decide)
        · exact absurd h (by decide)
        · exact absurd h (by decide)
      | 8, hd =>
        cases hd
        refine ⟨F8, PySem.W.mg_of X G a8, b8, fun m ks pm hk => ?_⟩
        simp only [Lw, List.mem_cons, List.not_mem_nil, or_false, Prod.mk.injEq] at hk
        rcases hk with ⟨h, rfl, rfl, rfl⟩ | ⟨h, rfl, rfl, rfl⟩ | ⟨h, rfl, rfl, rfl⟩
        · exact absurd h (by decide)
        · exact absurd h (by decide)
        · exact absurd h (by decide)
      | 9, hd =>
        cases hd
        refine ⟨F9, PySem.W.mg_of X G a9, b9, fun m ks pm hk => ?_⟩
        simp only [Lw, List.mem_cons, List.not_mem_nil, or_false, Prod.mk.injEq] at hk
        rcases hk with ⟨h, rfl, rfl, rfl⟩ | ⟨h, rfl, rfl, rfl⟩ | ⟨h, rfl, rfl, rfl⟩
        · exact absurd h (by decide)
        · exact absurd h (by decide)
        · exact absurd h (by decide)
      | 10, hd =>
        cases hd
        refine ⟨F10, PySem.W.mg_of X G a10, b10, fun m ks pm hk => ?_⟩
        simp only [Lw, List.mem_cons, List.not_mem_nil, or_false, Prod.mk.injEq] at hk
        rcases hk with ⟨h, rfl, rfl, rfl⟩ | ⟨h, rfl, rfl, rfl⟩ | ⟨h, rfl, rfl, rfl⟩
        · exact absurd h (by decide)
        · exact absurd h (by decide)
        · exact absurd h (by decide)
      | 11, hd =>
        cases hd
        refine ⟨F11, PySem.W.mg_of X G a11, b11, fun m ks pm hk => ?_⟩
        simp only [Lw, List.mem_cons, List.not_mem_nil, or_false, Prod.mk.injEq] at hk
        rcases hk with ⟨h, rfl, rfl, rfl⟩ | ⟨h, rfl, rfl, rfl⟩ | ⟨h, rfl, rfl, rfl⟩
        · exact absurd h (by decide)
        · exact absurd h (by decide)
        · exact absurd h (by decide)
      | 12, hd =>
        cases hd
        refine ⟨F12, PySem.W.mg_of X G a12, b12, fun m ks pm hk => ?_⟩
        simp only [Lw, List.mem_cons, List.not_mem_nil, or_false, Prod.mk.injEq] at hk
        rcases hk with ⟨h, rfl, rfl, rfl⟩ | ⟨h, rfl, rfl, rfl⟩ | ⟨h, rfl, rfl, rfl⟩
        · exact absurd h (by decide)
        · exact absurd h (by decide)
        · exact absurd h (by decide)
      | 13, hd =>
        cases hd
        refine ⟨F13, PySem.W.mg_of X G a13, b13, fun m ks pm hk => ?_⟩
        simp only [Lw, List.mem_cons, List.not_mem_nil, or_false, Prod.mk.injEq] at hk
        rcases hk with ⟨h, rfl, rfl, rfl⟩ | ⟨h, rfl, rfl, rfl⟩ | ⟨h, rfl, rfl, rfl⟩
        · exact absurd h (by decide)
        · exact absurd h (by decide)
        · exact absurd h (by decide)
      | 14, hd =>
        cases hd
        refine ⟨F14, PySem.W.mg_of X G a14, b14, fun m ks pm hk => ?_⟩
        simp only [Lw, List.mem_cons, List.not_mem_nil, or_false, Prod.mk.injEq] at hk
        rcases hk with ⟨h, rfl, rfl, rfl⟩ | ⟨h, rfl, rfl, rfl⟩ | ⟨h, rfl, rfl, rfl⟩
        · exact absurd h (by decide)
        · exact absurd h (by decide)
        · exact absurd h (by decide)
      | (n + 15), hd => cases hd
    ecs := fun c x fs hd => by
      match c, hd with
      | 0, hd =>
        cases hd
        refine ⟨CBadStep, fI0, _, ["self", "word"], rfl, E0.T, E0.iC, E0.tI, init_ok (l := ([("word", 1)] : List (Str × Nat))) FI0 (scopeB_ok (by decide +kernel)) E0.T (by decide +kernel) (by kernel_rfl) (by decide) (by decide) (by decide) (by decide) (fun p hp => ?_), bI0, PySem.W.mg_of X G acBadStep⟩
        simp only [List.mem_cons, List.not_mem_nil, or_false] at hp
        rcases hp with rfl
        · exact noword0
      | (n + 1), hd => cases hd
    cls := fun j C hC => by
      match j, hC with
      | 0, hC =>
        cases hC
        refine ⟨E0.xf, E0.ec, fun f hf => ?_⟩
        obtain ⟨ec, h1, h2⟩ := hf
        have key : f.cps.toList ∈ ([[119, 111, 114, 100]] : List (List Nat)) := by
          simp only [Lw, List.mem_cons, List.not_mem_nil, or_false] at h1
          rcases h1 with rfl <;> (simp only [List.mem_cons, List.not_mem_nil, or_false] at h2 ⊢; simp [h2])
        simp only [List.mem_cons, List.not_mem_nil, or_false] at key
        have ef : f = mkS f.cps.toList := by cases f; simp [mkS]
        rw [ef, key]; exact noword0
      | (n + 1), hC => cases hC
    exm := fun y cs hy => by
      have hm := PySem.mem_of_lookup hy
      simp only [Lw, List.mem_cons, List.not_mem_nil, or_false, Prod.mk.injEq] at hm
      rcases hm with ⟨rfl, rfl⟩ | ⟨rfl, rfl⟩ | ⟨rfl, rfl⟩
      · refine ⟨CBadStep, PySem.W.mg_of X G acBadStep, fun j C hC => ?_, fun j C hC => ?_⟩
        · match j, hC with
          | 0, hC =>
            cases hC
            exact kit_ref hdBadStep tdBadStep su0BadStep (fun _ => rfl)
          | (n + 1), hC => cases hC
        · match j, hC with
          | 0, hC =>
            cases hC
            exact PySem.W.exm_ref exBadStep hdBadStep tdBadStep su0BadStep
          | (n + 1), hC => cases hC
      · refine ⟨CCallError, PySem.W.mg_of X G acCallError, fun j C hC => ?_, fun j C hC => ?_⟩
        · match j, hC with
          | 0, hC =>
            cases hC
            exact kit_ref hdCallError tdCallError su0CallError (fun _ => rfl)
          | (n + 1), hC => cases hC
        · match j, hC with
          | 0, hC =>
            cases hC
            exact PySem.W.exm_ref exCallError hdCallError tdCallError su0CallError
          | (n + 1), hC => cases hC
      · refine ⟨CKeysError, PySem.W.mg_of X G acKeysError, fun j C hC => ?_, fun j C hC => ?_⟩
        · match j, hC with
          | 0, hC =>
            cases hC
            exact kit_ref hdKeysError tdKeysError su0KeysError (fun _ => rfl)
          | (n + 1), hC => cases hC
        · match j, hC with
          | 0, hC =>
            cases hC
            exact PySem.W.exm_ref exKeysError hdKeysError tdKeysError su0KeysError
          | (n + 1), hC => cases hC
  }
  exact law_fn (f := 14) (d := fd14) M chk rfl rfl law_true
end Lk.K10

end
set_option maxRecDepth 100000
open PySem PySem.W PyProof.Rows
set_option maxHeartbeats 0 in
theorem PySem.Challenge.cw_lostkeys_k10_looks_at_books_holds : PySem.Challenge.rw_lostkeys_k10_looks_at_books.Holds := by
  w_on; o_law; k_head; (case hw => w_witness2)
  k_fill
  refine L2.walk_of (l := PySem.Challenge.rw_lostkeys_k10_looks_at_books) (n := 63) (k := 22) (x := "script") (CX := fun w => L2.CX PySem.Challenge.rw_lostkeys_k10_looks_at_books.prog w) (sp := fun w => Lk.spLaw _ 63) rfl (by decide) rfl ⟨rfl, by decide, by decide⟩ (fun w h Y => PySem.W.kIn_of Y) ?F (fun _ _ a ns hl hO hS => ⟨a, ns, rfl, hl, hO, hS, fun _ => rfl⟩) (fun _ _ _ _ _ z => by obtain ⟨_, _, _, _, _, _, _, _, _, _, _, _, e⟩ := z; exact e)
  case F =>
    intro w mg fa h KX G hmg
    refine' Lk.K10.all_mk KX G hmg ?a0 ?l0 ?c0 ?k0 ?a1 ?l1 ?c1 ?k1 ?a2 ?l2 ?c2 ?k2 ?a3 ?l3 ?c3 ?k3 ?a4 ?l4 ?c4 ?k4 ?a5 ?l5 ?c5 ?k5 ?a6 ?l6 ?c6 ?k6 ?a7 ?l7 ?c7 ?k7 ?a8 ?l8 ?c8 ?k8 ?a9 ?l9 ?c9 ?k9 ?a10 ?l10 ?c10 ?k10 ?a11 ?l11 ?c11 ?k11 ?a12 ?l12 ?c12 ?k12 ?a13 ?l13 ?c13 ?k13 ?a14 ?l14 ?c14 ?k14 ?acBadStep ?tdBadStep ?hdBadStep ?exBadStep ?acCallError ?tdCallError ?hdCallError ?exCallError ?acKeysError ?tdKeysError ?hdKeysError ?exKeysError ?xL0 ?gsetattr0 ?ggetattribute0 ?ggetattr0 ?gclass0 ?ginit0 ?noword0 ?kc0 ?mo0 ?ti0 ?li0 ?ci0 ?ki0 ?su0BadStep ?su0CallError ?su0KeysError ?spg ?tkg ?zabs ?zany ?zbool ?zenumerate ?zint ?zisinstance ?zlen ?zlist ?zrange ?zset ?zsorted ?zstr ?ztuple
    (case a0 => k_is)
    (case l0 => k_is)
    (case c0 => k_is)
    (case k0 => k_is)
    (case a1 => k_is)
    (case l1 => k_is)
    (case c1 => k_is)
    (case k1 => k_is)
    (case a2 => k_is)
    (case l2 => k_is)
    (case c2 => k_is)
    (case k2 => k_is)
    (case a3 => k_is)
    (case l3 => k_is)
    (case c3 => k_is)
    (case k3 => k_is)
    (case a4 => k_is)
    (case l4 => k_is)
    (case c4 => k_is)
    (case k4 => k_is)
    (case a5 => k_is)
    (case l5 => k_is)
    (case c5 => k_is)
    (case k5 => k_is)
    (case a6 => k_is)
    (case l6 => k_is)
    (case c6 => k_is)
    (case k6 => k_is)
    (case a7 => k_is)
    (case l7 => k_is)
    (case c7 => k_is)
    (case k7 => k_is)
    (case a8 => k_is)
    (case l8 => k_is)
    (case c8 => k_is)
    (case k8 => k_is)
    (case a9 => k_is)
    (case l9 => k_is)
    (case c9 => k_is)
    (case k9 => k_is)
    (case a10 => k_is)
    (case l10 => k_is)
    (case c10 => k_is)
    (case k10 => k_is)
    (case a11 => k_is)
    (case l11 => k_is)
    (case c11 => k_is)
    (case k11 => k_is)
    (case a12 => k_is)
    (case l12 => k_is)
    (case c12 => k_is)
    (case k12 => k_is)
    (case a13 => k_is)
    (case l13 => k_is)
    (case c13 => k_is)
    (case k13 => k_is)
    (case a14 => k_is)
    (case l14 => k_is)
    (case c14 => k_is)
    (case k14 => k_is)
    (case acBadStep => k_is)
    (case tdBadStep => k_is)
    (case hdBadStep => k_is)
    (case exBadStep => k_is)
    (case acCallError => k_is)
    (case tdCallError => k_is)
    (case hdCallError => k_is)
    (case exCallError => k_is)
    (case acKeysError => k_is)
    (case tdKeysError => k_is)
    (case hdKeysError => k_is)
    (case exKeysError => k_is)
    (case xL0 => exact ⟨_, _, _, _, _, _, _, _, _, _, _, _, _, _, _, by k_is, by decide +kernel⟩)
    (case gsetattr0 => k_is)
    (case ggetattribute0 => k_is)
    (case ggetattr0 => k_is)
    (case gclass0 => k_is)
    (case ginit0 => k_is)
    (case noword0 => k_is)
    (case kc0 => k_is)
    (case mo0 => k_is)
    (case ti0 => k_is)
    (case li0 => k_is)
    (case ci0 => k_is)
    (case ki0 => k_is)
    (case su0BadStep => k_is)
    (case su0CallError => k_is)
    (case su0KeysError => k_is)
    (case spg => k_is)
    (case tkg => k_is)
    (case zabs => k_is)
    (case zany => k_is)
    (case zbool => k_is)
    (case zenumerate => k_is)
    (case zint => k_is)
    (case zisinstance => k_is)
    (case zlen => k_is)
    (case zlist => k_is)
    (case zrange => k_is)
    (case zset => k_is)
    (case zsorted => k_is)
    (case zstr => k_is)
    (case ztuple => k_is)

