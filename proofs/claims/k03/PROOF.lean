import PyProof.Rows.All
import Wide.All
import OpenK.AllK
import Wide.FinOn
import HandS.ForMost
import HandS.Exc
import HandS.Property
import HandS.Wide
import HandS.Deep
import HandS.TupAny
import HandS.TupMul
import HandS.TupLe
import HandS.IsInst
import HandS.Text
import HandS.Lambda
import HandS.TupLen
import HandS.WordsDict
import HandS.Conv
import KE.IntTextLaws
import HandS.Dict
import HandS.More
import KE.GoesEnum
import KE.GoesZip
import HandS.DictComp
import KE.SortData
import HandS.SetTxt0
import HandS.TupSets
import HandS.SetFor
import KE.KDictPairs
import HandS.Defaults
import HandS.HeadHook2
import HandS.Head0
import HandS.Head1
import HandS.Head2
import HandS.HeadEnd
import HandS.HeadWalk
import HandS.HeadHook1
import PySem.Challenge.RW_crossgrids_k03_patterns_and_choices_of_l
set_option Elab.async false
section
set_option Elab.async false
set_option linter.all false
/-! The plain machine: values, state, the compact text, its meaning. -/
namespace Py

inductive D where
  | non | bl (b : Bool) | int (i : Int) | str (s : List Nat) | tup (xs : List D) | lst (xs : List D) | dct (t : Bool) (kvs : List (D × D)) | ins (c : Nat) (fs : List D) | fn (g : Nat) | loc (n : Nat)
  deriving Inhabited

/-- what stands at a place of the state -/
inductive O where
  | lst (xs : List D) | dct (t : Bool) (kvs : List (D × D)) (lk : Bool) | ins (c : Nat) (fs : List D)
  deriving Inhabited
abbrev St := List O

/-! ### equality, decided -/
mutual
def D.beq : D → D → Bool
  | .non, .non => true
  | .bl a, .bl b => a == b
  | .int a, .int b => a == b
  | .str a, .str b => a == b
  | .tup a, .tup b => D.beqL a b
  | .lst a, .lst b => D.beqL a b
  | .dct s a, .dct t b => s == t && D.beqK a b
  | .ins c a, .ins d b => c == d && D.beqL a b
  | .fn a, .fn b => a == b
  | .loc a, .loc b => a == b
  | _, _ => false
def D.beqL : List D → List D → Bool
  | [], [] => true
  | x :: xs, y :: ys => D.beq x y && D.beqL xs ys
  | _, _ => false
def D.beqK : List (D × D) → List (D × D) → Bool
  | [], [] => true
  | (k, v) :: xs, (l, w) :: ys => D.beq k l && D.beq v w && D.beqK xs ys
  | _, _ => false
end
mutual
theorem D.beq_eq : ∀ a b : D, D.beq a b = true → a = b
  | .non, b, h => by cases b <;> simp_all [D.beq]
  | .bl a, b, h => by cases b <;> simp_all [D.beq]
  | .int a, b, h => by cases b <;> simp_all [D.beq]
  | .str a, b, h => by cases b <;> simp_all [D.beq]
  | .tup a, b, h => by
    cases b <;> simp only [D.beq, Bool.false_eq_true] at h
    rw [D.beqL_eq a _ h]
  | .lst a, b, h => by
    cases b <;> simp only [D.beq, Bool.false_eq_true] at h
    rw [D.beqL_eq a _ h]
  | .dct s a, b, h => by
    cases b <;> simp only [D.beq, Bool.false_eq_true, Bool.and_eq_true, beq_iff_eq] at h
    rw [h.1, D.beqK_eq a _ h.2]
  | .ins c a, b, h => by
    cases b <;> simp only [D.beq, Bool.false_eq_true, Bool.and_eq_true, beq_iff_eq] at h
    rw [h.1, D.beqL_eq a _ h.2]
  | .fn a, b, h => by cases b <;> simp_all [D.beq]
  | .loc a, b, h => by cases b <;> simp_all [D.beq]
theorem D.beqL_eq : ∀ a b : List D, D.beqL a b = true → a = b
  | [], b, h => by cases b <;> simp_all [D.beqL]
  | x :: xs, b, h => by
    cases b with
    | nil => simp [D.beqL] at h
    | cons y ys =>
      simp only [D.beqL, Bool.and_eq_true] at h
      rw [D.beq_eq x y h.1, D.beqL_eq xs ys h.2]
theorem D.beqK_eq : ∀ a b : List (D × D), D.beqK a b = true → a = b
  | [], b, h => by cases b <;> simp_all [D.beqK]
  | (k, v) :: xs, b, h => by
    cases b with
    | nil => simp [D.beqK] at h
    | cons y ys =>
      obtain ⟨l, w⟩ := y
      simp only [D.beqK, Bool.and_eq_true] at h
      rw [D.beq_eq k l h.1.1, D.beq_eq v w h.1.2, D.beqK_eq xs ys h.2]
end
mutual
theorem D.beq_refl : ∀ a : D, D.beq a a = true
  | .non | .bl _ | .int _ | .str _ | .fn _ | .loc _ => by simp [D.beq]
  | .tup a => by simp [D.beq, D.beqL_refl a]
  | .lst a => by simp [D.beq, D.beqL_refl a]
  | .dct _ a => by simp [D.beq, D.beqK_refl a]
  | .ins c a => by simp [D.beq, D.beqL_refl a]
theorem D.beqL_refl : ∀ a : List D, D.beqL a a = true
  | [] => by simp [D.beqL]
  | x :: xs => by simp [D.beqL, D.beq_refl x, D.beqL_refl xs]
theorem D.beqK_refl : ∀ a : List (D × D), D.beqK a a = true
  | [] => by simp [D.beqK]
  | (k, v) :: xs => by simp [D.beqK, D.beq_refl k, D.beq_refl v, D.beqK_refl xs]
end
instance : DecidableEq D := fun a b => match h : D.beq a b with
  | true => isTrue (D.beq_eq a b h)
  | false => isFalse fun e => by subst e; rw [D.beq_refl] at h; cases h
instance : DecidableEq O := fun a b => by
  cases a <;> cases b
  case lst.lst x y => exact decidable_of_iff (x = y) (by simp)
  case dct.dct s x i t y j => exact decidable_of_iff (s = t ∧ x = y ∧ i = j) (by simp)
  case ins.ins x i y j => exact decidable_of_iff (x = y ∧ i = j) (by simp)
  all_goals exact isFalse (by simp)

/-! ### places within a value -/
mutual
/-- all places lie below n -/
def D.wf (n : Nat) : D → Bool
  | .tup xs => D.wfL n xs
  | .lst xs => D.wfL n xs
  | .dct _ kvs => D.wfK n kvs
  | .ins _ fs => D.wfL n fs
  | .loc k => decide (k < n)
  | _ => true
def D.wfL (n : Nat) : List D → Bool
  | [] => true
  | x :: r => D.wf n x && D.wfL n r
def D.wfK (n : Nat) : List (D × D) → Bool
  | [] => true
  | (k, v) :: r => D.wf n k && D.wf n v && D.wfK n r
end
def O.wf (n : Nat) : O → Bool
  | .lst xs => D.wfL n xs
  | .dct _ kvs _ => D.wfK n kvs
  | .ins _ fs => D.wfL n fs
def mapO {α β : Type} (f : α → Option β) : List α → Option (List β)
  | [] => some []
  | x :: r => match f x, mapO f r with
    | some y, some s => some (y :: s)
    | _, _ => none
/-- no place from n on is left: what stands there is written out (fuel for places within places) -/
def frz (n : Nat) (S : St) : Nat → D → Option D
  | 0, _ => none
  | f + 1, d => if d.wf n then some d else match d with
    | .tup xs => (mapO (frz n S f) xs).map .tup
    | .lst xs => (mapO (frz n S f) xs).map .lst
    | .dct t kvs => (mapO (fun p => match frz n S f p.1, frz n S f p.2 with
        | some a, some b => some (a, b)
        | _, _ => none) kvs).map (.dct t)
    | .ins c fs => (mapO (frz n S f) fs).map (.ins c)
    | .loc k => match S[k]? with
      | some (.lst xs) => (mapO (frz n S f) xs).map .lst
      | some (.dct t kvs _) => (mapO (fun p => match frz n S f p.1, frz n S f p.2 with
          | some a, some b => some (a, b)
          | _, _ => none) kvs).map (.dct t)
      | some (.ins c fs) => (mapO (frz n S f) fs).map (.ins c)
      | _ => none
    | d => some d

/-! ### outcomes -/
inductive Res (α : Type) where
  | ok (a : α) (S : St)
  | exc (c : Nat) (fs : List D) (S : St)
  | bad
  deriving Inhabited
def Res.bind {α β : Type} (r : Res α) (f : α → St → Res β) : Res β := match r with
  | .ok a S => f a S
  | .exc c fs S => .exc c fs S
  | .bad => .bad
@[simp] theorem Res.bind_ok {α β : Type} (a : α) (S : St) (f : α → St → Res β) : (Res.ok a S).bind f = f a S := rfl
@[simp] theorem Res.bind_exc {α β : Type} (c : Nat) (fs : List D) (S : St) (f : α → St → Res β) : (Res.exc c fs S).bind f = .exc c fs S := rfl
@[simp] theorem Res.bind_bad {α β : Type} (f : α → St → Res β) : (Res.bad : Res α).bind f = .bad := rfl
/-- nothing may be raised here -/
def Res.noX {α : Type} (r : Res α) : Res α := match r with
  | .exc _ _ _ => .bad
  | r => r
@[simp] theorem Res.noX_ok {α : Type} (a : α) (S : St) : (Res.ok a S).noX = .ok a S := rfl
@[simp] theorem Res.noX_bad {α : Type} : (Res.bad : Res α).noX = .bad := rfl
@[simp] theorem Res.noX_exc {α : Type} (c : Nat) (fs : List D) (S : St) : (Res.exc c fs S : Res α).noX = .bad := rfl
def opt {α : Type} (o : Option α) (S : St) : Res α := match o with
  | some a => .ok a S
  | none => .bad
@[simp] theorem opt_some {α : Type} (a : α) (S : St) : opt (some a) S = .ok a S := rfl
@[simp] theorem opt_none {α : Type} (S : St) : opt (none : Option α) S = .bad := rfl
/-- a value's own content, where it is a place -/
def vw (S : St) : D → D
  | .loc n => match S[n]? with
    | some (.lst xs) => .lst xs
    | some (.dct t kvs _) => .dct t kvs
    | some (.ins c fs) => .ins c fs
    | none => .loc n
  | d => d
/-- a new list, dict: a place, or a value that is never changed -/
def mkO (mu : Bool) (o : O) (S : St) : Res D := match mu with
  | true => .ok (.loc S.length) (S ++ [o])
  | false => match o with
    | .lst xs => .ok (.lst xs) S
    | .dct t kvs _ => .ok (.dct t kvs) S
    | .ins c fs => .ok (.ins c fs) S
/-- the end of a call entered at S0: what the call has made is let go, its value written out -/
def closeC (S0 : St) : Res D → Res D
  | .ok d S => if S.length ≤ S0.length then .ok d S else if S.take S0.length = S0 ∨ (S.take S0.length).all (O.wf S0.length) = true then opt (frz S0.length S 100 d) (S.take S0.length) else .bad
  | .exc c fs S => if S.length ≤ S0.length then .exc c fs S else if S.take S0.length = S0 ∨ (S.take S0.length).all (O.wf S0.length) = true then (match mapO (frz S0.length S 100) fs with
    | some gs => .exc c gs (S.take S0.length)
    | none => .bad) else .bad
  | .bad => .bad
/-- the end of a call that hands back a new list of its own: it stays a place -/
def closeK (S0 : St) : Res D → Res D
  | .ok (.loc k) S => if S0.length ≤ k ∧ (S.take S0.length = S0 ∨ (S.take S0.length).all (O.wf S0.length) = true) then (match S[k]? with
    | some o => if o.wf S0.length = true then .ok (.loc S0.length) (S.take S0.length ++ [o]) else .bad
    | none => .bad) else .bad
  | _ => .bad

/-! ### operations -/
inductive BinO where | add | sub | mul | fdiv | mod | pow deriving DecidableEq
inductive CmpO where | lt | le | gt | ge | isN | notN | inn | notin deriving DecidableEq
def line : Nat := 16777216
def ix (n : Nat) (i : Int) : Option Nat := if 0 ≤ i then (if i < n then some i.toNat else none) else if -(n : Int) ≤ i then some (i + n).toNat else none
def at_ {α : Type} (xs : List α) (i : Int) : Option α := (ix xs.length i).bind fun j => xs[j]?
/-- a slice's bound as a place among n (d where it is left out) -/
def sIx (n d : Nat) : Option Int → Nat
  | none => d
  | some v => if v < 0 then (v + (n : Int)).toNat else min v.toNat n
def cut {α : Type} (xs : List α) (lo hi : Option Int) : List α := (xs.drop (sIx xs.length 0 lo)).take (sIx xs.length xs.length hi - sIx xs.length 0 lo)
def rep {α : Type} (k : Nat) (xs : List α) : List α := (List.replicate k xs).flatten
def fit64 (i : Int) : Bool := decide (-(2 ^ 64) < i) && decide (i < 2 ^ 64)
def binD : BinO → D → D → Option D
  | .add, .int i, .int j => some (.int (i + j))
  | .add, .str a, .str b => if a.length + b.length ≤ line then some (.str (a ++ b)) else none
  | .add, .tup a, .tup b => if a.length + b.length ≤ line then some (.tup (a ++ b)) else none
  | .add, .lst a, .lst b => if a.length + b.length ≤ line then some (.lst (a ++ b)) else none
  | .sub, .int i, .int j => some (.int (i - j))
  | .mul, .int i, .int j => if fit64 i || fit64 j then some (.int (i * j)) else none
  | .mul, .tup a, .int j => if decide (2 ≤ j) && (decide (j ≤ 1000) && (decide (a.length ≤ 1000) && !a.isEmpty)) then some (.tup (rep j.toNat a)) else none
  | .mul, .str a, .int j => if decide (0 ≤ j) && (decide (j ≤ 4096) && decide (a.length * j.toNat ≤ 1000000)) then some (.str (rep j.toNat a)) else none
  | .fdiv, .int i, .int j => if 0 < j ∧ j < 1073741824 then some (.int (i / j)) else none
  | .mod, .int i, .int j => if decide (0 < j) then some (.int (i % j)) else none
  | .pow, .int i, .int j => if 0 ≤ j ∧ j ≤ 1000000 ∧ i.natAbs < 2 ^ 64 then some (.int (i ^ j.toNat)) else none
  | _, _, _ => none
mutual
/-- none, bools, intZ, texts, lists, tuples alone -/
def D.data : D → Bool
  | .non | .bl _ | .int _ => true
  | .str s => s.all (· < 1114112)
  | .tup xs | .lst xs => D.dataL xs
  | _ => false
def D.dataL : List D → Bool
  | [] => true
  | x :: r => x.data && D.dataL r
end
mutual
def D.depth : D → Nat
  | .tup xs | .lst xs => D.depthL xs + 1
  | _ => 0
def D.depthL : List D → Nat
  | [] => 0
  | x :: r => max x.depth (D.depthL r)
end
mutual
/-- == of data -/
def D.eqv : D → D → Bool
  | .non, .non => true
  | .bl a, .bl b => a == b
  | .bl a, .int j => (if a then 1 else 0) == j
  | .int i, .bl b => i == (if b then 1 else 0)
  | .int i, .int j => i == j
  | .str x, .str y => x == y
  | .tup xs, .tup ys => D.eqvL xs ys
  | .lst xs, .lst ys => D.eqvL xs ys
  | _, _ => false
def D.eqvL : List D → List D → Bool
  | [], [] => true
  | x :: xs, y :: ys => D.eqv x y && D.eqvL xs ys
  | _, _ => false
end
def D.shp (d : D) : Bool := d.data && decide (d.depth ≤ 64)
def eqD (a b : D) : Option Bool := if a.shp && b.shp then some (D.eqv a b) else none
mutual
/-- the two can be compared, place by place -/
def D.alk : D → D → Bool
  | .non, .non => true
  | .bl _, .bl _ => true
  | .int _, .int _ => true
  | .str _, .str _ => true
  | .tup xs, .tup ys => D.alkL xs ys
  | _, _ => false
def D.alkL : List D → List D → Bool
  | x :: xs, y :: ys => D.alk x y && D.alkL xs ys
  | [], _ => true
  | _ :: _, [] => true
end
mutual
/-- < of alike data -/
def D.lt : D → D → Bool
  | .bl a, .bl b => !a && b
  | .int i, .int j => decide (i < j)
  | .str a, .str b => decide (a < b)
  | .tup xs, .tup ys => D.ltL xs ys
  | _, _ => false
def D.ltL : List D → List D → Bool
  | [], [] => false
  | [], _ :: _ => true
  | _ :: _, [] => false
  | x :: xs, y :: ys => if D.eqv x y then D.ltL xs ys else D.lt x y
end
def D.ord : D → Bool
  | .int _ | .str _ | .tup _ => true
  | _ => false
def ltD : D → D → Option Bool
  | .int i, .int j => some (decide (i < j))
  | .str i, .str j => some (decide (i < j))
  | _, _ => none
/-- the one text stands within the other -/
def subS (x : List Nat) : List Nat → Bool
  | [] => x.isEmpty
  | c :: y => x.isPrefixOf (c :: y) || subS x y
/-- what may be a key: an int, a text; a tuple of these -/
def keyF : D → Bool
  | .int _ => true
  | .str _ => true
  | _ => false
def keyT : D → Bool
  | .tup xs => !xs.isEmpty && xs.all keyF
  | _ => false
/-- a key that goes with those of a dict -/
def kOk (t : Bool) (k : D) : Bool := if t then keyT k else keyF k
def dget (kvs : List (D × D)) (k : D) : Option D := (kvs.find? fun p => decide (p.1 = k)).map (·.2)
def dput (kvs : List (D × D)) (k v : D) : List (D × D) := if (kvs.any fun p => decide (p.1 = k)) = true then kvs.map (fun p => if p.1 = k then (p.1, v) else p) else kvs ++ [(k, v)]
def inD (x y : D) : Option Bool := match y with
  | .str s => match x with
    | .str [c] => some (s.any fun z => decide (z = c))
    | _ => none
  | .tup xs => if x.shp && (D.tup xs).shp then some (xs.any fun z => D.eqv z x) else none
  | .lst xs => if x.shp && (D.lst xs).shp then some (xs.any fun z => D.eqv z x) else none
  | .dct t kvs => if kOk t x then some (kvs.any fun p => decide (p.1 = x)) else none
  | _ => none
def cmpD : CmpO → D → D → Option Bool
  | .lt, a, b => ltD a b
  | .gt, a, b => ltD b a
  | .le, .int i, .int j => some (decide (i ≤ j))
  | .ge, .int i, .int j => some (decide (j ≤ i))
  | .le, .str i, .str j => some (!decide (j < i))
  | .ge, .str i, .str j => some (!decide (i < j))
  | .isN, a, .non => some (decide (a = .non))
  | .notN, a, .non => some (!decide (a = .non))
  | .inn, a, b => inD a b
  | .notin, a, b => (inD a b).map (!·)
  | _, _, _ => none
/-- a value's items, as iter goes through them -/
def items : D → Option (List D)
  | .tup xs => some xs
  | .lst xs => some xs
  | .str s => some (s.map fun c => .str [c])
  | .dct _ kvs => some (kvs.map (·.1))
  | _ => none
def idxD : D → D → Option D
  | .tup xs, .int i => at_ xs i
  | .lst xs, .int i => at_ xs i
  | .str s, .int i => if s.length ≤ line then (at_ s i).map fun c => .str [c] else none
  | .dct t kvs, k => if kOk t k then dget kvs k else none
  | _, _ => none
/-- a part by its bounds -/
def slcV (a : D) (l h : Option Int) : Option D := match a with
  | .tup xs => some (.tup (cut xs l h))
  | .lst xs => some (.lst (cut xs l h))
  | .str s => if s.length ≤ line then some (.str (cut s l h)) else none
  | _ => none
def revD : D → Option D
  | .tup xs => some (.tup xs.reverse)
  | .lst xs => some (.lst xs.reverse)
  | .str s => some (.str s.reverse)
  | _ => none
/-- the kinds that isinstance asks -/
inductive Kd where | int | bool | str | tuple | list | dict | cls (c : Nat) deriving DecidableEq
def isK (S : St) (d : D) : Kd → Bool
  | .int => match d with
    | .int _ => true
    | .bl _ => true
    | _ => false
  | .bool => match d with
    | .bl _ => true
    | _ => false
  | .str => match d with
    | .str _ => true
    | _ => false
  | .tuple => match d with
    | .tup _ => true
    | _ => false
  | .list => match vw S d with
    | .lst _ => true
    | _ => false
  | .dict => match vw S d with
    | .dct _ _ => true
    | _ => false
  | .cls c => match vw S d with
    | .ins e _ => e == c
    | _ => false
def notFn : D → Bool
  | .fn _ => false
  | _ => true
/-- an instance's class is among these -/
def knC (kn : List Nat) : D → Bool
  | .ins c _ => kn.contains c
  | .loc _ => false
  | .dct true _ => false
  | _ => true
/-! numbers as texts -/
def digs (n : Nat) : List Nat := (Nat.toDigits 10 n).map Char.toNat
def strI (i : Int) : List Nat := if i < 0 then 45 :: digs i.natAbs else digs i.natAbs
def valS : List Nat → Nat → Nat
  | [], a => a
  | c :: r, a => valS r (a * 10 + (c - 48))
def figs (s : List Nat) : Bool := !s.isEmpty && s.all fun c => decide (48 ≤ c) && decide (c ≤ 57)
/-- a text parted at a sign -/
def splitC (c : Nat) : List Nat → List Nat → List (List Nat)
  | acc, [] => [acc.reverse]
  | acc, x :: r => if x = c then acc.reverse :: splitC c [] r else splitC c (x :: acc) r
/-- .. at most k times -/
def splitK (c : Nat) : Nat → List Nat → List Nat → List (List Nat)
  | 0, acc, r => [acc.reverse ++ r]
  | _, acc, [] => [acc.reverse]
  | k + 1, acc, x :: r => if x = c then acc.reverse :: splitK c k [] r else splitK c (k + 1) (x :: acc) r
def joinS (sep : List Nat) : List (List Nat) → List Nat
  | [] => []
  | [x] => x
  | x :: y :: r => x ++ sep ++ joinS sep (y :: r)
def strZ : List D → Option (List (List Nat)) := mapO fun d => match d with
  | .str s => some s
  | _ => none
def intZ : List D → Option (List Int) := mapO fun d => match d with
  | .int i => some i
  | _ => none
def bools : List D → Option (List Bool) := mapO fun d => match d with
  | .bl b => some b
  | _ => none
def D.tup1 : D → Bool
  | .tup (_ :: _) => true
  | _ => false
def D.atom : D → Bool
  | .int _ | .str _ => true
  | _ => false
/-- all of one kind, all pairs can be compared -/
def sortable (xs : List D) : Bool := (xs.all D.tup1 || xs.all D.atom) && (xs.all (fun a => a.shp && xs.all fun b => a.alk b) && decide (xs.length ≤ line))
def sortD (xs : List D) : Option (List D) := if sortable xs then some (xs.mergeSort fun a b => !(D.lt b a)) else none
def dedup : List D → List D → List D
  | acc, [] => acc.reverse
  | acc, x :: r => if acc.any (fun y => decide (y = x)) then dedup acc r else dedup (x :: acc) r
def pairsOf (t : Bool) : List D → List (D × D) → Option (List (D × D))
  | [], acc => some acc
  | .tup [k, v] :: r, acc => if kOk t k then pairsOf t r (dput acc k v) else none
  | _ :: _, _ => none
/-- a list's, a tuple's items -/
def seqI : D → Option (List D)
  | .tup xs => some xs
  | .lst xs => some xs
  | _ => none
/-- built-in functions -/
inductive Bi where | len | int | str | abs | max | min | divmod | sortedSet | lenSet deriving DecidableEq
def biD : Bi → List D → Option D
  | .len, [.tup xs] => some (.int xs.length)
  | .len, [.lst xs] => some (.int xs.length)
  | .len, [.dct _ kvs] => some (.int kvs.length)
  | .len, [.str s] => if s.length ≤ line then some (.int s.length) else none
  | .int, [.int i] => some (.int i)
  | .int, [.bl b] => some (.int (if b then 1 else 0))
  | .int, [.str s] => if figs s && decide (s.length ≤ 400) then some (.int (valS s 0)) else none
  | .str, [.int i] => if decide (i.natAbs < 10 ^ 400) then some (.str (strI i)) else none
  | .abs, [.int i] => some (.int (if i < 0 then -i else i))
  | .max, [.int i, .int j] => some (.int (if i < j then j else i))
  | .min, [.int i, .int j] => some (.int (if j < i then j else i))
  | .divmod, [.int i, .int j] => if decide (0 < j) && decide (j < 1073741824) then some (.tup [.int (i / j), .int (i % j)]) else none
  | .sortedSet, [x] => match seqI x with
    | some xs => if xs.length < 4000 then match strZ xs with
      | some _ => (sortD (dedup [] xs)).map .lst
      | none => none else none
    | none => none
  | .lenSet, [x] => match items x with
    | some xs => if xs.all keyF || xs.all keyT then some (.int (dedup [] xs).length) else none
    | none => none
  | _, _ => none
/-- built-ins that go through something -/
inductive Bt where | tuple | tupleD | tupleX | list | listD | listX | dictD (t : Bool) | dictL (t : Bool) | dictT (t : Bool) | dictX (t : Bool) | sorted | all | any | sum | max | min | minD (i : Int) deriving DecidableEq
/-- which of them it is, by what it is given -/
def btX (b : Bt) (x : D) : Bt := match b with
  | .tupleX => match x with
    | .dct .. => .tupleD
    | _ => .tuple
  | .listX => match x with
    | .dct .. => .listD
    | _ => .list
  | .dictX t => match x with
    | .dct .. => .dictD t
    | .tup _ => .dictT t
    | _ => .dictL t
  | b => b
def btD0 (mu : Bool) (b : Bt) (x : D) (S : St) : Res D := match b with
  | .tuple => match x with
    | .tup xs => .ok (.tup xs) S
    | .lst xs => .ok (.tup xs) S
    | _ => .bad
  | .tupleD => match x with
    | .dct _ kvs => .ok (.tup (kvs.map (·.1))) S
    | _ => .bad
  | .list => match x with
    | .tup xs => mkO mu (.lst xs) S
    | .lst xs => mkO mu (.lst xs) S
    | _ => .bad
  | .listD => match x with
    | .dct false kvs => mkO mu (.lst (kvs.map (·.1))) S
    | _ => .bad
  | .sum => match x with
    | .lst xs => match intZ xs with
      | some ns => .ok (.int ns.sum) S
      | none => .bad
    | _ => .bad
  | .max => match x with
    | .lst xs => match intZ xs with
      | some (n :: ns) => .ok (.int (ns.foldl (fun a b => if a < b then b else a) n)) S
      | _ => .bad
    | _ => .bad
  | .min => match x with
    | .lst xs => match intZ xs with
      | some (n :: ns) => .ok (.int (ns.foldl (fun a b => if b < a then b else a) n)) S
      | _ => .bad
    | _ => .bad
  | .all => match x with
    | .lst xs => match bools xs with
      | some bs => .ok (.bl (bs.all id)) S
      | none => .bad
    | _ => .bad
  | .any => match x with
    | .lst xs => match bools xs with
      | some bs => .ok (.bl (bs.any id)) S
      | none => .bad
    | _ => .bad
  | .dictD t => match x with
    | .dct t' kvs => if t' = t then mkO mu (.dct t kvs false) S else .bad
    | _ => .bad
  | .dictL t => match x with
    | .lst xs => match pairsOf t xs [] with
      | some kvs => if xs.length ≤ line then mkO mu (.dct t kvs false) S else .bad
      | none => .bad
    | _ => .bad
  | .dictT t => match x with
    | .tup xs => match pairsOf t xs [] with
      | some kvs => if xs.length ≤ line then mkO mu (.dct t kvs false) S else .bad
      | none => .bad
    | _ => .bad
  | b => match items x with
    | none => .bad
    | some xs => match b with
      | .sorted => match sortD xs with
        | some ys => mkO mu (.lst ys) S
        | none => .bad
      | .minD i => match intZ xs with
        | some (n :: ns) => .ok (.int (ns.foldl (fun a b => if b < a then b else a) n)) S
        | some [] => .ok (.int i) S
        | _ => .bad
      | _ => .bad
def btD (mu : Bool) (b : Bt) (x : D) (S : St) : Res D := btD0 mu (btX b x) x S
/-- methods of built-in kinds -/
inductive Bm where | append | extend | pop | popAt | update | get | get1 | index | count | join | split | split2 | replace | upper | find deriving DecidableEq
def setO (S : St) (n : Nat) (o : O) : St := S.set n o
def upC (c : Nat) : Nat := if 97 ≤ c ∧ c ≤ 122 then c - 32 else c
def replC (c : Nat) (z : List Nat) : List Nat → List Nat
  | [] => []
  | x :: r => if x = c then z ++ replC c z r else x :: replC c z r
def findIx (p : D → Bool) : List D → Nat → Option Nat
  | [], _ => none
  | x :: r, i => if p x then some i else findIx p r (i + 1)
/-- the kinds that have such a method: told when the method is looked up, ahead of its arguments -/
def kindB : Bm → D → Bool
  | .get, .dct .. => true
  | .get1, .dct .. => true
  | .update, .dct .. => true
  | .append, .lst _ => true
  | .extend, .lst _ => true
  | .pop, .lst _ => true
  | .popAt, .lst _ => true
  | .index, .lst _ => true
  | .index, .str _ => true
  | .count, .lst _ => true
  | .count, .tup _ => true
  | .join, .str _ => true
  | .split, .str _ => true
  | .split2, .str _ => true
  | .replace, .str _ => true
  | .upper, .str _ => true
  | .find, .str _ => true
  | _, _ => false
/-- the arguments are handed on as they are -/
def rawA : Bm → Bool
  | .get | .get1 => true
  | _ => false
/-- methods that change nothing -/
def bmD : Bm → D → List D → Option D
  | .get, .dct t kvs, [k, x] => if kOk t k then some ((dget kvs k).getD x) else none
  | .get1, .dct t kvs, [k] => if kOk t k then some ((dget kvs k).getD .non) else none
  | .index, .str s, [.str [c]] => if s.length ≤ line then (s.findIdx? (· == c)).map fun (i : Nat) => .int i else none
  | .find, .str s, [.str [c]] => if s.length ≤ line then some (match s.findIdx? (· == c) with
    | some i => .int i
    | none => .int (-1)) else none
  | .index, .lst xs, [x] => if x.shp && (D.lst xs).shp then (findIx (fun z => D.eqv z x) xs 0).map fun (i : Nat) => .int i else none
  | .count, .lst xs, [x] => if x.shp && (D.lst xs).shp then some (.int (xs.countP fun z => D.eqv z x)) else none
  | .count, .tup xs, [x] => if x.shp && (D.tup xs).shp then some (.int (xs.countP fun z => D.eqv z x)) else none
  | .join, .str sep, [x] => match x with
    | .dct _ _ => none
    | .str _ => none
    | x => match items x with
      | some xs => match strZ xs with
        | some ss => if (ss.map (·.length)).sum + ss.length * sep.length ≤ line then some (.str (joinS sep ss)) else none
        | none => none
      | none => none
  | .split, .str s, [.str [c]] => if s.length + 2 ≤ line then some (.lst ((splitC c [] s).map .str)) else none
  | .split2, .str s, [.str [c], .int 2] => if s.length + 2 ≤ line then some (.lst ((splitK c 2 [] s).map .str)) else none
  | .replace, .str s, [.str [c], .str z] => if s.length * (z.length + 1) + z.length ≤ 1000000 then some (.str (replC c z s)) else none
  | .upper, .str s, [] => if s.all (· < 128) && decide (s.length ≤ 1000000) then some (.str (s.map upC)) else none
  | _, _, _ => none
/-- methods of what stands at a place -/
def bmS (b : Bm) (n : Nat) (args : List D) (S : St) : Res D := match b, S[n]?, args with
  | .append, some (.lst xs), [x] => if xs.length < line then .ok .non (S.set n (.lst (xs ++ [x]))) else .bad
  | .extend, some (.lst xs), [x] => match vw S x with
    | .lst ys => if xs.length + ys.length ≤ line ∧ x ≠ .loc n then .ok .non (S.set n (.lst (xs ++ ys))) else .bad
    | _ => .bad
  | .pop, some (.lst xs), [] => match xs.getLast? with
    | some y => .ok y (S.set n (.lst xs.dropLast))
    | none => .bad
  | .popAt, some (.lst xs), [.int i] => match ix xs.length i with
    | some k => match xs[k]? with
      | some y => .ok y (S.set n (.lst (xs.eraseIdx k)))
      | none => .bad
    | none => .bad
  | .update, some (.dct t kvs false), [x] => match vw S x with
    | .dct t' more => if t' = t ∧ x ≠ .loc n then .ok .non (S.set n (.dct t (more.foldl (fun a p => dput a p.1 p.2) kvs) false)) else .bad
    | _ => .bad
  | _, _, _ => .bad
def isMut : Bm → Bool
  | .append | .extend | .pop | .popAt | .update => true
  | _ => false
/-- a store o[i] = v -/
def putS (o i v : D) (S : St) : Res Unit := match o with
  | .loc n => match S[n]? with
    | some (.lst xs) => match i with
      | .int k => match ix xs.length k with
        | some j => .ok () (S.set n (.lst (xs.set j v)))
        | none => .bad
      | _ => .bad
    | some (.dct t kvs false) => if kOk t i = true ∧ kvs.length < line then .ok () (S.set n (.dct t (dput kvs i v) false)) else .bad
    | _ => .bad
  | _ => .bad

/-! ### the compact text -/
inductive MT where
  | nm (i : Nat) | tup (ts : List MT)
mutual
inductive ME where
  | var (i : Nat) | cst (d : D) | glb (d : D)
  | bin (op : BinO) (a b : ME) | neg (a : ME)
  | cmp (op : CmpO) (a b : ME) | chn (o1 o2 : CmpO) (a b c : ME)
  | eq (neg : Bool) (alts : List (Nat × Nat)) (a b : ME)
  | and (a b : ME) | or (a b : ME) | not (a : ME) | ite (c a b : ME)
  | tup (es : MEs) | lst (mu : Bool) (es : MEs) | dct (t mu : Bool) (ks vs : MEs)
  | idx (a b : ME) | slc (a lo hi : ME) | rev (a : ME) | no
  | attr (a : ME) (alts : List (Nat × (Nat ⊕ Nat)))
  | call (g : Nat) (kp : Bool) (es : MEs) (perm : List Nat)
  | callv (i : Nat) (alts : List (Nat × List Nat)) (es : MEs)
  | meth (o : ME) (alts : List (Nat × Nat)) (es : MEs)
  | new (c g : Nat) (mu : Bool) (es : MEs)
  | bi (b : Bi) (es : MEs) | bm (b : Bm) (o : ME) (es : MEs) | it (b : Bt) (mu : Bool) (i : MI)
  | lc (mu : Bool) (own : List Nat) (elt : ME) (t : MT) (i : MI) (ifs : MEs)
  | lc2 (mu : Bool) (own own2 : List Nat) (elt : ME) (t : MT) (i : MI) (ifs : MEs) (t2 : MT) (i2 : MI) (ifs2 : MEs)
  | dc (t mu : Bool) (own : List Nat) (key val : ME) (t : MT) (i : MI) (ifs : MEs)
  | dc2 (t mu : Bool) (own own2 : List Nat) (key val : ME) (t : MT) (i : MI) (ifs : MEs) (t2 : MT) (i2 : MI) (ifs2 : MEs)
  | minKey (a f : ME)
  | lam (np : Nat) (caps : List Nat) (body : ME)
  | fstr (es : MEs)
  | isi (a : ME) (kn : List Nat) (ks : List Kd)
  | isx (i : Nat) (cs : List Nat) | xfld (i : Nat) (cs : List Nat)
inductive MEs where
  | nil | cons (star : Bool) (e : ME) (r : MEs)
inductive MI where
  | val (e : ME) | rng1 (e : ME) | rng2 (a b : ME) | enum (e : ME) (from_ : Int) | zip (a b : ME) | zip3 (a b c : ME) | items (e : ME) | vals (e : ME)
end
def isNo : ME → Bool
  | .no => true
  | _ => false
/-- an argument, what a name holds: a value; a function made here with what it has captured; an exception that is handled -/
inductive Ag where
  | d (x : D) | clo (np : Nat) (body : ME) (caps : List (Option Ag)) | exn (c : Nat) (fs : List D)
abbrev Env := List (Option Ag)
inductive Code where
  | fn (g : Nat) | lam (body : ME)
abbrev Cl := Code → List (Option Ag) → St → Res D
def slot (ρ : Env) (i : Nat) : Option Ag := match ρ[i]? with
  | some o => o
  | none => none
def dropA (ρ : Env) : Env := ρ.map fun o => match o with
  | some (.d d) => some (.d d)
  | _ => none
def wipe (ρ : Env) : List Nat → Env
  | [] => ρ
  | v :: vs => (wipe ρ vs).set v none
mutual
/-- a target takes a value -/
def bindT : MT → D → Env → Option Env
  | .nm i, v, ρ => if i < ρ.length then some (ρ.set i (some (.d v))) else none
  | .tup ts, .tup vs, ρ => bindTs ts vs ρ
  | _, _, _ => none
def bindTs : List MT → List D → Env → Option Env
  | [], [], ρ => some ρ
  | t :: ts, v :: vs, ρ => match bindT t v ρ with
    | some ρ' => bindTs ts vs ρ'
    | none => none
  | _, _, _ => none
end
/-- the place that stands still while it is gone through -/
def still (l : Option (Nat × O)) (S : St) : Bool := match l with
  | none => true
  | some (n, o) => decide (S[n]? = some o)
def goesL (l : Option (Nat × O)) (f : D → St → Res Unit) : List D → St → Res Unit
  | [], S => if still l S then .ok () S else .bad
  | x :: xs, S => if still l S then (f x S).bind fun _ S' => goesL l f xs S' else .bad
/-- the lock on a dict's place: what is gone through, how it stands meanwhile, how it is let go -/
def lockOf (d : D) (S : St) : Option (Nat × O) := match d with
  | .loc n => (S[n]?).map fun o => (n, o)
  | _ => none
def permute (perm : List Nat) (as : List (Option Ag)) : List (Option Ag) := match perm with
  | [] => as
  | p => p.map fun i => match as[i]? with
    | some o => o
    | none => none
def fstrD : List D → Option (List Nat)
  | [] => some []
  | .str s :: r => (fstrD r).map (s ++ ·)
  | .int i :: r => (fstrD r).map (strI i ++ ·)
  | _ => none

/-! ### the meaning of an expression -/
/-- the place, locked, of a dict that is gone through -/
def lockS (d : D) (S : St) : St := match d with
  | .loc n => match S[n]? with
    | some (.dct t kvs _) => S.set n (.dct t kvs true)
    | _ => S
  | _ => S
/-- what is gone through: the value that stands still (a place, or no matter what), its items -/
abbrev Walk := D × List D
/-- the whole of a walk: locked (for good) at S0, gone through from S -/
def walk (w : Walk) (f : D → St → Res Unit) (S0 S : St) : Res Unit := goesL (lockOf w.1 S0) f w.2 S
/-- an item for the list that is made at n -/
def pushS (n : Nat) (y : D) (S : St) : Res Unit := match S[n]? with
  | some (.lst acc) => if acc.length < line then .ok () (S.set n (.lst (acc ++ [y]))) else .bad
  | _ => .bad
/-- an entry for the dict that is made at n -/
def entS (tk : Bool) (n : Nat) (k v : D) (S : St) : Res Unit := match S[n]? with
  | some (.dct t kvs false) => if t = tk ∧ kOk t k = true ∧ kvs.length < line then .ok () (S.set n (.dct t (dput kvs k v) false)) else .bad
  | _ => .bad
/-- what was made at the end of S0: a place, or a value -/
def doneS (mu : Bool) (S0 : St) (S : St) : Res D := if mu then .ok (.loc S0.length) S else closeC S0 (.ok (.loc S0.length) S)
/-- a comprehension: o is filled, turn by turn -/
def compS (mu : Bool) (w : Walk) (S : St) (o : O) (f : Nat → D → St → Res Unit) : Res D := (walk w (f S.length) S (S ++ [o])).noX.bind fun _ S' => doneS mu S S'
def rngL (i j : Int) : List D := (List.range (j - i).toNat).map fun k => .int (i + (k : Nat))
def enumL : List D → Int → List D
  | [], _ => []
  | x :: xs, i => .tup [.int i, x] :: enumL xs (i + 1)
def zipL : List D → List D → List D
  | x :: xs, y :: ys => .tup [x, y] :: zipL xs ys
  | _, _ => []
def zipL3 : List D → List D → List D → List D
  | x :: xs, y :: ys, z :: zs => .tup [x, y, z] :: zipL3 xs ys zs
  | _, _, _ => []
/-- what stands still by itself, item by item -/
def srcI : D → Option (List D)
  | .tup xs => some xs
  | .lst xs => some xs
  | .str s => some (s.map fun c => .str [c])
  | _ => none
def small62 (i : Int) : Bool := decide (-4611686018427387904 ≤ i) && decide (i < 4611686018427387904)
/-- ==, != : of data, of two instances of one class -/
def eqR (cl : Cl) (neg : Bool) (alts : List (Nat × Nat)) (x y : D) (S : St) : Res D := match vw S x, vw S y with
  | .ins c _, .ins c' _ => if c = c' then (match alts.lookup c with
    | some g => (cl (.fn g) [some (.d x), some (.d y)] S).bind fun r S => match r with
      | .bl r => .ok (.bl (if neg then !r else r)) S
      | _ => .bad
    | none => .bad) else .bad
  | u, v => (opt (eqD u v) S).bind fun r S => .ok (.bl (if neg then !r else r)) S
mutual
def evE (cl : Cl) : ME → Env → St → Res D
  | .var i, ρ, S => match slot ρ i with
    | some (.d d) => .ok d S
    | _ => .bad
  | .cst d, _, S => .ok d S
  | .glb d, _, S => .ok d S
  | .bin op a b, ρ, S => (evE cl a ρ S).bind fun x S => (evE cl b ρ S).bind fun y S => opt (binD op (vw S x) (vw S y)) S
  | .neg a, ρ, S => (evE cl a ρ S).bind fun x S => match x with
    | .int i => .ok (.int (-i)) S
    | _ => .bad
  | .cmp op a b, ρ, S => (evE cl a ρ S).bind fun x S => (evE cl b ρ S).bind fun y S => (opt (cmpD op (vw S x) (vw S y)) S).bind fun r S => .ok (.bl r) S
  | .chn o1 o2 a b c, ρ, S => (evE cl a ρ S).bind fun x S => (evE cl b ρ S).bind fun y S => (opt (cmpD o1 (vw S x) (vw S y)) S).bind fun r S =>
    if r then (evE cl c ρ S).bind fun z S => (opt (cmpD o2 (vw S y) (vw S z)) S).bind fun r S => .ok (.bl r) S else .ok (.bl false) S
  | .eq neg alts a b, ρ, S => (evE cl a ρ S).bind fun x S => (evE cl b ρ S).bind fun y S => eqR cl neg alts x y S
  | .and a b, ρ, S => (evE cl a ρ S).bind fun x S => match x with
    | .bl true => evE cl b ρ S
    | .bl false => .ok (.bl false) S
    | _ => .bad
  | .or a b, ρ, S => (evE cl a ρ S).bind fun x S => match x with
    | .bl false => evE cl b ρ S
    | .bl true => .ok (.bl true) S
    | _ => .bad
  | .not a, ρ, S => (evE cl a ρ S).bind fun x S => match x with
    | .bl b => .ok (.bl (!b)) S
    | _ => .bad
  | .ite c a b, ρ, S => (evE cl c ρ S).bind fun x S => match x with
    | .bl true => evE cl a ρ S
    | .bl false => evE cl b ρ S
    | _ => .bad
  | .tup es, ρ, S => (evEs cl es ρ S).bind fun xs S => if xs.length ≤ line then .ok (.tup xs) S else .bad
  | .lst mu es, ρ, S => (evEs cl es ρ S).bind fun xs S => if xs.length ≤ line then mkO mu (.lst xs) S else .bad
  | .dct t mu ks vs, ρ, S => (evEs cl ks ρ S).bind fun xs S => (evEs cl vs ρ S).bind fun ys S => match pairsOf t ((xs.zip ys).map fun p => .tup [p.1, p.2]) [] with
    | some kvs => if xs.length = ys.length ∧ xs.length ≤ 15 then mkO mu (.dct t kvs false) S else .bad
    | none => .bad
  | .idx a b, ρ, S => (evE cl a ρ S).bind fun x S => (evE cl b ρ S).bind fun y S => opt (idxD (vw S x) y) S
  | .slc a lo hi, ρ, S => (evE cl a ρ S).bind fun x S =>
    (if isNo lo then .ok none S else (evE cl lo ρ S).bind fun y S => match y with
      | .int i => .ok (some i) S
      | _ => .bad).bind fun l S =>
    (if isNo hi then .ok none S else (evE cl hi ρ S).bind fun y S => match y with
      | .int i => .ok (some i) S
      | _ => .bad).bind fun h S => opt (slcV (vw S x) l h) S
  | .rev a, ρ, S => (evE cl a ρ S).bind fun x S => opt (revD (vw S x)) S
  | .no, _, S => .ok .non S
  | .attr a alts, ρ, S => (evE cl a ρ S).bind fun x S => match vw S x with
    | .ins c fs => match alts.lookup c with
      | some (.inl i) => opt fs[i]? S
      | some (.inr g) => (cl (.fn g) [some (.d x)] S).noX
      | none => .bad
    | _ => .bad
  | .call g kp es perm, ρ, S => (evAs cl es ρ S).bind fun as S => cl (.fn g) (permute perm as) S
  | .callv i alts es, ρ, S => match slot ρ i with
    | some (.d (.fn g)) => match alts.lookup g with
      | some perm => (evAs cl es ρ S).bind fun as S => cl (.fn g) (permute perm as) S
      | none => .bad
    | some (.clo np body caps) => (evAs cl es ρ S).bind fun as S => if as.length = np then cl (.lam body) (as ++ caps) S else .bad
    | _ => .bad
  | .meth o alts es, ρ, S => (evE cl o ρ S).bind fun x S => match vw S x with
    | .ins c _ => match alts.lookup c with
      | some g => (evAs cl es ρ S).bind fun as S => cl (.fn g) (some (.d x) :: as) S
      | none => .bad
    | _ => .bad
  | .new c g mu es, ρ, S => (evEs cl es ρ S).bind fun xs S =>
    (cl (.fn g) (some (.d (.loc S.length)) :: xs.map fun d => some (.d d)) (S ++ [.ins c []])).bind fun r S' => match r with
      | .non => match mu with
        | true => .ok (.loc S.length) S'
        | false => closeC S (.ok (.loc S.length) S')
      | _ => .bad
  | .bi b es, ρ, S => (evEs cl es ρ S).bind fun xs S => opt (biD b (xs.map (vw S))) S
  | .bm b o es, ρ, S => (evE cl o ρ S).bind fun x S0 => if kindB b (vw S0 x) then (evEs cl es ρ S0).bind fun ys S => (match isMut b with
    | true => match x with
      | .loc n => bmS b n ys S
      | _ => .bad
    | false => opt (bmD b (vw S x) (if rawA b then ys else ys.map (vw S))) S) else .bad
  | .it b mu i, ρ, S => (evI cl i ρ S).bind fun w S => btD mu b (match i with
    | .val _ => vw S w.1
    | _ => .tup w.2) S
  | .lc mu own elt t i ifs, ρ, S => (evI cl i ρ S).bind fun w S => compS mu w (lockS w.1 S) (.lst []) fun n x S' => match bindT t x (wipe (dropA ρ) own) with
      | none => .bad
      | some ρ1 => (evIfs cl ifs ρ1 S').bind fun b S' => if b then (evE cl elt ρ1 S').bind fun y S' => pushS n y S' else .ok () S'
  | .lc2 mu own own2 elt t i ifs t2 i2 ifs2, ρ, S => (evI cl i ρ S).bind fun w S => compS mu w (lockS w.1 S) (.lst []) fun n x S' => match bindT t x (wipe (dropA ρ) own) with
      | none => .bad
      | some ρ1 => (evIfs cl ifs ρ1 S').bind fun b S' => if b then (evI cl i2 ρ1 S').bind fun w2 S' => walk w2 (fun x S' => match bindT t2 x (wipe ρ1 own2) with
          | none => .bad
          | some ρ2 => (evIfs cl ifs2 ρ2 S').bind fun b S' => if b then (evE cl elt ρ2 S').bind fun y S' => pushS n y S' else .ok () S') (lockS w2.1 S') (lockS w2.1 S')
        else .ok () S'
  | .dc tk mu own key val t i ifs, ρ, S => (evI cl i ρ S).bind fun w S => compS mu w (lockS w.1 S) (.dct tk [] false) fun n x S' => match bindT t x (wipe (dropA ρ) own) with
      | none => .bad
      | some ρ1 => (evIfs cl ifs ρ1 S').bind fun b S' => if b then (evE cl key ρ1 S').bind fun k S' => (evE cl val ρ1 S').bind fun v S' => entS tk n k v S' else .ok () S'
  | .dc2 tk mu own own2 key val t i ifs t2 i2 ifs2, ρ, S => (evI cl i ρ S).bind fun w S => compS mu w (lockS w.1 S) (.dct tk [] false) fun n x S' => match bindT t x (wipe (dropA ρ) own) with
      | none => .bad
      | some ρ1 => (evIfs cl ifs ρ1 S').bind fun b S' => if b then (evI cl i2 ρ1 S').bind fun w2 S' => walk w2 (fun x S' => match bindT t2 x (wipe ρ1 own2) with
          | none => .bad
          | some ρ2 => (evIfs cl ifs2 ρ2 S').bind fun b S' => if b then (evE cl key ρ2 S').bind fun k S' => (evE cl val ρ2 S').bind fun v S' => entS tk n k v S' else .ok () S') (lockS w2.1 S') (lockS w2.1 S')
        else .ok () S'
  | .minKey .., _, _ => .bad
  | .lam .., _, _ => .bad
  | .fstr es, ρ, S => (evEs cl es ρ S).bind fun xs S => match fstrD xs with
    | some s => if s.length ≤ 4096 then .ok (.str s) S else .bad
    | none => .bad
  | .isi a kn ks, ρ, S => (evE cl a ρ S).bind fun x S => if notFn x && knC kn (vw S x) then .ok (.bl (ks.any (isK S x))) S else .bad
  | .isx i cs, ρ, S => match slot ρ i with
    | some (.exn c _) => .ok (.bl (cs.contains c)) S
    | _ => .bad
  | .xfld i cs, ρ, S => match slot ρ i with
    | some (.exn c fs) => if cs.contains c then opt fs[0]? S else .bad
    | _ => .bad
def evEs (cl : Cl) : MEs → Env → St → Res (List D)
  | .nil, _, S => .ok [] S
  | .cons false e r, ρ, S => (evE cl e ρ S).bind fun x S => (evEs cl r ρ S).bind fun xs S => .ok (x :: xs) S
  | .cons true e r, ρ, S => (evE cl e ρ S).bind fun x S => match items (vw S x) with
    | some ys => (evEs cl r ρ S).bind fun xs S => .ok (ys ++ xs) S
    | none => .bad
/-- arguments: lambdas, functions that a name holds are handed on -/
def evAs (cl : Cl) : MEs → Env → St → Res (List (Option Ag))
  | .nil, _, S => .ok [] S
  | .cons _ (.lam np caps body) r, ρ, S => (evAs cl r ρ S).bind fun xs S => .ok (some (.clo np body (caps.map (slot ρ))) :: xs) S
  | .cons _ (.var i) r, ρ, S => match slot ρ i with
    | some a => (evAs cl r ρ S).bind fun xs S => .ok (some a :: xs) S
    | none => .bad
  | .cons _ e r, ρ, S => (evE cl e ρ S).bind fun x S => (evAs cl r ρ S).bind fun xs S => .ok (some (.d x) :: xs) S
/-- a comprehension's tests -/
def evIfs (cl : Cl) : MEs → Env → St → Res Bool
  | .nil, _, S => .ok true S
  | .cons _ e r, ρ, S => (evE cl e ρ S).bind fun x S => match x with
    | .bl true => evIfs cl r ρ S
    | .bl false => .ok false S
    | _ => .bad
def evI (cl : Cl) : MI → Env → St → Res Walk
  | .val e, ρ, S => (evE cl e ρ S).bind fun x S => match items (vw S x) with
    | some xs => .ok (x, xs) S
    | none => .bad
  | .rng1 e, ρ, S => (evE cl e ρ S).bind fun x S => match x with
    | .int j => if small62 j then .ok (.non, rngL 0 j) S else .bad
    | _ => .bad
  | .rng2 a b, ρ, S => (evE cl a ρ S).bind fun x S => (evE cl b ρ S).bind fun y S => match x, y with
    | .int i, .int j => if small62 i && small62 j then .ok (.non, rngL i j) S else .bad
    | _, _ => .bad
  | .enum e k, ρ, S => (evE cl e ρ S).bind fun x S => match srcI x with
    | some xs => if 0 ≤ k ∧ k < 1073741824 then .ok (.non, enumL xs k) S else .bad
    | none => .bad
  | .zip a b, ρ, S => (evE cl a ρ S).bind fun x S => (evE cl b ρ S).bind fun y S => match srcI x, srcI y with
    | some xs, some ys => .ok (.non, zipL xs ys) S
    | _, _ => .bad
  | .zip3 a b c, ρ, S => (evE cl a ρ S).bind fun x S => (evE cl b ρ S).bind fun y S => (evE cl c ρ S).bind fun z S => match srcI x, srcI y, srcI z with
    | some xs, some ys, some zs => .ok (.non, zipL3 xs ys zs) S
    | _, _, _ => .bad
  | .items e, ρ, S => (evE cl e ρ S).bind fun x S => match vw S x with
    | .dct _ kvs => .ok (x, kvs.map fun p => .tup [p.1, p.2]) S
    | _ => .bad
  | .vals e, ρ, S => (evE cl e ρ S).bind fun x S => match vw S x with
    | .dct _ kvs => .ok (x, kvs.map (·.2)) S
    | _ => .bad
end
/-! ### statements -/
inductive MG where
  | nm (i : Nat) | tup (ts : List MG) | sub (a b : ME) | fld (o : ME) (cs : List (Nat × Nat))
mutual
inductive MS where
  | asg (g : MG) (e : ME) | par (i j : Nat) (a b : ME) | ex (e : ME) | ret (e : ME) | retN
  | ife (c : ME) (A B : MB) | for_ (t : MT) (i : MI) (body : MB) | whl (c : ME) (body : MB)
  | rse (c : Nat) (e : ME) | rse0 (c : Nat) | tryE (isRet : Bool) (e : ME) (cs : List Nat) (nm : Option Nat) (suite : MB)
  | pass | brk | cont | nev
inductive MB where
  | nil | cons (s : MS) (r : MB)
end
inductive Fl where
  | nx (ρ : Env) | ret (d : D) | brk (ρ : Env) | ct (ρ : Env)
/-- how a loop's turn ends: on, with the names; out -/
def setF (cs : List (Nat × Nat)) (o v : D) (S : St) : Res Unit := match o with
  | .loc n => match S[n]? with
    | some (.ins c fs) => match cs.lookup c with
      | some i => if fs.length ≥ 900 then .bad else if i < fs.length then .ok () (S.set n (.ins c (fs.set i v))) else if i = fs.length then .ok () (S.set n (.ins c (fs ++ [v]))) else .bad
      | none => .bad
    | _ => .bad
  | _ => .bad
mutual
def asgG (cl : Cl) : MG → D → Env → St → Res Env
  | .nm i, v, ρ, S => if i < ρ.length then .ok (ρ.set i (some (.d v))) S else .bad
  | .tup ts, v, ρ, S => match v with
    | .tup vs => if ts.length = vs.length then asgGs cl ts vs ρ S else .bad
    | _ => .bad
  | .sub a b, v, ρ, S => (evE cl a ρ S).bind fun x S => (evE cl b ρ S).bind fun y S => (putS x y v S).bind fun _ S => .ok ρ S
  | .fld o cs, v, ρ, S => (evE cl o ρ S).bind fun x S => (setF cs x v S).bind fun _ S => .ok ρ S
def asgGs (cl : Cl) : List MG → List D → Env → St → Res Env
  | [], [], ρ, S => .ok ρ S
  | t :: ts, v :: vs, ρ, S => (asgG cl t v ρ S).bind fun ρ S => asgGs cl ts vs ρ S
  | _, _, _, _ => .bad
end
/-- a for's turns -/
def forL (l : Option (Nat × O)) (f : D → Env → St → Res Fl) : List D → Env → St → Res Fl
  | [], ρ, S => if still l S then .ok (.nx ρ) S else .bad
  | x :: xs, ρ, S => if still l S then (f x ρ S).bind fun r S => match r with
      | .nx ρ => forL l f xs ρ S
      | .ct ρ => forL l f xs ρ S
      | .brk ρ => .ok (.nx ρ) S
      | .ret d => .ok (.ret d) S
    else .bad
def whlL (c : Env → St → Res D) (f : Env → St → Res Fl) : Nat → Env → St → Res Fl
  | 0, _, _ => .bad
  | n + 1, ρ, S => (c ρ S).bind fun b S => match b with
    | .bl false => .ok (.nx ρ) S
    | .bl true => (f ρ S).bind fun r S => match r with
      | .nx ρ => whlL c f n ρ S
      | .ct ρ => whlL c f n ρ S
      | .brk ρ => .ok (.nx ρ) S
      | .ret d => .ok (.ret d) S
    | _ => .bad
mutual
def exS (cl : Cl) : MS → Env → St → Res Fl
  | .asg g e, ρ, S => (evE cl e ρ S).bind fun v S => (asgG cl g v ρ S).bind fun ρ S => .ok (.nx ρ) S
  | .par i j a b, ρ, S => (evE cl a ρ S).bind fun x S => (evE cl b ρ S).bind fun y S => .ok (.nx ((ρ.set i (some (.d x))).set j (some (.d y)))) S
  | .ex e, ρ, S => (evE cl e ρ S).bind fun _ S => .ok (.nx ρ) S
  | .ret e, ρ, S => (evE cl e ρ S).bind fun v S => .ok (.ret v) S
  | .retN, _, S => .ok (.ret .non) S
  | .ife c A B, ρ, S => (evE cl c ρ S).bind fun x S => match x with
    | .bl true => exB cl A ρ S
    | .bl false => exB cl B ρ S
    | _ => .bad
  | .for_ t i body, ρ, S => (evI cl i ρ S).bind fun w S =>
    forL (lockOf w.1 (lockS w.1 S)) (fun x ρ S => match bindT t x ρ with
      | none => .bad
      | some ρ => exB cl body ρ S) w.2 ρ (lockS w.1 S)
  | .whl c body, ρ, S => whlL (evE cl c) (exB cl body) 100000 ρ S
  | .rse c e, ρ, S => (evE cl e ρ S).bind fun v S => .exc c [v] S
  | .rse0 c, _, S => .exc c [] S
  | .tryE isRet e cs nm suite, ρ, S => match evE cl e ρ S with
    | .ok d S => if isRet then .ok (.ret d) S else .ok (.nx ρ) S
    | .exc c fs S => if cs.contains c then (exB cl suite (match nm with
        | some i => ρ.set i (some (.exn c fs))
        | none => ρ) S).bind fun r S => match r, nm with
          | .nx ρ, some i => .ok (.nx (ρ.set i none)) S
          | .brk ρ, some i => .ok (.brk (ρ.set i none)) S
          | .ct ρ, some i => .ok (.ct (ρ.set i none)) S
          | r, _ => .ok r S
      else .exc c fs S
    | .bad => .bad
  | .pass, ρ, S => .ok (.nx ρ) S
  | .nev, _, _ => .bad
  | .brk, ρ, S => .ok (.brk ρ) S
  | .cont, ρ, S => .ok (.ct ρ) S
def exB (cl : Cl) : MB → Env → St → Res Fl
  | .nil, ρ, S => .ok (.nx ρ) S
  | .cons s r, ρ, S => (exS cl s ρ S).bind fun f S => match f with
    | .nx ρ => exB cl r ρ S
    | f => .ok f S
end
/-! ### functions -/
def fin (r : Res Fl) : Res D := r.bind fun f S => match f with
  | .nx _ => .ok .non S
  | .ret d => .ok d S
  | _ => .bad
structure Fun where
  ps : List (List Nat)
  nn : Nat
  keep : Bool
  body : MB
def kwPos (ps kws : List (List Nat)) (n : Nat) (as : List (Option Ag)) : List (Option Ag) := as.take n ++ (ps.drop n).map fun p => match kws.findIdx? (· == p) with
  | some i => (match as[n + i]? with
    | some o => o
    | none => none)
  | none => none
def callFn (cl : Cl) (F : Fun) (as : List (Option Ag)) (S : St) : Res D :=
  if as.length = F.ps.length then (if F.keep then closeK S else closeC S) (fin (exB cl F.body (as ++ List.replicate (F.nn - F.ps.length) none) S)) else .bad
abbrev Tab := Nat → Option Fun
/-- a call, so many calls deep at the most -/
def run (T : Tab) : Nat → Cl
  | 0 => fun _ _ _ => .bad
  | k + 1 => fun c as S => match c with
    | .fn g => match T g with
      | some F => callFn (run T k) F as S
      | none => .bad
    | .lam body => closeC S (evE (run T k) body as S)
end Py
end

section
set_option Elab.async false
set_option linter.all false
set_option maxRecDepth 100000
/-! How the plain machine's values and states stand in the model's heap. -/
namespace Py
open PySem PySem.Spec PyProof.Rows L2

/-- a class of the text: its fields, names that no class of it has, properties (name, getter), __init__, __eq__ -/
structure CI where
  fields : List Str
  no : List Str
  props : List (Str × Nat)
  init : Nat
  eq : Option Nat
/-- what is fixed: where the defs, the classes stand -/
structure Wd where
  K : PySem.W.Frag
  fa : Nat → Addr
  ca : Nat → Addr
  cf : Nat → List Str
  xa : Nat → Addr
  xf : Nat → Str
  T : Tab
  tb : List (Addr × Str) := []
  ci : Nat → Option CI := fun _ => none
  cons : List (D × Addr) := []

def sOf (s : List Nat) : Str := ⟨s.toArray⟩
def keyK : D → Option Key
  | .int i => some (.inl i)
  | .str s => some (.inr (sOf s))
  | _ => none
def keyKs : D → Option (List Key)
  | .tup xs => if xs.isEmpty then none else mapO keyK xs
  | _ => none
/-- a tuple that may be a key -/
def keyish (xs : List D) : Bool := !xs.isEmpty && xs.all fun d => (keyK d).isSome
/-- how a tuple stands: one that may be a key, or with its very object, which has no dict -/
def tupO (b : Bool) (o : Obj) (vs : List V) : HO := if b then .tup vs else .frz o (.tup vs)
theorem keyKs_tup {xs : List D} {q : List Key} (h : keyKs (.tup xs) = some q) : mapO keyK xs = some q ∧ xs.isEmpty = false := by
  simp only [keyKs] at h
  split at h
  · cases h
  · rename_i e
    exact ⟨h, by simpa using e⟩
theorem keyKs_of {xs : List D} {q : List Key} (h : mapO keyK xs = some q) (e : xs.isEmpty = false) : keyKs (.tup xs) = some q := by
  simp only [keyKs, e, Bool.false_eq_true, if_false]; exact h
theorem mapO_all {α β : Type} {f : α → Option β} : ∀ {xs : List α} {ys : List β}, mapO f xs = some ys → xs.all (fun x => (f x).isSome) = true
  | [], _, _ => rfl
  | x :: xs, ys, h => by
    simp only [mapO] at h
    split at h <;> cases h
    rename_i a b
    simp only [List.all_cons, Bool.and_eq_true]
    exact ⟨by rw [a]; rfl, mapO_all b⟩
theorem keyish_of {xs : List D} {q : List Key} (h : keyKs (.tup xs) = some q) : keyish xs = true := by
  obtain ⟨h1, h2⟩ := keyKs_tup h
  simp only [keyish, h2, Bool.not_false, Bool.true_and]
  exact mapO_all h1
theorem keyF_some (d : D) : (keyK d).isSome = keyF d := by cases d <;> rfl
theorem keyish_keyT (xs : List D) : keyish xs = keyT (.tup xs) := by
  simp only [keyish, keyT, keyF_some]
def Tp (H : Hp) (xs : List D) (a : Addr) (vs : List V) : Prop := ∃ o, o.dict = none ∧ H a = some (tupO (keyish xs) o vs)
theorem Tp.rd {H : Hp} {xs : List D} {a : Addr} {vs : List V} (h : Tp H xs a vs) : Rd H a (.tup vs) := by
  obtain ⟨o, _, h⟩ := h
  unfold tupO at h
  split at h
  · exact .inl h
  · exact .inr ⟨o, h⟩
theorem Tp.key {H : Hp} {xs : List D} {a : Addr} {vs : List V} (h : Tp H xs a vs) (k : keyish xs = true) : H a = some (.tup vs) := by
  obtain ⟨o, _, h⟩ := h
  rw [h, k]; rfl
theorem Tp.frz {H : Hp} {xs : List D} {a : Addr} {vs : List V} (h : Tp H xs a vs) (k : keyish xs = false) : ∃ o, o.dict = none ∧ H a = some (.frz o (.tup vs)) := by
  obtain ⟨o, q, h⟩ := h
  exact ⟨o, q, by rw [h, k]; rfl⟩
theorem Tp.of_key {H : Hp} {xs : List D} {a : Addr} {vs : List V} (k : keyish xs = true) (h : H a = some (.tup vs)) : Tp H xs a vs := ⟨{ cls := .none, data := .fields #[] }, rfl, by rw [h, k]; rfl⟩
theorem Tp.new {H : Hp} {xs : List D} {a : Addr} {vs : List V} {o : Obj} (h : o.dict = none) : Tp (upd H a (tupO (keyish xs) o vs)) xs a vs := ⟨o, h, upd_same⟩

section
variable (W : Wd) (m : List Addr) (H : Hp)
mutual
/-- the value d is told by v -/
def Rep : D → V → Prop
  | .non, v => v = .non
  | .bl b, v => v = .bl b
  | .int i, v => v = .int i
  | .str s, v => v = .str (sOf s)
  | .tup xs, v => ∃ a vs, v = .ref a ∧ Tp H xs a vs ∧ RepL xs vs
  | .lst xs, v => ∃ a vs, v = .ref a ∧ Rd H a (.lst vs) ∧ a ∉ m ∧ RepL xs vs
  | .dct false kvs, v => ∃ a ks, v = .ref a ∧ a ∉ m ∧ Rd H a (.dK ks) ∧ kvs.map (fun p => keyK p.1) = ks.map (fun p => some p.1) ∧ RepV kvs (ks.map (·.2))
  | .dct true kvs, v => ∃ a ks, v = .ref a ∧ a ∉ m ∧ Rd H a (.dT ks) ∧ kvs.map (fun p => keyKs p.1) = ks.map (fun p => some p.1) ∧ RepV kvs (ks.map (·.2))
  | .ins c fs, v => ∃ a dx ns, v = .ref a ∧ H a = some (.ins (W.ca c) dx ns) ∧ a ∉ m ∧ ns.map (·.1) = (W.cf c).take fs.length ∧ RepL fs (ns.map (·.2))
  | .fn g, v => v = .ref (W.fa g)
  | .loc n, v => ∃ a, m[n]? = some a ∧ v = .ref a
def RepL : List D → List V → Prop
  | [], vs => vs = []
  | x :: xs, vs => ∃ v r, vs = v :: r ∧ Rep x v ∧ RepL xs r
def RepV : List (D × D) → List V → Prop
  | [], vs => vs = []
  | (_, x) :: xs, vs => ∃ v r, vs = v :: r ∧ Rep x v ∧ RepV xs r
end
/-- what stands at a place -/
def ORep (o : O) (a : Addr) : Prop := match o with
  | .lst xs => ∃ vs, H a = some (.lst vs) ∧ RepL W m H xs vs
  | .dct false kvs lk => ∃ ks, (if lk then ∃ od, H a = some (.frz od (.dK ks)) else H a = some (.dK ks)) ∧ kvs.map (fun p => keyK p.1) = ks.map (fun p => some p.1) ∧ RepV W m H kvs (ks.map (·.2))
  | .dct true kvs lk => ∃ ks, (if lk then ∃ od, H a = some (.frz od (.dT ks)) else H a = some (.dT ks)) ∧ kvs.map (fun p => keyKs p.1) = ks.map (fun p => some p.1) ∧ RepV W m H kvs (ks.map (·.2))
  | .ins c fs => ∃ dx ns, H a = some (.ins (W.ca c) dx ns) ∧ ns.map (·.1) = (W.cf c).take fs.length ∧ RepL W m H fs (ns.map (·.2))
structure SR (S : Py.St) : Prop where
  len : m.length = S.length
  nd : m.Nodup
  at_ : ∀ (n : Nat) (o : O), S[n]? = some o → ∃ a, m[n]? = some a ∧ ORep W m H o a
  tabs : LamX.Tabs W.tb H
  con : ∀ p ∈ W.cons, Rep W m H p.1 (.ref p.2)
end
/-- a dict, known or not -/
def dicty : HO → Bool
  | .dK _ => true
  | .dT _ => true
  | .frz _ u => dicty u
  | _ => false
/-- from (m, H) to (m', H') nothing is changed but what stands at the places -/
structure Le (m : List Addr) (H : Hp) (m' : List Addr) (H' : Hp) : Prop where
  pre : m <+: m'
  new : ∀ a ∈ m', a ∈ m ∨ H a = none
  keep : ∀ b u, H b = some u → b ∉ m → (∀ ps, u ≠ .tbl ps) → dicty u = false → H' b = some u
  keepD : ∀ b u, Rd H b u → b ∉ m → dicty u = true → Rd H' b u
  frzs : ∀ b o u, H b = some (.frz o u) → H' b = some (.frz o u)
  tups : ∀ b xs, H b = some (.tup xs) → H' b = some (.tup xs)
  there : ∀ b, H b ≠ none → H' b ≠ none
section
variable {W : Wd} {m m' m'' : List Addr} {H H' H'' : Hp}
theorem Le.refl : Le m H m H := ⟨List.prefix_refl m, fun _ h => .inl h, fun _ _ h _ _ _ => h, fun _ _ h _ _ => h, fun _ _ _ h => h, fun _ _ h => h, fun _ h => h⟩
theorem rd_there {a : Addr} {u : HO} (h : Rd H a u) : H a ≠ none := by
  rcases h with h | ⟨o, h⟩ <;> rw [h] <;> simp
theorem Le.trans (x : Le m H m' H') (y : Le m' H' m'' H'') : Le m H m'' H'' := by
  have out : ∀ b, b ∉ m → H b ≠ none → b ∉ m' := fun b hn h z => by
    rcases x.new b z with q | q
    · exact hn q
    · exact h q
  refine ⟨x.pre.trans y.pre, fun a ha => ?_, fun b u h hn ht hd => ?_, fun b u h hn hd => ?_, fun b o u h => y.frzs b o u (x.frzs b o u h), fun b xs h => y.tups b xs (x.tups b xs h), fun b h => y.there b (x.there b h)⟩
  · rcases y.new a ha with h | h
    · exact x.new a h
    · right
      cases e : H a with
      | none => rfl
      | some u => exact absurd h (x.there a (by rw [e]; simp))
  · exact y.keep b u (x.keep b u h hn ht hd) (out b hn (by rw [h]; simp)) ht hd
  · exact y.keepD b u (x.keepD b u h hn hd) (out b hn (rd_there h)) hd
theorem Le.out (x : Le m H m' H') {a : Addr} (h : a ∉ m) (t : H a ≠ none) : a ∉ m' := fun z => (x.new a z).elim h t
theorem Le.at (x : Le m H m' H') {n : Nat} {a : Addr} (h : m[n]? = some a) : m'[n]? = some a := by
  obtain ⟨t, rfl⟩ := x.pre
  rw [List.getElem?_append_left (List.getElem?_eq_some_iff.mp h).1]; exact h
theorem Le.rd (x : Le m H m' H') {a : Addr} {u : HO} (h : Rd H a u) (n : a ∉ m) (t : ∀ ps, u ≠ .tbl ps) : Rd H' a u := by
  cases hd : dicty u with
  | true => exact x.keepD a u h n hd
  | false =>
    rcases h with h | ⟨o, h⟩
    · exact .inl (x.keep a u h n t hd)
    · exact .inr ⟨o, x.keep a _ h n (fun ps z => by cases z) hd⟩
theorem Le.tp (x : Le m H m' H') {xs : List D} {a : Addr} {vs : List V} (h : Tp H xs a vs) : Tp H' xs a vs := by
  obtain ⟨o, q, h⟩ := h
  refine ⟨o, q, ?_⟩
  unfold tupO at h ⊢
  by_cases k : keyish xs = true
  · rw [if_pos k] at h ⊢; exact x.tups a vs h
  · rw [if_neg k] at h ⊢; exact x.frzs a o _ h
mutual
theorem Rep.mono (x : Le m H m' H') : ∀ (d : D) (v : V), Rep W m H d v → Rep W m' H' d v
  | .non, _, h | .bl _, _, h | .int _, _, h | .str _, _, h | .fn _, _, h => by simpa only [Rep] using h
  | .tup xs, v, h => by
    simp only [Rep] at h ⊢
    obtain ⟨a, vs, e, h1, h2⟩ := h
    exact ⟨a, vs, e, x.tp h1, RepL.mono x xs vs h2⟩
  | .lst xs, v, h => by
    simp only [Rep] at h ⊢
    obtain ⟨a, vs, e, h1, hn, h2⟩ := h
    exact ⟨a, vs, e, x.rd h1 hn (fun _ z => by cases z), x.out hn (rd_there h1), RepL.mono x xs vs h2⟩
  | .dct false kvs, v, h => by
    simp only [Rep] at h ⊢
    obtain ⟨a, ks, e, hn, h1, h2, h3⟩ := h
    exact ⟨a, ks, e, x.out hn (rd_there h1), x.rd h1 hn (fun _ z => by cases z), h2, RepV.mono x kvs _ h3⟩
  | .dct true kvs, v, h => by
    simp only [Rep] at h ⊢
    obtain ⟨a, ks, e, hn, h1, h2, h3⟩ := h
    exact ⟨a, ks, e, x.out hn (rd_there h1), x.rd h1 hn (fun _ z => by cases z), h2, RepV.mono x kvs _ h3⟩
  | .ins c fs, v, h => by
    simp only [Rep] at h ⊢
    obtain ⟨a, dx, ns, e, h1, hn, h2, h3⟩ := h
    exact ⟨a, dx, ns, e, x.keep a _ h1 hn (fun _ z => by cases z) rfl, x.out hn (by rw [h1]; simp), h2, RepL.mono x fs _ h3⟩
  | .loc n, v, h => by
    simp only [Rep] at h ⊢
    obtain ⟨a, h1, e⟩ := h
    exact ⟨a, x.at h1, e⟩
theorem RepL.mono (x : Le m H m' H') : ∀ (ds : List D) (vs : List V), RepL W m H ds vs → RepL W m' H' ds vs
  | [], _, h => by simpa only [RepL] using h
  | d :: ds, vs, h => by
    simp only [RepL] at h ⊢
    obtain ⟨v, r, e, h1, h2⟩ := h
    exact ⟨v, r, e, Rep.mono x d v h1, RepL.mono x ds r h2⟩
theorem RepV.mono (x : Le m H m' H') : ∀ (ds : List (D × D)) (vs : List V), RepV W m H ds vs → RepV W m' H' ds vs
  | [], _, h => by simpa only [RepV] using h
  | (_, d) :: ds, vs, h => by
    simp only [RepV] at h ⊢
    obtain ⟨v, r, e, h1, h2⟩ := h
    exact ⟨v, r, e, Rep.mono x d v h1, RepV.mono x ds r h2⟩
end
theorem RepL.length : ∀ {ds : List D} {vs : List V}, RepL W m H ds vs → ds.length = vs.length
  | [], _, h => by simp only [RepL] at h; rw [h]; rfl
  | d :: ds, vs, h => by
    simp only [RepL] at h
    obtain ⟨v, r, rfl, _, h2⟩ := h
    simp [RepL.length h2]
theorem RepL.append : ∀ {ds es : List D} {vs ws : List V}, RepL W m H ds vs → RepL W m H es ws → RepL W m H (ds ++ es) (vs ++ ws)
  | [], _, _, _, h, q => by simp only [RepL] at h; rw [h]; exact q
  | d :: ds, es, vs, ws, h, q => by
    simp only [RepL] at h
    obtain ⟨v, r, rfl, h1, h2⟩ := h
    simp only [List.cons_append, RepL]
    exact ⟨v, r ++ ws, rfl, h1, h2.append q⟩
theorem RepL.at : ∀ {ds : List D} {vs : List V} {i : Nat} {d : D}, RepL W m H ds vs → ds[i]? = some d → ∃ v, vs[i]? = some v ∧ Rep W m H d v
  | [], _, i, _, _, e => by simp at e
  | d :: ds, vs, 0, x, h, e => by
    simp only [RepL] at h
    obtain ⟨v, r, rfl, h1, h2⟩ := h
    simp at e; subst e
    exact ⟨v, rfl, h1⟩
  | d :: ds, vs, i + 1, x, h, e => by
    simp only [RepL] at h
    obtain ⟨v, r, rfl, h1, h2⟩ := h
    simp at e ⊢
    exact h2.at e
theorem RepL.set : ∀ {ds : List D} {vs : List V} (i : Nat) {d : D} {v : V}, RepL W m H ds vs → Rep W m H d v → RepL W m H (ds.set i d) (vs.set i v)
  | [], _, i, _, _, h, _ => by simp only [RepL] at h; rw [h]; simp [RepL]
  | d :: ds, vs, 0, x, y, h, q => by
    simp only [RepL] at h
    obtain ⟨v, r, rfl, h1, h2⟩ := h
    simp only [List.set_cons_zero, RepL]
    exact ⟨y, r, rfl, q, h2⟩
  | d :: ds, vs, i + 1, x, y, h, q => by
    simp only [RepL] at h
    obtain ⟨v, r, rfl, h1, h2⟩ := h
    simp only [List.set_cons_succ, RepL]
    exact ⟨v, _, rfl, h1, h2.set i q⟩
theorem RepL.one {d : D} {v : V} (h : Rep W m H d v) : RepL W m H [d] [v] := by
  simp only [RepL]; exact ⟨v, [], rfl, h, rfl⟩
theorem RepL.take : ∀ {ds : List D} {vs : List V} (n : Nat), RepL W m H ds vs → RepL W m H (ds.take n) (vs.take n)
  | _, _, 0, _ => by simp [RepL]
  | [], _, n + 1, h => by simp only [RepL] at h; rw [h]; simp [RepL]
  | d :: ds, vs, n + 1, h => by
    simp only [RepL] at h
    obtain ⟨v, r, rfl, h1, h2⟩ := h
    simp only [List.take_succ_cons, RepL]
    exact ⟨v, _, rfl, h1, h2.take n⟩
theorem RepL.drop : ∀ {ds : List D} {vs : List V} (n : Nat), RepL W m H ds vs → RepL W m H (ds.drop n) (vs.drop n)
  | _, _, 0, h => by simpa using h
  | [], _, n + 1, h => by simp only [RepL] at h; rw [h]; simp [RepL]
  | d :: ds, vs, n + 1, h => by
    simp only [RepL] at h
    obtain ⟨v, r, rfl, h1, h2⟩ := h
    simpa using h2.drop n
theorem RepL.reverse {ds : List D} {vs : List V} (h : RepL W m H ds vs) : RepL W m H ds.reverse vs.reverse := by
  induction ds generalizing vs with
  | nil => simp only [RepL] at h; rw [h]; simp [RepL]
  | cons d ds ih =>
    simp only [RepL] at h
    obtain ⟨v, r, rfl, h1, h2⟩ := h
    rw [List.reverse_cons, List.reverse_cons]
    exact (ih h2).append (.one h1)
theorem ORep.mono (x : Le m H m' H') {o : O} {a : Addr} (e : H' a = H a) (h : ORep W m H o a) : ORep W m' H' o a := by
  cases o with
  | lst xs =>
    obtain ⟨vs, h1, h2⟩ := h
    exact ⟨vs, e.trans h1, h2.mono x⟩
  | dct t kvs lk =>
    cases t <;> obtain ⟨ks, h1, h2, h3⟩ := h <;> refine ⟨ks, ?_, h2, h3.mono x⟩ <;> cases lk <;> simp only [Bool.false_eq_true, if_false, if_true] at h1 ⊢ <;> rw [e] <;> exact h1
  | ins c fs =>
    obtain ⟨dx, ns, h1, h2, h3⟩ := h
    exact ⟨dx, ns, e.trans h1, h2, h3.mono x⟩
/-- a new object that is no place -/
theorem Le.upd {a : Addr} {o : HO} (h : H a = none) (x : Le m H m H') (hx : H' = upd H a o) : Le m H m H' := x
theorem rd_new {a b : Addr} {o u : HO} (h : H a = none) (r : Rd H b u) : Rd (upd H a o) b u := by
  rcases r with r | ⟨z, r⟩
  · exact .inl (by rw [upd_ne (ne_of_none r h)]; exact r)
  · exact .inr ⟨z, by rw [upd_ne (ne_of_none r h)]; exact r⟩
theorem le_new {a : Addr} {o : HO} (h : H a = none) : Le m H m (upd H a o) := by
  refine ⟨List.prefix_refl m, fun _ h => .inl h, fun b u e _ _ _ => ?_, fun b u e _ _ => rd_new h e, fun b z u e => by rw [upd_ne (ne_of_none e h)]; exact e, fun b xs e => ?_, fun b e => ?_⟩
  · rw [upd_ne (ne_of_none e h)]; exact e
  · rw [upd_ne (ne_of_none e h)]; exact e
  · by_cases q : b = a
    · subst q; rw [upd_same]; simp
    · rw [upd_ne q]; exact e
theorem le_add {a : Addr} {o : HO} (h : H a = none) : Le m H (m ++ [a]) (upd H a o) := by
  refine ⟨List.prefix_append m [a], fun b z => ?_, fun b u e _ _ _ => ?_, fun b u e _ _ => rd_new h e, fun b z u e => by rw [upd_ne (ne_of_none e h)]; exact e, fun b xs e => ?_, fun b e => ?_⟩
  · rcases List.mem_append.mp z with z | z
    · exact .inl z
    · right; rw [List.mem_singleton.mp z]; exact h
  · rw [upd_ne (ne_of_none e h)]; exact e
  · rw [upd_ne (ne_of_none e h)]; exact e
  · by_cases q : b = a
    · subst q; rw [upd_same]; simp
    · rw [upd_ne q]; exact e
theorem SR.there {S : Py.St} (x : SR W m H S) {a : Addr} (h : a ∈ m) : H a ≠ none := by
  obtain ⟨n, hn⟩ := List.mem_iff_getElem?.mp h
  have hl : n < S.length := by rw [← x.len]; exact (List.getElem?_eq_some_iff.mp hn).1
  obtain ⟨b, hb, r⟩ := x.at_ n S[n] (List.getElem?_eq_getElem hl)
  rw [hn] at hb; cases hb
  cases e : S[n] with
  | lst xs => rw [e] at r; obtain ⟨vs, h1, _⟩ := r; rw [h1]; simp
  | dct t kvs lk =>
    rw [e] at r
    cases t <;> obtain ⟨ks, h1, _, _⟩ := r <;> cases lk <;> simp only [Bool.false_eq_true, if_false, if_true] at h1
    · rw [h1]; simp
    · obtain ⟨od, h1⟩ := h1; rw [h1]; simp
    · rw [h1]; simp
    · obtain ⟨od, h1⟩ := h1; rw [h1]; simp
  | ins c fs => rw [e] at r; obtain ⟨dx, ns, h1, _⟩ := r; rw [h1]; simp
theorem SR.notup {S : Py.St} (x : SR W m H S) {a : Addr} (h : a ∈ m) (xs : List V) : H a ≠ some (.tup xs) := by
  obtain ⟨n, hn⟩ := List.mem_iff_getElem?.mp h
  have hl : n < S.length := by rw [← x.len]; exact (List.getElem?_eq_some_iff.mp hn).1
  obtain ⟨b, hb, r⟩ := x.at_ n S[n] (List.getElem?_eq_getElem hl)
  rw [hn] at hb; cases hb
  cases e : S[n] with
  | lst xs => rw [e] at r; obtain ⟨vs, h1, _⟩ := r; rw [h1]; simp
  | dct t kvs lk =>
    rw [e] at r
    cases t <;> obtain ⟨ks, h1, _, _⟩ := r <;> cases lk <;> simp only [Bool.false_eq_true, if_false, if_true] at h1
    · rw [h1]; simp
    · obtain ⟨od, h1⟩ := h1; rw [h1]; simp
    · rw [h1]; simp
    · obtain ⟨od, h1⟩ := h1; rw [h1]; simp
  | ins c fs => rw [e] at r; obtain ⟨dx, ns, h1, _⟩ := r; rw [h1]; simp
/-- a new object, no place: the state is told as before -/
theorem SR.new {S : Py.St} (x : SR W m H S) {a : Addr} {o : HO} (h : H a = none) : SR W m (upd H a o) S := by
  refine ⟨x.len, x.nd, fun n ob e => ?_, x.tabs.ext fun b o e => by rw [upd_ne (ne_of_none e h)]; exact e, fun p hp => Rep.mono (le_new h) _ _ (x.con p hp)⟩
  obtain ⟨b, hb, r⟩ := x.at_ n ob e
  have nb : b ≠ a := fun z => by subst z; exact x.there (List.mem_of_getElem? hb) h
  exact ⟨b, hb, r.mono (le_new h) (upd_ne nb)⟩
/-- a new place -/
theorem SR.add {S : Py.St} (x : SR W m H S) {a : Addr} {o : HO} {ob : O} (h : H a = none) (r : ORep W (m ++ [a]) (upd H a o) ob a) : SR W (m ++ [a]) (upd H a o) (S ++ [ob]) := by
  refine ⟨by simp [x.len], ?_, fun n oc e => ?_, x.tabs.ext fun b o e => by rw [upd_ne (ne_of_none e h)]; exact e, fun p hp => Rep.mono (le_add h) _ _ (x.con p hp)⟩
  · rw [List.nodup_append]
    refine ⟨x.nd, by simp, fun b hb c hc => ?_⟩
    rw [List.mem_singleton.mp hc]
    intro z; subst z; exact x.there hb h
  · by_cases hn : n < S.length
    · rw [List.getElem?_append_left hn] at e
      obtain ⟨b, hb, q⟩ := x.at_ n oc e
      have nb : b ≠ a := fun z => by subst z; exact x.there (List.mem_of_getElem? hb) h
      refine ⟨b, ?_, q.mono (le_add h) (upd_ne nb)⟩
      rw [List.getElem?_append_left (by rw [x.len]; exact hn)]; exact hb
    · rw [List.getElem?_append_right (Nat.le_of_not_lt hn)] at e
      have hz : n - S.length = 0 := by
        cases q : n - S.length with
        | zero => rfl
        | succ j => rw [q] at e; simp at e
      rw [hz] at e
      simp at e
      subst e
      refine ⟨a, ?_, r⟩
      have hn' : n = m.length := by rw [x.len]; omega
      rw [hn']; simp
/-- what stands at a place -/
theorem SR.kind {S : Py.St} (x : SR W m H S) {a : Addr} (h : a ∈ m) : ∃ o, H a = some o ∧ (∀ xs, o ≠ .tup xs) ∧ (∀ ps, o ≠ .tbl ps) ∧ (∀ φ, o ≠ .ext φ) ∧ (∀ z, o ≠ .own z) := by
  obtain ⟨n, hn⟩ := List.mem_iff_getElem?.mp h
  have hl : n < S.length := by rw [← x.len]; exact (List.getElem?_eq_some_iff.mp hn).1
  obtain ⟨b, hb, r⟩ := x.at_ n S[n] (List.getElem?_eq_getElem hl)
  rw [hn] at hb; cases hb
  cases e : S[n] with
  | lst xs => rw [e] at r; obtain ⟨vs, h1, _⟩ := r; exact ⟨_, h1, by simp⟩
  | dct t kvs lk =>
    rw [e] at r
    cases t <;> obtain ⟨ks, h1, _, _⟩ := r <;> cases lk <;> simp only [Bool.false_eq_true, if_false, if_true] at h1
    · exact ⟨_, h1, by simp⟩
    · obtain ⟨od, h1⟩ := h1; exact ⟨_, h1, by simp⟩
    · exact ⟨_, h1, by simp⟩
    · obtain ⟨od, h1⟩ := h1; exact ⟨_, h1, by simp⟩
  | ins c fs => rw [e] at r; obtain ⟨dx, ns, h1, _⟩ := r; exact ⟨_, h1, by simp⟩
/-- a place is written -/
theorem SR.le_put {S : Py.St} (x : SR W m H S) {a : Addr} {o : HO} (h : a ∈ m) (hz : ∀ z u, H a ≠ some (.frz z u)) : Le m H m (upd H a o) := by
  obtain ⟨u, hu, h1, h2, h3, h4⟩ := x.kind h
  have ne : ∀ b, b ∉ m → b ≠ a := fun b n z => n (by rw [z]; exact h)
  refine ⟨List.prefix_refl m, fun _ h => .inl h, fun b v e n _ _ => ?_, fun b v e n _ => ?_, fun b z u e => by rw [upd_ne (fun q => by rw [q] at e; exact hz z u e)]; exact e, fun b xs e => ?_, fun b e => ?_⟩
  · rw [upd_ne (ne b n)]; exact e
  · rcases e with e | ⟨z, e⟩
    · exact .inl (by rw [upd_ne (ne b n)]; exact e)
    · exact .inr ⟨z, by rw [upd_ne (ne b n)]; exact e⟩
  · rw [upd_ne (fun z => by rw [z, hu] at e; exact h1 xs (Option.some.inj e))]; exact e
  · by_cases q : b = a
    · subst q; rw [upd_same]; simp
    · rw [upd_ne q]; exact e
/-- a dict that is no place is known from now on -/
theorem le_lock {a : Addr} {o : Obj} {u : HO} (h : H a = some u) (hd : dicty u = true) (hf : ∀ z w, u ≠ .frz z w) : Le m H m (upd H a (.frz o u)) := by
  refine ⟨List.prefix_refl m, fun _ h => .inl h, fun b v e n _ hv => ?_, fun b v e n hv => ?_, fun b z w e => by rw [upd_ne (fun q => by rw [q, h] at e; exact hf z w (Option.some.inj e))]; exact e, fun b xs e => ?_, fun b e => ?_⟩
  · have nb : b ≠ a := fun z => by rw [z, h] at e; cases e; rw [hd] at hv; cases hv
    rw [upd_ne nb]; exact e
  · by_cases q : b = a
    · subst q
      rcases e with e | ⟨z, e⟩
      · rw [h] at e; cases e
        exact .inr ⟨o, upd_same⟩
      · rw [h] at e; cases e
        exact absurd rfl (hf _ _)
    · rcases e with e | ⟨z, e⟩
      · exact .inl (by rw [upd_ne q]; exact e)
      · exact .inr ⟨z, by rw [upd_ne q]; exact e⟩
  · have nb : b ≠ a := fun z => by rw [z, h] at e; cases e; cases hd
    rw [upd_ne nb]; exact e
  · by_cases q : b = a
    · subst q; rw [upd_same]; simp
    · rw [upd_ne q]; exact e
theorem SR.put {S : Py.St} (x : SR W m H S) {n : Nat} {a : Addr} {o : HO} {ob : O} (h : m[n]? = some a) (hz : ∀ z u, H a ≠ some (.frz z u)) (r : ORep W m (upd H a o) ob a) : SR W m (upd H a o) (S.set n ob) := by
  have hm := List.mem_of_getElem? h
  obtain ⟨u, hu, h1, h2, h3, h4⟩ := x.kind hm
  refine ⟨by simp [x.len], x.nd, fun j oc e => ?_, fun p hp => ?_, fun p hp => Rep.mono (x.le_put hm hz) _ _ (x.con p hp)⟩
  · by_cases hj : j = n
    · subst hj
      have hl : j < S.length := by rw [← x.len]; exact (List.getElem?_eq_some_iff.mp h).1
      rw [List.getElem?_set_self hl] at e
      cases e
      exact ⟨a, h, r⟩
    · rw [List.getElem?_set_ne (Ne.symm hj)] at e
      obtain ⟨b, hb, q⟩ := x.at_ j oc e
      have nb : b ≠ a := fun z => by
        subst z
        exact hj (((List.getElem?_inj (List.getElem?_eq_some_iff.mp hb).1 x.nd).mp (hb.trans h.symm)))
      exact ⟨b, hb, q.mono (x.le_put hm hz) (upd_ne nb)⟩
  · obtain ⟨ps, a1, a2, a3⟩ := x.tabs p hp
    refine ⟨ps, by rw [upd_ne (fun z => by rw [z, hu] at a1; exact h2 ps (Option.some.inj a1))]; exact a1, a2, fun pos cv hc => ?_⟩
    obtain ⟨c, e1, e2⟩ := a3 pos cv hc
    refine ⟨c, e1, ?_⟩
    rw [upd_ne (fun z => by rw [z, hu] at e2; exact h3 _ (Option.some.inj e2))]
    exact e2
/-- a dict that is no place is known from now on: the state is told as before -/
theorem SR.lockI {S : Py.St} (x : SR W m H S) {a : Addr} {o : Obj} {u : HO} (h : H a = some u) (n : a ∉ m) (hd : dicty u = true) (hf : ∀ z w, u ≠ .frz z w) : SR W m (upd H a (.frz o u)) S := by
  refine ⟨x.len, x.nd, fun i ob e => ?_, fun p hp => ?_, fun p hp => Rep.mono (le_lock h hd hf) _ _ (x.con p hp)⟩
  · obtain ⟨b, hb, r⟩ := x.at_ i ob e
    have nb : b ≠ a := fun z => n (by rw [← z]; exact List.mem_of_getElem? hb)
    exact ⟨b, hb, r.mono (le_lock h hd hf) (upd_ne nb)⟩
  · obtain ⟨ps, a1, a2, a3⟩ := x.tabs p hp
    refine ⟨ps, by rw [upd_ne (fun z => by rw [z, h] at a1; cases a1; cases hd)]; exact a1, a2, fun pos cv hc => ?_⟩
    obtain ⟨c, e1, e2⟩ := a3 pos cv hc
    refine ⟨c, e1, ?_⟩
    rw [upd_ne (fun z => by
      rw [z, h] at e2
      have e3 := Option.some.inj e2
      rw [e3] at hd
      cases hd)]
    exact e2
end
end Py
end

section
set_option Elab.async false
set_option linter.all false
set_option maxRecDepth 100000
/-! The walk, once for all: readings by the plain machine. -/
namespace Py
open PySem PySem.Spec PyProof.Rows L2

/-- what is told of arguments that are no values (functions made here, exceptions that are handled), kept as the heap goes on -/
structure Sd where
  J : List Addr → Hp → Ag → V → Prop
  mono : ∀ {m H m' H' a v}, Le m H m' H' → J m H a v → J m' H' a v
def Sd.none : Sd := ⟨fun _ _ _ _ => False, fun _ h => h⟩

section
variable (W : Wd) (j : Sd)
def AgR (m : List Addr) (H : Hp) (a : Ag) (v : V) : Prop := match a with
  | .d d => Rep W m H d v
  | a => j.J m H a v
structure ER (m : List Addr) (H : Hp) (ρ : Env) (σ : L2.St) : Prop where
  len : ρ.length = σ.length
  at_ : ∀ (i : Nat) (a : Ag), ρ[i]? = some (some a) → ∃ v, σ[i]? = some (some v) ∧ AgR W j m H a v
def XR (m : List Addr) (H : Hp) (c : Nat) (fs : List D) (dx : Option Addr) : Prop := match fs with
  | [] => dx = none
  | [d] => ∃ a v, dx = some a ∧ H a = some (.xd [(W.xf c, v)]) ∧ Rep W m H d v
  | _ => False
/-- what is asked of a result: R tells how its value is told -/
def KG {α β : Type} (E : XK) (m : List Addr) (H : Hp) (R : List Addr → Hp → α → β → Prop) (r : Res α) (Q : β → Hp → Prop) : Prop := match r with
  | .ok d S => ∀ v H' m', Le m H m' H' → SR W m' H' S → R m' H' d v → Q v H'
  | .exc c fs S => ∀ dx H' m', Le m H m' H' → SR W m' H' S → XR W m' H' c fs dx → E (.ref (W.xa c)) dx H'
  | .bad => False
/-- the reading of an expression -/
def tE (cl : Cl) (E : XK) (me : ME) : TE := fun σ H Q => ∃ m S ρ, SR W m H S ∧ ER W j m H ρ σ ∧ KG W E m H (Rep W) (evE cl me ρ S) Q
def tEs (cl : Cl) (E : XK) (es : MEs) : TA := fun σ H Q => ∃ m S ρ, SR W m H S ∧ ER W j m H ρ σ ∧ KG W E m H (RepL W) (evEs cl es ρ S) Q
def rB : List Addr → Hp → Bool → Bool → Prop := fun _ _ a b => a = b
def tIfs (cl : Cl) (E : XK) (es : MEs) : TT := fun σ H Q => ∃ m S ρ, SR W m H S ∧ ER W j m H ρ σ ∧ KG W E m H rB (evIfs cl es ρ S) Q
end
section
variable {W : Wd} {j : Sd} {E : XK} {m m' : List Addr} {H H' : Hp} {S : Py.St}
theorem AgR.mono {a : Ag} {v : V} (x : Le m H m' H') (h : AgR W j m H a v) : AgR W j m' H' a v := by
  cases a with
  | d d => exact Rep.mono x d v h
  | clo _ _ _ => exact j.mono x h
  | exn _ _ => exact j.mono x h
theorem ER.mono {ρ : Env} {σ : L2.St} (x : Le m H m' H') (h : ER W j m H ρ σ) : ER W j m' H' ρ σ :=
  ⟨h.len, fun i a e => let ⟨v, e1, e2⟩ := h.at_ i a e; ⟨v, e1, e2.mono x⟩⟩
theorem ER.set {ρ : Env} {σ : L2.St} (h : ER W j m H ρ σ) (i : Nat) {a : Ag} {v : V} (r : AgR W j m H a v) : ER W j m H (ρ.set i (some a)) (σ.set i (some v)) := by
  refine ⟨by simpa using h.len, fun k b e => ?_⟩
  by_cases hk : i = k
  · subst hk
    by_cases hl : i < ρ.length
    · rw [List.getElem?_set_self hl] at e
      cases e
      exact ⟨v, List.getElem?_set_self (by rw [← h.len]; exact hl), r⟩
    · rw [List.getElem?_eq_none (by simpa using hl)] at e
      cases e
  · rw [List.getElem?_set_ne hk] at e ⊢
    exact h.at_ k b e
theorem ER.drop {ρ : Env} {σ : L2.St} (h : ER W j m H ρ σ) (i : Nat) (o : Option V) : ER W j m H (ρ.set i none) (σ.set i o) := by
  refine ⟨by simpa using h.len, fun k b e => ?_⟩
  by_cases hk : i = k
  · subst hk
    by_cases hl : i < ρ.length
    · rw [List.getElem?_set_self hl] at e
      cases e
    · rw [List.getElem?_eq_none (by simpa using hl)] at e
      cases e
  · rw [List.getElem?_set_ne hk] at e ⊢
    exact h.at_ k b e
theorem ER.wipe {ρ : Env} {σ : L2.St} (h : ER W j m H ρ σ) : ∀ vs : List Nat, ER W j m H (Py.wipe ρ vs) (L2.wipe σ vs)
  | [] => h
  | v :: vs => (ER.wipe h vs).drop v none
theorem ER.slot {ρ : Env} {σ : L2.St} (h : ER W j m H ρ σ) {i : Nat} {a : Ag} (e : slot ρ i = some a) : ∃ v, σ[i]? = some (some v) ∧ AgR W j m H a v := by
  unfold Py.slot at e
  cases q : ρ[i]? with
  | none => rw [q] at e; cases e
  | some o =>
    rw [q] at e
    have e : o = some a := e
    subst e
    exact h.at_ i a q
variable {α β γ δ : Type} {R : List Addr → Hp → α → β → Prop} {R2 : List Addr → Hp → γ → δ → Prop}
theorem KG.mono {r : Res α} {Q : β → Hp → Prop} (x : Le m H m' H') (h : KG W E m H R r Q) : KG W E m' H' R r Q := by
  cases r with
  | ok d S => exact fun v H' m' le sr rr => h v H' m' (x.trans le) sr rr
  | exc c fs S => exact fun dx H' m' le sr rr => h dx H' m' (x.trans le) sr rr
  | bad => exact h
theorem KG.imp {r : Res α} {Q Q' : β → Hp → Prop} (h : KG W E m H R r Q) (i : ∀ v H', Q v H' → Q' v H') : KG W E m H R r Q' := by
  cases r with
  | ok d S => exact fun v H' m' le sr rr => i _ _ (h v H' m' le sr rr)
  | exc c fs S => exact h
  | bad => exact h
theorem KG.bind {r : Res α} {f : α → Py.St → Res γ} {Q : δ → Hp → Prop} (h : KG W E m H R2 (r.bind f) Q) :
    KG W E m H R r (fun v H1 => ∃ m1 d S1, Le m H m1 H1 ∧ SR W m1 H1 S1 ∧ R m1 H1 d v ∧ KG W E m1 H1 R2 (f d S1) Q) := by
  cases r with
  | ok d S => exact fun v H' m' le sr rr => ⟨m', d, S, le, sr, rr, KG.mono le h⟩
  | exc c fs S => exact h
  | bad => exact h
theorem KG.ok {d : α} {Q : β → Hp → Prop} (h : KG W E m H R (.ok d S) Q) (sr : SR W m H S) {v : β} (r : R m H d v) : Q v H := h v H m .refl sr r
theorem KG.opt {o : Option α} {Q : β → Hp → Prop} (h : KG W E m H R (opt o S) Q) : ∃ d, o = some d ∧ ∀ v H' m', Le m H m' H' → SR W m' H' S → R m' H' d v → Q v H' := by
  cases o with
  | none => exact False.elim h
  | some d => exact ⟨d, rfl, h⟩
theorem KG.noX {E' : XK} {r : Res α} {Q : β → Hp → Prop} (h : KG W E m H R r.noX Q) : KG W E' m H R r Q := by
  cases r with
  | ok d S => exact h
  | exc c fs S => exact h.elim
  | bad => exact h.elim
theorem PEw {X : Cx} {e : Expr} {t t' : TE} (h : PE X e t) (i : ∀ σ H Q, t' σ H Q → t σ H Q) : PE X e t' := ⟨fun pins s σ H Q I w => h.run pins s σ H Q I (i _ _ _ w)⟩
theorem PTw {X : Cx} {e : Expr} {t t' : TT} (h : PT X e t) (i : ∀ σ H Q, t' σ H Q → t σ H Q) : PT X e t' := ⟨fun pins s σ H Q I w => h.run pins s σ H Q I (i _ _ _ w)⟩
theorem PAw {X : Cx} {es : List Expr} {t t' : TA} (h : PA X es t) (i : ∀ σ H Q, t' σ H Q → t σ H Q) : PA X es t' := ⟨fun pos pins s σ H Q I w => h.run pos pins s σ H Q I (i _ _ _ w)⟩
theorem PSw {X : Cx} {st : Stmt} {t t' : TS} (h : PS X st t) (i : ∀ D σ H, t' D σ H → t D σ H) : PS X st t' := ⟨fun pins s σ H D I w => h.run pins s σ H D I (i _ _ _ w)⟩
theorem PSsw {X : Cx} {st : List Stmt} {t t' : TS} (h : PSs X st t) (i : ∀ D σ H, t' D σ H → t D σ H) : PSs X st t' := ⟨fun pins s σ H D I w => h.run pins s σ H D I (i _ _ _ w)⟩

/-! ### how values are told -/
theorem vw_of {d : D} (h : ∀ n, d ≠ .loc n) : vw S d = d := by
  cases d <;> first | rfl | exact absurd rfl (h _)
theorem vw_loc {n : Nat} : vw S (.loc n) = match S[n]? with
  | some (.lst xs) => .lst xs
  | some (.dct t kvs _) => .dct t kvs
  | some (.ins c fs) => .ins c fs
  | none => .loc n := rfl
theorem vw_flat {d e : D} (h : vw S d = e) (he : match e with | .lst _ | .dct _ _ | .ins _ _ | .loc _ => False | _ => True) : d = e := by
  cases d with
  | loc n =>
    rw [vw_loc] at h
    split at h <;> subst h <;> exact he.elim
  | _ => exact h
theorem vw_int {d : D} {i : Int} (h : vw S d = .int i) : d = .int i := vw_flat h trivial
theorem vw_str {d : D} {s : List Nat} (h : vw S d = .str s) : d = .str s := vw_flat h trivial
theorem vw_tup {d : D} {s : List D} (h : vw S d = .tup s) : d = .tup s := vw_flat h trivial
theorem vw_non {d : D} (h : vw S d = .non) : d = .non := vw_flat h trivial
theorem vw_bl {d : D} {b : Bool} (h : vw S d = .bl b) : d = .bl b := vw_flat h trivial
/-- a list, a place or not -/
theorem rep_lst {d : D} {v : V} {xs : List D} (sr : SR W m H S) (r : Rep W m H d v) (h : vw S d = .lst xs) : ∃ a vs, v = .ref a ∧ Rd H a (.lst vs) ∧ RepL W m H xs vs := by
  cases d with
  | loc n =>
    rw [vw_loc] at h
    simp only [Rep] at r
    obtain ⟨a, ha, rfl⟩ := r
    split at h <;> try cases h
    rename_i ys e
    obtain ⟨b, hb, vs, h1, h2⟩ := sr.at_ n _ e
    rw [ha] at hb; cases hb
    exact ⟨a, vs, rfl, .inl h1, h2⟩
  | lst ys =>
    cases (show D.lst ys = D.lst xs from h)
    simp only [Rep] at r
    obtain ⟨a, vs, e, h1, _, h2⟩ := r
    exact ⟨a, vs, e, h1, h2⟩
  | _ => cases h
theorem rep_tup {v : V} {xs : List D} (r : Rep W m H (.tup xs) v) : ∃ a vs, v = .ref a ∧ Tp H xs a vs ∧ RepL W m H xs vs := by
  simpa only [Rep] using r
theorem rep_int {v : V} {i : Int} (r : Rep W m H (.int i) v) : v = .int i := by simpa only [Rep] using r
theorem rep_str {v : V} {i : List Nat} (r : Rep W m H (.str i) v) : v = .str (sOf i) := by simpa only [Rep] using r
theorem rep_bl {v : V} {i : Bool} (r : Rep W m H (.bl i) v) : v = .bl i := by simpa only [Rep] using r
theorem rep_non {v : V} (r : Rep W m H .non v) : v = .non := by simpa only [Rep] using r
theorem Rep.int (i : Int) : Rep W m H (.int i) (.int i) := by simp only [Rep]
theorem Rep.str (i : List Nat) : Rep W m H (.str i) (.str (sOf i)) := by simp only [Rep]
theorem Rep.bl (i : Bool) : Rep W m H (.bl i) (.bl i) := by simp only [Rep]
theorem Rep.non : Rep W m H .non .non := by simp only [Rep]
theorem Rep.tup {a : Addr} {xs : List D} {vs : List V} (h : Tp H xs a vs) (r : RepL W m H xs vs) : Rep W m H (.tup xs) (.ref a) := by
  simp only [Rep]; exact ⟨a, vs, rfl, h, r⟩
theorem Rep.lst {a : Addr} {xs : List D} {vs : List V} (h : Rd H a (.lst vs)) (n : a ∉ m) (r : RepL W m H xs vs) : Rep W m H (.lst xs) (.ref a) := by
  simp only [Rep]; exact ⟨a, vs, rfl, h, n, r⟩
theorem tp_sq {K : PySem.W.Frag} {xs : List D} {a : Addr} {vs : List V} (h : Tp H xs a vs) : SqT K H a vs := .inl h.rd
/-! ### new things -/
theorem new_tup {Q : VK} {xs : List D} {vs : List V} (h : ∀ v H' m', Le m H m' H' → SR W m' H' S → Rep W m' H' (.tup xs) v → Q v H') (sr : SR W m H S) (r : RepL W m H xs vs) (p : Addr) (o : Obj) (hp : H p = none) (ho : o.dict = none) : Q (.ref p) (upd H p (tupO (keyish xs) o vs)) :=
  h _ _ m (le_new hp) (sr.new hp) (.tup (.new ho) (r.mono (le_new hp)))
theorem not_in {p : Addr} (sr : SR W m H S) (hp : H p = none) : p ∉ m := fun z => sr.there z hp
theorem new_lst {Q : VK} {xs : List D} {vs : List V} (h : ∀ v H' m', Le m H m' H' → SR W m' H' S → Rep W m' H' (.lst xs) v → Q v H') (sr : SR W m H S) (r : RepL W m H xs vs) (p : Addr) (hp : H p = none) : Q (.ref p) (upd H p (.lst vs)) :=
  h _ _ m (le_new hp) (sr.new hp) (.lst (.inl upd_same) (not_in sr hp) (r.mono (le_new hp)))
/-- a new list, a place or not -/
theorem new_lstM {Q : VK} {xs : List D} {vs : List V} {mu : Bool} (h : KG W E m H (Rep W) (mkO mu (.lst xs) S) Q) (sr : SR W m H S) (r : RepL W m H xs vs) (p : Addr) (hp : H p = none) : Q (.ref p) (upd H p (.lst vs)) := by
  cases mu with
  | false => exact new_lst h sr r p hp
  | true =>
    refine h _ _ (m ++ [p]) (le_add hp) (sr.add hp ⟨vs, upd_same, r.mono (le_add hp)⟩) ?_
    simp only [Rep]
    exact ⟨p, by rw [← sr.len]; simp, rfl⟩
end
end Py
end

section
set_option Elab.async false
set_option linter.all false
set_option maxRecDepth 100000
set_option maxHeartbeats 4000000
set_option autoImplicit false
namespace Py
open PySem PySem.Spec PyProof.Rows L2
/-! new tuples, with their very objects -/
section
variable {X : Cx}
theorem tupO_ok {P : Program} {w : World} {H : Hp} {h : Heap} {a : Addr} {b : Bool} {o : Obj} {vs : List V} (e : h.get? a = some o) (x : ObjOk P w H h a (.tup vs)) : ObjOk P w H h a (tupO b o vs) := by
  unfold tupO
  split
  · exact x
  · exact ⟨e, x⟩
/-- the fresh tuple -/
abbrev nT (us : List Value) : Obj := { cls := .type "tuple", data := .seq us.toArray }
theorem laid_tup {pins : List (Addr × Obj)} {σ : L2.St} {H : Hp} {s : Shared} (I : Inv X pins σ H s) (b : Bool) {vs : List V} {us : List Value} {h' : Heap} {t' : Nat} (k : ∀ b u, s.heap.get? b = some u → h'.get? b = some u) (hp : s.heap.objs.size ≤ h'.objs.size)
    (r : Vals vs us) (z : vs.length ≤ sizeLine) : Inv X pins σ (upd H h'.objs.size (tupO b (nT us) vs)) { s with heap := h'.push (nT us), toks := t' } :=
  I.laid (fun b o e => Heap.get?_push_of_some _ (k b o e)) hp (tupO_ok (Heap.get?_push_size _ rfl) ⟨z, us, r, IsTup.new _ _⟩)
theorem pe_tupX {es : List Expr} {t : TA} {pos : Pos} {x1 : Nat} (h : PA X es t) :
    PE X (.Tuple es x1 pos) (fun σ H Q => t σ H fun xs H1 => xs.length ≤ sizeLine ∧ ∃ b, ∀ p o, H1 p = none → o.dict = none → Q (.ref p) (upd H1 p (tupO b o xs))) := by
  refine ⟨fun pins s σ H Q I hq => ?_⟩
  refine wpAny_Tuple_spliced (thn (h.run pos pins s σ H _ I hq) fun us s1 ⟨xs, H1, I1, r, z, b, q⟩ => ⟨by rw [← r.length]; exact z, ?_⟩)
  have hf : H1 s1.heap.objs.size = none := I1.hok.fresh (Nat.le_refl _)
  exact ⟨.ref s1.heap.objs.size, _, laid_tup (t' := s1.toks) I1 b (fun _ _ e => e) (Nat.le_refl _) r z, rfl, q _ _ hf rfl⟩
/-- t + u -/
def rCatX (K : PySem.W.Frag) : R2 := fun x y H Q => ∃ a b xs ys, x = .ref a ∧ y = .ref b ∧ SqT K H a xs ∧ SqT K H b ys ∧ xs.length + ys.length ≤ sizeLine ∧
  (xs = [] → Q (.ref b) H) ∧ (xs ≠ [] → ys = [] → Q (.ref a) H) ∧ (xs ≠ [] → ys ≠ [] → ∃ c, ∀ p o, H p = none → o.dict = none → Q (.ref p) (upd H p (tupO c o (xs ++ ys))))
theorem op_catX : OpR X (binaryOp .Add) (rCatX X.K) := by
  intro pins s σ H x y v u Q I rx ry h
  obtain ⟨a, b, xs, ys, rfl, rfl, ha, hb, hz, q0, q1, q2⟩ := h
  cases rx
  cases ry
  obtain ⟨its, r1, p1, _⟩ := I.tuple ha
  obtain ⟨its2, r2, p2, _⟩ := I.tuple hb
  by_cases hx : xs = []
  · subst hx
    cases r1
    exact L2.cat_tup0 p1 p2 ⟨.ref b, H, I, rfl, q0 rfl⟩
  · refine HT.cat_tup p1 p2 (fun z => hx (r1.nil_iff.mp z)) (fun z => ⟨.ref a, H, I, rfl, q1 hx (r2.nil_iff.mp z)⟩) (fun z => ?_) (by rw [← r1.length, ← r2.length]; exact hz)
    obtain ⟨c, q2⟩ := q2 hx (fun w => z (r2.nil_iff.mpr w))
    exact ⟨.ref s.heap.objs.size, _, laid_tup (t' := s.toks) I c (fun _ _ e => e) (Nat.le_refl _) (r1.append r2) (by rw [List.length_append]; exact hz), rfl, q2 _ _ (I.hok.fresh (Nat.le_refl _)) rfl⟩
/-- t[lo:hi] -/
def rSlX (K : PySem.W.Frag) : V → Option Int → Option Int → Hp → VK → Prop := fun x lo hi H Q => ∃ a xs, x = .ref a ∧ SqT K H a xs ∧
  (HT.sIx xs.length 0 lo = 0 ∧ HT.sIx xs.length xs.length hi = xs.length → Q (.ref a) H) ∧ (¬ (HT.sIx xs.length 0 lo = 0 ∧ HT.sIx xs.length xs.length hi = xs.length) → ∃ c, ∀ p o, H p = none → o.dict = none → Q (.ref p) (upd H p (tupO c o (cutV xs lo hi))))
theorem sl_tupX : SlR X (rSlX X.K) := by
  intro pins s σ H x v vl vu lo hi sl Q I rx hs pl pu h
  obtain ⟨a, xs, rfl, hx, q1, q2⟩ := h
  cases rx
  obtain ⟨its, r, ht, hz⟩ := I.tuple hx
  have hlen : its.toArray.size = xs.length := by rw [List.size_toArray]; exact r.length.symm
  refine ⟨"tuple", _, PyProof.Rows.slot_tuple_getitem.lookup, ht.typeIs, ?_⟩
  by_cases hw : HT.sIx xs.length 0 lo = 0 ∧ HT.sIx xs.length xs.length hi = xs.length
  · exact L2.getItem_tuple_whole ht hs pl pu (by rw [hlen]; exact hw) ⟨.ref a, H, I, rfl, q1 hw⟩
  · refine HT.getItem_tuple_cut ht hs pl pu (by rw [hlen]; exact hw) ?_ (by rw [hlen]; exact hz)
    rw [hlen]
    obtain ⟨c, q2⟩ := q2 hw
    exact ⟨.ref s.heap.objs.size, _, laid_tup (t' := s.toks) I c (fun _ _ e => e) (Nat.le_refl _) ((r.drop (HT.sIx xs.length 0 lo)).take (HT.sIx xs.length xs.length hi - HT.sIx xs.length 0 lo)) (Nat.le_trans (cutV_length xs lo hi) hz), rfl, q2 _ _ (I.hok.fresh (Nat.le_refl _)) rfl⟩
/-- tuple(l) -/
theorem call_tuple_ofX : CallR X (.type "tuple") (fun xs H Q => ∃ p ys, xs = [.ref p] ∧ ((SqL X.K H p ys ∧ ∃ c, ∀ l o, H l = none → o.dict = none → Q (.ref l) (upd H l (tupO c o ys))) ∨ (SqT X.K H p ys ∧ Q (.ref p) H))) := by
  intro pins s σ H xs us Q I r h
  obtain ⟨p, ys, rfl, h⟩ := h
  obtain ⟨u, rfl, rx⟩ := vals1 r
  cases rx
  rcases h with ⟨hq, c, q⟩ | ⟨hq, q⟩
  · obtain ⟨its, r', pl, hz⟩ := I.list hq
    have hlen := r'.length
    refine PySem.call_tuple_list pl.isList (fun h' kp => ?_) (by simp only [List.size_toArray] <;> omega)
    have I1 : Inv X pins σ H { s with heap := h' } := I.kept (t' := s.toks) kp
    exact ⟨.ref h'.objs.size, _, laid_tup (t' := s.toks) I1 c (fun _ _ e => e) (Nat.le_refl _) r' hz, rfl, q _ _ (I1.hok.fresh (Nat.le_refl _)) rfl⟩
  · obtain ⟨its, r', pl, hz⟩ := I.tuple hq
    exact call_tuple_same pl ⟨.ref p, H, I, rfl, q⟩
/-- t * n -/
def rRepX (K : PySem.W.Frag) : R2 := fun x y H Q => ∃ l k xs, x = .ref l ∧ y = .int k ∧ SqT K H l xs ∧ xs ≠ [] ∧ 2 ≤ k ∧ k ≤ 1000 ∧ xs.length ≤ 1000 ∧ ∃ c, ∀ p o, H p = none → o.dict = none → Q (.ref p) (upd H p (tupO c o (List.replicate k.toNat xs).flatten))
theorem op_repX : OpR X (binaryOp .Mult) (rRepX X.K) := by
  intro pins s σ H x y v u Q I rx ry h
  obtain ⟨l, k, xs, rfl, rfl, hT, hne, h1, h2, hz, c, q⟩ := h
  cases rx
  obtain ⟨t, rfl⟩ := ry
  obtain ⟨its, r, ⟨⟨cls, dd, data, sl⟩, ho, hc, n, hd⟩, hs⟩ := I.tuple hT
  simp only at hc hd
  subst hc hd
  have hle : its.length = xs.length := r.length.symm
  have hn : its ≠ [] := fun e => hne (by
    rw [e] at hle
    exact List.eq_nil_of_length_eq_zero hle.symm)
  have hi : its.toArray.isEmpty = false := by
    cases its with
    | nil => exact absurd rfl hn
    | cons a b => rfl
  have hsz0 : its.toArray.size = xs.length := by rw [List.size_toArray, hle]
  have hm : ((its.toArray.size : Nat) : Int) * k ≤ 1000000 := by
    rw [hsz0]
    have a1 : ((xs.length : Nat) : Int) * k ≤ 1000 * k := Int.mul_le_mul_of_nonneg_right (by omega) (by omega)
    omega
  have flen : (List.replicate k.toNat its).flatten.length ≤ sizeLine := by
    rw [PyProof.Rows.lm_len_rep_flat, hle, sizeLine_eq]
    have a1 : k.toNat * xs.length ≤ 1000 * 1000 := Nat.mul_le_mul (by omega) hz
    omega
  have c0 : (decide (k < -(2 ^ 63)) || decide (k ≥ 2 ^ 63)) = false := by
    rw [decide_eq_false (by omega), decide_eq_false (by omega)] <;> rfl
  have c1 : (its.toArray.isEmpty || k == 1) = false := by
    rw [hi, Bool.false_or]
    exact beq_eq_false_iff_ne.mpr (by omega)
  have c2 : (decide (k ≤ 0) || its.toArray.isEmpty) = false := by
    rw [hi, Bool.or_false]
    exact decide_eq_false (by omega)
  have c4 : Builtin.Tuple.tupleTooMany (((its.toArray.size : Nat) : Int) * k) = false := by
    unfold Builtin.Tuple.tupleTooMany
    rw [sizeLine_eq]
    exact decide_eq_false (by omega)
  refine wpAny_binaryOp_repeat_ref (T := "tuple") (U := "int") (by decide) ⟨_, ho, rfl⟩ (fun s' => typeIs_int s' k t) L2.noFill_tuple_mul F.fills_int_mul F.slot_int_rmul L2.repeat_tuple F.slot_int_index.lookup
    (call_meets F.slot_int_rmul (typeIs_int s k t) F.entry_int_rmul (F.args_int_rmul_2 _ _) (L2.int_rmul_tuple k t l its.toArray n dd sl)
      ⟨ho, rfl, ⟨_, ho, rfl⟩, call_meets F.slot_tuple_mul ⟨_, ho, rfl⟩ F.entry_tuple_mul (F.args_tuple_mul_2 _ _) (L2.tuple_mulW l its.toArray n dd sl k t c0 c1 c2 (by omega) c4 (by rw [L2.size_rep, List.size_toArray]; exact flen)) ⟨ho, ?_⟩⟩)
  rw [L2.size_rep]
  exact ⟨.ref s.heap.objs.size, _, laid_tup (t' := s.toks) I c (fun _ _ e => e) (Nat.le_refl _) (r.rep k.toNat) (by rw [PyProof.Rows.lm_len_rep_flat, sizeLine_eq]; have a1 : k.toNat * xs.length ≤ 1000 * 1000 := Nat.mul_le_mul (by omega) hz; omega), rfl, q _ _ (I.hok.fresh (Nat.le_refl _)) rfl⟩
end
end Py
end

section
set_option Elab.async false
set_option linter.all false
set_option maxRecDepth 100000
namespace Py
open PySem PySem.Spec PyProof.Rows L2
/-! ### data -/
mutual
def toPD : D → PyData
  | .bl b => .bool b
  | .int i => .int i
  | .str s => .str (sOf s)
  | .tup xs => .tuple (toPDs xs)
  | .lst xs => .list (toPDs xs)
  | _ => .none
def toPDs : List D → List PyData
  | [] => []
  | x :: xs => toPD x :: toPDs xs
end
theorem sOf_inj {a b : List Nat} : sOf a = sOf b ↔ a = b := by
  unfold sOf
  simp
theorem sOf_beq (a b : List Nat) : (sOf a == sOf b) = (a == b) := by
  by_cases h : a = b
  · subst h; simp
  · have h2 : ¬ sOf a = sOf b := fun z => h (sOf_inj.mp z)
    rw [beq_eq_false_iff_ne.mpr h, beq_eq_false_iff_ne.mpr h2]
theorem sOf_len (a : List Nat) : (sOf a).length = a.length := by
  show (sOf a).cps.size = _
  simp [sOf]
mutual
theorem lay_of : ∀ d : D, d.data = true → (toPD d).canLay0 = true
  | .non, _ => by simp [toPD, PyData.canLay0]
  | .bl _, _ => by simp [toPD, PyData.canLay0]
  | .int _, _ => by simp [toPD, PyData.canLay0]
  | .str s, h => by
    simp only [toPD, PyData.canLay0, PyData.strOk, sOf]
    simp only [D.data] at h
    simpa using h
  | .tup xs, h => by
    simp only [toPD, PyData.canLay0]
    exact lay_ofs xs (by simpa only [D.data] using h)
  | .lst xs, h => by
    simp only [toPD, PyData.canLay0]
    exact lay_ofs xs (by simpa only [D.data] using h)
  | .dct _ _, h => by simp [D.data] at h
  | .ins _ _, h => by simp [D.data] at h
  | .fn _, h => by simp [D.data] at h
  | .loc _, h => by simp [D.data] at h
theorem lay_ofs : ∀ ds : List D, D.dataL ds = true → PyData.canLayAll0 (toPDs ds) = true
  | [], _ => by simp [toPDs, PyData.canLayAll0]
  | d :: ds, h => by
    simp only [D.dataL, Bool.and_eq_true] at h
    simp only [toPDs, PyData.canLayAll0, Bool.and_eq_true]
    exact ⟨lay_of d h.1, lay_ofs ds h.2⟩
end
mutual
theorem depth_of : ∀ d : D, (toPD d).depth = d.depth
  | .tup xs => by simp only [toPD, PyData.depth, D.depth]; rw [depth_ofs xs]
  | .lst xs => by simp only [toPD, PyData.depth, D.depth]; rw [depth_ofs xs]
  | .non | .bl _ | .int _ | .str _ | .dct _ _ | .ins _ _ | .fn _ | .loc _ => by simp [toPD, PyData.depth, D.depth]
theorem depth_ofs : ∀ ds : List D, PyData.depthAll (toPDs ds) = D.depthL ds
  | [] => by simp [toPDs, PyData.depthAll, D.depthL]
  | d :: ds => by simp only [toPDs, PyData.depthAll, D.depthL]; rw [depth_of d, depth_ofs ds]
end
theorem shp_of {d : D} (h : d.shp = true) : SeqAt.shaped (toPD d) = true := by
  simp only [D.shp, Bool.and_eq_true, decide_eq_true_eq] at h
  simp only [SeqAt.shaped, Bool.and_eq_true, decide_eq_true_eq]
  exact ⟨lay_of d h.1, by rw [depth_of]; exact h.2⟩
theorem shp_data {d : D} (h : d.shp = true) : d.data = true := by
  simp only [D.shp, Bool.and_eq_true] at h
  exact h.1
mutual
theorem eqv_of : ∀ a b : D, a.data = true → b.data = true → PyData.eqv (toPD a) (toPD b) = D.eqv a b
  | .tup xs, b, ha, hb => by
    cases b with
    | tup ys =>
      simp only [D.data] at ha hb
      simp only [toPD, PyData.eqv, D.eqv]
      exact eqv_ofs xs ys ha hb
    | _ => first | (simp [D.data] at hb; done) | simp [toPD, PyData.eqv, D.eqv]
  | .lst xs, b, ha, hb => by
    cases b with
    | lst ys =>
      simp only [D.data] at ha hb
      simp only [toPD, PyData.eqv, D.eqv]
      exact eqv_ofs xs ys ha hb
    | _ => first | (simp [D.data] at hb; done) | simp [toPD, PyData.eqv, D.eqv]
  | .str x, b, _, hb => by
    cases b with
    | str y => simp only [toPD, PyData.eqv, D.eqv]; exact sOf_beq x y
    | _ => first | (simp [D.data] at hb; done) | simp [toPD, PyData.eqv, D.eqv]
  | .non, b, _, hb => by cases b <;> first | (simp [D.data] at hb; done) | simp [toPD, PyData.eqv, D.eqv]
  | .bl _, b, _, hb => by cases b <;> first | (simp [D.data] at hb; done) | simp [toPD, PyData.eqv, D.eqv]
  | .int _, b, _, hb => by cases b <;> first | (simp [D.data] at hb; done) | simp [toPD, PyData.eqv, D.eqv]
  | .dct _ _, _, h, _ | .ins _ _, _, h, _ | .fn _, _, h, _ | .loc _, _, h, _ => by simp [D.data] at h
theorem eqv_ofs : ∀ a b : List D, D.dataL a = true → D.dataL b = true → PyData.eqvAll (toPDs a) (toPDs b) = D.eqvL a b
  | [], [], _, _ => by simp [toPDs, PyData.eqvAll, D.eqvL]
  | [], _ :: _, _, _ => by simp [toPDs, PyData.eqvAll, D.eqvL]
  | _ :: _, [], _, _ => by simp [toPDs, PyData.eqvAll, D.eqvL]
  | x :: xs, y :: ys, ha, hb => by
    simp only [D.dataL, Bool.and_eq_true] at ha hb
    simp only [toPDs, PyData.eqvAll, D.eqvL]
    rw [eqv_of x y ha.1 hb.1, eqv_ofs xs ys ha.2 hb.2]
end
section
variable {W : Wd} {m : List Addr} {H : Hp} {S : Py.St} {K : PySem.W.Frag}
mutual
theorem dp_of : ∀ (d : D) (v : V), d.data = true → Rep W m H d v → Dp K H v (toPD d)
  | .non, v, _, r => by rw [rep_non r]; exact .non
  | .bl b, v, _, r => by rw [rep_bl r]; exact .bl b
  | .int i, v, _, r => by rw [rep_int r]; exact .int i
  | .str s, v, _, r => by rw [rep_str r]; exact .str _
  | .tup xs, v, h, r => by
    obtain ⟨a, vs, rfl, h1, h2⟩ := rep_tup r
    exact .tup (tp_sq h1) (dp_ofs xs vs (by simpa only [D.data] using h) h2)
  | .lst xs, v, h, r => by
    simp only [Rep] at r
    obtain ⟨a, vs, rfl, h1, _, h2⟩ := r
    exact .lst (.inl h1) (dp_ofs xs vs (by simpa only [D.data] using h) h2)
  | .dct _ _, _, h, _ | .ins _ _, _, h, _ | .fn _, _, h, _ | .loc _, _, h, _ => by simp [D.data] at h
theorem dp_ofs : ∀ (ds : List D) (vs : List V), D.dataL ds = true → RepL W m H ds vs → DpAll K H vs (toPDs ds)
  | [], vs, _, r => by simp only [RepL] at r; rw [r]; exact .nil
  | d :: ds, vs, h, r => by
    simp only [RepL] at r
    obtain ⟨v, q, rfl, r1, r2⟩ := r
    simp only [D.dataL, Bool.and_eq_true] at h
    exact .cons (dp_of d v h.1 r1) (dp_ofs ds q h.2 r2)
end
/-- .. of a place, too -/
theorem dp_vw {d : D} {v : V} (sr : SR W m H S) (h : (vw S d).data = true) (r : Rep W m H d v) : Dp K H v (toPD (vw S d)) := by
  cases e : vw S d with
  | lst xs =>
    obtain ⟨a, vs, rfl, h1, h2⟩ := rep_lst sr r e
    rw [e] at h
    exact .lst (.inl h1) (dp_ofs xs vs (by simpa only [D.data] using h) h2)
  | dct _ _ => rw [e] at h; simp [D.data] at h
  | ins _ _ => rw [e] at h; simp [D.data] at h
  | loc _ => rw [e] at h; simp [D.data] at h
  | fn _ => rw [e] at h; simp [D.data] at h
  | _ =>
    have h2 := vw_flat e trivial
    subst h2
    rw [e] at h
    exact dp_of _ _ h r
end
/-! ### operators -/
section
variable (W : Wd)
/-- a pure operation of two -/
def rP2 (f : D → D → Option D) : R2 := fun x y H Q => ∃ m S dx dy d, SR W m H S ∧ Rep W m H dx x ∧ Rep W m H dy y ∧ f (vw S dx) (vw S dy) = some d ∧ ∀ v H' m', Le m H m' H' → SR W m' H' S → Rep W m' H' d v → Q v H'
end
def opO : BinO → Operator
  | .add => .Add | .sub => .Sub | .mul => .Mult | .fdiv => .FloorDiv | .mod => .Mod | .pow => .Pow
section
variable {W : Wd} {X : Cx}
theorem rd_list {pins : List (Addr × Obj)} {σ : L2.St} {H : Hp} {s : Shared} {l : Addr} {xs : List V} (I : Inv X pins σ H s) (h : Rd H l (.lst xs)) :
    xs.length ≤ sizeLine ∧ ∃ (its : List Value) (n : Nat), Vals xs its ∧ xs.length = its.length ∧ s.heap.get? l = some { cls := .type "list", data := .seq its.toArray n } := by
  obtain ⟨z, its, n, r, e⟩ := h.ok I.hok
  exact ⟨z, its, n, r, r.length, e⟩
/-- lists joined, wherever they stand -/
theorem op_catR : OpR X (binaryOp .Add) (fun x y H Q => ∃ l b xs zs, x = .ref l ∧ y = .ref b ∧ Rd H l (.lst xs) ∧ Rd H b (.lst zs) ∧ xs.length + zs.length ≤ sizeLine ∧ ∀ p, H p = none → Q (.ref p) (upd H p (.lst (xs ++ zs)))) := by
  intro pins s σ H x y v u Q I rx ry ⟨l, b, xs, zs, ex, ey, h1, h2, hz, q⟩
  subst ex ey
  cases rx; cases ry
  obtain ⟨_, its, n, r1, l1, g1⟩ := rd_list I h1
  obtain ⟨_, jts, k, r2, l2, g2⟩ := rd_list I h2
  have big : its.toArray.size + jts.toArray.size ≤ sizeLine := by simp only [List.size_toArray]; omega
  refine PySem.P.add_list g1 g2 ?_ (by omega)
  rw [show its.toArray ++ jts.toArray = (its ++ jts).toArray by simp]
  exact ⟨.ref _, _, I.lnew (t' := s.toks) (r1.append r2) (by rw [List.length_append]; omega), rfl, q _ I.fresh⟩
theorem rd_id {H : Hp} {l : Addr} {o : HO} (h : Rd H l o) : H l = some o ∨ ∃ z, H l = some (.frz z o) := h
theorem foldl_repN (its : List Nat) : ∀ (k : Nat) (acc : List Nat), List.foldl (fun x y => x ++ y) acc.toArray (List.replicate k its.toArray) = (acc ++ (List.replicate k its).flatten).toArray
  | 0, acc => by simp
  | k + 1, acc => by
    have h := foldl_repN its k (acc ++ its)
    rw [List.replicate_succ, List.foldl_cons, show acc.toArray ++ its.toArray = (acc ++ its).toArray by simp, h, List.replicate_succ]
    simp
theorem long_no {n : Nat} (h : n ≤ 1000000) : Builtin.Str.tooLong n = false := by
  unfold Builtin.Str.tooLong
  rw [sizeLine_eq]
  simp
  omega
theorem op_mulS : OpR X (binaryOp .Mult) (fun x y H Q => ∃ i k, x = .str i ∧ y = .int k ∧ 0 ≤ k ∧ k ≤ 4096 ∧ i.length * k.toNat ≤ 1000000 ∧ Q (.str ⟨((List.replicate k.toNat i.cps.toList).flatten).toArray⟩) H) := by
  intro pins s σ H x y v u Q I rx ry ⟨i, k, ex, ey, h1, h2, h3, q⟩
  subst ex ey
  obtain ⟨t, rfl⟩ := rx
  obtain ⟨t', rfl⟩ := ry
  have fin : ∀ (z : Str) (tk : Tok) (n : Nat), z = ⟨((List.replicate k.toNat i.cps.toList).flatten).toArray⟩ → EP X pins σ Q (.str z tk) { s with toks := n } := fun z tk n e => by
    subst e
    exact ⟨.str _, H, I.tok _, ⟨_, rfl⟩, q⟩
  have hL : i.cps.toList.length = i.length := by simp [Str.length]
  refine PySem.P.mul_str (by rw [decide_eq_false (by omega), decide_eq_false (by omega)]; rfl) (fun g1 g2 g3 => ?_) (fun g1 g2 => ?_) ?_
  · have hk : (1 : Int) ≤ k := by omega
    have : (1000000 : Int) ≤ (2 ^ 63 - 1) / k := by
      rw [Int.le_ediv_iff_mul_le (by omega)]
      have := Int.mul_le_mul_of_nonneg_left h2 (show (0 : Int) ≤ 1000000 by decide)
      omega
    have h4 : i.length ≤ i.length * k.toNat := Nat.le_mul_of_pos_right _ (by omega)
    omega
  · exact long_no h3
  · by_cases c1 : k < 1
    · rw [if_pos c1]
      have hk : k.toNat = 0 := by omega
      exact ⟨by decide, fin _ _ _ (by rw [hk]; rfl)⟩
    · rw [if_neg c1]
      by_cases c2 : (k == 1 || i.length == 0) = true
      · rw [if_pos c2]
        refine fin _ _ s.toks ?_
        rcases Bool.or_eq_true_iff.mp c2 with z | z
        · have hk : k = 1 := by simpa using z
          subst hk
          simp
        · have z : i.length = 0 := by simpa using z
          have z2 : i.cps.toList = [] := List.length_eq_zero_iff.mp (hL.trans z)
          rw [z2]
          simp only [List.flatten_replicate_nil]
          have : i.cps = #[] := by simpa using z2
          cases i
          simp_all
      · rw [if_neg c2]
        refine ⟨?_, fin _ _ _ ?_⟩
        · show Array.size _ ≤ _
          have := foldl_repN i.cps.toList k.toNat []
          simp only [Array.toArray_toList] at this
          rw [this]
          simp only [List.nil_append, List.size_toArray, List.length_flatten, List.map_replicate, List.sum_replicate_nat]
          rw [hL, sizeLine_eq, Nat.mul_comm]
          omega
        · have := foldl_repN i.cps.toList k.toNat []
          simp only [Array.toArray_toList] at this
          rw [this]
          simp

theorem rep_len {W : Wd} {m : List Addr} {H : Hp} {xs : List D} {vs : List V} (r : RepL W m H xs vs) {n : Nat} (h : xs.length ≤ n) : vs.length ≤ n := by rw [← r.length]; exact h
theorem RepL.rep {m : List Addr} {H : Hp} {xs : List D} {vs : List V} (r : RepL W m H xs vs) : ∀ n : Nat, RepL W m H (rep n xs) (List.replicate n vs).flatten
  | 0 => by simp [Py.rep, RepL]
  | n + 1 => by
    have := RepL.rep r n
    unfold Py.rep at this ⊢
    rw [List.replicate_succ, List.replicate_succ, List.flatten_cons, List.flatten_cons]
    exact r.append this
theorem line_eq : line = sizeLine := by rw [sizeLine_eq]; rfl
theorem sOf_app (a b : List Nat) : sOf a ++ sOf b = sOf (a ++ b) := by
  show (⟨(sOf a).cps ++ (sOf b).cps⟩ : Str) = _
  simp [sOf]
theorem op_bin (o : BinO) : OpR X (binaryOp (opO o)) (rP2 W (binD o)) := by
  intro pins s σ H x y v u Q I rx ry ⟨m, S, dx, dy, d, sr, r1, r2, e, q⟩
  unfold binD at e
  split at e
  case h_1 i j h1 h2 =>
    cases vw_int h1; cases vw_int h2; cases e
    exact op_add pins s σ H x y v u Q I rx ry ⟨i, j, rep_int r1, rep_int r2, q _ _ _ .refl sr (.int _)⟩
  case h_2 a b h1 h2 =>
    cases vw_str h1; cases vw_str h2
    split at e <;> cases e
    rename_i hz
    exact op_add_str pins s σ H x y v u Q I rx ry ⟨sOf a, sOf b, rep_str r1, rep_str r2, by rw [sOf_len, sOf_len, ← line_eq]; exact hz, by rw [sOf_app]; exact q _ _ _ .refl sr (.str _)⟩
  case h_3 a b h1 h2 =>
    cases vw_tup h1; cases vw_tup h2
    split at e <;> cases e
    rename_i hz
    obtain ⟨p, vs, rfl, t1, t2⟩ := rep_tup r1
    obtain ⟨p2, ws, rfl, t3, t4⟩ := rep_tup r2
    refine op_catX pins s σ H _ _ v u Q I rx ry ⟨p, p2, vs, ws, rfl, rfl, tp_sq t1, tp_sq t3, by rw [← t2.length, ← t4.length, ← line_eq]; exact hz, fun z => ?_, fun _ z => ?_, fun _ _ => ?_⟩
    · have ha : a = [] := List.length_eq_zero_iff.mp (by rw [t2.length, z]; rfl)
      subst ha
      exact q _ _ _ .refl sr (.tup t3 t4)
    · have hb : b = [] := List.length_eq_zero_iff.mp (by rw [t4.length, z]; rfl)
      subst hb
      rw [List.append_nil] at q
      exact q _ _ _ .refl sr (.tup t1 t2)
    · exact ⟨_, new_tup q sr (t2.append t4)⟩
  case h_4 a b h1 h2 =>
    split at e <;> cases e
    rename_i hz
    obtain ⟨p, vs, rfl, t1, t2⟩ := rep_lst sr r1 h1
    obtain ⟨p2, ws, rfl, t3, t4⟩ := rep_lst sr r2 h2
    exact op_catR pins s σ H _ _ v u Q I rx ry ⟨p, p2, vs, ws, rfl, rfl, t1, t3, by rw [← t2.length, ← t4.length, ← line_eq]; exact hz, new_lst q sr (t2.append t4)⟩
  case h_5 i j h1 h2 =>
    cases vw_int h1; cases vw_int h2; cases e
    exact op_sub pins s σ H x y v u Q I rx ry ⟨i, j, rep_int r1, rep_int r2, q _ _ _ .refl sr (.int _)⟩
  case h_6 i j h1 h2 =>
    cases vw_int h1; cases vw_int h2
    split at e <;> cases e
    rename_i hz
    refine op_mul pins s σ H x y v u Q I rx ry ⟨i, j, rep_int r1, rep_int r2, ?_, q _ _ _ .refl sr (.int _)⟩
    simpa [fit64, CMul] using hz
  case h_7 a j h1 h2 =>
    cases vw_tup h1; cases vw_int h2
    split at e <;> cases e
    rename_i hz
    obtain ⟨p, vs, rfl, t1, t2⟩ := rep_tup r1
    simp only [Bool.and_eq_true, decide_eq_true_eq, Bool.not_eq_true', List.isEmpty_eq_false_iff] at hz
    obtain ⟨z1, z2, z3, z4⟩ := hz
    refine op_repX pins s σ H _ y v u Q I rx ry ⟨p, j, vs, rfl, rep_int r2, tp_sq t1, fun z => z4 ?_, z1, z2, by rw [← t2.length]; exact z3, _, new_tup q sr (t2.rep _)⟩
    exact List.length_eq_zero_iff.mp (by rw [t2.length, z]; rfl)
  case h_8 a j h1 h2 =>
    cases vw_str h1; cases vw_int h2
    split at e <;> cases e
    rename_i hz
    simp only [Bool.and_eq_true, decide_eq_true_eq] at hz
    obtain ⟨z1, z2, z3⟩ := hz
    exact op_mulS pins s σ H x y v u Q I rx ry ⟨sOf a, j, rep_str r1, rep_int r2, z1, z2, by rw [sOf_len]; exact z3, q _ _ _ .refl sr (.str _)⟩
  case h_9 i j h1 h2 =>
    cases vw_int h1; cases vw_int h2
    split at e <;> cases e
    rename_i hz
    exact op_fdiv pins s σ H x y v u Q I rx ry ⟨i, j, rep_int r1, rep_int r2, hz, q _ _ _ .refl sr (.int _)⟩
  case h_10 i j h1 h2 =>
    cases vw_int h1; cases vw_int h2
    split at e <;> cases e
    rename_i hz
    exact op_mod pins s σ H x y v u Q I rx ry ⟨i, j, rep_int r1, rep_int r2, by simpa using hz, q _ _ _ .refl sr (.int _)⟩
  case h_11 i j h1 h2 =>
    cases vw_int h1; cases vw_int h2
    split at e <;> cases e
    rename_i hz
    exact op_pow pins s σ H x y v u Q I rx ry ⟨i, j, rep_int r1, rep_int r2, hz, q _ _ _ .refl sr (.int _)⟩
  case h_12 => cases e
end
end Py
end

section
set_option Elab.async false
set_option linter.all false
set_option maxRecDepth 100000
namespace Py
open PySem PySem.Spec PyProof.Rows L2
section
variable {W : Wd} {m : List Addr} {H : Hp} {S : Py.St}
/-! ### dicts as they are told -/
def DAt (W : Wd) (m : List Addr) (H : Hp) (t : Bool) (kvs : List (D × D)) (a : Addr) : Prop := match t with
  | false => ∃ ks, Rd H a (.dK ks) ∧ kvs.map (fun p => keyK p.1) = ks.map (fun p => some p.1) ∧ RepV W m H kvs (ks.map (·.2))
  | true => ∃ ks, Rd H a (.dT ks) ∧ kvs.map (fun p => keyKs p.1) = ks.map (fun p => some p.1) ∧ RepV W m H kvs (ks.map (·.2))
theorem rep_dct {d : D} {v : V} {t : Bool} {kvs : List (D × D)} (sr : SR W m H S) (r : Rep W m H d v) (h : vw S d = .dct t kvs) : ∃ a, v = .ref a ∧ DAt W m H t kvs a := by
  cases d with
  | loc n =>
    rw [vw_loc] at h
    simp only [Rep] at r
    obtain ⟨a, ha, rfl⟩ := r
    split at h <;> try cases h
    rename_i lk e
    obtain ⟨b, hb, q⟩ := sr.at_ n _ e
    rw [ha] at hb; cases hb
    refine ⟨a, rfl, ?_⟩
    cases t <;> obtain ⟨ks, h1, h2, h3⟩ := q <;> refine ⟨ks, ?_, h2, h3⟩ <;> cases lk <;> simp only [Bool.false_eq_true, if_false, if_true] at h1
    · exact .inl h1
    · exact .inr h1
    · exact .inl h1
    · exact .inr h1
  | dct t' ks' =>
    cases (show D.dct t' ks' = D.dct t kvs from h)
    cases t <;> simp only [Rep] at r <;> obtain ⟨a, ks, e, _, h1, h2, h3⟩ := r <;> exact ⟨a, e, ks, h1, h2, h3⟩
  | _ => cases h
theorem keyK_of {k : D} {v : V} (h : keyF k = true) (r : Rep W m H k v) : ∃ q, keyK k = some q ∧ v = kV q := by
  cases k with
  | int i => exact ⟨.inl i, rfl, rep_int r⟩
  | str s => exact ⟨.inr (sOf s), rfl, rep_str r⟩
  | _ => cases h
theorem keyL_of : ∀ {ks : List D} {vs : List V}, ks.all keyF = true → RepL W m H ks vs → ∃ qs : List Key, mapO keyK ks = some qs ∧ vs = qs.map kV
  | [], vs, _, r => by simp only [RepL] at r; exact ⟨[], rfl, by rw [r]; rfl⟩
  | k :: ks, vs, h, r => by
    simp only [RepL] at r
    obtain ⟨v, w, rfl, r1, r2⟩ := r
    simp only [List.all_cons, Bool.and_eq_true] at h
    obtain ⟨q, e1, e2⟩ := keyK_of h.1 r1
    obtain ⟨qs, e3, e4⟩ := keyL_of h.2 r2
    exact ⟨q :: qs, by simp only [mapO, e1, e3], by rw [e2, e4]; rfl⟩
theorem keyK_inj {a b : D} {q : Key} (h1 : keyK a = some q) (h2 : keyK b = some q) : a = b := by
  cases a <;> simp only [keyK] at h1 <;> try cases h1
  · cases b <;> simp only [keyK] at h2 <;> cases h2; rfl
  · cases b <;> simp only [keyK] at h2 <;> cases h2
    rfl
theorem mapO_inj {α β : Type} {f : α → Option β} (hf : ∀ a b q, f a = some q → f b = some q → a = b) : ∀ {xs ys : List α} {qs : List β}, mapO f xs = some qs → mapO f ys = some qs → xs = ys
  | [], [], _, _, _ => rfl
  | [], y :: ys, qs, h1, h2 => by
    simp only [mapO] at h1 h2
    cases h1
    split at h2 <;> cases h2
  | x :: xs, [], qs, h1, h2 => by
    simp only [mapO] at h1 h2
    cases h2
    split at h1 <;> cases h1
  | x :: xs, y :: ys, qs, h1, h2 => by
    simp only [mapO] at h1 h2
    split at h1 <;> cases h1
    split at h2 <;> cases h2
    rename_i a1 a2 _ _ b1 b2
    rw [hf x y _ a1 b1, mapO_inj hf a2 b2]
theorem keyKs_inj {a b : D} {q : List Key} (h1 : keyKs a = some q) (h2 : keyKs b = some q) : a = b := by
  cases a <;> first | (simp only [keyKs] at h1; cases h1; done) | skip
  cases b <;> first | (simp only [keyKs] at h2; cases h2; done) | skip
  rw [mapO_inj (fun a b q => keyK_inj) (keyKs_tup h1).1 (keyKs_tup h2).1]
/-- a lookup, by whatever keys -/
theorem look_of {κ : Type} [DecidableEq κ] {f : D → Option κ} (hf : ∀ a b q, f a = some q → f b = some q → a = b) {k : D} {q : κ} (hk : f k = some q) :
    ∀ {kvs : List (D × D)} {ks : List (κ × V)}, kvs.map (fun p => f p.1) = ks.map (fun p => some p.1) → RepV W m H kvs (ks.map (·.2)) →
    match dget kvs k with
    | none => valV ks q = none
    | some d => ∃ v, valV ks q = some v ∧ Rep W m H d v
  | [], [], _, _ => rfl
  | [], _ :: _, h, _ => by simp at h
  | _ :: _, [], h, _ => by simp at h
  | (k1, d1) :: kvs, (q1, v1) :: ks, h, r => by
    simp only [List.map_cons, List.cons.injEq] at h
    obtain ⟨h1, h2⟩ := h
    simp only [List.map_cons, RepV] at r
    obtain ⟨v, w, e, r1, r2⟩ := r
    obtain ⟨rfl, rfl⟩ := List.cons.inj e
    by_cases he : k1 = k
    · subst he
      have hq : q1 = q := Option.some.inj (h1.symm.trans hk)
      simp only [dget, List.find?_cons, decide_true, Option.map_some, valV, hq]
      exact ⟨v1, rfl, r1⟩
    · have hq : ¬ q1 = q := fun z => he (hf k1 k q (by rw [← z]; exact h1) hk)
      have ih := look_of hf hk h2 r2
      simp only [dget, List.find?_cons, decide_eq_false he, valV, decide_eq_false hq]
      exact ih
theorem isSome_of {κ : Type} {o : Option V} {d : Option D} (h : match d with
    | none => o = none
    | some d => ∃ v, o = some v ∧ Rep W m H d v) : o.isSome = d.isSome := by
  cases d with
  | none => rw [show o = none from h]; rfl
  | some d => obtain ⟨v, e, _⟩ := h; rw [e]; rfl
theorem any_get (kvs : List (D × D)) (k : D) : kvs.any (fun p => decide (p.1 = k)) = (dget kvs k).isSome := by
  induction kvs with
  | nil => rfl
  | cons p r ih =>
    unfold dget at ih ⊢
    by_cases h : p.1 = k
    · simp [h]
    · simp [h, ih]
theorem dget_of {t : Bool} {kvs : List (D × D)} {a : Addr} {k : D} {y : V} (h : kOk t k = true) (rk : Rep W m H k y) (d : DAt W m H t kvs a) :
    ∃ o, DGet H a y o ∧ match dget kvs k with
    | none => o = none
    | some d => ∃ v, o = some v ∧ Rep W m H d v := by
  cases t with
  | false =>
    obtain ⟨ks, h1, h2, h3⟩ := d
    obtain ⟨q, e1, e2⟩ := keyK_of (k := k) (by simpa [kOk] using h) rk
    exact ⟨_, .inl ⟨ks, q, h1, e2, rfl⟩, look_of (fun _ _ _ => keyK_inj) e1 h2 h3⟩
  | true =>
    obtain ⟨ks, h1, h2, h3⟩ := d
    have h : keyT k = true := by simpa [kOk] using h
    cases k <;> first | (simp only [keyT] at h; cases h; done) | skip
    rename_i xs
    obtain ⟨b, vs, e, hb, r⟩ := rep_tup rk
    have hb := hb.key (by rw [keyish_keyT]; exact h)
    simp only [keyT, Bool.and_eq_true, Bool.not_eq_true'] at h
    obtain ⟨qs, e3, e4⟩ := keyL_of h.2 r
    exact ⟨_, .inr ⟨ks, qs, b, h1, e, by rw [hb, e4], rfl⟩, look_of (f := keyKs) (fun _ _ _ => keyKs_inj) (keyKs_of e3 h.1) h2 h3⟩
theorem rep_isnon {d : D} {v : V} (r : Rep W m H d v) : decide (v = V.non) = decide (vw S d = .non) := by
  have key : v = V.non ↔ vw S d = .non := by
    cases d with
    | non => simp [rep_non r, vw]
    | bl b => simp [rep_bl r, vw]
    | int b => simp [rep_int r, vw]
    | str b => simp [rep_str r, vw]
    | tup b => obtain ⟨a, vs, rfl, _⟩ := rep_tup r; simp [vw]
    | lst b => simp only [Rep] at r; obtain ⟨a, vs, rfl, _⟩ := r; simp [vw]
    | dct t b => cases t <;> simp only [Rep] at r <;> obtain ⟨a, ks, rfl, _⟩ := r <;> simp [vw]
    | ins c b => simp only [Rep] at r; obtain ⟨a, vs, ns, rfl, _⟩ := r; simp [vw]
    | fn g => simp only [Rep] at r; subst r; simp [vw]
    | loc n =>
      simp only [Rep] at r
      obtain ⟨a, _, rfl⟩ := r
      rw [vw_loc]
      split <;> simp
  by_cases h : v = V.non
  · rw [decide_eq_true h, decide_eq_true (key.mp h)]
  · rw [decide_eq_false h, decide_eq_false fun z => h (key.mpr z)]
end
/-! ### comparisons -/
def rC (W : Wd) (f : D → D → Option Bool) : R2 := fun x y H Q => ∃ m S dx dy b, SR W m H S ∧ Rep W m H dx x ∧ Rep W m H dy y ∧ f (vw S dx) (vw S dy) = some b ∧ Q (.bl b) H
def opC : CmpO → CmpOp
  | .lt => .Lt | .le => .LtE | .gt => .Gt | .ge => .GtE | .isN => .Is | .notN => .IsNot | .inn => .In | .notin => .NotIn
section
variable {W : Wd} {X : Cx}
theorem op_inT (hu : X.A.units + 65 < cLine) : OpR X (compareOp .In) (fun x y H Q => ∃ d ds, Dp X.K H x d ∧ Dp X.K H y (.tuple ds) ∧ SeqAt.shaped d = true ∧ SeqAt.shaped (.tuple ds) = true ∧ Q (.bl (ds.any fun z => PyData.eqv z d)) H) := by
  intro pins s σ H x y v u Q I rx ry ⟨d, ds, h1, h2, s1, s2, q⟩
  obtain ⟨as, p1⟩ := Dp.reads I d x v h1 rx
  obtain ⟨bs, p2⟩ := Dp.reads I _ y u h2 ry
  have e1 := SeqAt.canLay_of_shaped s2
  have e2 := SeqAt.depth_of_shaped s1
  have e3 : PyData.canLayAll0 ds = true := by simpa only [PyData.canLay0] using e1
  exact SeqAt.in_tuple_reads p2 p1 e3 (SeqAt.canLay_of_shaped s1) (by have := Nat.min_le_right (PyData.depthAll ds) d.depth; omega) ⟨.bl _, H, I, rfl, q⟩
theorem op_notInT (hu : X.A.units + 65 < cLine) : OpR X (compareOp .NotIn) (fun x y H Q => ∃ d ds, Dp X.K H x d ∧ Dp X.K H y (.tuple ds) ∧ SeqAt.shaped d = true ∧ SeqAt.shaped (.tuple ds) = true ∧ Q (.bl (!ds.any fun z => PyData.eqv z d)) H) := by
  intro pins s σ H x y v u Q I rx ry ⟨d, ds, h1, h2, s1, s2, q⟩
  obtain ⟨as, p1⟩ := Dp.reads I d x v h1 rx
  obtain ⟨bs, p2⟩ := Dp.reads I _ y u h2 ry
  have e1 := SeqAt.canLay_of_shaped s2
  have e2 := SeqAt.depth_of_shaped s1
  have e3 : PyData.canLayAll0 ds = true := by simpa only [PyData.canLay0] using e1
  exact SeqAt.notIn_tuple_reads p2 p1 e3 (SeqAt.canLay_of_shaped s1) (by have := Nat.min_le_right (PyData.depthAll ds) d.depth; omega) ⟨.bl _, H, I, rfl, q⟩
theorem any_eqv {d : D} (hd : d.data = true) : ∀ {xs : List D}, D.dataL xs = true → (toPDs xs).any (fun z => PyData.eqv z (toPD d)) = xs.any fun z => D.eqv z d
  | [], _ => by simp [toPDs]
  | x :: xs, h => by
    simp only [D.dataL, Bool.and_eq_true] at h
    simp only [toPDs, List.any_cons]
    rw [eqv_of x d h.1 hd, any_eqv hd h.2]
theorem sOf_toList (s : List Nat) : (sOf s).cps.toList = s := by simp [sOf]
theorem any_mem (c : Nat) (s : List Nat) : decide (c ∈ s) = s.any fun z => decide (z = c) := by
  induction s with
  | nil => rfl
  | cons a r ih =>
    rw [List.any_cons, ← ih]
    by_cases h : a = c
    · subst h; simp
    · simp [h, Ne.symm h]
/-- x in y -/
theorem op_inn (hu : X.A.units + 65 < cLine) : OpR X (compareOp .In) (rC W inD) := by
  intro pins s σ H x y v u Q I rx ry ⟨m, S, dx, dy, b, sr, r1, r2, e, q⟩
  unfold inD at e
  split at e
  · rename_i z h2
    split at e <;> cases e
    rename_i c h1
    cases vw_str h1; cases vw_str h2
    exact op_in_sign pins s σ H x y v u Q I rx ry ⟨c, sOf z, by rw [rep_str r1]; rfl, rep_str r2, by rw [sOf_toList, any_mem]; exact q⟩
  · rename_i xs h2
    split at e <;> cases e
    rename_i hz
    simp only [Bool.and_eq_true] at hz
    have d1 := dp_vw (K := X.K) sr (shp_data hz.1) r1
    have d2 := dp_vw (K := X.K) sr (by rw [h2]; exact shp_data hz.2) r2
    rw [h2] at d2
    have hd : D.dataL xs = true := by simpa only [D.data] using shp_data hz.2
    exact op_inT hu pins s σ H x y v u Q I rx ry ⟨_, _, d1, by simpa only [toPD] using d2, shp_of hz.1, by simpa only [toPD] using shp_of hz.2, by rw [any_eqv (shp_data hz.1) hd]; exact q⟩
  · rename_i xs h2
    split at e <;> cases e
    rename_i hz
    simp only [Bool.and_eq_true] at hz
    have d1 := dp_vw (K := X.K) sr (shp_data hz.1) r1
    have d2 := dp_vw (K := X.K) sr (by rw [h2]; exact shp_data hz.2) r2
    rw [h2] at d2
    have hd : D.dataL xs = true := by simpa only [D.data] using shp_data hz.2
    exact L2.op_inD hu pins s σ H x y v u Q I rx ry ⟨_, _, d1, by simpa only [toPD] using d2, shp_of hz.1, by simpa only [toPD] using shp_of hz.2, by rw [any_eqv (shp_data hz.1) hd]; exact q⟩
  · rename_i t kvs h2
    split at e <;> cases e
    rename_i hz
    obtain ⟨a, rfl, da⟩ := rep_dct sr r2 h2
    have hx : vw S dx = dx := vw_of fun n z => by
      subst z
      rw [vw_loc] at hz
      cases t <;> simp only [kOk, Bool.false_eq_true, if_false, if_true] at hz <;> split at hz <;> cases hz
    rw [hx] at hz q
    obtain ⟨o, g, ho⟩ := dget_of hz r1 da
    obtain rfl : u = Value.ref a := ry
    refine d_in (by omega) I g rx fun s' I' => ⟨.bl o.isSome, H, I', rfl, ?_⟩
    rw [isSome_of (κ := Key) ho, ← any_get]
    exact q
  · cases e
theorem op_notinn (hu : X.A.units + 65 < cLine) : OpR X (compareOp .NotIn) (rC W fun x y => (inD x y).map (!·)) := by
  intro pins s σ H x y v u Q I rx ry ⟨m, S, dx, dy, b, sr, r1, r2, e, q⟩
  simp only [Option.map_eq_some_iff] at e
  obtain ⟨b', e, rfl⟩ := e
  unfold inD at e
  split at e
  · rename_i z h2
    split at e <;> cases e
    rename_i c h1
    cases vw_str h1; cases vw_str h2
    exact op_notIn_sign pins s σ H x y v u Q I rx ry ⟨c, sOf z, by rw [rep_str r1]; rfl, rep_str r2, by rw [sOf_toList, any_mem]; exact q⟩
  · rename_i xs h2
    split at e <;> cases e
    rename_i hz
    simp only [Bool.and_eq_true] at hz
    have d1 := dp_vw (K := X.K) sr (shp_data hz.1) r1
    have d2 := dp_vw (K := X.K) sr (by rw [h2]; exact shp_data hz.2) r2
    rw [h2] at d2
    have hd : D.dataL xs = true := by simpa only [D.data] using shp_data hz.2
    exact op_notInT hu pins s σ H x y v u Q I rx ry ⟨_, _, d1, by simpa only [toPD] using d2, shp_of hz.1, by simpa only [toPD] using shp_of hz.2, by rw [any_eqv (shp_data hz.1) hd]; exact q⟩
  · rename_i xs h2
    split at e <;> cases e
    rename_i hz
    simp only [Bool.and_eq_true] at hz
    have d1 := dp_vw (K := X.K) sr (shp_data hz.1) r1
    have d2 := dp_vw (K := X.K) sr (by rw [h2]; exact shp_data hz.2) r2
    rw [h2] at d2
    have hd : D.dataL xs = true := by simpa only [D.data] using shp_data hz.2
    exact L2.op_notInD hu pins s σ H x y v u Q I rx ry ⟨_, _, d1, by simpa only [toPD] using d2, shp_of hz.1, by simpa only [toPD] using shp_of hz.2, by rw [any_eqv (shp_data hz.1) hd]; exact q⟩
  · rename_i t kvs h2
    split at e <;> cases e
    rename_i hz
    obtain ⟨a, rfl, da⟩ := rep_dct sr r2 h2
    have hx : vw S dx = dx := vw_of fun n z => by
      subst z
      rw [vw_loc] at hz
      cases t <;> simp only [kOk, Bool.false_eq_true, if_false, if_true] at hz <;> split at hz <;> cases hz
    rw [hx] at hz q
    obtain ⟨o, g, ho⟩ := dget_of hz r1 da
    obtain rfl : u = Value.ref a := ry
    refine d_notIn (by omega) I g rx fun s' I' => ⟨.bl (!o.isSome), H, I', rfl, ?_⟩
    rw [isSome_of (κ := Key) ho, ← any_get]
    exact q
  · cases e
theorem op_cmp (hu : X.A.units + 65 < cLine) (o : CmpO) : OpR X (compareOp (opC o)) (rC W (cmpD o)) := by
  cases o with
  | inn => exact op_inn hu
  | notin => exact op_notinn hu
  | lt =>
    intro pins s σ H x y v u Q I rx ry ⟨m, S, dx, dy, b, sr, r1, r2, e, q⟩
    simp only [cmpD] at e
    unfold ltD at e
    split at e <;> cases e
    · rename_i h1 h2; cases vw_int h1; cases vw_int h2
      exact op_lt pins s σ H x y v u Q I rx ry ⟨_, _, rep_int r1, rep_int r2, q⟩
    · rename_i h1 h2; cases vw_str h1; cases vw_str h2
      exact op_lt_str pins s σ H x y v u Q I rx ry ⟨_, _, rep_str r1, rep_str r2, by rw [sOf_toList, sOf_toList]; exact q⟩
  | gt =>
    intro pins s σ H x y v u Q I rx ry ⟨m, S, dx, dy, b, sr, r1, r2, e, q⟩
    simp only [cmpD] at e
    unfold ltD at e
    split at e <;> cases e
    · rename_i h1 h2; cases vw_int h1; cases vw_int h2
      exact op_gt pins s σ H x y v u Q I rx ry ⟨_, _, rep_int r1, rep_int r2, q⟩
    · rename_i h1 h2; cases vw_str h1; cases vw_str h2
      exact op_gt_str pins s σ H x y v u Q I rx ry ⟨_, _, rep_str r1, rep_str r2, by rw [sOf_toList, sOf_toList]; exact q⟩
  | le =>
    intro pins s σ H x y v u Q I rx ry ⟨m, S, dx, dy, b, sr, r1, r2, e, q⟩
    unfold cmpD at e
    split at e
    all_goals try contradiction
    · rename_i h1 h2; cases e; cases vw_int h1; cases vw_int h2
      exact op_le pins s σ H x y v u Q I rx ry ⟨_, _, rep_int r1, rep_int r2, q⟩
    · rename_i h1 h2; cases e; cases vw_str h1; cases vw_str h2
      exact op_le_str pins s σ H x y v u Q I rx ry ⟨_, _, rep_str r1, rep_str r2, by rw [sOf_toList, sOf_toList]; exact q⟩
  | ge =>
    intro pins s σ H x y v u Q I rx ry ⟨m, S, dx, dy, b, sr, r1, r2, e, q⟩
    unfold cmpD at e
    split at e
    all_goals try contradiction
    · rename_i h1 h2; cases e; cases vw_int h1; cases vw_int h2
      exact op_ge pins s σ H x y v u Q I rx ry ⟨_, _, rep_int r1, rep_int r2, q⟩
    · rename_i h1 h2; cases e; cases vw_str h1; cases vw_str h2
      exact op_ge_str pins s σ H x y v u Q I rx ry ⟨_, _, rep_str r1, rep_str r2, by rw [sOf_toList, sOf_toList]; exact q⟩
  | isN =>
    intro pins s σ H x y v u Q I rx ry ⟨m, S, dx, dy, b, sr, r1, r2, e, q⟩
    unfold cmpD at e
    split at e
    all_goals try contradiction
    · rename_i h2; cases e; cases vw_non h2
      exact op_isN pins s σ H x y v u Q I rx ry ⟨rep_non r2, by rw [rep_isnon (S := S) r1]; exact q⟩
  | notN =>
    intro pins s σ H x y v u Q I rx ry ⟨m, S, dx, dy, b, sr, r1, r2, e, q⟩
    unfold cmpD at e
    split at e
    all_goals try contradiction
    · rename_i h2; cases e; cases vw_non h2
      exact op_notN pins s σ H x y v u Q I rx ry ⟨rep_non r2, by rw [rep_isnon (S := S) r1]; exact q⟩
end
end Py
end

section
set_option Elab.async false
set_option linter.all false
set_option maxRecDepth 100000
namespace Py
open PySem PySem.Spec PyProof.Rows L2
section
variable {W : Wd} {X : Cx}
/-! ### subscripts -/
theorem tail_of {val sli : Expr} {ov iv : Value} {T id : String} {Q : Value → Shared → Prop} {s : Shared} (ty : s.TypeIs ov T) (lk : typeLookup (.type T) "__getitem__" = pure (some (.builtin id)))
    (run : wpAny (model X.prog X.w) X.A (getItem ov iv) Q X.xe s) (pl : subscripted sli false ov iv = operate [ov, iv] (getItem ov iv)) : wpAny (model X.prog X.w) X.A (subscriptTail val sli ov iv) Q X.xe s := by
  have go : wpAny (model X.prog X.w) X.A (subscripted sli false ov iv) (fun r t => wpAny (model X.prog X.w) X.A (letTemporaryGo val ov r >>= fun _ => pure r) Q X.xe t) X.xe s := by
    rw [pl]
    refine wpAny_operating (wpAny_mono run (fun r t q => ?_) fun _ _ z => z)
    exact wpAny_bind (wpAny_letTemporaryGo (wpAny_pure q))
  unfold subscriptTail; refine wpAny_bind ?_
  rw [getitemInPython_of_ne ty.not_modules]; refine wpAny_bind (wpAny_specialOf ty lk ?_)
  first
    | exact wpAny_pure (wpAny_bind go)
    | exact wpAny_bind go
/-- o[i] -/
def rP2v (W : Wd) (f : D → D → Option D) : R2 := fun x y H Q => ∃ m S dx dy d, SR W m H S ∧ Rep W m H dx x ∧ Rep W m H dy y ∧ f (vw S dx) dy = some d ∧ ∀ v H' m', Le m H m' H' → SR W m' H' S → Rep W m' H' d v → Q v H'
theorem at_of {α : Type} (xs : List α) (i : Int) : at_ xs i = atI xs i := rfl
theorem ix_all (hu : X.A.units + 65 < cLine) : IxR X (rP2v W idxD) := by
  intro va sl pins s σ H x y v u Q I rx ry ⟨m, S, dx, dy, d, sr, r1, r2, e, q⟩ hs
  unfold idxD at e
  split at e
  · rename_i xs i h1
    cases vw_tup h1
    obtain ⟨p, vs, rfl, t1, t2⟩ := rep_tup r1
    have e' := e
    unfold at_ at e'
    obtain ⟨k, hk, hx⟩ := Option.bind_eq_some_iff.mp e'
    obtain ⟨w, hw, rw'⟩ := t2.at hx
    refine ix_tup va sl pins s σ H _ y v u Q I rx ry ⟨p, vs, i, w, rfl, rep_int r2, tp_sq t1, ?_, q _ _ _ .refl sr rw'⟩ hs
    unfold atI
    rw [show ixN vs.length i = some k by rw [← t2.length]; exact hk]
    exact hw
  · rename_i xs i h1
    obtain ⟨p, vs, rfl, t1, t2⟩ := rep_lst sr r1 h1
    have e' := e
    unfold at_ at e'
    obtain ⟨k, hk, hx⟩ := Option.bind_eq_some_iff.mp e'
    obtain ⟨w, hw, rw'⟩ := t2.at hx
    refine ix_list va sl pins s σ H _ y v u Q I rx ry ⟨p, vs, i, w, rfl, rep_int r2, .inl t1, ?_, q _ _ _ .refl sr rw'⟩ hs
    unfold atI
    rw [show ixN vs.length i = some k by rw [← t2.length]; exact hk]
    exact hw
  · rename_i z i h1
    cases vw_str h1
    split at e <;> try cases e
    rename_i hz
    obtain ⟨c, hc, rfl⟩ := Option.map_eq_some_iff.mp e
    exact ix_str va sl pins s σ H x y v u Q I rx ry ⟨sOf z, i, c, rep_str r1, rep_int r2, by rw [sOf_len, ← line_eq]; exact hz, by rw [sOf_toList]; exact hc, q _ _ _ .refl sr (.str [c])⟩ hs
  · rename_i t kvs h1
    split at e <;> try cases e
    rename_i hz
    obtain ⟨a, rfl, da⟩ := rep_dct sr r1 h1
    obtain ⟨o, g, ho⟩ := dget_of hz r2 da
    rw [e] at ho
    obtain ⟨w, rfl, rw'⟩ := ho
    obtain rfl : v = Value.ref a := rx
    exact tail_of (dict_typeIs I g) PySem.F.slot_dict_getitem.lookup (d_getItem (by omega) I g ry fun z s' I' rz => ⟨w, H, I', rz, q _ _ _ .refl sr rw'⟩) hs
  · cases e
/-! ### slices -/
theorem sIx_eq (n d : Nat) (o : Option Int) : sIx n d o = HT.sIx n d o := by
  cases o with
  | none => rfl
  | some v => rfl
theorem cut_rep {m : List Addr} {H : Hp} {xs : List D} {vs : List V} (r : RepL W m H xs vs) (lo hi : Option Int) : RepL W m H (cut xs lo hi) (cutV vs lo hi) := by
  unfold cut cutV
  rw [sIx_eq, sIx_eq, r.length]
  exact (r.drop _).take _
def rSl (W : Wd) : V → Option Int → Option Int → Hp → VK → Prop := fun x lo hi H Q => ∃ m S dx d, SR W m H S ∧ Rep W m H dx x ∧ slcV (vw S dx) lo hi = some d ∧ ∀ v H' m', Le m H m' H' → SR W m' H' S → Rep W m' H' d v → Q v H'
theorem cut_all {α : Type} (xs : List α) (lo hi : Option Int) (h : sIx xs.length 0 lo = 0 ∧ sIx xs.length xs.length hi = xs.length) : cut xs lo hi = xs := by
  unfold cut
  rw [h.1, h.2]
  simp
theorem sl_all : SlR X (rSl W) := by
  intro pins s σ H x v vl vu lo hi sl Q I rx hs pl pu ⟨m, S, dx, d, sr, r1, e, q⟩
  unfold slcV at e
  split at e
  · rename_i xs h1
    cases vw_tup h1; cases e
    obtain ⟨p, vs, rfl, t1, t2⟩ := rep_tup r1
    refine sl_tupX pins s σ H _ v vl vu lo hi sl Q I rx hs pl pu ⟨p, vs, rfl, tp_sq t1, fun z => ?_, fun _ => ⟨_, new_tup q sr (cut_rep t2 lo hi)⟩⟩
    rw [← sIx_eq, ← sIx_eq, ← t2.length] at z
    rw [cut_all xs lo hi z] at q
    exact q _ _ _ .refl sr r1
  · rename_i xs h1
    cases e
    obtain ⟨p, vs, rfl, t1, t2⟩ := rep_lst sr r1 h1
    exact sl_list pins s σ H _ v vl vu lo hi sl Q I rx hs pl pu ⟨p, vs, rfl, .inl t1, new_lst q sr (cut_rep t2 lo hi)⟩
  · rename_i z h1
    cases vw_str h1
    split at e <;> cases e
    rename_i hz
    refine sl_str pins s σ H x v vl vu lo hi sl Q I rx hs pl pu ⟨sOf z, rep_str r1, by rw [sOf_len, ← line_eq]; exact hz, ?_⟩
    have : cutS (sOf z) lo hi = sOf (cut z lo hi) := by
      unfold cutS cut
      rw [sOf_toList, sOf_len, sIx_eq, sIx_eq]
      rfl
    rw [this]
    exact q _ _ _ .refl sr (.str _)
  · cases e
/-! ### == of data -/
theorem op_eqAll (hu : X.A.units + 64 < cLine) : OpR X (compareOp .Eq) (fun x y H Q => ∃ m S dx dy, SR W m H S ∧ Rep W m H dx x ∧ Rep W m H dy y ∧ (vw S dx).shp = true ∧ (vw S dy).shp = true ∧ Q (.bl (D.eqv (vw S dx) (vw S dy))) H) := by
  intro pins s σ H x y v u Q I rx ry ⟨m, S, dx, dy, sr, r1, r2, z1, z2, q⟩
  exact op_eqD hu pins s σ H x y v u Q I rx ry ⟨_, _, dp_vw sr (shp_data z1) r1, dp_vw sr (shp_data z2) r2, shp_of z1, shp_of z2, by rw [eqv_of _ _ (shp_data z1) (shp_data z2)]; exact q⟩
theorem op_neAll (hu : X.A.units + 64 < cLine) : OpR X (compareOp .NotEq) (fun x y H Q => ∃ m S dx dy, SR W m H S ∧ Rep W m H dx x ∧ Rep W m H dy y ∧ (vw S dx).shp = true ∧ (vw S dy).shp = true ∧ Q (.bl (!D.eqv (vw S dx) (vw S dy))) H) := by
  intro pins s σ H x y v u Q I rx ry ⟨m, S, dx, dy, sr, r1, r2, z1, z2, q⟩
  exact op_neD hu pins s σ H x y v u Q I rx ry ⟨_, _, dp_vw sr (shp_data z1) r1, dp_vw sr (shp_data z2) r2, shp_of z1, shp_of z2, by rw [eqv_of _ _ (shp_data z1) (shp_data z2)]; exact q⟩
end
end Py
end

section
set_option Elab.async false
set_option linter.all false
set_option maxRecDepth 100000
namespace Py
open PySem PySem.Spec PyProof.Rows L2
/-! ### views -/
def vName : Expr → Option Str
  | .Name x _ => some x
  | _ => none
theorem vName_ok {e : Expr} {x : Str} (h : vName e = some x) : ∃ p, e = .Name x p := by
  cases e <;> simp only [vName] at h <;> cases h
  exact ⟨_, rfl⟩
def isStar : Expr → Bool
  | .Starred _ _ => true
  | _ => false
theorem star_no {e : Expr} (h : isStar e = false) (es : List Expr) (env : PySem.Env) : starEach (e :: es) env = (false, eval e env) :: starEach es env := by
  cases e <;> first | rfl | cases h
theorem star_any : ∀ {es : List Expr} (h : es.any isStar = false) (env : PySem.Env) (pos : Pos), (backTo pos (starEach es env)).any (·.1) = false
  | [], _, _, _ => rfl
  | e :: es, h, env, pos => by
    simp only [List.any_cons, Bool.or_eq_false_iff] at h
    rw [star_no h.1]
    show (false || (backTo pos (starEach es env)).any (·.1)) = false
    rw [star_any h.2]
    rfl
def kwNames (kws : List Keyword) : List (Option Str) := kws.map fun k => k.arg
theorem kw_all : ∀ {kws : List Keyword} {ks : List Str} (h : kwNames kws = ks.map some) (env : PySem.Env) (pos : Pos), (backToKw pos (keywordEach kws env)).all (·.1.isSome) = true ∧ (backToKw pos (keywordEach kws env)).filterMap (·.1) = ks ∧ (backToKw pos (keywordEach kws env)).any (·.1.isNone) = false
  | [], [], _, _, _ => ⟨rfl, rfl, rfl⟩
  | [], _ :: _, h, _, _ => by simp [kwNames] at h
  | _ :: _, [], h, _, _ => by simp [kwNames] at h
  | ⟨a, v, p⟩ :: kws, k :: ks, h, env, pos => by
    simp only [kwNames, List.map_cons, List.cons.injEq] at h
    obtain ⟨h1, h2⟩ := h
    obtain ⟨i1, i2, i3⟩ := kw_all (kws := kws) (ks := ks) h2 env pos
    subst h1
    refine ⟨?_, ?_, ?_⟩
    · show (true && (backToKw pos (keywordEach kws env)).all (·.1.isSome)) = true
      rw [i1]; rfl
    · show k :: (backToKw pos (keywordEach kws env)).filterMap (·.1) = k :: ks
      rw [i2]
    · show (false || (backToKw pos (keywordEach kws env)).any (·.1.isNone)) = false
      rw [i3]; rfl
/-! ### what is known of names -/
inductive GV where
  | fn (g : Nat) | cls (c : Nat) | exc (c : Nat) | int (i : Int) | str (s : List Nat) | con (d : D) | free
  deriving DecidableEq
/-- the place of a def: its names by slots, its scope, what global names mean; may things be called here -/
structure Gam where
  N : List Str
  sc : Scope
  G : List (Str × GV)
  calm : Bool
  blk : Option Scope := none
def GOk (W : Wd) (mg : Str → Option Value) (G : List (Str × GV)) : Prop := ∀ x v, G.lookup x = some v → match v with
  | .fn g => mg x = some (.ref (W.fa g))
  | .cls c => mg x = some (.ref (W.ca c))
  | .exc c => mg x = some (.ref (W.xa c))
  | .int i => ∃ t, mg x = some (.int i t)
  | .str s => ∃ t, mg x = some (.str (sOf s) t)
  | .con d => ∃ a, mg x = some (.ref a) ∧ (d, a) ∈ W.cons
  | .free => mg x = none
/-- what is told of functions made here, relative to a def's entry (h: the heap then, l: the frames that run, H: the tracked heap) -/
def jH (h : Heap) (l : List PySem.Env) (H : Hp) : Sd := Sd.none
abbrev jX (X : Cx) : Sd := jH X.s_0.heap X.outer X.H_0
section
variable (W : Wd) (j : Sd)
def AL (m : List Addr) (H : Hp) : List (Option Ag) → List V → Prop
  | [], vs => vs = []
  | a :: as, vs => ∃ v r, vs = v :: r ∧ (∃ b, a = some b ∧ AgR W j m H b v) ∧ AL m H as r
end
/-- a code's promise, at every entry -/
def FnS (W : Wd) (P : Program) (w : World) (K : PySem.W.Frag) (mg : Str → Option Value) (base : Heap) (lv : Nat) (f : Addr) (fd : FuncData) (ps : List Str) (r : List (Option Ag) → Py.St → Res D) : Prop :=
  ∀ (A : Around) (outer : List PySem.Env) (s : Shared) (H : Hp) (args : Args) (us : List Value) (vs : List V) (Q : VK) (E : XK), Room lv A → Env0 P w K mg base A outer s H → BindsTo s fd args (ps.zip us) → Vals vs us → vs.length = ps.length →
    (∃ m S as, SR W m H S ∧ AL W (jH s.heap outer H) m H as vs ∧ KG W E m H (Rep W) (r as S) Q) → codeAny (model P w) A (.call (.ref f) args) (CR (L2.CX P w) outer P w H s Q E) s
/-- a way to call: so many by place, these names, each parameter's place among what is written -/
abbrev Way := Nat × List Str × List Nat
def pick {α : Type} (perm : List Nat) (xs : List α) : List α := match perm with
  | [] => xs
  | p => p.filterMap fun i => xs[i]?
def WayOk (K : PySem.W.Frag) (fd : FuncData) (ps : List Str) (y : Way) : Prop := ∀ (s : Shared) (us ws : List Value), K.In s.heap → us.length = y.1 → ws.length = y.2.1.length → BindsTo s fd ⟨us, y.2.1.zip ws⟩ (ps.zip (pick y.2.2 (us ++ ws))) ∧ (pick y.2.2 (us ++ ws)).length = ps.length
/-- what the text has of a class -/
structure ClsC (W : Wd) (K : PySem.W.Frag) (c : Nat) (ci : CI) : Prop where
  cls : Cls K (W.ca c)
  cf : W.cf c = ci.fields
  no : ∀ f ∈ ci.no, NoAttr K (W.ca c) f
  prop : ∀ f g, ci.props.lookup f = some g → ∃ p, PropOf K (W.ca c) f p (W.fa g)
  make : Mk K (W.ca c) (W.fa ci.init)
  ty1 : PySem.W.findIn K (.ref (W.ca c)) "__class__" = some (some (.builtin "object.__class__"))
  ty2 : PySem.W.specialIn K (.builtin "object.__class__") "__get__" = some (some (.builtin "getset_descriptor.__get__"))
  ty3 : PySem.W.takesIn K (.builtin "object.__class__") = some true
  ty4 : PySem.W.mroIn K (W.ca c) (.type "object") = some true
  isT : ∀ T ∈ (["int", "bool", "str", "tuple", "list", "dict", "NoneType"] : List String), PySem.W.kitOne K (.ref (W.ca c)) (.type T) = some false ∧ PySem.W.kitOne K (.type T) (.ref (W.ca c)) = some false
  isC : ∀ d di, W.ci d = some di → PySem.W.kitOne K (.ref (W.ca c)) (.ref (W.ca d)) = some (c == d)
  eq : ∀ g, ci.eq = some g → PySem.W.findIn K (.ref (W.ca c)) "__eq__" = some (some (.ref (W.fa g))) ∧ PySem.W.isFn K (.ref (W.fa g)) = true ∧ PySem.W.findIn K (.ref (W.ca c)) "__ne__" = some (some (.builtin "object.__ne__"))
/-- all defs, so many calls deep -/
structure Calls (W : Wd) (k : Nat) (ways : Nat → List Way) (X : Cx) : Prop where
  cls : ∀ c ci, W.ci c = some ci → ClsC W X.K c ci
  fn : ∀ g F, W.T g = some F → ∃ fd, FnS W X.prog X.w X.K X.mg X.base (3 * k) (W.fa g) fd (F.ps.map sOf) (fun as S => run W.T k (.fn g) as S) ∧ PySem.W.keepIn X.K (.ref (W.fa g)) = true ∧ ∀ y ∈ ways g, WayOk X.K fd (F.ps.map sOf) y
structure Ctx (W : Wd) (k : Nat) (ways : Nat → List Way) (X : Cx) (Γ : Gam) : Prop where
  N : X.N = Γ.N
  sc : X.env.scope = Γ.sc
  nd : X.N.Nodup
  glob : GOk W X.mg Γ.G
  un : X.A.units + 70 < cLine
  calm : Γ.calm = true → X.calm = true ∧ Room (3 * k + 2) X.A
  calls : Calls W k ways X
  fn : ∀ x, (match Γ.blk with
    | none => true
    | some s => s.names.lookup x == some .cell) = true → X.fn x = true
section
variable (W : Wd) (k : Nat) (ways : Nat → List Way)
abbrev tkE (X : Cx) (E : XK) : Prop := Takes X fun c d _ H => E c d H
def SE (Γ : Gam) (me : ME) (e : Expr) : Prop := ∀ X, Ctx W k ways X Γ → ∀ E, tkE X E → PE X e (tE W (jX X) (run W.T k) E me)
def SEs (Γ : Gam) (es : MEs) (xs : List Expr) : Prop := ∀ X, Ctx W k ways X Γ → ∀ E, tkE X E → PA X xs (tEs W (jX X) (run W.T k) E es)
/-- as a test -/
def tT (j : Sd) (cl : Cl) (E : XK) (me : ME) : TT := fun σ H Q => ∃ m S ρ, SR W m H S ∧ ER W j m H ρ σ ∧ KG W E m H (Rep W) (evE cl me ρ S) (fun v H' => ∃ b, v = .bl b ∧ Q b H')
def ST (Γ : Gam) (me : ME) (e : Expr) : Prop := ∀ X, Ctx W k ways X Γ → ∀ E, tkE X E → PT X e (tT W (jX X) (run W.T k) E me)
end
section
variable {W : Wd} {k : Nat} {ways : Nat → List Way} {Γ : Gam}
/-! ### names, constants -/
def visB (sc : Scope) (x : Str) : Bool := decide (sc.names.lookup x = some .local) || (decide (sc.names.lookup x = some .cell) || decide (sc.names.lookup x = some .free))
theorem vis_of {X : Cx} {x : Str} (c : X.env.scope = Γ.sc) (h : visB Γ.sc x = true) : Vis X.env.scope x := by
  unfold Vis
  rw [c]
  simpa [visB] using h
def plainN (x : Str) : Bool := !(x == ("__debug__" : Str)) && (!(x == ("__classdict__" : Str)) && !(x == ("__name__" : Str)))
theorem plainN_of {x : Str} (h : plainN x = true) : (x == ("__debug__" : Str)) = false ∧ (x == ("__classdict__" : Str)) = false ∧ x ≠ "__name__" := by
  simp only [plainN, Bool.and_eq_true, Bool.not_eq_true'] at h
  exact ⟨h.1, h.2.1, by simpa using h.2.2⟩
def isGl (sc : Scope) (x : Str) : Bool := decide (sc.names.lookup x = some .globalImplicit) && plainN x
theorem gl_of {X : Cx} {x : Str} (c : X.env.scope = Γ.sc) (h : isGl Γ.sc x = true) : Gl X x ∧ (x == ("__debug__" : Str)) = false ∧ x ≠ "__name__" := by
  simp only [isGl, Bool.and_eq_true, decide_eq_true_eq] at h
  obtain ⟨p1, _, p3⟩ := plainN_of h.2
  refine ⟨?_, p1, p3⟩
  show X.env.scope.names.lookup x = _
  rw [c]
  exact h.1
theorem r_var {i : Nat} {x : Str} {p : Pos} (h1 : Γ.N[i]? = some x) (h2 : visB Γ.sc x = true) (h3 : plainN x = true) : SE W k ways Γ (.var i) (.Name x p) := fun X c E tk => by
  obtain ⟨p1, p2, _⟩ := plainN_of h3
  refine PEw (pe_var (i := i) (by rw [c.N]; exact h1) (vis_of c.sc h2) p1 p2) fun σ H Q ⟨m, S, ρ, sr, er, h⟩ => ?_
  simp only [evE] at h
  split at h
  · rename_i d hs
    obtain ⟨v, e1, e2⟩ := er.slot hs
    exact ⟨v, e1, h.ok sr e2⟩
  · exact h.elim
def cD : Const → Option D
  | .none => some .non
  | .bool b => some (.bl b)
  | .int i => some (.int i)
  | .str s => some (.str s.cps.toList)
  | _ => none
theorem sOf_of (s : Str) : sOf s.cps.toList = s := by simp [sOf]
theorem okB {E : XK} {m : List Addr} {H : Hp} {S : Py.St} {Q : VK} {b : Bool} (h : KG W E m H (Rep W) (.ok (.bl b) S) Q) (sr : SR W m H S) : Q (.bl b) H := h.ok sr (Rep.bl b)
theorem rep_strOf {m : List Addr} {H : Hp} (s : Str) : Rep W m H (.str s.cps.toList) (.str s) := by
  have := Rep.str (W := W) (m := m) (H := H) s.cps.toList
  rwa [sOf_of] at this
theorem pe_cst {X : Cx} {c : Const} {d : D} {n : Nat} {p : Pos} (h : cD c = some d) : ∃ v, PE X (.Constant c n p) (tC v) ∧ ∀ m H, Rep W m H d v := by
  cases c <;> simp only [cD] at h <;> cases h
  · exact ⟨_, pe_non, fun _ _ => .non⟩
  · exact ⟨_, pe_bl, fun _ _ => .bl _⟩
  · exact ⟨_, pe_int, fun _ _ => .int _⟩
  · exact ⟨_, pe_str, fun _ _ => rep_strOf _⟩
theorem r_cst {c : Const} {d : D} {n : Nat} {p : Pos} (h : cD c = some d) : SE W k ways Γ (.cst d) (.Constant c n p) := fun X _ E _ => by
  obtain ⟨v, h1, h2⟩ := pe_cst (W := W) (X := X) (n := n) (p := p) h
  refine PEw h1 fun σ H Q ⟨m, S, ρ, sr, er, h⟩ => ?_
  simp only [evE] at h
  exact h.ok sr (h2 m H)
def gD : GV → Option D
  | .int i => some (.int i)
  | .str s => some (.str s)
  | .fn g => some (.fn g)
  | .con d => some d
  | _ => none
theorem r_glb {x : Str} {d : D} {p : Pos} {v : GV} (h1 : isGl Γ.sc x = true) (h2 : Γ.G.lookup x = some v) (h3 : gD v = some d) : SE W k ways Γ (.glb d) (.Name x p) := fun X c E _ => by
  obtain ⟨g1, g2, _⟩ := gl_of c.sc h1
  have hg := c.glob x v h2
  cases v <;> simp only [gD] at h3 <;> cases h3 <;> simp only at hg
  · refine PEw (pe_glob (v := .ref (W.fa _)) g1 hg rfl g2) fun σ H Q ⟨m, S, ρ, sr, er, h⟩ => ?_
    simp only [evE] at h
    exact h.ok sr (by simp only [Rep])
  · obtain ⟨t, hg⟩ := hg
    refine PEw (pe_glob (v := .int _) g1 hg ⟨t, rfl⟩ g2) fun σ H Q ⟨m, S, ρ, sr, er, h⟩ => ?_
    simp only [evE] at h
    exact h.ok sr (.int _)
  · obtain ⟨t, hg⟩ := hg
    refine PEw (pe_glob (v := .str _) g1 hg ⟨t, rfl⟩ g2) fun σ H Q ⟨m, S, ρ, sr, er, h⟩ => ?_
    simp only [evE] at h
    exact h.ok sr (.str _)
  · obtain ⟨a, hg, hc⟩ := hg
    refine PEw (pe_glob (v := .ref a) g1 hg rfl g2) fun σ H Q ⟨m, S, ρ, sr, er, h⟩ => ?_
    simp only [evE] at h
    exact h.ok sr (sr.con _ hc)
/-! ### operators -/
/-- two in a row -/
theorem two {X : Cx} {E : XK} {a b : ME} {f : D → D → Py.St → Res D} {r : R2} {σ : L2.St} {H : Hp} {Q : VK} {m : List Addr} {S : Py.St} {ρ : Env} (sr : SR W m H S) (er : ER W (jX X) m H ρ σ)
    (h : KG W E m H (Rep W) ((evE (run W.T k) a ρ S).bind fun x S => (evE (run W.T k) b ρ S).bind fun y S => f x y S) Q)
    (hr : ∀ m H S x y dx dy, SR W m H S → Rep W m H dx x → Rep W m H dy y → KG W E m H (Rep W) (f dx dy S) Q → r x y H Q) : tOp r (tE W (jX X) (run W.T k) E a) (tE W (jX X) (run W.T k) E b) σ H Q := by
  refine ⟨m, S, ρ, sr, er, h.bind.imp ?_⟩
  rintro x H1 ⟨m1, dx, S1, le1, sr1, rx, h1⟩
  refine ⟨m1, S1, ρ, sr1, er.mono le1, h1.bind.imp ?_⟩
  rintro y H2 ⟨m2, dy, S2, le2, sr2, ry, h2⟩
  exact hr m2 H2 S2 x y dx dy sr2 (rx.mono le2) ry h2
theorem r_bin {o : BinO} {a b : ME} {ea eb : Expr} {p : Pos} (ha : SE W k ways Γ a ea) (hb : SE W k ways Γ b eb) : SE W k ways Γ (.bin o a b) (.BinOp ea (opO o) eb p) := fun X c E tk => by
  refine PEw (pe_op (op_bin (W := W) o) (ha X c E tk) (hb X c E tk)) fun σ H Q ⟨m, S, ρ, sr, er, h⟩ => ?_
  simp only [evE] at h
  refine two sr er h fun m H S x y dx dy sr rx ry h => ?_
  obtain ⟨d, e, q⟩ := h.opt
  exact ⟨m, S, dx, dy, d, sr, rx, ry, e, q⟩
theorem r_neg {a : ME} {ea : Expr} {p : Pos} (ha : SE W k ways Γ a ea) : SE W k ways Γ (.neg a) (.UnaryOp .USub ea p) := fun X c E tk => by
  refine PEw (pe_un un_neg (ha X c E tk)) fun σ H Q ⟨m, S, ρ, sr, er, h⟩ => ?_
  simp only [evE] at h
  refine ⟨m, S, ρ, sr, er, h.bind.imp ?_⟩
  rintro x H1 ⟨m1, dx, S1, le1, sr1, rx, h1⟩
  split at h1
  · exact ⟨_, rep_int rx, h1.ok sr1 (.int _)⟩
  · exact h1.elim
theorem tk_wish {X : Cx} {E : XK} (h : tkE X E) : tkE X E := h
theorem r_cmp {o : CmpO} {a b : ME} {ea eb : Expr} {p : Pos} (hm : behindInMarks (opC o) eb = false) (ha : SE W k ways Γ a ea) (hb : SE W k ways Γ b eb) : SE W k ways Γ (.cmp o a b) (.Compare ea [opC o] [eb] p) := fun X c E tk => by
  refine PEw (pe_cmpR (op_cmp (W := W) (by have := c.un; omega) o) (ha X c E tk) (hb X c E tk) hm) fun σ H Q ⟨m, S, ρ, sr, er, h⟩ => ?_
  simp only [evE] at h
  refine two sr er h fun m H S x y dx dy sr rx ry h => ?_
  cases e : cmpD o (vw S dx) (vw S dy) with
  | none => rw [e] at h; exact h.elim
  | some b =>
    rw [e] at h
    exact ⟨m, S, dx, dy, b, sr, rx, ry, e, okB h sr⟩
theorem t_cmp {o : CmpO} {a b : ME} {ea eb : Expr} {p : Pos} (hm : behindInMarks (opC o) eb = false) (ha : SE W k ways Γ a ea) (hb : SE W k ways Γ b eb) : ST W k ways Γ (.cmp o a b) (.Compare ea [opC o] [eb] p) := fun X c E tk => by
  refine PTw (pt_cmpR (op_cmp (W := W) (by have := c.un; omega) o) (ha X c E tk) (hb X c E tk) hm) fun σ H Q ⟨m, S, ρ, sr, er, h⟩ => ?_
  simp only [evE] at h
  refine two sr er h fun m H S x y dx dy sr rx ry h => ?_
  cases e : cmpD o (vw S dx) (vw S dy) with
  | none => rw [e] at h; exact h.elim
  | some b =>
    rw [e] at h
    exact ⟨m, S, dx, dy, b, sr, rx, ry, e, okB h sr⟩
/-- a < b < c -/
theorem chain {X : Cx} {E : XK} {o1 o2 : CmpO} {a b c : ME} {σ : L2.St} {H : Hp} {Q : VK} (h : tE W (jX X) (run W.T k) E (.chn o1 o2 a b c) σ H Q) :
    tChain (rC W (cmpD o1)) (rC W (cmpD o2)) (tE W (jX X) (run W.T k) E a) (tE W (jX X) (run W.T k) E b) (tE W (jX X) (run W.T k) E c) σ H Q := by
  obtain ⟨m, S, ρ, sr, er, h⟩ := h
  simp only [evE] at h
  refine ⟨m, S, ρ, sr, er, h.bind.imp ?_⟩
  rintro x H1 ⟨m1, dx, S1, le1, sr1, rx, h1⟩
  refine ⟨m1, S1, ρ, sr1, er.mono le1, h1.bind.imp ?_⟩
  rintro y H2 ⟨m2, dy, S2, le2, sr2, ry, h2⟩
  cases e : cmpD o1 (vw S2 dx) (vw S2 dy) with
  | none => rw [e] at h2; exact h2.elim
  | some b1 =>
    rw [e] at h2
    simp only [opt_some, Res.bind_ok] at h2
    refine ⟨m2, S2, dx, dy, b1, sr2, rx.mono le2, ry, e, b1, rfl, ?_⟩
    cases b1 with
    | false => exact okB h2 sr2
    | true =>
      simp only [if_true] at h2 ⊢
      refine ⟨m2, S2, ρ, sr2, (er.mono le1).mono le2, h2.bind.imp ?_⟩
      rintro z H3 ⟨m3, dz, S3, le3, sr3, rz, h3⟩
      cases e3 : cmpD o2 (vw S3 dy) (vw S3 dz) with
      | none => rw [e3] at h3; exact h3.elim
      | some b3 =>
        rw [e3] at h3
        exact ⟨m3, S3, dy, dz, b3, sr3, ry.mono le3, rz, e3, okB h3 sr3⟩
theorem r_chn {o1 o2 : CmpO} {a b c : ME} {ea eb ec : Expr} {p : Pos} (hm : lastMarks [opC o1, opC o2] [eb, ec] = false) (ha : SE W k ways Γ a ea) (hb : SE W k ways Γ b eb) (hc : SE W k ways Γ c ec) :
    SE W k ways Γ (.chn o1 o2 a b c) (.Compare ea [opC o1, opC o2] [eb, ec] p) := fun X cx E tk => by
  have hu : X.A.units + 65 < cLine := by have := cx.un; omega
  exact PEw (pe_chain (op_cmp hu o1) (op_cmp hu o2) (ha X cx E tk) (hb X cx E tk) (hc X cx E tk) hm) fun σ H Q h => chain h
theorem t_chn {o1 o2 : CmpO} {a b c : ME} {ea eb ec : Expr} {p : Pos} (hm : lastMarks [opC o1, opC o2] [eb, ec] = false) (ha : SE W k ways Γ a ea) (hb : SE W k ways Γ b eb) (hc : SE W k ways Γ c ec) :
    ST W k ways Γ (.chn o1 o2 a b c) (.Compare ea [opC o1, opC o2] [eb, ec] p) := fun X cx E tk => by
  have hu : X.A.units + 65 < cLine := by have := cx.un; omega
  exact PTw (pt_chain (op_cmp hu o1) (op_cmp hu o2) (ha X cx E tk) (hb X cx E tk) (hc X cx E tk) hm) fun σ H Q h => chain (Q := fun v H' => ∃ b, v = .bl b ∧ Q b H') h
/-! ### and, or, not, if -/
theorem andL {X : Cx} {E : XK} {a b : ME} {σ : L2.St} {H : Hp} {Q : VK} (h : tE W (jX X) (run W.T k) E (.and a b) σ H Q) : tAndV (tE W (jX X) (run W.T k) E a) (tE W (jX X) (run W.T k) E b) σ H Q := by
  obtain ⟨m, S, ρ, sr, er, h⟩ := h
  simp only [evE] at h
  refine ⟨m, S, ρ, sr, er, h.bind.imp ?_⟩
  rintro x H1 ⟨m1, dx, S1, le1, sr1, rx, h1⟩
  split at h1
  · exact ⟨true, rep_bl rx, m1, S1, ρ, sr1, er.mono le1, h1⟩
  · exact ⟨false, rep_bl rx, okB h1 sr1⟩
  · exact h1.elim
theorem orL {X : Cx} {E : XK} {a b : ME} {σ : L2.St} {H : Hp} {Q : VK} (h : tE W (jX X) (run W.T k) E (.or a b) σ H Q) : tOrV (tE W (jX X) (run W.T k) E a) (tE W (jX X) (run W.T k) E b) σ H Q := by
  obtain ⟨m, S, ρ, sr, er, h⟩ := h
  simp only [evE] at h
  refine ⟨m, S, ρ, sr, er, h.bind.imp ?_⟩
  rintro x H1 ⟨m1, dx, S1, le1, sr1, rx, h1⟩
  split at h1
  · exact ⟨false, rep_bl rx, m1, S1, ρ, sr1, er.mono le1, h1⟩
  · exact ⟨true, rep_bl rx, okB h1 sr1⟩
  · exact h1.elim
theorem r_and {a b : ME} {ea eb : Expr} {r : List Expr} {p : Pos} (ha : SE W k ways Γ a ea) (hb : SE W k ways Γ b (.BoolOp .And (eb :: r) p)) : SE W k ways Γ (.and a b) (.BoolOp .And (ea :: eb :: r) p) := fun X c E tk =>
  PEw (pe_and (ha X c E tk) (hb X c E tk)) fun σ H Q h => andL h
theorem r_or {a b : ME} {ea eb : Expr} {r : List Expr} {p : Pos} (ha : SE W k ways Γ a ea) (hb : SE W k ways Γ b (.BoolOp .Or (eb :: r) p)) : SE W k ways Γ (.or a b) (.BoolOp .Or (ea :: eb :: r) p) := fun X c E tk =>
  PEw (pe_or (ha X c E tk) (hb X c E tk)) fun σ H Q h => orL h
theorem r_one {o : BoolOp} {a : ME} {ea : Expr} {p : Pos} (ha : SE W k ways Γ a ea) : SE W k ways Γ a (.BoolOp o [ea] p) := fun X c E tk => pe_one (ha X c E tk)
/-- tests whatever the whole is -/
def SW (W : Wd) (k : Nat) (ways : Nat → List Way) (Γ : Gam) (me : ME) (e : Expr) : Prop := ∀ X, Ctx W k ways X Γ → ∀ E, tkE X E → PW X e (tT W (jX X) (run W.T k) E me)
theorem PWw {X : Cx} {e : Expr} {t t' : TT} (h : PW X e t) (i : ∀ σ H Q, t' σ H Q → t σ H Q) : PW X e t' := ⟨fun wh pins s σ H Q I w => h.run wh pins s σ H Q I (i _ _ _ w)⟩
theorem w_and {a b : ME} {ea eb : Expr} {r : List Expr} {p : Pos} (ha : ST W k ways Γ a ea) (hb : SW W k ways Γ b (.BoolOp .And (eb :: r) p)) : SW W k ways Γ (.and a b) (.BoolOp .And (ea :: eb :: r) p) := fun X c E tk => by
  refine PWw (pw_and (ha X c E tk) (hb X c E tk)) fun σ H Q h => ?_
  obtain ⟨m, S, ρ, sr, er, h⟩ := h
  simp only [evE] at h
  refine ⟨m, S, ρ, sr, er, h.bind.imp ?_⟩
  rintro x H1 ⟨m1, dx, S1, le1, sr1, rx, h1⟩
  split at h1
  · exact ⟨true, rep_bl rx, m1, S1, ρ, sr1, er.mono le1, h1⟩
  · obtain ⟨b, e, q⟩ := okB h1 sr1
    cases e
    exact ⟨false, rep_bl rx, q⟩
  · exact h1.elim
theorem w_or {a b : ME} {ea eb : Expr} {r : List Expr} {p : Pos} (ha : ST W k ways Γ a ea) (hb : SW W k ways Γ b (.BoolOp .Or (eb :: r) p)) : SW W k ways Γ (.or a b) (.BoolOp .Or (ea :: eb :: r) p) := fun X c E tk => by
  refine PWw (pw_or (ha X c E tk) (hb X c E tk)) fun σ H Q h => ?_
  obtain ⟨m, S, ρ, sr, er, h⟩ := h
  simp only [evE] at h
  refine ⟨m, S, ρ, sr, er, h.bind.imp ?_⟩
  rintro x H1 ⟨m1, dx, S1, le1, sr1, rx, h1⟩
  split at h1
  · exact ⟨false, rep_bl rx, m1, S1, ρ, sr1, er.mono le1, h1⟩
  · obtain ⟨b, e, q⟩ := okB h1 sr1
    cases e
    exact ⟨true, rep_bl rx, q⟩
  · exact h1.elim
theorem w_one {o : BoolOp} {a : ME} {ea : Expr} {p : Pos} (ha : ST W k ways Γ a ea) : SW W k ways Γ a (.BoolOp o [ea] p) := fun X c E tk => by
  cases o with
  | And => exact pw_and1 (ha X c E tk)
  | Or => exact pw_or1 (ha X c E tk)
theorem SW.t {me : ME} {e : Expr} (h : SW W k ways Γ me e) : ST W k ways Γ me e := fun X c E tk => (h X c E tk).pt
theorem r_not {a : ME} {ea : Expr} {p : Pos} (ha : SE W k ways Γ a ea) : SE W k ways Γ (.not a) (.UnaryOp .Not ea p) := fun X c E tk => by
  refine PEw (pe_not (ha X c E tk)) fun σ H Q ⟨m, S, ρ, sr, er, h⟩ => ?_
  simp only [evE] at h
  refine ⟨m, S, ρ, sr, er, h.bind.imp ?_⟩
  rintro x H1 ⟨m1, dx, S1, le1, sr1, rx, h1⟩
  split at h1
  · exact ⟨_, rep_bl rx, okB h1 sr1⟩
  · exact h1.elim
theorem t_not {a : ME} {ea : Expr} {p : Pos} (ha : ST W k ways Γ a ea) : ST W k ways Γ (.not a) (.UnaryOp .Not ea p) := fun X c E tk => by
  refine PTw (pt_not (ha X c E tk)) fun σ H Q ⟨m, S, ρ, sr, er, h⟩ => ?_
  simp only [evE] at h
  refine ⟨m, S, ρ, sr, er, h.bind.imp ?_⟩
  rintro x H1 ⟨m1, dx, S1, le1, sr1, rx, h1⟩
  split at h1
  · obtain ⟨b, e, q⟩ := okB h1 sr1
    cases e
    exact ⟨_, rep_bl rx, q⟩
  · exact h1.elim
theorem r_ite {c a b : ME} {ec ea eb : Expr} {p : Pos} (hc : ST W k ways Γ c ec) (ha : SE W k ways Γ a ea) (hb : SE W k ways Γ b eb) : SE W k ways Γ (.ite c a b) (.IfExp ec ea eb p) := fun X cx E tk => by
  refine PEw (pe_ifExp (hc X cx E tk) (ha X cx E tk) (hb X cx E tk)) fun σ H Q ⟨m, S, ρ, sr, er, h⟩ => ?_
  simp only [evE] at h
  refine ⟨m, S, ρ, sr, er, h.bind.imp ?_⟩
  rintro x H1 ⟨m1, dx, S1, le1, sr1, rx, h1⟩
  split at h1
  · exact ⟨true, rep_bl rx, m1, S1, ρ, sr1, er.mono le1, h1⟩
  · exact ⟨false, rep_bl rx, m1, S1, ρ, sr1, er.mono le1, h1⟩
  · exact h1.elim
def plainE : Expr → Bool
  | .UnaryOp .Not _ _ | .BoolOp .. | .IfExp .. | .Compare .. => false
  | _ => true
theorem plain_he {e : Expr} (h : plainE e = true) (env : PySem.Env) (wh : Sem Value) : isTrue e env wh = (do let v ← wh; standAt e.pos; holding [v] (truthy v)) := by
  cases e <;> first | rfl | (cases h; done) | skip
  rename_i o a p
  cases o <;> first | rfl | cases h
theorem t_val {me : ME} {e : Expr} (h : plainE e = true) (ha : SE W k ways Γ me e) : ST W k ways Γ me e := fun X c E tk => by
  refine PTw (pt_val (ha X c E tk) fun wh => plain_he h _ wh) fun σ H Q ⟨m, S, ρ, sr, er, h⟩ => ?_
  exact ⟨m, S, ρ, sr, er, h⟩
/-! ### lists of expressions -/
theorem s_nil : SEs W k ways Γ .nil [] := fun X c E tk => PAw pa_nil fun σ H Q ⟨m, S, ρ, sr, er, h⟩ => by
  simp only [evEs] at h
  exact h.ok sr (by simp only [RepL])
theorem s_cons {a : ME} {es : MEs} {ea : Expr} {xs : List Expr} (hs : isStar ea = false) (ha : SE W k ways Γ a ea) (hr : SEs W k ways Γ es xs) : SEs W k ways Γ (.cons false a es) (ea :: xs) := fun X c E tk => by
  refine PAw (pa_cons (ha X c E tk) (hr X c E tk) (star_no hs _ _)) fun σ H Q ⟨m, S, ρ, sr, er, h⟩ => ?_
  simp only [evEs] at h
  refine ⟨m, S, ρ, sr, er, h.bind.imp ?_⟩
  rintro x H1 ⟨m1, dx, S1, le1, sr1, rx, h1⟩
  refine ⟨m1, S1, ρ, sr1, er.mono le1, h1.bind.imp ?_⟩
  rintro ys H2 ⟨m2, ds, S2, le2, sr2, rs, h2⟩
  exact h2.ok sr2 (by simp only [RepL]; exact ⟨x, ys, rfl, rx.mono le2, rs⟩)
theorem r_tup {es : MEs} {xs : List Expr} {n : Nat} {p : Pos} (h : SEs W k ways Γ es xs) : SE W k ways Γ (.tup es) (.Tuple xs n p) := fun X c E tk => by
  refine PEw (pe_tupX (h X c E tk)) fun σ H Q ⟨m, S, ρ, sr, er, h⟩ => ?_
  simp only [evE] at h
  refine ⟨m, S, ρ, sr, er, h.bind.imp ?_⟩
  rintro ys H1 ⟨m1, ds, S1, le1, sr1, rs, h1⟩
  split at h1
  · rename_i hl
    exact ⟨by rw [← rs.length, ← line_eq]; exact hl, _, new_tup h1 sr1 rs⟩
  · exact h1.elim
theorem r_lst {mu : Bool} {es : MEs} {xs : List Expr} {p : Pos} (h : SEs W k ways Γ es xs) : SE W k ways Γ (.lst mu es) (.List xs p) := fun X c E tk => by
  refine PEw (pe_lst (h X c E tk)) fun σ H Q ⟨m, S, ρ, sr, er, h⟩ => ?_
  simp only [evE] at h
  refine ⟨m, S, ρ, sr, er, h.bind.imp ?_⟩
  rintro ys H1 ⟨m1, ds, S1, le1, sr1, rs, h1⟩
  split at h1
  · rename_i hl
    exact ⟨by rw [← rs.length, ← line_eq]; exact hl, new_lstM h1 sr1 rs⟩
  · exact h1.elim
def noSlice : Expr → Bool
  | .Slice .. => false
  | _ => true
theorem plain_ix {e : Expr} (h : noSlice e = true) : PlainIx e := fun o i => by
  cases e <;> first | rfl | cases h
theorem r_idx {a b : ME} {ea eb : Expr} {p : Pos} (hn : noSlice eb = true) (ha : SE W k ways Γ a ea) (hb : SE W k ways Γ b eb) : SE W k ways Γ (.idx a b) (.Subscript ea eb p) := fun X c E tk => by
  refine PEw (pe_ix (ix_all (W := W) (by have := c.un; omega)) (ha X c E tk) (hb X c E tk) (plain_ix hn)) fun σ H Q ⟨m, S, ρ, sr, er, h⟩ => ?_
  simp only [evE] at h
  refine two sr er h fun m H S x y dx dy sr rx ry h => ?_
  obtain ⟨d, e, q⟩ := h.opt
  exact ⟨m, S, dx, dy, d, sr, rx, ry, e, q⟩
end
end Py
end

section
set_option Elab.async false
set_option linter.all false
set_option maxRecDepth 100000
namespace Py
open PySem PySem.Spec PyProof.Rows L2
section
variable {W : Wd} {k : Nat} {ways : Nat → List Way} {Γ : Gam}
/-! ### slices -/
def POs (W : Wd) (k : Nat) (ways : Nat → List Way) (Γ : Gam) (me : ME) (o : Option Expr) : Prop := match o with
  | none => isNo me = true
  | some e => isNo me = false ∧ SE W k ways Γ me e
def evP (cl : Cl) (me : ME) (ρ : Env) (S : Py.St) : Res (Option Int) := if isNo me then .ok none S else (evE cl me ρ S).bind fun y S => match y with
      | .int i => .ok (some i) S
      | _ => .bad
def rO : List Addr → Hp → Option Int → Option Int → Prop := fun _ _ a b => a = b
def tP (W : Wd) (j : Sd) (cl : Cl) (E : XK) (me : ME) : TO := fun σ H Q => ∃ m S ρ, SR W m H S ∧ ER W j m H ρ σ ∧ KG W E m H rO (evP cl me ρ S) Q
theorem POw {X : Cx} {o : Option Expr} {t t' : TO} (h : PO X o t) (i : ∀ σ H Q, t' σ H Q → t σ H Q) : PO X o t' := ⟨fun pins s σ H Q I w => h.run pins s σ H Q I (i _ _ _ w)⟩
theorem po_of {me : ME} {o : Option Expr} (h : POs W k ways Γ me o) {X : Cx} (c : Ctx W k ways X Γ) {E : XK} (tk : tkE X E) : PO X o (tP W (jX X) (run W.T k) E me) := by
  cases o with
  | none =>
    refine POw po_none fun σ H Q ⟨m, S, ρ, sr, er, q⟩ => ?_
    unfold evP at q
    rw [if_pos (show isNo me = true from h)] at q
    exact q.ok sr rfl
  | some e =>
    obtain ⟨h1, h2⟩ := h
    refine POw (po_some (h2 X c E tk)) fun σ H Q ⟨m, S, ρ, sr, er, q⟩ => ?_
    unfold evP at q
    rw [if_neg (by rw [h1]; exact Bool.false_ne_true)] at q
    refine ⟨m, S, ρ, sr, er, q.bind.imp ?_⟩
    rintro x H1 ⟨m1, dx, S1, le1, sr1, rx, h1⟩
    split at h1
    · exact ⟨_, rep_int rx, h1.ok sr1 rfl⟩
    · exact h1.elim
theorem r_slc {a lo hi : ME} {ea : Expr} {ol oh : Option Expr} {p p2 : Pos} (ha : SE W k ways Γ a ea) (hl : POs W k ways Γ lo ol) (hh : POs W k ways Γ hi oh) : SE W k ways Γ (.slc a lo hi) (.Subscript ea (.Slice ol oh none p2) p) := fun X c E tk => by
  refine PEw (pe_slice (sl_all (W := W)) (ha X c E tk) (po_of hl c tk) (po_of hh c tk)) fun σ H Q ⟨m, S, ρ, sr, er, h⟩ => ?_
  simp only [evE] at h
  refine ⟨m, S, ρ, sr, er, h.bind.imp ?_⟩
  rintro x H1 ⟨m1, dx, S1, le1, sr1, rx, h1⟩
  refine ⟨m1, S1, ρ, sr1, er.mono le1, KG.imp (KG.bind (R := rO) h1) ?_⟩
  rintro l H2 ⟨m2, l', S2, le2, sr2, rfl, h2⟩
  refine ⟨m2, S2, ρ, sr2, (er.mono le1).mono le2, KG.imp (KG.bind (R := rO) h2) ?_⟩
  rintro u H3 ⟨m3, u', S3, le3, sr3, rfl, h3⟩
  obtain ⟨d, e, q⟩ := h3.opt
  exact ⟨m3, S3, dx, d, sr3, (rx.mono le2).mono le3, e, q⟩
/-! ### calls -/
theorem call_run {X : Cx} {f : Addr} {fd : FuncData} {ps : List Str} {r : List (Option Ag) → Py.St → Res D} {E : XK} (F : FnS W X.prog X.w X.K X.mg X.base (3 * k) f fd ps r) (hr : Room (3 * k) X.A) (tk : tkE X E) {y : Way} (hy : WayOk X.K fd ps y)
    {pins : List (Addr × Obj)} {σ : L2.St} {H : Hp} {s : Shared} {Q : VK} {us ws : List Value} {vs : List V} (I : Inv X pins σ H s) (h1 : us.length = y.1) (h2 : ws.length = y.2.1.length) (rv : Vals vs (pick y.2.2 (us ++ ws)))
    (h : ∃ m S as, SR W m H S ∧ AL W (jH s.heap X.stack H) m H as vs ∧ KG W E m H (Rep W) (r as S) Q) : wpAny (model X.prog X.w) X.A (call (.ref f) us (y.2.1.zip ws)) (EP X pins σ Q) X.xe s := by
  obtain ⟨b1, b2⟩ := hy s us ws I.kIn h1 h2
  refine wpAny_call (codeAny_mono (F X.A X.stack s H _ _ vs Q E hr I.env0 b1 rv (rv.length.trans b2) h) fun r s' hq => ?_)
  cases r with
  | error e => exact passes_call (E := E) tk (fun _ _ _ _ z => z) pins σ H s e s' I hq
  | ok fl => cases fl <;> first | exact hq.elim | exact I.after hq
theorem Vals.pick {xs : List V} {us : List Value} (h : Vals xs us) (perm : List Nat) : Vals (pick perm xs) (pick perm us) := by
  unfold Py.pick
  cases perm with
  | nil => exact h
  | cons i p =>
    simp only
    induction (i :: p) with
    | nil => exact .nil
    | cons i p ih =>
      rw [List.filterMap_cons, List.filterMap_cons]
      cases e : xs[i]? with
      | none => rw [h.none_of e]; exact ih
      | some x =>
        obtain ⟨u, e2, r⟩ := h.get e
        rw [e2]
        exact .cons r ih
theorem AL.length {j : Sd} {m : List Addr} {H : Hp} : ∀ {as : List (Option Ag)} {vs : List V}, AL W j m H as vs → as.length = vs.length
  | [], _, h => by simp only [AL] at h; rw [h]; rfl
  | a :: as, _, h => by
    simp only [AL] at h
    obtain ⟨v, r, rfl, _, h2⟩ := h
    simp [AL.length h2]
theorem AL.at {j : Sd} {m : List Addr} {H : Hp} : ∀ {as : List (Option Ag)} {vs : List V} {i : Nat}, AL W j m H as vs → i < as.length → ∃ b v, as[i]? = some (some b) ∧ vs[i]? = some v ∧ AgR W j m H b v
  | [], _, i, _, h => by simp at h
  | a :: as, _, 0, h, _ => by
    simp only [AL] at h
    obtain ⟨v, r, rfl, ⟨b, rfl, hb⟩, h2⟩ := h
    exact ⟨b, v, rfl, rfl, hb⟩
  | a :: as, _, i + 1, h, hi => by
    simp only [AL] at h
    obtain ⟨v, r, rfl, _, h2⟩ := h
    simpa using AL.at (i := i) h2 (by simpa using hi)
theorem AL.perm {j : Sd} {m : List Addr} {H : Hp} {as : List (Option Ag)} {vs : List V} (h : AL W j m H as vs) {perm : List Nat} (hp : perm.all (fun i => decide (i < as.length)) = true) : AL W j m H (permute perm as) (Py.pick perm vs) := by
  unfold permute Py.pick
  cases perm with
  | nil => exact h
  | cons i p =>
    simp only
    generalize (i :: p) = q at hp ⊢
    induction q with
    | nil => simp only [List.map_nil, List.filterMap_nil, AL]
    | cons i p ih =>
      simp only [List.all_cons, Bool.and_eq_true, decide_eq_true_eq] at hp
      obtain ⟨b, v, e1, e2, r⟩ := h.at hp.1
      rw [List.map_cons, List.filterMap_cons, e1, e2]
      simp only [AL]
      exact ⟨v, _, rfl, ⟨b, rfl, r⟩, ih hp.2⟩
theorem AL.mono {j : Sd} {m m' : List Addr} {H H' : Hp} (x : Le m H m' H') : ∀ {as : List (Option Ag)} {vs : List V}, AL W j m H as vs → AL W j m' H' as vs
  | [], _, h => by simpa only [AL] using h
  | a :: as, _, h => by
    simp only [AL] at h ⊢
    obtain ⟨v, r, rfl, ⟨b, e, hb⟩, h2⟩ := h
    exact ⟨v, r, rfl, ⟨b, e, hb.mono x⟩, AL.mono x h2⟩
theorem AL.append {j : Sd} {m : List Addr} {H : Hp} : ∀ {as bs : List (Option Ag)} {vs ws : List V}, AL W j m H as vs → AL W j m H bs ws → AL W j m H (as ++ bs) (vs ++ ws)
  | [], _, _, _, h, q => by simp only [AL] at h; rw [h]; exact q
  | a :: as, _, _, _, h, q => by
    simp only [AL] at h
    obtain ⟨v, r, rfl, hb, h2⟩ := h
    simp only [List.cons_append, AL]
    exact ⟨v, _, rfl, hb, AL.append h2 q⟩
/-- from a body to what it calls: what is told of functions made here goes on -/
theorem j_move {X : Cx} {pins : List (Addr × Obj)} {σ : L2.St} {H : Hp} {s : Shared} (I : Inv X pins σ H s) {m : List Addr} {a : Ag} {v : V} (h : AgR W (jX X) m H a v) : AgR W (jH s.heap X.stack H) m H a v := by
  cases a with
  | d d => exact h
  | clo _ _ _ => exact False.elim h
  | exn _ _ => exact False.elim h
theorem al_move {X : Cx} {pins : List (Addr × Obj)} {σ : L2.St} {H : Hp} {s : Shared} (I : Inv X pins σ H s) {m : List Addr} : ∀ {as : List (Option Ag)} {vs : List V}, AL W (jX X) m H as vs → AL W (jH s.heap X.stack H) m H as vs
  | [], _, h => by simpa only [AL] using h
  | a :: as, _, h => by
    simp only [AL] at h ⊢
    obtain ⟨v, r, rfl, ⟨b, e, hb⟩, h2⟩ := h
    exact ⟨v, r, rfl, ⟨b, e, j_move I hb⟩, al_move I h2⟩
/-! ### arguments -/
def tAs (W : Wd) (j : Sd) (cl : Cl) (E : XK) (es : MEs) : TA := fun σ H Q => ∃ m S ρ, SR W m H S ∧ ER W j m H ρ σ ∧ KG W E m H (AL W j) (evAs cl es ρ S) Q
def SAs (W : Wd) (k : Nat) (ways : Nat → List Way) (Γ : Gam) (es : MEs) (xs : List Expr) : Prop := ∀ X, Ctx W k ways X Γ → ∀ E, tkE X E → PA X xs (tAs W (jX X) (run W.T k) E es)
def SKs (W : Wd) (k : Nat) (ways : Nat → List Way) (Γ : Gam) (es : MEs) (kws : List Keyword) : Prop := ∀ X, Ctx W k ways X Γ → ∀ E, tkE X E → PK X kws (tAs W (jX X) (run W.T k) E es)
theorem PKw {X : Cx} {es : List Keyword} {t t' : TA} (h : PK X es t) (i : ∀ σ H Q, t' σ H Q → t σ H Q) : PK X es t' := ⟨fun pos pins s σ H Q I w => h.run pos pins s σ H Q I (i _ _ _ w)⟩
/-- an argument that is a value -/
def valA : ME → Bool
  | .lam .. => false
  | .var _ => false
  | _ => true
theorem evAs_val {cl : Cl} {b : Bool} {a : ME} {es : MEs} {ρ : Env} {S : Py.St} (h : valA a = true) : evAs cl (.cons b a es) ρ S = (evE cl a ρ S).bind fun x S => (evAs cl es ρ S).bind fun xs S => .ok (some (.d x) :: xs) S := by
  cases a <;> first | (simp only [evAs]; done) | cases h
theorem as_nil {X : Cx} {E : XK} {σ : L2.St} {H : Hp} {Q : List V → Hp → Prop} (h : tAs W (jX X) (run W.T k) E .nil σ H Q) : tNil σ H Q := by
  obtain ⟨m, S, ρ, sr, er, h⟩ := h
  simp only [evAs] at h
  exact h.ok sr (by simp only [AL])
theorem as_cons {X : Cx} {E : XK} {b : Bool} {a : ME} {es : MEs} (hv : valA a = true) {σ : L2.St} {H : Hp} {Q : List V → Hp → Prop} (h : tAs W (jX X) (run W.T k) E (.cons b a es) σ H Q) : tCons (tE W (jX X) (run W.T k) E a) (tAs W (jX X) (run W.T k) E es) σ H Q := by
  obtain ⟨m, S, ρ, sr, er, h⟩ := h
  rw [evAs_val hv] at h
  refine ⟨m, S, ρ, sr, er, h.bind.imp ?_⟩
  rintro x H1 ⟨m1, dx, S1, le1, sr1, rx, h1⟩
  refine ⟨m1, S1, ρ, sr1, er.mono le1, h1.bind.imp ?_⟩
  rintro ys H2 ⟨m2, ds, S2, le2, sr2, rs, h2⟩
  exact h2.ok sr2 (by simp only [AL]; exact ⟨x, ys, rfl, ⟨_, rfl, rx.mono le2⟩, rs⟩)
theorem as_var {X : Cx} {E : XK} {b : Bool} {i : Nat} {es : MEs} {σ : L2.St} {H : Hp} {Q : List V → Hp → Prop} (h : tAs W (jX X) (run W.T k) E (.cons b (.var i) es) σ H Q) : tCons (tVar i) (tAs W (jX X) (run W.T k) E es) σ H Q := by
  obtain ⟨m, S, ρ, sr, er, h⟩ := h
  simp only [evAs] at h
  split at h
  · rename_i a ha
    obtain ⟨v, e1, e2⟩ := er.slot ha
    refine ⟨v, e1, m, S, ρ, sr, er, h.bind.imp ?_⟩
    rintro ys H2 ⟨m2, ds, S2, le2, sr2, rs, h2⟩
    exact h2.ok sr2 (by simp only [AL]; exact ⟨v, ys, rfl, ⟨_, rfl, e2.mono le2⟩, rs⟩)
  · exact h.elim
theorem a_nil : SAs W k ways Γ .nil [] := fun X c E tk => PAw pa_nil fun σ H Q h => as_nil h
theorem a_cons {b : Bool} {a : ME} {es : MEs} {ea : Expr} {xs : List Expr} (hs : isStar ea = false) (hv : valA a = true) (ha : SE W k ways Γ a ea) (hr : SAs W k ways Γ es xs) : SAs W k ways Γ (.cons b a es) (ea :: xs) := fun X c E tk =>
  PAw (pa_cons (ha X c E tk) (hr X c E tk) (star_no hs _ _)) fun σ H Q h => as_cons hv h
theorem a_var {b : Bool} {i : Nat} {es : MEs} {x : Str} {p : Pos} {xs : List Expr} (h1 : Γ.N[i]? = some x) (h2 : visB Γ.sc x = true) (h3 : plainN x = true) (hr : SAs W k ways Γ es xs) : SAs W k ways Γ (.cons b (.var i) es) (.Name x p :: xs) := fun X c E tk => by
  obtain ⟨p1, p2, _⟩ := plainN_of h3
  exact PAw (pa_cons (pe_var (i := i) (by rw [c.N]; exact h1) (vis_of c.sc h2) p1 p2) (hr X c E tk) rfl) fun σ H Q h => as_var h
theorem k_nil : SKs W k ways Γ .nil [] := fun X c E tk => PKw pk_nil fun σ H Q h => as_nil h
theorem k_cons {b : Bool} {a : ME} {es : MEs} {nm : Option Str} {ea : Expr} {p : Pos} {xs : List Keyword} (hv : valA a = true) (ha : SE W k ways Γ a ea) (hr : SKs W k ways Γ es xs) : SKs W k ways Γ (.cons b a es) (⟨nm, ea, p⟩ :: xs) := fun X c E tk =>
  PKw (pk_cons (ha X c E tk) (hr X c E tk)) fun σ H Q h => as_cons hv h
theorem k_var {b : Bool} {i : Nat} {es : MEs} {nm : Option Str} {x : Str} {p q : Pos} {xs : List Keyword} (h1 : Γ.N[i]? = some x) (h2 : visB Γ.sc x = true) (h3 : plainN x = true) (hr : SKs W k ways Γ es xs) : SKs W k ways Γ (.cons b (.var i) es) (⟨nm, .Name x p, q⟩ :: xs) := fun X c E tk => by
  obtain ⟨p1, p2, _⟩ := plainN_of h3
  exact PKw (pk_cons (pe_var (i := i) (by rw [c.N]; exact h1) (vis_of c.sc h2) p1 p2) (hr X c E tk)) fun σ H Q h => as_var h
def MEs.app : MEs → MEs → MEs
  | .nil, b => b
  | .cons s e r, b => .cons s e (MEs.app r b)
def MEs.len : MEs → Nat
  | .nil => 0
  | .cons _ _ r => MEs.len r + 1
theorem evAs_app {cl : Cl} {ρ : Env} : ∀ (es fs : MEs) (S : Py.St), evAs cl (es.app fs) ρ S = (evAs cl es ρ S).bind fun as S => (evAs cl fs ρ S).bind fun bs S => .ok (as ++ bs) S
  | .nil, fs, S => by
    simp only [MEs.app, evAs, Res.bind_ok, List.nil_append]
    cases evAs cl fs ρ S <;> rfl
  | .cons b a es, fs, S => by
    have bb : ∀ {α β γ : Type} (r : Res α) (f : α → Py.St → Res β) (g : β → Py.St → Res γ), (r.bind f).bind g = r.bind fun a S => (f a S).bind g := fun r f g => by cases r <;> rfl
    cases a <;> simp only [MEs.app, evAs, evAs_app es fs, bb, Res.bind_ok, List.cons_append] <;> first | done | skip
    rename_i i
    cases slot ρ i <;> simp only [bb, Res.bind_ok, List.cons_append, Res.bind_bad]
theorem evAs_len {cl : Cl} {ρ : Env} : ∀ (es : MEs) {S S' : Py.St} {as : List (Option Ag)}, evAs cl es ρ S = .ok as S' → as.length = es.len
  | .nil, S, S', as, h => by simp only [evAs] at h; cases h; rfl
  | .cons b a es, S, S', as, h => by
    have key : ∀ {S1 : Py.St} {x : Option Ag}, ((evAs cl es ρ S1).bind fun xs S => .ok (x :: xs) S) = .ok as S' → as.length = es.len + 1 := fun {S1 x} h => by
      cases e : evAs cl es ρ S1 with
      | ok xs S2 =>
        rw [e] at h
        simp only [Res.bind_ok] at h
        cases h
        simp [evAs_len es e]
      | exc _ _ _ => rw [e] at h; cases h
      | bad => rw [e] at h; cases h
    cases a
    case var i =>
      simp only [evAs] at h
      split at h
      · exact key h
      · cases h
    case lam np caps body =>
      simp only [evAs] at h
      exact key h
    all_goals
      rw [evAs_val rfl] at h
      generalize evE cl _ ρ S = r at h
      cases r with
      | ok x S2 => exact key h
      | exc _ _ _ => cases h
      | bad => cases h
/-- f(..), f(.., k = ..) -/
theorem r_call {g : Nat} {kp : Bool} {es fs : MEs} {perm : List Nat} {x : Str} {xs : List Expr} {kws : List Keyword} {ks : List Str} {F : Fun} {p pos : Pos} (hc : Γ.calm = true) (h1 : isGl Γ.sc x = true) (h2 : Γ.G.lookup x = some (.fn g)) (hT : W.T g = some F) (hw : (xs.length, ks, perm) ∈ ways g)
    (hs : xs.any isStar = false) (hk : kwNames kws = ks.map some) (hp : perm.all (fun i => decide (i < es.len + fs.len)) = true) (l1 : es.len = xs.length) (l2 : fs.len = kws.length) (ha : SAs W k ways Γ es xs) (hb : SKs W k ways Γ fs kws) : SE W k ways Γ (.call g kp (es.app fs) perm) (.Call (.Name x p) xs kws pos) := fun X c E tk => by
  obtain ⟨g1, g2, _⟩ := gl_of c.sc h1
  have hm : X.mg x = some (.ref (W.fa g)) := c.glob x _ h2
  obtain ⟨fd, F1, hkeep, hways⟩ := c.calls.fn g F hT
  obtain ⟨_, hroom⟩ := c.calm hc
  obtain ⟨k1, k2, k3⟩ := kw_all hk X.env pos
  refine ⟨fun pins s σ H Q I h => ?_⟩
  obtain ⟨m, S, ρ, sr, er, h⟩ := h
  simp only [evE] at h
  rw [evAs_app] at h
  have bb : ∀ {α β γ : Type} (r : Res α) (f : α → Py.St → Res β) (g : β → Py.St → Res γ), (r.bind f).bind g = r.bind fun a S => (f a S).bind g := fun r f g => by cases r <;> rfl
  simp only [bb, Res.bind_ok] at h
  have goal : ∀ (us : List Value) (s1 : Shared), (AP X pins σ (fun vs H1 => vs.length = xs.length ∧ ∃ m1 as S1, Le m H m1 H1 ∧ SR W m1 H1 S1 ∧ AL W (jX X) m1 H1 as vs ∧ as.length = es.len ∧ KG W E m1 H1 (Rep W) ((evAs (run W.T k) fs ρ S1).bind fun bs S => run W.T k (.fn g) (permute perm (as ++ bs)) S) Q) us s1) →
      wpAny (model X.prog X.w) X.A (evalAll ((backToKw pos (keywordEach kws X.env)).map (·.2))) (fun ws s2 => X.K.In s2.heap ∧ wpAny (model X.prog X.w) X.A (call (.ref (W.fa g)) ([] ++ us) (((backToKw pos (keywordEach kws X.env)).filterMap (·.1)).zip ws)) (EP X pins σ Q) X.xe s2) X.xe s1 := by
    intro us s1 ⟨vs, H1, I1, r1, hl, m1, as, S1, le1, sr1, al1, al2, q⟩
    have q2 : KG W E m1 H1 (AL W (jX X)) (evAs (run W.T k) fs ρ S1) (fun zs H2 => ∃ m2 bs S2, Le m1 H1 m2 H2 ∧ SR W m2 H2 S2 ∧ AL W (jX X) m2 H2 bs zs ∧ bs.length = fs.len ∧ KG W E m2 H2 (Rep W) (run W.T k (.fn g) (permute perm (as ++ bs)) S2) Q) := by
      cases e : evAs (run W.T k) fs ρ S1 with
      | ok bs S2 =>
        rw [e] at q
        exact fun zs H2 m2 le sr al => ⟨m2, bs, S2, le, sr, al, evAs_len fs e, KG.mono le q⟩
      | exc _ _ _ => rw [e] at q; exact q
      | bad => rw [e] at q; exact q
    refine thn ((hb X c E tk).run pos pins s1 σ H1 _ I1 ⟨m1, S1, ρ, sr1, er.mono le1, q2⟩) fun ws s2 ⟨zs, H2, I2, rz, m2, bs, S2, le2, sr2, al3, al4, q3⟩ => ⟨I2.kIn, ?_⟩
    rw [k2]
    have hks : ws.length = ks.length := by
      have e1 : kws.length = ks.length := by simpa [kwNames] using congrArg List.length hk
      rw [← e1, ← l2, ← al4, al3.length, rz.length]
    have al5 := (al1.mono le2).append al3
    exact call_run F1 (hroom.mono (by omega)) tk (hways _ hw) I2 (by rw [List.nil_append, ← r1.length]; exact hl) hks (Py.Vals.pick (Vals.append r1 rz) perm) ⟨m2, S2, permute perm (as ++ bs), sr2, al_move I2 (al5.perm (by rw [List.length_append, al2, al4]; exact hp)), q3⟩
  refine wpAny_Call_Name_kw (ld_glob I g1 hm ?_ g2)
  have start : KG W E m H (AL W (jX X)) (evAs (run W.T k) es ρ S) (fun vs H1 => vs.length = xs.length ∧ ∃ m1 as S1, Le m H m1 H1 ∧ SR W m1 H1 S1 ∧ AL W (jX X) m1 H1 as vs ∧ as.length = es.len ∧ KG W E m1 H1 (Rep W) ((evAs (run W.T k) fs ρ S1).bind fun bs S => run W.T k (.fn g) (permute perm (as ++ bs)) S) Q) := by
    cases e : evAs (run W.T k) es ρ S with
    | ok as S1 =>
      rw [e] at h
      exact fun vs H1 m1 le sr al => ⟨by rw [← al.length, evAs_len es e]; exact l1, m1, as, S1, le, sr, al, evAs_len es e, KG.mono le h⟩
    | exc _ _ _ => rw [e] at h; exact h
    | bad => rw [e] at h; exact h
  cases xs with
  | nil =>
    have he : es = .nil := by
      cases es with
      | nil => rfl
      | cons _ _ _ => simp [MEs.len] at l1
    subst he
    simp only [evAs] at start
    refine PySem.W.callWith_KW0 (h₀ := X.base) I.ok.mod.kin hkeep k1 ?_ (by show (false || _) = false; rw [k3]; rfl)
    exact goal [] s ⟨[], H, I, .nil, start.ok sr (by simp only [AL])⟩
  | cons ea rest =>
    simp only [List.any_cons, Bool.or_eq_false_iff] at hs
    have hst := star_no hs.1 rest X.env
    refine PySem.W.callWith_KW (h₀ := X.base) I.ok.mod.kin hkeep k1 (thn ((ha X c E tk).run pos pins s σ H _ I ⟨m, S, ρ, sr, er, start⟩) fun us s1 hq => goal us s1 hq) ?_ hst
    have := star_any (es := ea :: rest) (by simp [hs]) X.env pos
    rw [this, k3]
    rfl
end
end Py
end

section
set_option Elab.async false
set_option linter.all false
set_option maxRecDepth 100000
namespace Py
open PySem PySem.Spec PyProof.Rows L2
section
variable {W : Wd} {m m0 : List Addr} {H H0 : Hp} {S S0 : Py.St} {n : Nat}
/-! ### the end of a call -/
theorem take_at {α : Type} {m : List α} {k n : Nat} (h : k < n) : (m.take n)[k]? = m[k]? := List.getElem?_take_of_lt h
section
variable {m2 : List Addr} (hs : ∀ b ∈ m2, b ∈ m) (ha : ∀ k, k < n → m2[k]? = m[k]?)
include hs ha
mutual
theorem rep_sub : ∀ (d : D) (v : V), d.wf n = true → Rep W m H d v → Rep W m2 H d v
  | .non, _, _, r | .bl _, _, _, r | .int _, _, _, r | .str _, _, _, r | .fn _, _, _, r => by simpa only [Rep] using r
  | .tup xs, v, h, r => by
    simp only [Rep] at r ⊢
    obtain ⟨a, vs, e, h1, h2⟩ := r
    exact ⟨a, vs, e, h1, rep_subs xs vs (by simpa only [D.wf] using h) h2⟩
  | .lst xs, v, h, r => by
    simp only [Rep] at r ⊢
    obtain ⟨a, vs, e, h1, hn, h2⟩ := r
    exact ⟨a, vs, e, h1, fun z => hn (hs _ z), rep_subs xs vs (by simpa only [D.wf] using h) h2⟩
  | .dct false kvs, v, h, r => by
    simp only [Rep] at r ⊢
    obtain ⟨a, ks, e, hn, h1, h2, h3⟩ := r
    exact ⟨a, ks, e, fun z => hn (hs _ z), h1, h2, rep_subk kvs _ (by simpa only [D.wf] using h) h3⟩
  | .dct true kvs, v, h, r => by
    simp only [Rep] at r ⊢
    obtain ⟨a, ks, e, hn, h1, h2, h3⟩ := r
    exact ⟨a, ks, e, fun z => hn (hs _ z), h1, h2, rep_subk kvs _ (by simpa only [D.wf] using h) h3⟩
  | .ins c fs, v, h, r => by
    simp only [Rep] at r ⊢
    obtain ⟨a, dx, ns, e, h1, hn, h2, h3⟩ := r
    exact ⟨a, dx, ns, e, h1, fun z => hn (hs _ z), h2, rep_subs fs _ (by simpa only [D.wf] using h) h3⟩
  | .loc k, v, h, r => by
    simp only [Rep] at r ⊢
    obtain ⟨a, e1, e2⟩ := r
    simp only [D.wf, decide_eq_true_eq] at h
    exact ⟨a, by rw [ha k h]; exact e1, e2⟩
theorem rep_subs : ∀ (ds : List D) (vs : List V), D.wfL n ds = true → RepL W m H ds vs → RepL W m2 H ds vs
  | [], _, _, r => by simpa only [RepL] using r
  | d :: ds, vs, h, r => by
    simp only [RepL] at r ⊢
    simp only [D.wfL, Bool.and_eq_true] at h
    obtain ⟨v, q, e, r1, r2⟩ := r
    exact ⟨v, q, e, rep_sub d v h.1 r1, rep_subs ds q h.2 r2⟩
theorem rep_subk : ∀ (ds : List (D × D)) (vs : List V), D.wfK n ds = true → RepV W m H ds vs → RepV W m2 H ds vs
  | [], _, _, r => by simpa only [RepV] using r
  | (k, d) :: ds, vs, h, r => by
    simp only [RepV] at r ⊢
    simp only [D.wfK, Bool.and_eq_true] at h
    obtain ⟨v, q, e, r1, r2⟩ := r
    exact ⟨v, q, e, rep_sub d v h.1.2 r1, rep_subk ds q h.2 r2⟩
end
end
theorem rep_cut (d : D) (v : V) (h : d.wf n = true) (r : Rep W m H d v) : Rep W (m.take n) H d v := rep_sub (fun _ => List.mem_of_mem_take) (fun _ h => take_at h) d v h r
/-- a key has no place within -/
theorem keyK_wf {k : D} {q : Key} (h : keyK k = some q) : k.wf n = true := by
  cases k <;> simp only [keyK] at h <;> first | rfl | (cases h; done) | simp [D.wf]
theorem keyL_wf : ∀ {ks : List D} {q : List Key}, mapO keyK ks = some q → D.wfL n ks = true
  | [], _, _ => rfl
  | k :: ks, q, h => by
    simp only [mapO] at h
    split at h <;> cases h
    rename_i h1 h2
    simp only [D.wfL, Bool.and_eq_true]
    exact ⟨keyK_wf h1, keyL_wf h2⟩
theorem keyKs_wf {k : D} {q : List Key} (h : keyKs k = some q) : k.wf n = true := by
  cases k <;> first | (simp only [keyKs] at h; cases h; done) | skip
  simp only [D.wf]
  exact keyL_wf (keyKs_tup h).1
theorem keys_all {κ : Type} {f : D → Option κ} (hf : ∀ k q, f k = some q → k.wf n = true) : ∀ {kvs : List (D × D)} {ks : List (κ × V)}, kvs.map (fun p => f p.1) = ks.map (fun p => some p.1) → ∀ p ∈ kvs, p.1.wf n = true
  | [], _, _, p, hp => by cases hp
  | (k, d) :: kvs, [], h, _, _ => by simp at h
  | (k, d) :: kvs, (q, v) :: ks, h, p, hp => by
    simp only [List.map_cons, List.cons.injEq] at h
    rcases List.mem_cons.mp hp with e | hp
    · subst e; exact hf k q h.1
    · exact keys_all hf h.2 p hp
mutual
/-- what is told lies below the places -/
theorem wf_of : ∀ (d : D) (v : V), Rep W m H d v → d.wf m.length = true
  | .non, _, _ | .bl _, _, _ | .int _, _, _ | .str _, _, _ | .fn _, _, _ => by simp [D.wf]
  | .tup xs, v, r => by
    simp only [Rep] at r
    obtain ⟨a, vs, e, h1, h2⟩ := r
    simp only [D.wf]; exact wf_ofs xs vs h2
  | .lst xs, v, r => by
    simp only [Rep] at r
    obtain ⟨a, vs, e, h1, hn, h2⟩ := r
    simp only [D.wf]; exact wf_ofs xs vs h2
  | .dct false kvs, v, r => by
    simp only [Rep] at r
    obtain ⟨a, ks, e, hn, h1, h2, h3⟩ := r
    simp only [D.wf]; exact wf_ofk kvs _ (keys_all (fun _ _ => keyK_wf) h2) h3
  | .dct true kvs, v, r => by
    simp only [Rep] at r
    obtain ⟨a, ks, e, hn, h1, h2, h3⟩ := r
    simp only [D.wf]; exact wf_ofk kvs _ (keys_all (fun _ _ => keyKs_wf) h2) h3
  | .ins c fs, v, r => by
    simp only [Rep] at r
    obtain ⟨a, dx, ns, e, h1, hn, h2, h3⟩ := r
    simp only [D.wf]; exact wf_ofs fs _ h3
  | .loc k, v, r => by
    simp only [Rep] at r
    obtain ⟨a, e1, e2⟩ := r
    simp only [D.wf, decide_eq_true_eq]
    exact (List.getElem?_eq_some_iff.mp e1).1
theorem wf_ofs : ∀ (ds : List D) (vs : List V), RepL W m H ds vs → D.wfL m.length ds = true
  | [], _, _ => rfl
  | d :: ds, vs, r => by
    simp only [RepL] at r
    obtain ⟨v, q, e, r1, r2⟩ := r
    simp only [D.wfL, Bool.and_eq_true]
    exact ⟨wf_of d v r1, wf_ofs ds q r2⟩
theorem wf_ofk : ∀ (ds : List (D × D)) (vs : List V), (∀ p ∈ ds, p.1.wf m.length = true) → RepV W m H ds vs → D.wfK m.length ds = true
  | [], _, _, _ => rfl
  | (k, d) :: ds, vs, h, r => by
    simp only [RepV] at r
    obtain ⟨v, q, e, r1, r2⟩ := r
    simp only [D.wfK, Bool.and_eq_true]
    exact ⟨⟨h _ (List.mem_cons_self ..), wf_of d v r1⟩, wf_ofk ds q (fun p hp => h p (List.mem_cons_of_mem _ hp)) r2⟩
end
/-- the content of what stands at a place lies below n -/
def O.wfc (n : Nat) : O → Bool
  | .lst xs => D.wfL n xs
  | .dct _ kvs _ => D.wfK n kvs
  | .ins _ fs => D.wfL n fs
theorem O.wfc_of {n : Nat} {o : O} (h : o.wf n = true) : o.wfc n = true := by
  cases o with
  | _ => exact h
theorem owf_of {o : O} {a : Addr} (r : ORep W m H o a) : o.wfc m.length = true := by
  cases o with
  | lst xs => obtain ⟨vs, _, h⟩ := r; exact wf_ofs xs vs h
  | dct t kvs lk =>
    cases t
    · obtain ⟨ks, _, h2, h3⟩ := r; exact wf_ofk kvs _ (keys_all (fun _ _ => keyK_wf) h2) h3
    · obtain ⟨ks, _, h2, h3⟩ := r; exact wf_ofk kvs _ (keys_all (fun _ _ => keyKs_wf) h2) h3
  | ins c fs => obtain ⟨dx, ns, _, _, h⟩ := r; exact wf_ofs fs _ h
theorem orep_sub {m2 : List Addr} (hs : ∀ b ∈ m2, b ∈ m) (ha : ∀ k, k < n → m2[k]? = m[k]?) {o : O} {a : Addr} (h : o.wfc n = true) (r : ORep W m H o a) : ORep W m2 H o a := by
  cases o with
  | lst xs => obtain ⟨vs, h1, h2⟩ := r; exact ⟨vs, h1, rep_subs hs ha xs vs h h2⟩
  | dct t kvs lk =>
    cases t
    · obtain ⟨ks, h1, h2, h3⟩ := r; exact ⟨ks, h1, h2, rep_subk hs ha kvs _ h h3⟩
    · obtain ⟨ks, h1, h2, h3⟩ := r; exact ⟨ks, h1, h2, rep_subk hs ha kvs _ h h3⟩
  | ins c fs => obtain ⟨dx, ns, h1, h2, h3⟩ := r; exact ⟨dx, ns, h1, h2, rep_subs hs ha fs _ h h3⟩
theorem orep_cut {o : O} {a : Addr} (h : o.wfc n = true) (r : ORep W m H o a) : ORep W (m.take n) H o a := orep_sub (fun _ => List.mem_of_mem_take) (fun _ h => take_at h) h r
theorem Le.cut (x : Le m0 H0 m H) : Le m0 H0 m0 H := ⟨List.prefix_refl _, fun _ h => .inl h, x.keep, x.keepD, x.frzs, x.tups, x.there⟩
theorem Le.take (x : Le m0 H0 m H) : m.take m0.length = m0 := by
  obtain ⟨t, rfl⟩ := x.pre
  simp
/-- what is written out tells the same -/
theorem mapO_rep {f : D → Option D} (hf : ∀ d v d', Rep W m H d v → f d = some d' → Rep W m0 H d' v) : ∀ {ds : List D} {vs : List V} {es : List D}, RepL W m H ds vs → mapO f ds = some es → RepL W m0 H es vs
  | [], vs, es, r, e => by
    simp only [mapO] at e; cases e
    simpa only [RepL] using r
  | d :: ds, vs, es, r, e => by
    simp only [mapO] at e
    split at e <;> cases e
    rename_i h1 h2
    simp only [RepL] at r ⊢
    obtain ⟨v, q, rfl, r1, r2⟩ := r
    exact ⟨v, q, rfl, hf d v _ r1 h1, mapO_rep hf r2 h2⟩
theorem frz_key {k k' : D} {f : Nat} (h : k.wf n = true) (e : frz n S f k = some k') : k' = k := by
  cases f with
  | zero => simp [frz] at e
  | succ f =>
    unfold frz at e
    rw [if_pos h] at e
    exact (Option.some.inj e).symm
theorem mapO_repV {κ : Type} {g : D → Option κ} {f : Nat} (hg : ∀ k q, g k = some q → k.wf n = true) (hf : ∀ d v d', Rep W m H d v → frz n S f d = some d' → Rep W m0 H d' v) : ∀ {ds : List (D × D)} {ks : List (κ × V)} {es : List (D × D)},
    ds.map (fun p => g p.1) = ks.map (fun p => some p.1) → RepV W m H ds (ks.map (·.2)) → mapO (fun p => match frz n S f p.1, frz n S f p.2 with
        | some a, some b => some (a, b)
        | _, _ => none) ds = some es → es.map (fun p => g p.1) = ks.map (fun p => some p.1) ∧ RepV W m0 H es (ks.map (·.2))
  | [], ks, es, hk, r, e => by
    simp only [mapO] at e; cases e
    exact ⟨hk, by simpa only [RepV] using r⟩
  | (k, d) :: ds, [], es, hk, r, e => by simp at hk
  | (k, d) :: ds, (q, v) :: ks, es, hk, r, e => by
    simp only [List.map_cons, List.cons.injEq] at hk
    simp only [List.map_cons, RepV] at r
    obtain ⟨v', w, ev, r1, r2⟩ := r
    obtain ⟨rfl, rfl⟩ := List.cons.inj ev
    simp only [mapO] at e
    split at e <;> cases e
    rename_i p1 es1 h1 h2
    split at h1 <;> cases h1
    rename_i k' d' e1 e2
    have := frz_key (hg k q hk.1) e1
    subst this
    obtain ⟨i1, i2⟩ := mapO_repV hg hf hk.2 r2 h2
    refine ⟨by simp only [List.map_cons, i1, hk.1], ?_⟩
    simp only [List.map_cons, RepV]
    exact ⟨v, _, rfl, hf d v d' r1 e2, i2⟩
theorem frz_keyF {f : Nat} {d d' : D} (e : frz n S f d = some d') : keyF d' = keyF d := by
  cases f with
  | zero => simp [frz] at e
  | succ f =>
    unfold frz at e
    split at e
    · cases e; rfl
    · cases d <;> simp only [Option.map_eq_some_iff] at e
      case loc k => split at e <;> first | (cases e; done) | (simp only [Option.map_eq_some_iff] at e; obtain ⟨_, _, rfl⟩ := e; rfl)
      all_goals first | (obtain ⟨_, _, rfl⟩ := e; rfl) | (cases e; rfl)
theorem mapO_keyish {f : D → Option D} (hf : ∀ d d', f d = some d' → keyF d' = keyF d) : ∀ {ds es : List D}, mapO f ds = some es → keyish es = keyish ds := by
  have all : ∀ {ds es : List D}, mapO f ds = some es → es.all keyF = ds.all keyF ∧ es.isEmpty = ds.isEmpty := by
    intro ds
    induction ds with
    | nil => intro es e; simp only [mapO] at e; cases e; exact ⟨rfl, rfl⟩
    | cons d ds ih =>
      intro es e
      simp only [mapO] at e
      split at e <;> cases e
      rename_i h1 h2
      exact ⟨by simp only [List.all_cons, hf _ _ h1, (ih h2).1], rfl⟩
  intro ds es e
  rw [keyish_keyT, keyish_keyT]
  simp only [keyT, (all e).1, (all e).2]
theorem frz_rep (sr : SR W m H S) : ∀ (f : Nat) (d : D) (v : V) (d' : D), Rep W m H d v → frz n S f d = some d' → Rep W (m.take n) H d' v
  | 0, d, v, d', _, e => by simp [frz] at e
  | f + 1, d, v, d', r, e => by
    have ih := fun d v d' => frz_rep sr f d v d'
    unfold frz at e
    split at e
    · rename_i h
      cases e
      exact rep_cut d v h r
    · rename_i hw
      cases d with
      | tup xs =>
        simp only [Option.map_eq_some_iff] at e
        obtain ⟨ys, e1, rfl⟩ := e
        obtain ⟨a, vs, rfl, h1, h2⟩ := rep_tup r
        exact .tup (by obtain ⟨o, q, h1⟩ := h1; exact ⟨o, q, by rw [mapO_keyish (fun _ _ => frz_keyF) e1]; exact h1⟩) (mapO_rep ih h2 e1)
      | lst xs =>
        simp only [Option.map_eq_some_iff] at e
        obtain ⟨ys, e1, rfl⟩ := e
        simp only [Rep] at r
        obtain ⟨a, vs, rfl, h1, hn, h2⟩ := r
        exact .lst h1 (fun z => hn (List.mem_of_mem_take z)) (mapO_rep ih h2 e1)
      | dct t kvs =>
        simp only [Option.map_eq_some_iff] at e
        obtain ⟨ys, e1, rfl⟩ := e
        cases t <;> simp only [Rep] at r ⊢ <;> obtain ⟨a, ks, rfl, hn, h1, h2, h3⟩ := r
        · obtain ⟨i1, i2⟩ := mapO_repV (fun _ _ => keyK_wf) ih h2 h3 e1
          exact ⟨a, ks, rfl, fun z => hn (List.mem_of_mem_take z), h1, i1, i2⟩
        · obtain ⟨i1, i2⟩ := mapO_repV (fun _ _ => keyKs_wf) ih h2 h3 e1
          exact ⟨a, ks, rfl, fun z => hn (List.mem_of_mem_take z), h1, i1, i2⟩
      | ins c fs =>
        simp only [Option.map_eq_some_iff] at e
        obtain ⟨ys, e1, rfl⟩ := e
        simp only [Rep] at r ⊢
        obtain ⟨a, dx, ns, rfl, h1, hn, h2, h3⟩ := r
        have h4 := mapO_rep ih h3 e1
        exact ⟨a, dx, ns, rfl, h1, fun z => hn (List.mem_of_mem_take z), by rw [h2, h4.length, h3.length], h4⟩
      | loc k =>
        simp only [Rep] at r
        obtain ⟨a, ha, rfl⟩ := r
        simp only [D.wf, decide_eq_true_eq] at hw
        have hout : a ∉ m.take n := fun z => by
          obtain ⟨i, hi⟩ := List.mem_iff_getElem?.mp z
          have hin : i < n := by
            have := (List.getElem?_eq_some_iff.mp hi).1
            rw [List.length_take] at this
            omega
          rw [take_at hin] at hi
          have := (List.getElem?_inj (List.getElem?_eq_some_iff.mp hi).1 sr.nd).mp (hi.trans ha.symm)
          omega
        simp only at e
        split at e
        · rename_i xs hs
          simp only [Option.map_eq_some_iff] at e
          obtain ⟨ys, e1, rfl⟩ := e
          obtain ⟨b, hb, vs, h1, h2⟩ := sr.at_ k _ hs
          rw [ha] at hb; cases hb
          exact .lst (.inl h1) hout (mapO_rep ih h2 e1)
        · rename_i t kvs lk hs
          simp only [Option.map_eq_some_iff] at e
          obtain ⟨ys, e1, rfl⟩ := e
          obtain ⟨b, hb, q⟩ := sr.at_ k _ hs
          rw [ha] at hb; cases hb
          cases t <;> simp only [Rep] <;> obtain ⟨ks, h1, h2, h3⟩ := q
          · obtain ⟨i1, i2⟩ := mapO_repV (fun _ _ => keyK_wf) ih h2 h3 e1
            refine ⟨a, ks, rfl, hout, ?_, i1, i2⟩
            split at h1
            · exact .inr h1
            · exact .inl h1
          · obtain ⟨i1, i2⟩ := mapO_repV (fun _ _ => keyKs_wf) ih h2 h3 e1
            refine ⟨a, ks, rfl, hout, ?_, i1, i2⟩
            split at h1
            · exact .inr h1
            · exact .inl h1
        · rename_i c fs hs
          simp only [Option.map_eq_some_iff] at e
          obtain ⟨ys, e1, rfl⟩ := e
          obtain ⟨b, hb, dx, ns, h1, h2, h3⟩ := sr.at_ k _ hs
          rw [ha] at hb; cases hb
          have h4 := mapO_rep ih h3 e1
          simp only [Rep]
          exact ⟨a, dx, ns, rfl, h1, hout, by rw [h2, h4.length, h3.length], h4⟩
        · cases e
      | non => cases e; simpa only [Rep] using r
      | bl b => cases e; simpa only [Rep] using r
      | int i => cases e; simpa only [Rep] using r
      | str s => cases e; simpa only [Rep] using r
      | fn g => cases e; simpa only [Rep] using r
/-- the state cut back -/
theorem sr_cut (sr0 : SR W m0 H0 S0) (le : Le m0 H0 m H) (sr : SR W m H S) (h : S.take S0.length = S0 ∨ (S.take S0.length).all (O.wf S0.length) = true) : SR W m0 H (S.take S0.length) := by
  have hl : m0.length = S0.length := sr0.len
  have ht : m.take S0.length = m0 := by rw [← hl]; exact le.take
  have hS : m0.length ≤ m.length := le.pre.length_le
  refine ⟨?_, sr0.nd, fun i o e => ?_, sr.tabs, fun p hp => Rep.mono le.cut _ _ (sr0.con p hp)⟩
  · rw [List.length_take, ← hl, ← sr.len]; omega
  · have hi : i < S0.length := by
      have := (List.getElem?_eq_some_iff.mp e).1
      rw [List.length_take] at this; omega
    have hw : o.wfc S0.length = true := by
      rcases h with h | h
      · rw [h] at e
        obtain ⟨a, _, r⟩ := sr0.at_ i o e
        rw [← hl]
        exact owf_of r
      · exact O.wfc_of (List.all_eq_true.mp h o (List.mem_of_getElem? e))
    rw [take_at hi] at e
    obtain ⟨a, ha, r⟩ := sr.at_ i o e
    refine ⟨a, by rw [← ht, take_at hi]; exact ha, ?_⟩
    rw [← ht]
    exact orep_cut hw r
theorem wfc_old (sr0 : SR W m0 H0 S0) (h : S.take S0.length = S0 ∨ (S.take S0.length).all (O.wf S0.length) = true) {i : Nat} {o : O} (e : S[i]? = some o) (hi : i < S0.length) : o.wfc S0.length = true := by
  rw [← take_at hi] at e
  rcases h with h | h
  · rw [h] at e
    obtain ⟨a, _, r⟩ := sr0.at_ i o e
    rw [← sr0.len]
    exact owf_of r
  · exact O.wfc_of (List.all_eq_true.mp h o (List.mem_of_getElem? e))
theorem close_ok {E : XK} {r : Res D} {Q : VK} (sr0 : SR W m0 H0 S0) (h : KG W E m0 H0 (Rep W) (closeC S0 r) Q) : KG W E m0 H0 (Rep W) r Q := by
  cases r with
  | bad => exact h
  | ok d S1 =>
    intro v H' m' le sr rr
    simp only [closeC] at h
    by_cases c1 : S1.length ≤ S0.length
    · rw [if_pos c1] at h
      exact h v H' m' le sr rr
    · rw [if_neg c1] at h
      by_cases hs : S1.take S0.length = S0 ∨ (S1.take S0.length).all (O.wf S0.length) = true
      · rw [if_pos hs] at h
        obtain ⟨d', e, q⟩ := h.opt
        have ht : m'.take S0.length = m0 := by rw [← sr0.len]; exact le.take
        refine q v H' m0 le.cut (sr_cut sr0 le sr hs) ?_
        rw [← ht]
        exact frz_rep sr 100 d v d' rr e
      · rw [if_neg hs] at h
        exact h.elim
  | exc c fs S1 =>
    intro dx H' m' le sr rr
    simp only [closeC] at h
    by_cases c1 : S1.length ≤ S0.length
    · rw [if_pos c1] at h
      exact h dx H' m' le sr rr
    · rw [if_neg c1] at h
      by_cases hs : S1.take S0.length = S0 ∨ (S1.take S0.length).all (O.wf S0.length) = true
      · rw [if_pos hs] at h
        cases e : mapO (frz S0.length S1 100) fs with
        | none => rw [e] at h; exact h.elim
        | some gs =>
          rw [e] at h
          have ht : m'.take S0.length = m0 := by rw [← sr0.len]; exact le.take
          refine h dx H' m0 le.cut (sr_cut sr0 le sr hs) ?_
          match fs, gs, e, rr with
          | [], gs, e, rr => simp only [mapO] at e; cases e; exact rr
          | [d], gs, e, rr =>
            simp only [mapO] at e
            split at e <;> cases e
            rename_i z w h1 h2
            cases h2
            obtain ⟨a, v, e1, e2, e3⟩ := rr
            refine ⟨a, v, e1, e2, ?_⟩
            rw [← ht]
            exact frz_rep sr 100 d v _ e3 h1
          | _ :: _ :: _, _, _, rr => exact rr.elim
      · rw [if_neg hs] at h
        exact h.elim
theorem closeK_ok {E : XK} {r : Res D} {Q : VK} (sr0 : SR W m0 H0 S0) (h : KG W E m0 H0 (Rep W) (closeK S0 r) Q) : KG W E m0 H0 (Rep W) r Q := by
  cases r with
  | bad => exact h
  | exc _ _ _ => exact h.elim
  | ok d S1 =>
    intro v H' m' le sr rr
    cases d with
    | loc k =>
      simp only [closeK] at h
      by_cases hk : S0.length ≤ k ∧ (S1.take S0.length = S0 ∨ (S1.take S0.length).all (O.wf S0.length) = true)
      · rw [if_pos hk] at h
        obtain ⟨hk, hs⟩ := hk
        cases ho : S1[k]? with
        | none => rw [ho] at h; exact h.elim
        | some o =>
          rw [ho] at h
          simp only at h
          by_cases hw : o.wf S0.length = true
          · rw [if_pos hw] at h
            obtain ⟨a, ha, r⟩ := sr.at_ k o ho
            simp only [Rep] at rr
            obtain ⟨a', ha', rfl⟩ := rr
            rw [ha] at ha'; cases ha'
            have ht : m'.take S0.length = m0 := by rw [← sr0.len]; exact le.take
            have hn : a ∉ m0 := fun z => by
              obtain ⟨i, hi⟩ := List.mem_iff_getElem?.mp z
              have hin : i < S0.length := by rw [← sr0.len]; exact (List.getElem?_eq_some_iff.mp hi).1
              rw [← ht, take_at hin] at hi
              have := (List.getElem?_inj (List.getElem?_eq_some_iff.mp hi).1 sr.nd).mp (hi.trans ha.symm)
              omega
            have h0 : H0 a = none := (le.new a (List.mem_of_getElem? ha)).resolve_left hn
            have le2 : Le m0 H0 (m0 ++ [a]) H' := ⟨List.prefix_append _ _, fun b hb => (List.mem_append.mp hb).elim .inl fun z => .inr (by rw [List.mem_singleton.mp z]; exact h0), le.keep, le.keepD, le.frzs, le.tups, le.there⟩
            have sub : ∀ b ∈ m0 ++ [a], b ∈ m' := fun b hb => (List.mem_append.mp hb).elim (fun z => List.mem_of_mem_take (by rw [ht]; exact z)) fun z => by rw [List.mem_singleton.mp z]; exact List.mem_of_getElem? ha
            have at2 : ∀ i, i < S0.length → (m0 ++ [a])[i]? = m'[i]? := fun i hi => by
              rw [List.getElem?_append_left (by rw [sr0.len]; exact hi), ← ht, take_at hi]
            refine h (.ref a) H' (m0 ++ [a]) le2 ⟨?_, ?_, fun i ob e => ?_, sr.tabs, fun p hp => ?_⟩ ?_
            · have := le.pre.length_le
              simp only [List.length_append, List.length_take, List.length_singleton]
              rw [sr0.len, ← sr.len]
              rw [sr0.len] at this
              omega
            · rw [List.nodup_append]
              exact ⟨sr0.nd, by simp, fun b hb c hc => by rw [List.mem_singleton.mp hc]; exact fun z => hn (z ▸ hb)⟩
            · have hlen : (S1.take S0.length).length = S0.length := by
                have := le.pre.length_le
                rw [List.length_take, ← sr.len]
                rw [sr0.len] at this
                omega
              by_cases hi : i < S0.length
              · rw [List.getElem?_append_left (by rw [hlen]; exact hi), take_at hi] at e
                obtain ⟨b, hb, q⟩ := sr.at_ i ob e
                exact ⟨b, by rw [at2 i hi]; exact hb, orep_sub sub at2 (wfc_old sr0 hs e hi) q⟩
              · rw [List.getElem?_append_right (by rw [hlen]; omega), hlen] at e
                have hz : i - S0.length = 0 := by
                  cases q : i - S0.length with
                  | zero => rfl
                  | succ z => rw [q] at e; simp at e
                rw [hz] at e
                simp at e
                subst e
                refine ⟨a, ?_, orep_sub sub at2 (O.wfc_of hw) r⟩
                have hi' : i = m0.length := by rw [sr0.len]; omega
                rw [hi']; simp
            · have := wf_of p.1 _ (sr0.con p hp)
              rw [sr0.len] at this
              exact rep_sub sub at2 p.1 _ this (sr.con p hp)
            · simp only [Rep]
              exact ⟨a, by rw [← sr0.len]; simp, rfl⟩
          · rw [if_neg hw] at h
            exact h.elim
      · rw [if_neg hk] at h
        exact h.elim
    | _ => exact h.elim
end
end Py
end

section
set_option Elab.async false
set_option linter.all false
set_option maxRecDepth 100000
set_option maxHeartbeats 4000000
namespace Py
open PySem PySem.Spec PyProof.Rows L2
/-- the class has no own != : it asks == -/
theorem ne_own {P : Program} {w : World} {A : Around} {E : Value → Shared → Prop} {s : Shared} {K : PySem.W.Frag} {x y C f : Addr} {ox : Obj} {od : Option Obj} {Q : Value → Shared → Prop} (ki : K.In s.heap) (I : PySem.W.InstAt s.heap x ox C od) (hy : PySem.W.Looks (model P w) s.heap (typeOf (.ref y)) (.ref C))
    (hm : PySem.W.mroIn K C (.type "object") = some true) (hn : PySem.W.findIn K (.ref C) "__ne__" = some (some (.builtin "object.__ne__"))) (he : PySem.W.findIn K (.ref C) "__eq__" = some (some (.ref f))) (hf : PySem.W.isFn K (.ref f) = true) (hu : A.units + 1 < cLine)
    (run : wpAny (model P w) A.in1 (call (.ref f) [.ref x, .ref y]) (fun v t => ∃ b, v = .bool b ∧ Q (.bool (!b)) t) E s) : wpAny (model P w) A (compareOp .NotEq (.ref x) (.ref y)) Q E s := by
  obtain ⟨hp, gs, dr, tn, os⟩ := s
  have inner : ∀ {R : PySem.Fin → Shared → Prop}, wpAny (model P w) A.in1 (call (.ref f) [.ref x, .ref y]) (fun v t => ∃ b, v = .bool b ∧ R (.done (.ret (.bool (!b)))) t) E ⟨hp, gs, dr, tn, os⟩ → wpAny (model P w) A.in1 (Builtin.«object.__ne__» ⟨[.ref x, .ref y], []⟩) R E ⟨hp, gs, dr, tn, os⟩ := fun {R} h => by
    have hu1 : A.in1.units < cLine := hu
    unfold Builtin.«object.__ne__»
    repeat (first
      | with_reducible refine wpAny_cRoomFor hu1 ?_
      | (refine wpAny_bind (m := callSpecialIfBound? (.ref x) (Str.ofString "__eq__") [.ref y]) (PySem.W.ifBound_K ki I he hf (wpAny_mono h (fun v t z => by
          obtain ⟨b, rfl, z⟩ := z
          repeat (first | exact z | exact wpAny_pure z | exact wpAny_truthy_bool z | (refine wpAny_bind (m := truthy (.bool _)) (wpAny_truthy_bool ?_)) | wp_step)) fun _ _ z => z)))
      | wp_step)
  have built : wpAny (model P w) A (call (.builtin "object.__ne__") (.ref x :: [.ref y])) (fun v t => Q v t ∧ v ≠ .notImplemented) E ⟨hp, gs, dr, tn, os⟩ := by
    refine wpAny_call (codeAny_call_builtin F.cmp_object.ne.plain F.cmpEntry_ne (PySem.W.check_slot F.cmpKind_ne F.cmpSplit_ne (I.type.andThen (PySem.W.looks_mroIn ki hm)) (F.cmpArgs_ne _ _) (inner (wpAny_mono run (fun v t z => ?_) fun _ _ z => z))))
    obtain ⟨b, rfl, z⟩ := z
    exact ⟨b, rfl, z, nofun⟩
  have one : wpAny (model P w) A (tryCompare (.ref x) "__ne__" (.ref y)) (fun r t => ∃ v, r = some v ∧ Q v t) E ⟨hp, gs, dr, tn, os⟩ := by
    unfold tryCompare
    refine wpAny_bind ?_
    simp only [callSpecialIfBound?, bindSpecialIfBound?]
    refine wpAny_holding (wpAny_bind (wpAny_bind (wpAny_bind (I.type.here ((PySem.W.looks_findIn ki hn).here ?_)))))
    refine wpAny_bind (wpAny_askSetting (wpAny_ite ?_))
    have fin : wpAny (model P w) A (call (.builtin "object.__ne__") ([.ref x] ++ [.ref y]) >>= fun v => pure (some v)) (fun r t => wpAny (model P w) A (match r with
        | some .notImplemented => pure none
        | none => pure none
        | some z => pure (some z)) (fun r t => ∃ v, r = some v ∧ Q v t) E t) E ⟨hp, gs, dr, tn, os⟩ := wpAny_bind (wpAny_mono built (fun v t z => wpAny_pure (by
          obtain ⟨z1, z2⟩ := z
          cases v <;> first | exact absurd rfl z2 | exact wpAny_pure ⟨_, rfl, z1⟩)) fun _ _ z => z)
    split
    · exact wpAny_bind (wpAny_of_eq (F.cmp_object.ne.bind _) (wpAny_pure (by exact fin)))
    · exact wpAny_tryCatch (wpAny_bind (wpAny_of_eq (F.cmp_object.ne.bind _) (wpAny_pure (by exact fin))))
  show wpAny _ _ (richCompare .NotEq (.ref x) (.ref y)) _ _ _
  unfold richCompare
  simp only [oneThing_ref]
  refine wpAny_holding (wpAny_bind (wpAny_cRoomFor (by omega) ?_))
  refine wpAny_bind (I.type.here (wpAny_bind (hy.here ?_)))
  rw [cmpInfo_NotEq]
  dsimp only
  rw [show (Value.ref C != Value.ref C) = false by simp]
  simp only [Bool.false_eq_true, if_false]
  refine wpAny_bind (wpAny_pure ?_)
  simp only [Bool.false_eq_true, if_false]
  refine wpAny_bind (wpAny_mono one (fun r t z => ?_) fun _ _ z => z)
  obtain ⟨v, rfl, z⟩ := z
  first | exact wpAny_pure z | exact wpAny_pure (wpAny_pure z)
end Py
end

section
set_option Elab.async false
set_option linter.all false
set_option maxRecDepth 100000
namespace Py
open PySem PySem.Spec PyProof.Rows L2
section
variable {W : Wd} {k : Nat} {ways : Nat → List Way} {Γ : Gam} {m : List Addr} {H : Hp} {S : Py.St}
/-- an instance, a place or not -/
theorem rep_ins {d : D} {v : V} {c : Nat} {fs : List D} (sr : SR W m H S) (r : Rep W m H d v) (h : vw S d = .ins c fs) : ∃ a dx ns, v = .ref a ∧ H a = some (.ins (W.ca c) dx ns) ∧ ns.map (·.1) = (W.cf c).take fs.length ∧ RepL W m H fs (ns.map (·.2)) := by
  cases d with
  | loc n =>
    rw [vw_loc] at h
    simp only [Rep] at r
    obtain ⟨a, ha, rfl⟩ := r
    split at h <;> try cases h
    rename_i e
    obtain ⟨b, hb, dx, ns, h1, h2, h3⟩ := sr.at_ n _ e
    rw [ha] at hb; cases hb
    exact ⟨a, dx, ns, rfl, h1, h2, h3⟩
  | ins c' fs' =>
    cases (show D.ins c' fs' = D.ins c fs from h)
    simp only [Rep] at r
    obtain ⟨a, dx, ns, e, h1, _, h2, h3⟩ := r
    exact ⟨a, dx, ns, e, h1, h2, h3⟩
  | _ => cases h
/-! ### promises over data alone -/
def spD (W : Wd) (ps : List Str) (r : List (Option Ag) → Py.St → Res D) : Sp := fun vs H Q E => vs.length = ps.length ∧ ∃ m S ds, SR W m H S ∧ RepL W m H ds vs ∧ KG W E m H (Rep W) (r (ds.map fun d => some (.d d)) S) Q
theorem al_data {j : Sd} {m : List Addr} {H : Hp} : ∀ {ds : List D} {vs : List V}, RepL W m H ds vs → AL W j m H (ds.map fun d => some (.d d)) vs
  | [], _, h => by simp only [RepL] at h; simp only [List.map_nil, AL]; exact h
  | d :: ds, _, h => by
    simp only [RepL] at h
    obtain ⟨v, r, rfl, h1, h2⟩ := h
    simp only [List.map_cons, AL]
    exact ⟨v, r, rfl, ⟨_, rfl, h1⟩, al_data h2⟩
theorem FnS.ok {P : Program} {w : World} {K : PySem.W.Frag} {mg : Str → Option Value} {base : Heap} {lv : Nat} {f : Addr} {fd : FuncData} {ps : List Str} {r : List (Option Ag) → Py.St → Res D} (F : FnS W P w K mg base lv f fd ps r) : FnOk P w K mg base (L2.CX P w) lv f fd ps (spD W ps r) :=
  ⟨fun vs H Q E h => h.1, fun A outer s H args us vs Q E hr e0 hb rv ⟨hl, m, S, ds, sr, rl, h⟩ => F A outer s H args us vs Q E hr e0 hb rv hl ⟨m, S, _, sr, al_data rl, h⟩⟩
/-- a call in any surroundings of a body -/
theorem call_in {X : Cx} {A : Around} {f : Addr} {fd : FuncData} {ps : List Str} {r : List (Option Ag) → Py.St → Res D} {E : XK} {lv : Nat} (F : FnS W X.prog X.w X.K X.mg X.base lv f fd ps r) (hr : Room lv A) (tk : tkE X E) {n : Nat} (hy : WayOk X.K fd ps (n, [], []))
    {pins : List (Addr × Obj)} {σ : L2.St} {H : Hp} {s : Shared} {Q : VK} {us : List Value} {vs : List V} {ds : List D} (I : Inv X pins σ H s) (e0 : Env0 X.prog X.w X.K X.mg X.base A X.stack s H) (h1 : us.length = n) (rv : Vals vs us) {m : List Addr} {S : Py.St} (sr : SR W m H S) (rl : RepL W m H ds vs)
    (h : KG W E m H (Rep W) (r (ds.map fun d => some (.d d)) S) Q) : wpAny (model X.prog X.w) A (call (.ref f) us) (EP X pins σ Q) X.xe s := by
  obtain ⟨b1, b2⟩ := hy s us [] I.kIn h1 rfl
  rw [List.append_nil] at b1 b2
  refine wpAny_call (codeAny_mono (F A X.stack s H _ _ vs Q E hr e0 b1 rv (rv.length.trans b2) ⟨m, S, _, sr, al_data rl, h⟩) fun r s' hq => ?_)
  cases r with
  | error e => exact passes_call (E := E) tk (fun _ _ _ _ z => z) pins σ H s e s' I hq
  | ok fl => cases fl <;> first | exact hq.elim | exact I.after hq
/-! ### attributes -/
def noCall : Expr → Bool
  | .Call .. => false
  | _ => true
theorem base_of {e : Expr} (h : noCall e = true) (f : Str) (env : PySem.Env) (wh : Sem Value) : attributeBase e f env wh = wh := by
  cases e <;> first | rfl | cases h
theorem base_call {nm : Expr} {es : List Expr} {kws : List Keyword} {p : Pos} (h : (es.isEmpty && kws.isEmpty) = false) (f : Str) (env : PySem.Env) (wh : Sem Value) : attributeBase (.Call nm es kws p) f env wh = wh := by
  cases es <;> cases kws <;> first | (cases h; done) | skip
  all_goals cases nm <;> rfl
def plainB : Expr → Bool
  | .Call _ es kws _ => !(es.isEmpty && kws.isEmpty)
  | _ => true
theorem base_ok {e : Expr} (h : plainB e = true) (f : Str) (env : PySem.Env) (wh : Sem Value) : attributeBase e f env wh = wh := by
  cases e <;> first | rfl | skip
  rename_i nm es kws p
  have h : (!(es.isEmpty && kws.isEmpty)) = true := h
  exact base_call (by simpa only [Bool.not_eq_true'] using h) f env wh
theorem Le.none0 : True := trivial
/-- the i-th field -/
theorem look_fld {N : List Str} (nd : N.Nodup) : ∀ {ns : List (Str × V)} {n i : Nat} {f : Str} {v : V}, ns.map (·.1) = N.take n → N[i]? = some f → (ns.map (·.2))[i]? = some v → ns.lookup f = some v := by
  intro ns
  induction ns generalizing N with
  | nil => intro n i f v _ _ h; simp at h
  | cons p ns ih =>
    intro n i f v h1 h2 h3
    obtain ⟨x, y⟩ := p
    cases n with
    | zero => simp at h1
    | succ n =>
      cases N with
      | nil => simp at h1
      | cons z N =>
        simp only [List.map_cons, List.take_succ_cons, List.cons.injEq] at h1
        obtain ⟨e, h1⟩ := h1
        subst e
        cases i with
        | zero =>
          simp at h2 h3
          subst h2 h3
          simp [List.lookup]
        | succ i =>
          simp at h2 h3
          have hne : f ≠ x := fun z => by
            subst z
            exact (List.nodup_cons.mp nd).1 (List.mem_of_getElem? h2)
          rw [List.lookup_cons, beq_eq_false_iff_ne.mpr hne]
          exact ih (List.nodup_cons.mp nd).2 h1 h2 (by simpa using h3)
def altA (W : Wd) (f : Str) (p : Nat × (Nat ⊕ Nat)) : Bool := match W.ci p.1 with
  | none => false
  | some ci => match p.2 with
    | .inl i => decide (ci.fields[i]? = some f) && (decide (f ∈ ci.no) && decide (ci.fields.Nodup))
    | .inr g => decide (ci.props.lookup f = some g)
theorem lookup_all {α : Type} {p : Nat × α → Bool} : ∀ {l : List (Nat × α)} {c : Nat} {z : α}, l.all p = true → l.lookup c = some z → p (c, z) = true
  | [], _, _, _, h => by simp at h
  | (d, y) :: l, c, z, ha, h => by
    simp only [List.all_cons, Bool.and_eq_true] at ha
    rw [List.lookup_cons] at h
    by_cases e : c = d
    · subst e
      simp at h
      subst h
      exact ha.1
    · rw [beq_eq_false_iff_ne.mpr e] at h
      exact lookup_all ha.2 h
theorem r_attr {a : ME} {alts : List (Nat × (Nat ⊕ Nat))} {ea : Expr} {f : Str} {p : Pos} (hc : Γ.calm = true) (hb : plainB ea = true) (hal : alts.all (altA W f) = true)
    (hw : ∀ c g, alts.lookup c = some (.inr g) → (∃ F, W.T g = some F) ∧ (1, [], []) ∈ ways g) (ha : SE W k ways Γ a ea) : SE W k ways Γ (.attr a alts) (.Attribute ea f p) := fun X c E tk => by
  refine ⟨fun pins s σ H Q I h => ?_⟩
  obtain ⟨m, S, ρ, sr, er, h⟩ := h
  simp only [evE] at h
  refine attr_of (base_ok hb _ _ _) (thn ((ha X c E tk).run pins s σ H _ I ⟨m, S, ρ, sr, er, h.bind⟩) fun u s1 ⟨x, H1, I1, ru, m1, dx, S1, le1, sr1, rx, h1⟩ => ?_)
  split at h1
  · rename_i cc fs hv
    obtain ⟨ad, dd, ns, rfl, e1, e2, e3⟩ := rep_ins sr1 rx hv
    obtain rfl : u = Value.ref ad := ru
    split at h1
    · rename_i i hi
      have hq := lookup_all hal hi
      unfold altA at hq
      cases hci : W.ci cc with
      | none => rw [show W.ci (cc, (Sum.inl i : Nat ⊕ Nat)).1 = W.ci cc from rfl, hci] at hq; cases hq
      | some ci =>
        rw [show W.ci (cc, (Sum.inl i : Nat ⊕ Nat)).1 = W.ci cc from rfl, hci] at hq
        simp only [Bool.and_eq_true, decide_eq_true_eq] at hq
        obtain ⟨q1, q2, q3⟩ := hq
        have C := c.calls.cls cc ci hci
        obtain ⟨d, ed, hq⟩ := h1.opt
        obtain ⟨v, ev, rv⟩ := e3.at ed
        rw [C.cf] at e2
        exact getattr_ok I1 e1 C.cls (C.no f q2) (look_fld q3 e2 q1 ev) fun u' s2 I2 ru' => ⟨v, H1, I2, ru', hq v H1 m1 .refl sr1 rv⟩
    · rename_i g hi
      have hq := lookup_all hal hi
      unfold altA at hq
      cases hci : W.ci cc with
      | none => rw [show W.ci (cc, (Sum.inr g : Nat ⊕ Nat)).1 = W.ci cc from rfl, hci] at hq; cases hq
      | some ci =>
        rw [show W.ci (cc, (Sum.inr g : Nat ⊕ Nat)).1 = W.ci cc from rfl, hci] at hq
        simp only [decide_eq_true_eq] at hq
        have C := c.calls.cls cc ci hci
        obtain ⟨pa, hp⟩ := C.prop f g hq
        obtain ⟨⟨F, hF⟩, hway⟩ := hw cc g hi
        obtain ⟨fd, F1, _, hys⟩ := c.calls.fn g F hF
        obtain ⟨_, hroom⟩ := c.calm hc
        have hlen : 1 = (F.ps.map sOf).length := (hys _ hway s1 [Value.none] [] I1.kIn rfl rfl).2
        have bnd : L2.Binds X.K fd (F.ps.map sOf) [] := fun s us ki hl => by
          rw [List.append_nil] at hl ⊢
          have := (hys _ hway s us [] ki (by rw [hl, ← hlen]) rfl).1
          rw [List.append_nil] at this
          exact this
        refine getprop_ok (E := fun _ _ _ => False) (dvs := []) (ds := []) I1 e1 C.cls hp F1.ok (hroom.mono (by omega)) bnd .nil ?_ ⟨hlen, m1, S1, [dx], sr1, RepL.one rx, h1.noX⟩
        intro _ _ _ _ _ _ _ cx
        obtain ⟨_, _, _, _, _, _, _, _, _, _, _, _, z⟩ := cx
        exact z
    · exact h1.elim
  · exact h1.elim

/-! ### C(..) -/
theorem make_run {X : Cx} {c : Nat} {ci : CI} {F : Fun} {fd : FuncData} {E : XK} (C : ClsC W X.K c ci) (F1 : FnS W X.prog X.w X.K X.mg X.base (3 * k) (W.fa ci.init) fd (F.ps.map sOf) (fun as S => run W.T k (.fn ci.init) as S)) (hr : Room (3 * k + 1) X.A) (tk : tkE X E) {n : Nat} (hy : WayOk X.K fd (F.ps.map sOf) (n + 1, [], []))
    {pins : List (Addr × Obj)} {σ : L2.St} {H : Hp} {s : Shared} {Q : VK} {us : List Value} {vs : List V} {ds : List D} (I : Inv X pins σ H s) (hn : us.length = n) (rv : Vals vs us) {m : List Addr} {S : Py.St} {mu : Bool} (sr : SR W m H S) (rl : RepL W m H ds vs)
    (h : KG W E m H (Rep W) ((run W.T k (.fn ci.init) (some (.d (.loc S.length)) :: ds.map fun d => some (.d d)) (S ++ [.ins c []])).bind fun r S' => match r with
      | .non => match mu with
        | true => .ok (.loc S.length) S'
        | false => closeC S (.ok (.loc S.length) S')
      | _ => .bad) Q) : wpAny (model X.prog X.w) X.A (call (.ref (W.ca c)) us) (EP X pins σ Q) X.xe s := by
  have hlen : n + 1 = (F.ps.map sOf).length := by
    have := (hy s (Value.none :: us) [] I.kIn (by simp [hn]) rfl).2
    simpa [Py.pick, hn] using this
  have bnd : L2.Binds X.K fd (F.ps.map sOf) [] := fun s us ki hl => by
    rw [List.append_nil] at hl ⊢
    have := (hy s us [] ki (by rw [hl, ← hlen]) rfl).1
    rw [List.append_nil] at this
    exact this
  refine run_make (dvs := []) (ds := []) (E := E) (CX := L2.CX X.prog X.w) C.make F1.ok hr bnd .nil (passes_call tk fun _ _ _ _ z => z) I rv fun x dx hx hdx hne => ?_
  have hx1 : upd H dx (.own x) x = none := by rw [upd_ne (Ne.symm hne)]; exact hx
  have le1 : Le m H m (upd H dx (.own x)) := le_new hdx
  have sr1 := sr.new (o := .own x) hdx
  have le2 : Le m (upd H dx (.own x)) (m ++ [x]) (upd (upd H dx (.own x)) x (.ins (W.ca c) dx [])) := le_add hx1
  have sr2 : SR W (m ++ [x]) (upd (upd H dx (.own x)) x (.ins (W.ca c) dx [])) (S ++ [.ins c []]) := sr1.add hx1 ⟨dx, [], upd_same, by simp, by simp [RepL]⟩
  have rloc : Rep W (m ++ [x]) (upd (upd H dx (.own x)) x (.ins (W.ca c) dx [])) (.loc S.length) (.ref x) := by
    simp only [Rep]
    exact ⟨x, by rw [← sr.len]; simp, rfl⟩
  refine ⟨?_, m ++ [x], S ++ [.ins c []], .loc S.length :: ds, sr2, ?_, ?_⟩
  · rw [List.append_nil, ← hlen, List.length_cons, rv.length, hn]
  · rw [List.append_nil]
    simp only [RepL]
    exact ⟨.ref x, vs, rfl, rloc, (rl.mono le1).mono le2⟩
  · have le12 := le1.trans le2
    rw [List.map_cons]
    simp only []
    generalize run W.T k (.fn ci.init) (some (.d (.loc S.length)) :: ds.map fun d => some (.d d)) (S ++ [.ins c []]) = r at h ⊢
    cases r with
    | bad => exact h.elim
    | exc ec fs S1 => exact fun dx H' m' le sr rr => h dx H' m' (le12.trans le) sr rr
    | ok d S1 =>
      simp only [Res.bind_ok] at h
      intro v H2 m2 le3 sr3 rd
      split at h
      · refine ⟨rep_non rd, ?_⟩
        cases mu with
        | true => exact h (.ref x) H2 m2 (le12.trans le3) sr3 (Rep.mono le3 _ _ rloc)
        | false => exact close_ok sr h (.ref x) H2 m2 (le12.trans le3) sr3 (Rep.mono le3 _ _ rloc)
      · exact h.elim
/-! ### ==, != -/
theorem op_eqI {X : Cx} {neg : Bool} {alts : List (Nat × Nat)} {E : XK} (c : Ctx W k ways X Γ) (hc : Γ.calm = true) (tk : tkE X E) (hal : ∀ d g, alts.lookup d = some g → (∃ ci, W.ci d = some ci ∧ ci.eq = some g) ∧ (∃ F, W.T g = some F) ∧ (2, [], []) ∈ ways g) :
    OpR X (compareOp (if neg then .NotEq else .Eq)) (fun x y H Q => ∃ m S dx dy, SR W m H S ∧ Rep W m H dx x ∧ Rep W m H dy y ∧ KG W E m H (Rep W) (eqR (run W.T k) neg alts dx dy S) Q) := by
  intro pins s σ H x y v u Q I rx ry ⟨m, S, dx, dy, sr, r1, r2, h⟩
  have hu : X.A.units + 64 < cLine := by have := c.un; omega
  unfold eqR at h
  split at h
  · rename_i c1 fs1 c2 fs2 h1 h2
    split at h
    · rename_i e
      subst e
      split at h
      · rename_i g hg
        obtain ⟨⟨ci, hci, heq⟩, ⟨F, hF⟩, hway⟩ := hal c1 g hg
        have C := c.calls.cls c1 ci hci
        obtain ⟨f1, f2, f3⟩ := C.eq g heq
        obtain ⟨fd, F1, _, hys⟩ := c.calls.fn g F hF
        obtain ⟨_, hroom⟩ := c.calm hc
        obtain ⟨a, d1, n1, rfl, a1, _, _⟩ := rep_ins sr r1 h1
        obtain ⟨b, d2, n2, rfl, b1, _, _⟩ := rep_ins sr r2 h2
        obtain rfl : v = Value.ref a := rx
        obtain rfl : u = Value.ref b := ry
        obtain ⟨mA, J, _⟩ := ins_get I.hok a1
        obtain ⟨mB, J', _⟩ := ins_get I.hok b1
        obtain ⟨od, J, _⟩ := J.look
        obtain ⟨od', J', _⟩ := J'.look
        obtain ⟨mf, hFr⟩ := I.fr
        have rl : RepL W m H [dx, dy] [.ref a, .ref b] := by
          simp only [RepL]
          exact ⟨_, _, rfl, r1, _, _, rfl, r2, rfl⟩
        have rd : KG W E m H (Rep W) (run W.T k (.fn g) [some (.d dx), some (.d dy)] S) (fun v H1 => ∃ r, v = .bl r ∧ Q (.bl (if neg then !r else r)) H1) := by
          refine KG.imp h.bind ?_
          rintro v H1 ⟨m1, d, S1, le1, sr1, rv, h1⟩
          split at h1
          · exact ⟨_, rep_bl rv, okB h1 sr1⟩
          · exact h1.elim
        cases neg with
        | false =>
          show wpAny _ _ (richCompare .Eq (.ref a) (.ref b)) _ _ _
          refine PySem.W.cmp_K (op := .Eq) (tb := .ref (W.ca c1)) (by omega) hFr I.ok.mod.kin J J'.type (by simp [PySem.W.notFirst]) f1 f2 ?_
          refine wpAny_mono (call_in (vs := [.ref a, .ref b]) F1 (hroom.mono (by omega)) tk (hys _ hway) I I.env0 rfl (.cons rfl (.cons rfl .nil)) sr rl rd) (fun z t q => ?_) fun _ _ q => q
          obtain ⟨w1, H1, I1, rw1, r, rfl, q⟩ := q
          cases rw1
          exact ⟨V.bl _, H1, I1, rfl, q⟩
        | true =>
          refine ne_own I.kIn J J'.type C.ty4 f3 f1 f2 (by omega) ?_
          refine wpAny_mono (call_in (vs := [.ref a, .ref b]) F1 (hroom.mono (by omega)).in1 tk (hys _ hway) I I.env0.in1 rfl (.cons rfl (.cons rfl .nil)) sr rl rd) (fun z t q => ?_) fun _ _ q => q
          obtain ⟨w1, H1, I1, rw1, r, rfl, q⟩ := q
          cases rw1
          exact ⟨r, rfl, V.bl _, H1, I1, rfl, q⟩
      · exact h.elim
    · exact h.elim
  · obtain ⟨b, e, q⟩ : ∃ b, eqD (vw S dx) (vw S dy) = some b ∧ Q (.bl (if neg then !b else b)) H := by
      cases e : eqD (vw S dx) (vw S dy) with
      | none => rw [e] at h; exact h.elim
      | some b => rw [e] at h; exact ⟨b, rfl, okB h sr⟩
    unfold eqD at e
    split at e <;> cases e
    rename_i hz
    simp only [Bool.and_eq_true] at hz
    cases neg with
    | false => exact op_eqAll (W := W) hu pins s σ H x y v u Q I rx ry ⟨m, S, dx, dy, sr, r1, r2, hz.1, hz.2, q⟩
    | true => exact op_neAll (W := W) hu pins s σ H x y v u Q I rx ry ⟨m, S, dx, dy, sr, r1, r2, hz.1, hz.2, q⟩
end
end Py
end

section
set_option Elab.async false
set_option linter.all false
set_option maxRecDepth 100000
namespace Py
open PySem PySem.Spec PyProof.Rows L2
section
variable (W : Wd)
/-- what J yields: the items, one by one, as long as what is gone through stands still -/
def WJ (m : List Addr) (H : Hp) (S : Py.St) (w : Walk) (J : It) : Prop := ∀ m2 H2 S2, Le m H m2 H2 → SR W m2 H2 S2 → still (lockOf w.1 S) S2 = true → ∀ i,
  (∀ x, w.2[i]? = some x → J.go i H2 ∧ ∀ v H3, J.yld i H2 v H3 → ∃ m3, Le m2 H2 m3 H3 ∧ SR W m3 H3 S2 ∧ Rep W m3 H3 x v) ∧ (w.2.length ≤ i → J.stop i H2)
def KI (E : XK) (m : List Addr) (H : Hp) (r : Res Walk) (R : It → Hp → Prop) : Prop := match r with
  | .ok w S => ∀ J H' m', Le m H m' H' → SR W m' H' (lockS w.1 S) → WJ W m' H' (lockS w.1 S) w J → R J H'
  | .exc c fs S => ∀ dx H' m', Le m H m' H' → SR W m' H' S → XR W m' H' c fs dx → E (.ref (W.xa c)) dx H'
  | .bad => False
def tI (j : Sd) (cl : Cl) (E : XK) (i : MI) : TI := fun σ H R => ∃ m S ρ, SR W m H S ∧ ER W j m H ρ σ ∧ KI W E m H (evI cl i ρ S) R
end
section
variable {W : Wd} {k : Nat} {ways : Nat → List Way} {Γ : Gam} {m m' : List Addr} {H H' : Hp} {S : Py.St} {E : XK}
theorem KI.mono {r : Res Walk} {R : It → Hp → Prop} (x : Le m H m' H') (h : KI W E m H r R) : KI W E m' H' r R := by
  cases r with
  | ok w S => exact fun J H2 m2 le sr wj => h J H2 m2 (x.trans le) sr wj
  | exc c fs S => exact fun dx H2 m2 le sr rr => h dx H2 m2 (x.trans le) sr rr
  | bad => exact h
theorem KI.bind {α β : Type} {R1 : List Addr → Hp → α → β → Prop} {r : Res α} {f : α → Py.St → Res Walk} {R : It → Hp → Prop} (h : KI W E m H (r.bind f) R) :
    KG W E m H R1 r (fun v H1 => ∃ m1 d S1, Le m H m1 H1 ∧ SR W m1 H1 S1 ∧ R1 m1 H1 d v ∧ KI W E m1 H1 (f d S1) R) := by
  cases r with
  | ok d S => exact fun v H' m' le sr rr => ⟨m', d, S, le, sr, rr, KI.mono le h⟩
  | exc c fs S => exact h
  | bad => exact h
def SI (W : Wd) (k : Nat) (ways : Nat → List Way) (Γ : Gam) (i : MI) (tg e : Expr) : Prop := ∀ X, Ctx W k ways X Γ → ∀ E, tkE X E → PI X tg e (tI W (jX X) (run W.T k) E i)
theorem RepL.at' {ds : List D} {vs : List V} (r : RepL W m H ds vs) {i : Nat} {v : V} (e : vs[i]? = some v) {d : D} (e2 : ds[i]? = some d) : Rep W m H d v := by
  obtain ⟨v', h1, h2⟩ := r.at e2
  rw [e] at h1; cases h1
  exact h2
/-! ### what may be gone through -/
theorem wj_tup {K : PySem.W.Frag} {a : Addr} {vs : List V} {xs : List D} {d : D} (hd : ∀ n, d ≠ .loc n) (h : Tp H xs a vs) (r : RepL W m H xs vs) : WJ W m H S (d, xs) (Itt K a) := by
  intro m2 H2 S2 le sr _ i
  have h2 := le.tp h
  have r2 := r.mono le
  refine ⟨fun x e => ?_, fun hl => ⟨vs, tp_sq h2, by rw [← r2.length]; exact hl⟩⟩
  obtain ⟨v, ev, rv⟩ := r2.at e
  refine ⟨⟨vs, v, tp_sq h2, ev⟩, fun u H3 ⟨e3, hy⟩ => ?_⟩
  subst e3
  have := hy vs (tp_sq h2)
  rw [ev] at this; cases this
  exact ⟨m2, .refl, sr, rv⟩
theorem wj_lst {K : PySem.W.Frag} {a : Addr} {xs : List D} {d : D} (rd : Rep W m H d (.ref a)) (hv : vw S d = .lst xs) : WJ W m H S (d, xs) (Itl K a) := by
  intro m2 H2 S2 le sr2 hs i
  have key : ∃ ws, Rd H2 a (.lst ws) ∧ RepL W m2 H2 xs ws := by
    have rd2 := rd.mono le
    have hv2 : vw S2 d = .lst xs := by
      cases d with
      | loc n =>
        rw [vw_loc] at hv ⊢
        split at hv <;> cases hv
        rename_i e
        simp only [lockOf, e, Option.map_some, still, decide_eq_true_eq] at hs
        rw [hs]
      | lst ys => exact hv
      | _ => cases hv
    obtain ⟨a', ws, e, h1, h2⟩ := rep_lst sr2 rd2 hv2
    cases e
    exact ⟨ws, h1, h2⟩
  obtain ⟨ws, h1, h2⟩ := key
  refine ⟨fun x e => ?_, fun hl => ⟨ws, .inl h1, by rw [← h2.length]; exact hl⟩⟩
  obtain ⟨v, ev, rv⟩ := h2.at e
  refine ⟨⟨ws, v, .inl h1, ev⟩, fun u H3 ⟨e3, hy⟩ => ?_⟩
  subst e3
  have := hy ws (.inl h1)
  rw [ev] at this; cases this
  exact ⟨m2, .refl, sr2, rv⟩
theorem wj_str {s : List Nat} {d : D} : WJ W m H S (d, s.map fun c => .str [c]) (Its (sOf s)) := by
  intro m2 H2 S2 le sr2 hs i
  have hsz : (sOf s).cps.size = s.length := by simp [sOf]
  refine ⟨fun x e => ?_, fun hl => by show (sOf s).cps.size ≤ i; rw [hsz]; simpa using hl⟩
  simp only [List.getElem?_map, Option.map_eq_some_iff] at e
  obtain ⟨c, e, rfl⟩ := e
  refine ⟨by show i < (sOf s).cps.size; rw [hsz]; exact (List.getElem?_eq_some_iff.mp e).1, fun u H3 ⟨e3, c', ec, eu⟩ => ?_⟩
  subst e3 eu
  have : (sOf s).cps[i]? = some c := by simpa [sOf] using e
  rw [this] at ec; cases ec
  exact ⟨m2, .refl, sr2, Rep.str [c]⟩
theorem wj_keys {a : Addr} {o : Obj} {ks : List (Key × V)} {kvs : List (D × D)} {d : D} (h : H a = some (.frz o (.dK ks))) (hk : kvs.map (fun p => keyK p.1) = ks.map (fun p => some p.1)) : WJ W m H S (d, kvs.map (·.1)) (Itk a o ks) := by
  intro m2 H2 S2 le sr2 hs i
  have h2 := le.frzs a o _ h
  have hl : kvs.length = ks.length := by simpa using congrArg List.length hk
  refine ⟨fun x e => ?_, fun hi => ⟨h2, by rw [← hl]; simpa using hi⟩⟩
  have hi : i < kvs.length := by
    have := (List.getElem?_eq_some_iff.mp e).1
    simpa using this
  refine ⟨⟨h2, by rw [← hl]; exact hi⟩, fun u H3 ⟨e3, q, v, eq, eu⟩ => ?_⟩
  subst e3 eu
  refine ⟨m2, .refl, sr2, ?_⟩
  simp only [List.getElem?_map, Option.map_eq_some_iff] at e
  obtain ⟨p, ep, rfl⟩ := e
  have e4 : (kvs.map (fun p => keyK p.1))[i]? = some (keyK p.1) := by simp [ep]
  rw [hk] at e4
  have e5 : (ks.map (fun p => some p.1))[i]? = some (some q) := by simp [eq]
  rw [e5] at e4
  have e6 : keyK p.1 = some q := (Option.some.inj e4).symm
  cases hp : p.1 <;> rw [hp] at e6 <;> simp only [keyK] at e6 <;> cases e6
  · exact Rep.int _
  · exact Rep.str _
theorem wj_rng {i j : Int} : WJ W m H S (.non, rngL i j) (Itr i (j - i).toNat) := by
  intro m2 H2 S2 le sr2 hs n
  have hl : (rngL i j).length = (j - i).toNat := by simp [rngL]
  refine ⟨fun x e => ?_, fun hn => by show (j - i).toNat ≤ n; rw [← hl]; exact hn⟩
  have hn : n < (j - i).toNat := by rw [← hl]; exact (List.getElem?_eq_some_iff.mp e).1
  refine ⟨hn, fun u H3 ⟨e3, eu⟩ => ?_⟩
  subst e3 eu
  refine ⟨m2, .refl, sr2, ?_⟩
  have : x = .int (i + (n : Nat)) := by
    unfold rngL at e
    rw [List.getElem?_map, List.getElem?_range hn] at e
    exact (Option.some.inj e).symm
  rw [this]
  exact Rep.int _
theorem wj_keysT {a : Addr} {o : Obj} {ks : List (List Key × V)} {kvs : List (D × D)} {d : D} (h : H a = some (.frz o (.dT ks))) (hk : kvs.map (fun p => keyKs p.1) = ks.map (fun p => some p.1)) : WJ W m H S (d, kvs.map (·.1)) (Itkt a o ks) := by
  intro m2 H2 S2 le sr2 hs i
  have h2 := le.frzs a o _ h
  have hl : kvs.length = ks.length := by simpa using congrArg List.length hk
  refine ⟨fun x e => ?_, fun hi => ⟨h2, by rw [← hl]; simpa using hi⟩⟩
  have hi : i < kvs.length := by
    have := (List.getElem?_eq_some_iff.mp e).1
    simpa using this
  refine ⟨⟨h2, by rw [← hl]; exact hi⟩, fun u H3 ⟨e3, q, v, b, eq, eu, eb⟩ => ?_⟩
  subst e3 eu
  refine ⟨m2, .refl, sr2, ?_⟩
  simp only [List.getElem?_map, Option.map_eq_some_iff] at e
  obtain ⟨p, ep, rfl⟩ := e
  have e4 : (kvs.map (fun p => keyKs p.1))[i]? = some (keyKs p.1) := by simp [ep]
  rw [hk] at e4
  have e5 : (ks.map (fun p => some p.1))[i]? = some (some q) := by simp [eq]
  rw [e5] at e4
  have e6 : keyKs p.1 = some q := (Option.some.inj e4).symm
  cases hp : p.1 <;> rw [hp] at e6 <;> first | (simp only [keyKs] at e6; cases e6; done) | skip
  rename_i xs
  refine .tup (.of_key (keyish_of e6) eb) ?_
  replace e6 := (keyKs_tup e6).1
  clear hp eq e5 eb e4
  induction xs generalizing q with
  | nil => simp only [mapO] at e6; cases e6; simp only [RepL, List.map_nil]
  | cons y ys ih =>
    simp only [mapO] at e6
    split at e6 <;> cases e6
    rename_i a1 a2 h3 h4
    simp only [List.map_cons, RepL]
    refine ⟨_, _, rfl, ?_, ih _ h4⟩
    cases y <;> simp only [keyK] at h3 <;> cases h3
    · exact Rep.int _
    · exact Rep.str _
/-! ### a dict is locked -/
theorem lock_lst {d : D} {xs : List D} (h : vw S d = .lst xs) : lockS d S = S := by
  cases d with
  | loc n =>
    rw [vw_loc] at h
    unfold lockS
    split at h <;> cases h
    rename_i e
    simp only [e]
  | _ => rfl
theorem lock_in {d : D} {t : Bool} {kvs : List (D × D)} {a : Addr} (sr : SR W m H S) (rd : Rep W m H d (.ref a)) (h : vw S d = .dct t kvs) {o : Obj} {u : HO} (e : H a = some (.frz o u)) : SR W m H (lockS d S) := by
  cases d with
  | loc n =>
    rw [vw_loc] at h
    unfold lockS
    split at h <;> cases h
    rename_i lk hs
    simp only [hs]
    simp only [Rep] at rd
    obtain ⟨a', ha, ea⟩ := rd
    cases ea
    refine ⟨by simp [sr.len], sr.nd, fun i ob eo => ?_, sr.tabs, sr.con⟩
    by_cases hi : i = n
    · subst hi
      rw [List.getElem?_set_self (List.getElem?_eq_some_iff.mp hs).1] at eo
      cases eo
      obtain ⟨b, hb, r⟩ := sr.at_ i _ hs
      rw [ha] at hb; cases hb
      refine ⟨a, ha, ?_⟩
      cases t <;> obtain ⟨ks, h1, h2, h3⟩ := r <;> refine ⟨ks, ?_, h2, h3⟩ <;> cases lk <;> simp only [Bool.false_eq_true, if_false, if_true] at h1 ⊢ <;> first | exact h1 | (rw [e] at h1; cases h1)
    · rw [List.getElem?_set_ne (Ne.symm hi)] at eo
      exact sr.at_ i ob eo
  | _ => exact sr
theorem lock_new {d : D} {t : Bool} {kvs : List (D × D)} {a : Addr} (sr : SR W m H S) (rd : Rep W m H d (.ref a)) (h : vw S d = .dct t kvs) {o : Obj} {u : HO} (e : H a = some u) (hd : dicty u = true) (hf : ∀ z w, u ≠ .frz z w) : SR W m (upd H a (.frz o u)) (lockS d S) := by
  cases d with
  | loc n =>
    rw [vw_loc] at h
    unfold lockS
    split at h <;> cases h
    rename_i lk hs
    simp only [hs]
    simp only [Rep] at rd
    obtain ⟨a', ha, ea⟩ := rd
    cases ea
    refine sr.put ha (fun z w q => by rw [e] at q; exact hf z w (Option.some.inj q)) ?_
    obtain ⟨b, hb, r⟩ := sr.at_ n _ hs
    rw [ha] at hb; cases hb
    have le : Le m H m (upd H a (.frz o u)) := le_lock e hd hf
    cases t <;> obtain ⟨ks, h1, h2, h3⟩ := r <;> refine ⟨ks, ?_, h2, h3.mono le⟩ <;> cases lk <;> simp only [Bool.false_eq_true, if_false, if_true] at h1 ⊢
    · rw [e] at h1; cases h1; exact ⟨o, upd_same⟩
    · obtain ⟨od, h1⟩ := h1; rw [e] at h1; exact absurd (Option.some.inj h1) (hf _ _)
    · rw [e] at h1; cases h1; exact ⟨o, upd_same⟩
    · obtain ⟨od, h1⟩ := h1; rw [e] at h1; exact absurd (Option.some.inj h1) (hf _ _)
  | dct t' kvs' =>
    have hn : a ∉ m := by
      cases t' <;> simp only [Rep] at rd <;> obtain ⟨a', ks, ea, hn, _⟩ := rd <;> cases ea <;> exact hn
    exact sr.lockI e hn hd hf
  | _ => cases h
theorem i_val {a : ME} {tg e : Expr} (ha : SE W k ways Γ a e) : SI W k ways Γ (.val a) tg e := fun X c E tk => by
  refine ⟨fun pins s σ H R I h => ?_⟩
  obtain ⟨m, S, ρ, sr, er, h⟩ := h
  simp only [evI] at h
  refine thn ((ha X c E tk).run pins s σ H _ I ⟨m, S, ρ, sr, er, h.bind⟩) fun u s1 ⟨x, H1, I1, ru, m1, d, S1, le1, sr1, rx, h1⟩ => ?_
  split at h1
  · rename_i xs hi
    unfold items at hi
    split at hi
    · -- tuple
      rename_i ys hv
      cases hi
      cases vw_tup hv
      obtain ⟨p, vs, rfl, t1, t2⟩ := rep_tup rx
      obtain rfl : u = Value.ref p := ru
      obtain ⟨its, rv, pl, hz⟩ := I1.tuple (tp_sq t1)
      exact wpAny_pyIter_tuple (show s1.heap.IsTuple p its.toArray from pl) (pi_one (tk := s1.toks) I1 _ (turn_tuple p _) ⟨_, Heap.get?_push_size _ rfl, rfl, rfl⟩ (h1 _ H1 m1 .refl sr1 (wj_tup (by simp) t1 t2)))
    · -- list
      rename_i ys hv
      cases hi
      obtain ⟨p, vs, rfl, t1, t2⟩ := rep_lst sr1 rx hv
      obtain rfl : u = Value.ref p := ru
      obtain ⟨its, rv, pl, hz⟩ := I1.list (.inl t1)
      refine wpAny_pyIter_list pl.isList (pi_one (tk := s1.toks) I1 _ (turn_list p _) ⟨_, Heap.get?_push_size _ rfl, rfl, rfl⟩ (h1 _ H1 m1 .refl ?_ ?_))
      · rw [lock_lst hv]; exact sr1
      · rw [lock_lst hv]; exact wj_lst rx hv
    · -- text
      rename_i z hv
      cases hi
      cases vw_str hv
      rw [rep_str rx] at ru
      obtain ⟨t, rfl⟩ := ru
      have q := h1 _ H1 m1 .refl sr1 wj_str
      cases hasc : (sOf z).cps.all (· < 128)
      · exact wpAny_pyIter_wide hasc (pi_one (tk := s1.toks) I1 _ (turn_str _ _ t "str_iterator" (.inr rfl)) ⟨_, Heap.get?_push_size _ rfl, rfl, rfl⟩ q)
      · exact wpAny_pyIter_ascii hasc (pi_one (tk := s1.toks) I1 _ (turn_str _ _ t "str_ascii_iterator" (.inl rfl)) ⟨_, Heap.get?_push_size _ rfl, rfl, rfl⟩ q)
    · -- dict
      rename_i t kvs hv
      cases hi
      obtain ⟨p, rfl, da⟩ := rep_dct sr1 rx hv
      obtain rfl : u = Value.ref p := ru
      cases t with
      | false =>
        obtain ⟨ks, hr, hk, _⟩ := da
        have go : ∀ (H2 : Hp) (o : Obj) (m2 : List Addr), Le m1 H1 m2 H2 → SR W m2 H2 (lockS d S1) → H2 p = some (.frz o (.dK ks)) → Inv X pins σ H2 s1 → wpAny (model X.prog X.w) X.A (pyIter (.ref p)) (PIE X pins σ tg R) X.xe s1 := fun H2 o m2 le sr2 e I2 => by
          obtain ⟨hs, hgd, hx, es, ep, vs, hdt, hsz, kv, hm⟩ := I2.frzK e
          refine iter_keys hs hgd hx hdt (pi_one (tk := s1.toks) I2 _ (turn_keys _ hdt) ⟨_, Heap.get?_push_size _ rfl, rfl, ?_⟩ (h1 _ H2 m2 le sr2 (wj_keys e hk)))
          rw [hsz] <;> rfl
        rcases hr with hr | ⟨o, hr⟩
        · obtain ⟨od, I2⟩ := I1.lock hr trivial
          exact go _ od m1 (le_lock hr rfl (by intro _ _ z; cases z)) (lock_new sr1 rx hv hr rfl (by intro _ _ z; cases z)) upd_same I2
        · exact go H1 o m1 .refl (lock_in sr1 rx hv hr) hr I1
      | true =>
        obtain ⟨ks, hr, hk, _⟩ := da
        have go : ∀ (H2 : Hp) (o : Obj) (m2 : List Addr), Le m1 H1 m2 H2 → SR W m2 H2 (lockS d S1) → H2 p = some (.frz o (.dT ks)) → Inv X pins σ H2 s1 → wpAny (model X.prog X.w) X.A (pyIter (.ref p)) (PIE X pins σ tg R) X.xe s1 := fun H2 o m2 le sr2 e I2 => by
          obtain ⟨hs, hgd, hx, es, ep, hdt, hsz, ent⟩ := I2.frzT e
          refine iter_keys hs hgd hx hdt (pi_one (tk := s1.toks) I2 _ (turn_keysT _ hdt) ⟨_, Heap.get?_push_size _ rfl, rfl, ?_⟩ (h1 _ H2 m2 le sr2 (wj_keysT e hk)))
          rw [hsz] <;> rfl
        rcases hr with hr | ⟨o, hr⟩
        · obtain ⟨od, I2⟩ := I1.lock hr trivial
          exact go _ od m1 (le_lock hr rfl (by intro _ _ z; cases z)) (lock_new sr1 rx hv hr rfl (by intro _ _ z; cases z)) upd_same I2
        · exact go H1 o m1 .refl (lock_in sr1 rx hv hr) hr I1
    · cases hi
  · exact h1.elim
theorem small_of {i : Int} (h : small62 i = true) : -(2 ^ 62) ≤ i ∧ i < 2 ^ 62 := by
  simpa [small62] using h
theorem i_rng1 {a : ME} {tg e : Expr} {p p2 : Pos} (h1 : isGl Γ.sc ("range" : Str) = true) (h2 : Γ.G.lookup ("range" : Str) = some GV.free) (hs : isStar e = false) (ha : SE W k ways Γ a e) : SI W k ways Γ (.rng1 a) tg (.Call (.Name "range" p) [e] [] p2) := fun X c E tk => by
  obtain ⟨g1, _, _⟩ := gl_of c.sc h1
  have hm : X.mg "range" = none := c.glob "range" _ h2
  have pi := pi_range1 (X := X) (tg := tg) (p := p) (pos := p2) g1 hm (pa_cons (ha X c E tk) pa_nil (star_no hs _ _)) (by rw [star_no hs]; rfl)
  refine ⟨fun pins s σ H R I h => pi.run pins s σ H R I ?_⟩
  obtain ⟨m, S, ρ, sr, er, h⟩ := h
  simp only [evI] at h
  refine ⟨m, S, ρ, sr, er, h.bind.imp ?_⟩
  rintro x H1 ⟨m1, d, S1, le1, sr1, rx, q⟩
  split at q
  · rename_i j
    split at q
    · rename_i hz
      obtain ⟨z1, z2⟩ := small_of hz
      refine ⟨j, by rw [rep_int rx], z1, z2, ?_⟩
      have := q (Itr 0 (j - 0).toNat) H1 m1 .refl sr1 wj_rng
      simpa using this
    · exact q.elim
  · exact q.elim
theorem i_rng2 {a b : ME} {tg e f : Expr} {p p2 : Pos} (h1 : isGl Γ.sc ("range" : Str) = true) (h2 : Γ.G.lookup ("range" : Str) = some GV.free) (hs : isStar e = false) (hs2 : isStar f = false) (ha : SE W k ways Γ a e) (hb : SE W k ways Γ b f) : SI W k ways Γ (.rng2 a b) tg (.Call (.Name "range" p) [e, f] [] p2) := fun X c E tk => by
  obtain ⟨g1, _, _⟩ := gl_of c.sc h1
  have hm : X.mg "range" = none := c.glob "range" _ h2
  have pi := pi_range2 (X := X) (tg := tg) (p := p) (pos := p2) g1 hm (pa_cons (ha X c E tk) (pa_cons (hb X c E tk) pa_nil (star_no hs2 _ _)) (star_no hs _ _)) (by rw [star_no hs, star_no hs2]; rfl) (by rw [star_no hs2]; rfl)
  refine ⟨fun pins s σ H R I h => pi.run pins s σ H R I ?_⟩
  obtain ⟨m, S, ρ, sr, er, h⟩ := h
  simp only [evI] at h
  refine ⟨m, S, ρ, sr, er, h.bind.imp ?_⟩
  rintro x H1 ⟨m1, dx, S1, le1, sr1, rx, q⟩
  refine ⟨m1, S1, ρ, sr1, er.mono le1, q.bind.imp ?_⟩
  rintro y H2 ⟨m2, dy, S2, le2, sr2, ry, q⟩
  have key : ∃ a b, dx = .int a ∧ dy = .int b := by
    cases dx <;> cases dy <;> first | exact ⟨_, _, rfl, rfl⟩ | exact q.elim
  obtain ⟨a', b', rfl, rfl⟩ := key
  simp only at q
  split at q
  · rename_i hz
    simp only [Bool.and_eq_true] at hz
    obtain ⟨z1, z2⟩ := small_of hz.1
    obtain ⟨z3, z4⟩ := small_of hz.2
    exact ⟨a', b', by rw [rep_int rx, rep_int ry], ⟨z1, z2, z3, z4⟩, q (Itr a' (b' - a').toNat) H2 m2 .refl sr2 wj_rng⟩
  · exact q.elim
end
end Py
end

section
set_option Elab.async false
set_option linter.all false
set_option maxRecDepth 100000
namespace Py
open PySem PySem.Spec PyProof.Rows L2
mutual
def namesT : MT → List Nat
  | .nm i => [i]
  | .tup ts => namesTs ts
def namesTs : List MT → List Nat
  | [] => []
  | t :: ts => namesT t ++ namesTs ts
end
section
variable {W : Wd} {k : Nat} {ways : Nat → List Way} {Γ : Gam} {m m' : List Addr} {H H' : Hp} {S : Py.St} {E : XK}
/-! ### targets -/
def tG (W : Wd) (t : MT) : TG := fun v σ H Q => ∃ j m d ρ ρ', ER W j m H ρ σ ∧ Rep W m H d v ∧ bindT t d ρ = some ρ' ∧ ∀ σ', ER W j m H ρ' σ' → (∀ vs : List Nat, (∀ i ∈ namesT t, i ∈ vs) → L2.wipe σ' vs = L2.wipe σ vs) → Q σ' H
def tGs (W : Wd) (ts : List MT) : TGs := fun vs σ H Q => ∃ j m ds ρ ρ', ER W j m H ρ σ ∧ RepL W m H ds vs ∧ bindTs ts ds ρ = some ρ' ∧ ∀ σ', ER W j m H ρ' σ' → (∀ vs : List Nat, (∀ i ∈ namesTs ts, i ∈ vs) → L2.wipe σ' vs = L2.wipe σ vs) → Q σ' H
theorem PGw {X : Cx} {e : Expr} {t t' : TG} (h : PG X e t) (i : ∀ v σ H Q, t' v σ H Q → t v σ H Q) : PG X e t' := ⟨fun pins s σ H v u Q I r w => h.run pins s σ H v u Q I r (i _ _ _ _ w)⟩
theorem PGsw {X : Cx} {es : List Expr} {t t' : TGs} (h : PGs X es t) (i : ∀ v σ H Q, t' v σ H Q → t v σ H Q) : PGs X es t' := ⟨fun pins s σ H vs us Q I r w => h.run pins s σ H vs us Q I r (i _ _ _ _ w)⟩
theorem wipe_set {σ : L2.St} {i : Nat} {o : Option V} : ∀ {vs : List Nat}, i ∈ vs → L2.wipe (σ.set i o) vs = L2.wipe σ vs := by
  have gen : ∀ vs : List Nat, L2.wipe (σ.set i o) vs = if i ∈ vs then L2.wipe σ vs else (L2.wipe σ vs).set i o := by
    intro vs
    induction vs with
    | nil => simp [L2.wipe]
    | cons v vs ih =>
      unfold L2.wipe
      rw [ih]
      by_cases h : i = v
      · subst h
        by_cases h2 : i ∈ vs
        · simp [h2]
        · simp [h2, List.set_set]
      · by_cases h2 : i ∈ vs
        · simp [h2]
        · simp only [h2, if_false, List.mem_cons, h, or_self]
          rw [List.set_comm _ _ h]
  intro vs h
  rw [gen, if_pos h]
theorem wipe_at (σ : L2.St) : ∀ (vs : List Nat) (i : Nat), (L2.wipe σ vs)[i]? = if i ∈ vs then (σ[i]?).map (fun _ => Option.none) else σ[i]?
  | [], i => by simp [L2.wipe]
  | v :: vs, i => by
    unfold L2.wipe
    rw [List.getElem?_set]
    have ih := wipe_at σ vs i
    have hl : (L2.wipe σ vs).length = σ.length := L2.wipe_length σ vs
    by_cases h : v = i
    · subst h
      simp only [if_true, hl, List.mem_cons, true_or]
      split
      · rename_i hv
        rw [List.getElem?_eq_getElem hv]; rfl
      · rename_i hv
        rw [List.getElem?_eq_none (by omega)]; rfl
    · simp only [h, if_false, List.mem_cons, Ne.symm h, false_or]
      exact ih
theorem wipe_twice (σ : L2.St) (vs : List Nat) : L2.wipe (L2.wipe σ vs) vs = L2.wipe σ vs := by
  apply List.ext_getElem?
  intro i
  rw [wipe_at, wipe_at]
  split
  · cases σ[i]? <;> rfl
  · rfl
def locB (Γ : Gam) (x : Str) : Bool := decide (Γ.sc.names.lookup x = some .local) || (decide (Γ.sc.names.lookup x = some .cell) && (match Γ.blk with
    | none => true
    | some s => s.names.lookup x == some .cell))
theorem g_nm {X : Cx} (c : Ctx W k ways X Γ) {i : Nat} {x : Str} {p : Pos} (h1 : Γ.N[i]? = some x) (h2 : locB Γ x = true) : PG X (.Name x p) (tG W (.nm i)) := by
  unfold locB at h2
  simp only [Bool.or_eq_true, Bool.and_eq_true, decide_eq_true_eq] at h2
  have hx : L2.Loc X.env.scope x := by
    unfold L2.Loc
    rw [c.sc]
    exact h2.imp id (·.1)
  have hf : X.fn x = true ∨ X.env.scope.names.lookup x = some .local := by
    rw [c.sc]
    rcases h2 with h | ⟨_, h⟩
    · exact .inr h
    · exact .inl (c.fn x h)
  refine PGw (pg_name c.nd (by rw [c.N]; exact h1) hx hf) fun v σ H Q ⟨j, m, d, ρ, ρ', er, rd, hb, q⟩ => ?_
  simp only [bindT] at hb
  split at hb <;> cases hb
  exact q _ (er.set i (a := .d d) rd) fun vs hv => wipe_set (hv i (by simp [namesT]))
theorem assign_no {e : Expr} (h : isStar e = false) (es : List Expr) (env : PySem.Env) : assignEach (e :: es) env = (false, assign e env) :: assignEach es env := by
  cases e <;> first | rfl | cases h
theorem assign_all : ∀ {es : List Expr} (h : es.any isStar = false) (env : PySem.Env), (assignEach es env).length = es.length ∧ (assignEach es env).findIdx? (·.1) = none
  | [], _, _ => ⟨rfl, rfl⟩
  | e :: es, h, env => by
    simp only [List.any_cons, Bool.or_eq_false_iff] at h
    obtain ⟨i1, i2⟩ := assign_all h.2 env
    rw [assign_no h.1]
    refine ⟨by simp [i1], ?_⟩
    rw [List.findIdx?_cons]
    simp only [Bool.false_eq_true, if_false, i2, Option.map_none]
theorem gs_nil {X : Cx} : PGs X [] (tGs W []) := PGsw pgs_nil fun v σ H Q ⟨j, m, ds, ρ, ρ', er, rd, hb, q⟩ => by
  cases ds with
  | nil =>
    simp only [bindTs] at hb
    cases hb
    simp only [RepL] at rd
    exact ⟨rd, q σ er fun _ _ => rfl⟩
  | cons _ _ => simp [bindTs] at hb
theorem gs_cons {X : Cx} {e : Expr} {es : List Expr} {t : MT} {ts : List MT} (hs : isStar e = false) (h1 : PG X e (tG W t)) (h2 : PGs X es (tGs W ts)) : PGs X (e :: es) (tGs W (t :: ts)) := by
  refine PGsw (pgs_cons h1 h2 (by rw [assign_no hs]; rfl)) fun vs σ H Q ⟨j, m, ds, ρ, ρ', er, rd, hb, q⟩ => ?_
  cases ds with
  | nil => simp [bindTs] at hb
  | cons d ds =>
    simp only [RepL] at rd
    obtain ⟨v, r, rfl, r1, r2⟩ := rd
    simp only [bindTs] at hb
    split at hb
    · rename_i ρ1 hb1
      refine ⟨v, r, rfl, j, m, d, ρ, ρ1, er, r1, hb1, fun σ1 er1 w1 => ⟨j, m, ds, ρ1, ρ', er1, r2, hb, fun σ2 er2 w2 => q σ2 er2 fun vs hv => ?_⟩⟩
      simp only [namesTs, List.mem_append] at hv
      rw [w2 vs fun i hi => hv i (.inr hi), w1 vs fun i hi => hv i (.inl hi)]
    · cases hb
theorem g_tup {X : Cx} (hc : X.calm = true) {es : List Expr} {n : Nat} {p : Pos} {ts : List MT} (hs : es.any isStar = false) (hl : ts.length = es.length) (h : PGs X es (tGs W ts)) : PG X (.Tuple es n p) (tG W (.tup ts)) := by
  obtain ⟨a1, a2⟩ := assign_all hs X.env
  refine PGw (pg_tup hc h a1 a2) fun v σ H Q ⟨j, m, d, ρ, ρ', er, rd, hb, q⟩ => ?_
  cases d <;> simp only [bindT] at hb <;> try cases hb
  rename_i ds
  obtain ⟨a, vs, rfl, h1, h2⟩ := rep_tup rd
  have hlen : ∀ (ts : List MT) (ds : List D) (ρ ρ' : Env), bindTs ts ds ρ = some ρ' → ts.length = ds.length := by
    intro ts
    induction ts with
    | nil => intro ds ρ ρ' h; cases ds <;> first | rfl | simp [bindTs] at h
    | cons t ts ih =>
      intro ds ρ ρ' h
      cases ds with
      | nil => simp [bindTs] at h
      | cons d ds =>
        simp only [bindTs] at h
        split at h
        · simp [ih _ _ _ h]
        · cases h
  exact ⟨a, vs, rfl, tp_sq h1, by rw [← h2.length, ← hlen _ _ _ _ hb, hl], j, m, ds, ρ, ρ', er, h2, hb, fun σ' e w => q σ' e fun vs hv => w vs hv⟩
/-! ### comprehensions -/
theorem ER.dropA {j j' : Sd} {ρ : Env} {σ : L2.St} (h : ER W j m H ρ σ) : ER W j' m H (Py.dropA ρ) σ := by
  refine ⟨by simpa [Py.dropA] using h.len, fun i a e => ?_⟩
  simp only [Py.dropA, List.getElem?_map, Option.map_eq_some_iff] at e
  obtain ⟨o, e1, e2⟩ := e
  split at e2
  · cases e2
    obtain ⟨v, h1, h2⟩ := h.at_ i _ e1
    exact ⟨v, h1, h2⟩
  · cases e2
theorem ER.none {j : Sd} {ρ : Env} {σ : L2.St} (h : ER W Sd.none m H ρ σ) : ER W j m H ρ σ := by
  refine ⟨h.len, fun i a e => ?_⟩
  obtain ⟨v, h1, h2⟩ := h.at_ i a e
  refine ⟨v, h1, ?_⟩
  cases a with
  | d d => exact h2
  | clo _ _ _ => exact h2.elim
  | exn _ _ => exact h2.elim
abbrev EF : XK := fun _ _ _ => False
theorem tE_none {j : Sd} {cl : Cl} {me : ME} {E : XK} {σ : L2.St} {H : Hp} {Q : VK} (h : tE W Sd.none cl E me σ H Q) : tE W j cl E me σ H Q := by
  obtain ⟨m, S, ρ, sr, er, h⟩ := h
  exact ⟨m, S, ρ, sr, er.none, h⟩
theorem blk_ctx {X : Cx} (c : Ctx W k ways X Γ) (hc : Γ.calm = true) (scope : Scope) (s : Shared) (H : Hp) (C : Addr) (cl : List (Str × Addr)) (fp : List Addr) : Ctx W k ways (X.blk s H scope (compEnvC scope cl C X.env) fp) ⟨Γ.N, relS scope Γ.sc, Γ.G, true, some scope⟩ :=
  ⟨c.N, by show relS scope X.env.scope = _; rw [c.sc], c.nd, c.glob, c.un, fun _ => c.calm hc, ⟨c.calls.cls, c.calls.fn⟩, fun x h => h⟩
def bGam (Γ : Gam) (scope : Scope) : Gam := ⟨Γ.N, relS scope Γ.sc, Γ.G, true, some scope⟩
theorem tk_blk {X : Cx} {s : Shared} {H : Hp} {scope : Scope} {env : PySem.Env} {fp : List Addr} : tkE (X.blk s H scope env fp) EF := LamX.takes0
/-- tests of a comprehension -/
def SF (W : Wd) (k : Nat) (ways : Nat → List Way) (Γ : Gam) (ifs : MEs) (es : List Expr) : Prop := ∀ X, Ctx W k ways X Γ → ∀ E, tkE X E → PTs X es (tIfs W (jX X) (run W.T k) E ifs)
theorem PTsw {X : Cx} {es : List Expr} {t t' : TT} (h : PTs X es t) (i : ∀ σ H Q, t' σ H Q → t σ H Q) : PTs X es t' := ⟨fun pins s σ H Q I w => h.run pins s σ H Q I (i _ _ _ w)⟩
theorem f_nil : SF W k ways Γ .nil [] := fun X c E tk => PTsw pts_nil fun σ H Q ⟨m, S, ρ, sr, er, h⟩ => by
  simp only [evIfs] at h
  exact h.ok sr rfl
theorem f_one {b : Bool} {a : ME} {e : Expr} (ha : ST W k ways Γ a e) : SF W k ways Γ (.cons b a .nil) [e] := fun X c E tk => PTsw (pts_one (ha X c E tk)) fun σ H Q ⟨m, S, ρ, sr, er, h⟩ => by
  simp only [evIfs] at h
  refine ⟨m, S, ρ, sr, er, h.bind.imp ?_⟩
  rintro x H1 ⟨m1, d, S1, le1, sr1, rx, h1⟩
  split at h1
  · exact ⟨true, rep_bl rx, h1.ok sr1 rfl⟩
  · exact ⟨false, rep_bl rx, h1.ok sr1 rfl⟩
  · exact h1.elim
/-- one step of what must not fail -/
theorem stepX {α β : Type} {R : List Addr → Hp → α → β → Prop} {E' : XK} {P : Res Unit → Prop} (hb : ¬ P .bad) (he : ∀ c fs S, ¬ P (.exc c fs S)) {r : Res α} {g : α → Py.St → Res Unit} (h : P (r.bind g)) :
    KG W E' m H R r (fun v H' => ∃ m' d S', Le m H m' H' ∧ SR W m' H' S' ∧ R m' H' d v ∧ P (g d S')) := by
  cases r with
  | ok d S => exact fun v H' m' le sr rr => ⟨m', d, S, le, sr, rr, h⟩
  | exc c fs S => exact (he _ _ _ h).elim
  | bad => exact (hb h).elim
theorem tIfs_none {j : Sd} {cl : Cl} {ifs : MEs} {E : XK} {σ : L2.St} {H : Hp} {Q : Bool → Hp → Prop} (h : tIfs W Sd.none cl E ifs σ H Q) : tIfs W j cl E ifs σ H Q := by
  obtain ⟨m, S, ρ, sr, er, h⟩ := h
  exact ⟨m, S, ρ, sr, er.none, h⟩
def notSet : Expr → Bool
  | .Set .. => false
  | _ => true
theorem fold_ok {e : Expr} (h : notSet e = true) (env : PySem.Env) (x : Value) : foldedSetIterable e env x = pure x := by
  cases e <;> first | rfl | cases h
theorem lc_read {mu : Bool} {own : List Nat} {elt : ME} {t : MT} {i : MI} {ifs : MEs} {ownP : List (Str × Nat)} {X : Cx} {σ : L2.St} {Q : VK} (ho : ownP.map (·.2) = own) (hnm : ∀ i ∈ namesT t, i ∈ own) (h : tE W (jX X) (run W.T k) E (.lc mu own elt t i ifs) σ H Q) :
    tLc (tI W (jX X) (run W.T k) E i) (tG W t) (tIfs W Sd.none (run W.T k) EF ifs) (tE W Sd.none (run W.T k) EF elt) (ownP.map (·.2)) σ H Q := by
  obtain ⟨m, S, ρ, sr, er, h⟩ := h
  simp only [evE] at h
  refine ⟨m, S, ρ, sr, er, ?_⟩
  cases hw : evI (run W.T k) i ρ S with
  | bad => rw [hw] at h; exact h.elim
  | exc ec fs S1 => rw [hw] at h; exact h
  | ok w S1 =>
    rw [hw] at h
    simp only [Res.bind_ok, compS] at h
    intro J H1 m1 le1 sr1 wj D hD
    generalize hS : lockS w.1 S1 = S0 at h sr1 wj
    have h := KG.mono le1 h
    have hlen : m1.length = S0.length := sr1.len
    -- what is still to be done
    let P : Res Unit → Prop := fun r => KG W E m1 H1 (Rep W) (r.noX.bind fun _ S' => doneS mu S0 S') Q
    have Pb : ¬ P .bad := fun z => z
    have Pe : ∀ c fs S, ¬ P (.exc c fs S) := fun _ _ _ z => z
    have P0 : P (goesL (lockOf w.1 S0) (fun x S' => match bindT t x (Py.wipe (Py.dropA ρ) own) with
      | none => .bad
      | some ρ1 => (evIfs (run W.T k) ifs ρ1 S').bind fun b S' => if b then (evE (run W.T k) elt ρ1 S').bind fun y S' => pushS S0.length y S' else .ok () S') w.2 (S0 ++ [.lst []])) := h
    generalize hF : (fun x S' => match bindT t x (Py.wipe (Py.dropA ρ) own) with
      | none => Res.bad
      | some ρ1 => (evIfs (run W.T k) ifs ρ1 S').bind fun b S' => if b then (evE (run W.T k) elt ρ1 S').bind fun y S' => pushS S0.length y S' else .ok () S') = F at P0
    have le2 : Le m1 H1 (m1 ++ [D]) (upd H1 D (.lst [])) := le_add hD
    have sr2 : SR W (m1 ++ [D]) (upd H1 D (.lst [])) (S0 ++ [.lst []]) := sr1.add hD ⟨[], upd_same, by simp [RepL]⟩
    refine ⟨fun i mm Hc => mm = w.2.length - i ∧ i ≤ w.2.length ∧ ∃ mc Sc, Le m1 H1 mc Hc ∧ mc[S0.length]? = some D ∧ SR W mc Hc Sc ∧ P (goesL (lockOf w.1 S0) F (w.2.drop i) Sc),
      ⟨_, rfl, Nat.zero_le _, m1 ++ [D], S0 ++ [.lst []], le2, by rw [← hlen]; simp, sr2, by simpa using P0⟩, ?_⟩
    rintro i mm Hc ⟨rfl, hi', mc, Sc, lec, hDc, src, hP⟩
    by_cases hlt : i < w.2.length
    · rw [List.drop_eq_getElem_cons hlt] at hP
      unfold goesL at hP
      by_cases hst : still (lockOf w.1 S0) Sc = true
      · rw [if_pos hst] at hP
        obtain ⟨w1, _⟩ := wj mc Hc Sc lec src hst i
        obtain ⟨hgo, hy⟩ := w1 _ (List.getElem?_eq_getElem hlt)
        refine .inr ⟨hgo, fun Hn => ∃ mc' Sc', Le m1 H1 mc' Hn ∧ mc'[S0.length]? = some D ∧ SR W mc' Hn Sc' ∧ P (goesL (lockOf w.1 S0) F (w.2.drop (i + 1)) Sc'), fun Hn ⟨mc', Sc', a1, a2, a3, a4⟩ => ⟨w.2.length - (i + 1), by omega, rfl, hlt, mc', Sc', a1, a2, a3, a4⟩, fun x Hx hyx => ?_⟩
        obtain ⟨m3, le3, sr3, rx⟩ := hy x Hx hyx
        have hD3 := le3.at hDc
        rw [← hF] at hP
        simp only at hP
        have er3 : ER W Sd.none m3 Hx (Py.wipe (Py.dropA ρ) own) (L2.wipe σ (ownP.map (·.2))) := by
          rw [ho]
          exact ((((er.mono le1).mono lec).mono le3).dropA).wipe own
        cases hbt : bindT t w.2[i] (Py.wipe (Py.dropA ρ) own) with
        | none => rw [hbt] at hP; exact (Pb hP).elim
        | some ρ1 =>
          rw [hbt] at hP
          simp only at hP
          refine ⟨Sd.none, m3, _, _, ρ1, er3, rx, hbt, fun σ2 er4 hwp => ⟨by rw [hwp (ownP.map (·.2)) (fun i hi => by rw [ho]; exact hnm i hi), wipe_twice], ?_⟩⟩
          have bb : ∀ {α β γ : Type} (r : Res α) (f : α → Py.St → Res β) (g : β → Py.St → Res γ), (r.bind f).bind g = r.bind fun a S => (f a S).bind g := fun r f g => by cases r <;> rfl
          rw [bb] at hP
          refine ⟨m3, Sc, ρ1, sr3, er4, (stepX Pb Pe hP).imp ?_⟩
          rintro b H4 ⟨m4, b', S4, le4, sr4, eb, hP4⟩
          have eb : b' = b := eb
          subst eb
          cases b' with
          | false =>
            simp only [Bool.false_eq_true, if_false, Res.bind_ok] at hP4 ⊢
            exact ⟨m4, S4, (lec.trans le3).trans le4, le4.at hD3, sr4, by rw [← hF]; exact hP4⟩
          | true =>
            simp only [if_true] at hP4 ⊢
            rw [bb] at hP4
            refine ⟨m4, S4, ρ1, sr4, er4.mono le4, (stepX Pb Pe hP4).imp ?_⟩
            rintro y H5 ⟨m5, dy, S5, le5, sr5, ry, hP5⟩
            have hD5 := le5.at (le4.at hD3)
            unfold pushS at hP5
            split at hP5
            · rename_i acc hacc
              split at hP5
              · rename_i hsz
                simp only [Res.bind_ok] at hP5
                obtain ⟨a, ha, vs, h5, r5⟩ := sr5.at_ _ _ hacc
                rw [hD5] at ha; cases ha
                have hz : ∀ z u, H5 D ≠ some (.frz z u) := fun z u q => by rw [h5] at q; cases q
                have le6 : Le m5 H5 m5 (upd H5 D (.lst (vs ++ [y]))) := sr5.le_put (List.mem_of_getElem? hD5) hz
                refine ⟨vs, h5, by rw [← r5.length, ← line_eq]; exact hsz, m5, _, (((lec.trans le3).trans le4).trans le5).trans le6, hD5, sr5.put (ob := .lst (acc ++ [dy])) hD5 hz ⟨vs ++ [y], upd_same, (r5.mono le6).append (RepL.one (ry.mono le6))⟩, by rw [← hF]; exact hP5⟩
              · exact (Pb hP5).elim
            · exact (Pb hP5).elim
      · rw [if_neg hst] at hP
        exact (Pb hP).elim
    · have hd : w.2.drop i = [] := List.drop_eq_nil_of_le (by omega)
      rw [hd] at hP
      unfold goesL at hP
      by_cases hst : still (lockOf w.1 S0) Sc = true
      · rw [if_pos hst] at hP
        obtain ⟨_, w2⟩ := wj mc Hc Sc lec src hst i
        refine .inl ⟨w2 (by omega), ?_⟩
        have hP : KG W E m1 H1 (Rep W) (doneS mu S0 Sc) Q := hP
        have rl : Rep W mc Hc (.loc S0.length) (.ref D) := by simp only [Rep]; exact ⟨D, hDc, rfl⟩
        cases mu with
        | true => exact hP (.ref D) Hc mc lec src rl
        | false =>
          have hP : KG W E m1 H1 (Rep W) (closeC S0 (.ok (.loc S0.length) Sc)) Q := hP
          have := close_ok sr1 hP
          exact this (.ref D) Hc mc lec src rl
      · rw [if_neg hst] at hP
        exact (Pb hP).elim
theorem r_lc {mu : Bool} {own : List Nat} {elt : ME} {t : MT} {i : MI} {ifs : MEs} {eE tg it : Expr} {iE : List Expr} {scope : Scope} {ownP : List (Str × Nat)} {pos : Pos} (hc : Γ.calm = true) (hn : notSet it = true) (ho : ownP.map (·.2) = own) (hbk : blkC Γ.N Γ.sc scope ownP = true) (hnm : ∀ i ∈ namesT t, i ∈ own)
    (hi : SI W k ways Γ i tg it) (hg : ∀ X, Ctx W k ways X (bGam Γ scope) → PG X tg (tG W t)) (hf : SF W k ways (bGam Γ scope) ifs iE) (he : SE W k ways (bGam Γ scope) elt eE) : SE W k ways Γ (.lc mu own elt t i ifs) (.ListComp eE [⟨tg, it, iE, 0⟩] scope pos) := fun X c E tk =>
  PEw (pe_lc (own := ownP) (g := tG W t) (tt := tIfs W Sd.none (run W.T k) EF ifs) (te := tE W Sd.none (run W.T k) EF elt) (c.calm hc).1 c.nd (hi X c E tk) (by rw [c.N, c.sc]; exact blkOk_by hbk)
    (fun s H C cl fp => hg _ (blk_ctx c hc scope s H C cl fp)) (fun s H C cl fp => PTsw (hf _ (blk_ctx c hc scope s H C cl fp) EF tk_blk) fun _ _ _ => tIfs_none)
    (fun s H C cl fp => PEw (he _ (blk_ctx c hc scope s H C cl fp) EF tk_blk) fun _ _ _ => tE_none) (fun x => fold_ok hn _ x)) fun σ H Q h => lc_read ho hnm h
end
end Py
end

section
set_option Elab.async false
set_option linter.all false
set_option maxRecDepth 100000
namespace Py
open PySem PySem.Spec PyProof.Rows L2
section
variable (W : Wd) (j : Sd)
/-- what is asked of a statement's end -/
def KS (E : XK) (m : List Addr) (H : Hp) (r : Res Fl) (D : Ends) : Prop := match r with
  | .ok (.nx ρ) S => ∀ σ' H' m', Le m H m' H' → SR W m' H' S → ER W j m' H' ρ σ' → D.nx σ' H'
  | .ok (.ret d) S => ∀ v H' m', Le m H m' H' → SR W m' H' S → Rep W m' H' d v → D.rt v H'
  | .ok (.brk ρ) S => ∀ σ' H' m', Le m H m' H' → SR W m' H' S → ER W j m' H' ρ σ' → D.bk σ' H'
  | .ok (.ct ρ) S => ∀ σ' H' m', Le m H m' H' → SR W m' H' S → ER W j m' H' ρ σ' → D.ct σ' H'
  | .exc c fs S => ∀ dx H' m', Le m H m' H' → SR W m' H' S → XR W m' H' c fs dx → E (.ref (W.xa c)) dx H'
  | .bad => False
def tS (cl : Cl) (E : XK) (s : MS) : TS := fun D σ H => ∃ m S ρ, SR W m H S ∧ ER W j m H ρ σ ∧ KS W j E m H (exS cl s ρ S) D
def tB (cl : Cl) (E : XK) (b : MB) : TS := fun D σ H => ∃ m S ρ, SR W m H S ∧ ER W j m H ρ σ ∧ KS W j E m H (exB cl b ρ S) D
end
section
variable {W : Wd} {j : Sd} {k : Nat} {ways : Nat → List Way} {Γ : Gam} {m m' : List Addr} {H H' : Hp} {S : Py.St} {E : XK}
theorem KS.mono {r : Res Fl} {D : Ends} (x : Le m H m' H') (h : KS W j E m H r D) : KS W j E m' H' r D := by
  cases r with
  | ok f S => cases f <;> exact fun a b c le => h a b c (x.trans le)
  | exc c fs S => exact fun a b c le => h a b c (x.trans le)
  | bad => exact h
theorem KS.bind {α β : Type} {R : List Addr → Hp → α → β → Prop} {r : Res α} {f : α → Py.St → Res Fl} {D : Ends} (h : KS W j E m H (r.bind f) D) :
    KG W E m H R r (fun v H1 => ∃ m1 d S1, Le m H m1 H1 ∧ SR W m1 H1 S1 ∧ R m1 H1 d v ∧ KS W j E m1 H1 (f d S1) D) := by
  cases r with
  | ok d S => exact fun v H' m' le sr rr => ⟨m', d, S, le, sr, rr, KS.mono le h⟩
  | exc c fs S => exact h
  | bad => exact h
structure CtS (W : Wd) (k : Nat) (ways : Nat → List Way) (X : Cx) (Γ : Gam) : Prop extends Ctx W k ways X Γ where
  own : PassesOwn (model X.prog X.w) X.A X.env X.xe
def SS (W : Wd) (k : Nat) (ways : Nat → List Way) (Γ : Gam) (s : MS) (st : Stmt) : Prop := ∀ X, CtS W k ways X Γ → ∀ E, tkE X E → PS X st (tS W (jX X) (run W.T k) E s)
def SB (W : Wd) (k : Nat) (ways : Nat → List Way) (Γ : Gam) (b : MB) (sts : List Stmt) : Prop := ∀ X, CtS W k ways X Γ → ∀ E, tkE X E → PSs X sts (tB W (jX X) (run W.T k) E b)
theorem b_nil : SB W k ways Γ .nil [] := fun X c E tk => PSsw pss_nil fun D σ H ⟨m, S, ρ, sr, er, h⟩ => by
  simp only [exB] at h
  exact h σ H m .refl sr er
theorem b_cons {s : MS} {b : MB} {st : Stmt} {sts : List Stmt} (hs : SS W k ways Γ s st) (hb : SB W k ways Γ b sts) : SB W k ways Γ (.cons s b) (st :: sts) := fun X c E tk => by
  refine PSsw (pss_cons (hs X c E tk) (hb X c E tk)) fun D σ H ⟨m, S, ρ, sr, er, h⟩ => ?_
  simp only [exB] at h
  refine ⟨m, S, ρ, sr, er, ?_⟩
  cases hr : exS (run W.T k) s ρ S with
  | bad => rw [hr] at h; exact h
  | exc ec fs S1 => rw [hr] at h; exact h
  | ok f S1 =>
    rw [hr] at h
    simp only [Res.bind_ok] at h
    cases f with
    | nx ρ1 => exact fun σ' H' m' le sr' er' => ⟨m', S1, ρ1, sr', er', KS.mono le h⟩
    | ret d => exact h
    | brk ρ1 => exact h
    | ct ρ1 => exact h
theorem s_nev {st : Stmt} : SS W k ways Γ .nev st := fun X c E tk => PSw ps_never fun D σ H ⟨m, S, ρ, sr, er, h⟩ => by
  simp only [exS] at h
  exact h
theorem s_pass {p : Pos} : SS W k ways Γ .pass (.Pass p) := fun X c E tk => PSw ps_pass fun D σ H ⟨m, S, ρ, sr, er, h⟩ => by
  simp only [exS] at h
  exact h σ H m .refl sr er
theorem s_brk {p : Pos} : SS W k ways Γ .brk (.Break p) := fun X c E tk => PSw ps_break fun D σ H ⟨m, S, ρ, sr, er, h⟩ => by
  simp only [exS] at h
  exact h σ H m .refl sr er
theorem s_cont {p : Pos} : SS W k ways Γ .cont (.Continue p) := fun X c E tk => PSw ps_continue fun D σ H ⟨m, S, ρ, sr, er, h⟩ => by
  simp only [exS] at h
  exact h σ H m .refl sr er
theorem s_ret {a : ME} {e : Expr} {p : Pos} (ha : SE W k ways Γ a e) : SS W k ways Γ (.ret a) (.Return (some e) p) := fun X c E tk => PSw (ps_ret (ha X c.toCtx E tk)) fun D σ H ⟨m, S, ρ, sr, er, h⟩ => by
  simp only [exS] at h
  refine ⟨m, S, ρ, sr, er, KG.imp h.bind ?_⟩
  rintro v H1 ⟨m1, d, S1, le1, sr1, rv, h1⟩
  exact h1 v H1 m1 .refl sr1 rv
theorem s_retN {p : Pos} : SS W k ways Γ .retN (.Return none p) := fun X c E tk => PSw ps_retN fun D σ H ⟨m, S, ρ, sr, er, h⟩ => by
  simp only [exS] at h
  exact h .non H m .refl sr .non
def noComp : Expr → Bool
  | .ListComp .. | .SetComp .. | .DictComp .. => false
  | _ => true
theorem sw_no {e : Expr} (h : noComp e = true) (t : Option Expr) (l : Nat) (env : PySem.Env) : swapsWith e t l env = pure false := by
  cases e <;> first | rfl | cases h
theorem s_ex {a : ME} {e : Expr} {p : Pos} (hn : noComp e = true) (ha : SE W k ways Γ a e) : SS W k ways Γ (.ex a) (.Expr e p) := fun X c E tk => PSw (ps_expr (ha X c.toCtx E tk) (sw_no hn _ _ _)) fun D σ H ⟨m, S, ρ, sr, er, h⟩ => by
  simp only [exS] at h
  refine ⟨m, S, ρ, sr, er, KG.imp h.bind ?_⟩
  rintro v H1 ⟨m1, d, S1, le1, sr1, rv, h1⟩
  exact h1 σ H1 m1 .refl sr1 (er.mono le1)
theorem s_ife {a : ME} {A B : MB} {e : Expr} {as bs : List Stmt} {p : Pos} (ha : ST W k ways Γ a e) (hA : SB W k ways Γ A as) (hB : SB W k ways Γ B bs) : SS W k ways Γ (.ife a A B) (.If e as bs p) := fun X c E tk => PSw (ps_if (ha X c.toCtx E tk) (hA X c E tk) (hB X c E tk)) fun D σ H ⟨m, S, ρ, sr, er, h⟩ => by
  simp only [exS] at h
  refine ⟨m, S, ρ, sr, er, KG.imp h.bind ?_⟩
  rintro v H1 ⟨m1, d, S1, le1, sr1, rv, h1⟩
  split at h1
  · exact ⟨true, rep_bl rv, m1, S1, ρ, sr1, er.mono le1, h1⟩
  · exact ⟨false, rep_bl rv, m1, S1, ρ, sr1, er.mono le1, h1⟩
  · exact h1.elim
/-! ### loops -/
theorem s_for {t : MT} {i : MI} {body : MB} {tg it : Expr} {sts : List Stmt} {p : Pos} (hc : Γ.calm = true) (hn : notSet it = true) (hi : SI W k ways Γ i tg it) (hg : ∀ X, Ctx W k ways X Γ → PG X tg (tG W t)) (hb : SB W k ways Γ body sts) : SS W k ways Γ (.for_ t i body) (.For tg it sts [] p) := fun X c E tk => by
  refine PSw (ps_for c.own (c.calm hc).1 (hi X c.toCtx E tk) (hg X c.toCtx) (hb X c E tk) (fun x => fold_ok hn _ x)) fun D σ H ⟨m, S, ρ, sr, er, h⟩ => ?_
  simp only [exS] at h
  refine ⟨m, S, ρ, sr, er, ?_⟩
  cases hw : evI (run W.T k) i ρ S with
  | bad => rw [hw] at h; exact h.elim
  | exc ec fs S1 => rw [hw] at h; exact h
  | ok w S1 =>
    rw [hw] at h
    simp only [Res.bind_ok] at h
    intro J H1 m1 le1 sr1 wj
    have h := KS.mono le1 h
    generalize hS : lockS w.1 S1 = S0 at h sr1 wj
    generalize hF : (fun x ρ S => match bindT t x ρ with
      | none => Res.bad
      | some ρ => exB (run W.T k) body ρ S) = F at h
    refine ⟨fun i mm σc Hc => mm = w.2.length - i ∧ i ≤ w.2.length ∧ ∃ mc Sc ρc, Le m1 H1 mc Hc ∧ SR W mc Hc Sc ∧ ER W (jX X) mc Hc ρc σc ∧ KS W (jX X) E mc Hc (forL (lockOf w.1 S0) F (w.2.drop i) ρc Sc) D,
      ⟨_, rfl, Nat.zero_le _, m1, S0, ρ, .refl, sr1, er.mono le1, by simpa using h⟩, ?_⟩
    rintro i mm σc Hc ⟨rfl, hi', mc, Sc, ρc, lec, src, erc, hP⟩
    by_cases hlt : i < w.2.length
    · rw [List.drop_eq_getElem_cons hlt] at hP
      unfold forL at hP
      by_cases hst : still (lockOf w.1 S0) Sc = true
      · rw [if_pos hst] at hP
        obtain ⟨w1, _⟩ := wj mc Hc Sc lec src hst i
        obtain ⟨hgo, hy⟩ := w1 _ (List.getElem?_eq_getElem hlt)
        refine .inr ⟨hgo, fun σn Hn => ∃ mc' Sc' ρc', Le m1 H1 mc' Hn ∧ SR W mc' Hn Sc' ∧ ER W (jX X) mc' Hn ρc' σn ∧ KS W (jX X) E mc' Hn (forL (lockOf w.1 S0) F (w.2.drop (i + 1)) ρc' Sc') D,
          fun σn Hn ⟨mc', Sc', ρc', a1, a2, a3, a4⟩ => ⟨w.2.length - (i + 1), by omega, rfl, hlt, mc', Sc', ρc', a1, a2, a3, a4⟩, fun x Hx hyx => ?_⟩
        obtain ⟨m3, le3, sr3, rx⟩ := hy x Hx hyx
        have hP := KS.mono le3 hP
        rw [← hF] at hP
        simp only at hP
        cases hbt : bindT t w.2[i] ρc with
        | none => rw [hbt] at hP; exact hP.elim
        | some ρ1 =>
          rw [hbt] at hP
          simp only at hP
          refine ⟨jX X, m3, _, ρc, ρ1, erc.mono le3, rx, hbt, fun σ2 er2 _ => ⟨m3, Sc, ρ1, sr3, er2, ?_⟩⟩
          have le13 := lec.trans le3
          cases hr : exB (run W.T k) body ρ1 Sc with
          | bad => rw [hr] at hP; exact hP.elim
          | exc ec fs S4 => rw [hr] at hP; exact hP
          | ok f S4 =>
            rw [hr] at hP
            simp only [Res.bind_ok] at hP
            rw [hF] at hP
            cases f with
            | nx ρ2 => exact fun σ4 H4 m4 le4 sr4 er4 => ⟨m4, S4, ρ2, le13.trans le4, sr4, er4, KS.mono le4 hP⟩
            | ct ρ2 => exact fun σ4 H4 m4 le4 sr4 er4 => ⟨m4, S4, ρ2, le13.trans le4, sr4, er4, KS.mono le4 hP⟩
            | brk ρ2 => exact hP
            | ret d => exact hP
      · rw [if_neg hst] at hP
        exact hP.elim
    · have hd : w.2.drop i = [] := List.drop_eq_nil_of_le (by omega)
      rw [hd] at hP
      unfold forL at hP
      by_cases hst : still (lockOf w.1 S0) Sc = true
      · rw [if_pos hst] at hP
        obtain ⟨_, w2⟩ := wj mc Hc Sc lec src hst i
        exact .inl ⟨w2 (by omega), hP σc Hc mc .refl src erc⟩
      · rw [if_neg hst] at hP
        exact hP.elim
theorem s_whl {a : ME} {body : MB} {e : Expr} {sts : List Stmt} {p : Pos} (ha : ST W k ways Γ a e) (hb : SB W k ways Γ body sts) : SS W k ways Γ (.whl a body) (.While e sts [] p) := fun X c E tk => by
  refine PSw (ps_while c.own (ha X c.toCtx E tk) (hb X c E tk)) fun D σ H ⟨m, S, ρ, sr, er, h⟩ => ?_
  simp only [exS] at h
  refine ⟨fun n σc Hc => ∃ mc Sc ρc, SR W mc Hc Sc ∧ ER W (jX X) mc Hc ρc σc ∧ KS W (jX X) E mc Hc (whlL (evE (run W.T k) a) (exB (run W.T k) body) n ρc Sc) D, ⟨_, m, S, ρ, sr, er, h⟩, ?_⟩
  rintro n σc Hc ⟨mc, Sc, ρc, src, erc, hP⟩
  cases n with
  | zero => exact hP.elim
  | succ n =>
    unfold whlL at hP
    refine ⟨mc, Sc, ρc, src, erc, KG.imp hP.bind ?_⟩
    rintro v H1 ⟨m1, d, S1, le1, sr1, rv, h1⟩
    split at h1
    · exact ⟨false, rep_bl rv, h1 σc H1 m1 .refl sr1 (erc.mono le1)⟩
    · refine ⟨true, rep_bl rv, ?_⟩
      simp only [if_true]
      refine ⟨fun σn Hn => ∃ mc Sc ρc, SR W mc Hn Sc ∧ ER W (jX X) mc Hn ρc σn ∧ KS W (jX X) E mc Hn (whlL (evE (run W.T k) a) (exB (run W.T k) body) n ρc Sc) D, fun σn Hn hN => ⟨n, Nat.lt_succ_self n, hN⟩, m1, S1, ρc, sr1, erc.mono le1, ?_⟩
      cases hr : exB (run W.T k) body ρc S1 with
      | bad => rw [hr] at h1; exact h1.elim
      | exc ec fs S4 => rw [hr] at h1; exact h1
      | ok f S4 =>
        rw [hr] at h1
        simp only [Res.bind_ok] at h1
        cases f with
        | nx ρ2 => exact fun σ4 H4 m4 le4 sr4 er4 => ⟨m4, S4, ρ2, sr4, er4, KS.mono le4 h1⟩
        | ct ρ2 => exact fun σ4 H4 m4 le4 sr4 er4 => ⟨m4, S4, ρ2, sr4, er4, KS.mono le4 h1⟩
        | brk ρ2 => exact h1
        | ret d => exact h1
    · exact h1.elim
end
end Py
end

section
set_option Elab.async false
set_option linter.all false
set_option maxRecDepth 100000
namespace Py
open PySem PySem.Spec PyProof.Rows L2
section
variable {W : Wd} {j : Sd} {k : Nat} {ways : Nat → List Way} {Γ : Gam} {m m' : List Addr} {H H' : Hp} {S : Py.St} {E : XK}
/-! ### stores -/
theorem putV {κ : Type} [DecidableEq κ] {f : D → Option κ} (hf : ∀ a b q, f a = some q → f b = some q → a = b) {k : D} {q : κ} {d : D} {v : V} (hk : f k = some q) (rd : Rep W m H d v) {kvs : List (D × D)} {ks : List (κ × V)}
    (h : kvs.map (fun p => f p.1) = ks.map (fun p => some p.1)) (r : RepV W m H kvs (ks.map (·.2))) : (dput kvs k d).map (fun p => f p.1) = (putK ks q v).map (fun p => some p.1) ∧ RepV W m H (dput kvs k d) ((putK ks q v).map (·.2)) := by
  have hany : ∀ {kvs : List (D × D)} {ks : List (κ × V)}, kvs.map (fun p => f p.1) = ks.map (fun p => some p.1) → (kvs.any fun p => decide (p.1 = k)) = (ks.any fun p => decide (p.1 = q)) := by
    intro kvs
    induction kvs with
    | nil => intro ks h; cases ks <;> simp_all
    | cons p kvs ih =>
      intro ks h
      cases ks with
      | nil => simp at h
      | cons z ks =>
        simp only [List.map_cons, List.cons.injEq] at h
        rw [List.any_cons, List.any_cons, ih h.2]
        congr 1
        by_cases e : p.1 = k
        · rw [e, hk] at h
          simp [e, Option.some.inj h.1]
        · have : ¬ z.1 = q := fun e2 => e (hf p.1 k q (by rw [← e2]; exact h.1) hk)
          simp [e, this]
  unfold dput putK
  rw [hany h]
  by_cases c : (ks.any fun p => decide (p.1 = q)) = true
  · rw [if_pos c, if_pos c]
    clear c
    induction kvs generalizing ks with
    | nil => cases ks <;> simp_all [RepV]
    | cons p kvs ih =>
      obtain ⟨p1, p2⟩ := p
      cases ks with
      | nil => simp at h
      | cons z ks =>
        obtain ⟨z1, z2⟩ := z
        simp only [List.map_cons, List.cons.injEq] at h
        simp only [List.map_cons, RepV] at r
        obtain ⟨v0, w0, ev, r1, r2⟩ := r
        obtain ⟨rfl, rfl⟩ := List.cons.inj ev
        obtain ⟨i1, i2⟩ := ih h.2 r2
        by_cases e : p1 = k
        · have e2 : z1 = q := by rw [e, hk] at h; exact (Option.some.inj h.1).symm
          simp only [List.map_cons, e, e2, if_true, RepV, List.cons.injEq]
          exact ⟨⟨hk, i1⟩, v, _, ⟨rfl, rfl⟩, rd, i2⟩
        · have e2 : ¬ z1 = q := fun e2 => e (hf p1 k q (by rw [← e2]; exact h.1) hk)
          simp only [List.map_cons, e, e2, if_false, RepV, List.cons.injEq]
          exact ⟨⟨h.1, i1⟩, z2, _, ⟨rfl, rfl⟩, r1, i2⟩
  · rw [if_neg c, if_neg c]
    clear c
    induction kvs generalizing ks with
    | nil =>
      cases ks with
      | nil =>
        refine ⟨by simp [hk], ?_⟩
        simp only [List.nil_append, List.map_cons, List.map_nil, RepV]
        exact ⟨v, [], rfl, rd, rfl⟩
      | cons z ks => simp at h
    | cons p kvs ih =>
      cases ks with
      | nil => simp at h
      | cons z ks =>
        obtain ⟨p1, p2⟩ := p
        simp only [List.map_cons, List.cons.injEq] at h
        simp only [List.map_cons, RepV] at r
        obtain ⟨v0, w0, ev, r1, r2⟩ := r
        obtain ⟨rfl, rfl⟩ := List.cons.inj ev
        obtain ⟨i1, i2⟩ := ih h.2 r2
        simp only [List.cons_append, List.map_cons, RepV, List.cons.injEq]
        exact ⟨⟨h.1, i1⟩, z.2, _, ⟨rfl, rfl⟩, r1, i2⟩
/-- o[i] = v -/
def tPut (W : Wd) : TSet := fun o i v H Q => ∃ m S x y d, SR W m H S ∧ Rep W m H x o ∧ Rep W m H y i ∧ Rep W m H d v ∧ ∃ S', putS x y d S = .ok () S' ∧ ∀ H', Le m H m H' → SR W m H' S' → Q H'
theorem set_all {X : Cx} (hu : X.A.units + 65 < cLine) : PSet X (tPut W) := by
  intro pins s σ H o i v ov iv u Q I ro ri rv ⟨m, S, x, y, d, sr, r1, r2, r3, S', e, h⟩
  unfold putS at e
  cases x <;> try cases e
  rename_i n
  simp only at e
  simp only [Rep] at r1
  obtain ⟨a, ha, rfl⟩ := r1
  obtain rfl : ov = Value.ref a := ro
  have hm := List.mem_of_getElem? ha
  split at e
  · rename_i xs hs
    obtain ⟨b, hb, vs, h1, h2⟩ := sr.at_ n _ hs
    rw [ha] at hb; cases hb
    have hz : ∀ z w, H a ≠ some (.frz z w) := fun z w q => by rw [h1] at q; cases q
    cases y <;> try cases e
    rename_i kx
    simp only at e
    split at e
    · rename_i jx hj
      cases e
      refine set_list pins s σ H (.ref a) i v _ iv u Q I rfl ri rv ⟨a, vs, kx, jx, rfl, rep_int r2, h1, by rw [← h2.length]; exact hj, ?_⟩
      have le : Le m H m (upd H a (.lst (vs.set jx v))) := sr.le_put hm hz
      exact h _ le (sr.put (ob := .lst (xs.set jx d)) ha hz ⟨_, upd_same, (h2.mono le).set jx (r3.mono le)⟩)
    · cases e
  · rename_i t kvs hs
    obtain ⟨b, hb, q⟩ := sr.at_ n _ hs
    rw [ha] at hb; cases hb
    split at e
    · rename_i hk
      cases e
      obtain ⟨hk, hl⟩ := hk
      cases t with
      | false =>
        obtain ⟨ks, h1, h2, h3⟩ := q
        simp only [Bool.false_eq_true, if_false] at h1
        have hz : ∀ z w, H a ≠ some (.frz z w) := fun z w q => by rw [h1] at q; cases q
        obtain ⟨q, e1, e2⟩ := keyK_of (k := y) (by simpa [kOk] using hk) r2
        have hlen : kvs.length = ks.length := by simpa using congrArg List.length h2
        have le : Le m H m (upd H a (.dK (putK ks q v))) := sr.le_put hm hz
        obtain ⟨p1, p2⟩ := putV (fun _ _ _ => keyK_inj) e1 (r3.mono le) h2 (h3.mono le)
        exact d_setItem (by omega) I (.inl ⟨ks, q, h1, e2, by rw [← hlen, ← line_eq]; exact hl, rfl⟩) ri rv fun s' I' => ⟨_, I', h _ le (sr.put (ob := .dct false (dput kvs y d) false) ha hz ⟨_, by simp only [Bool.false_eq_true, if_false]; exact upd_same, p1, p2⟩)⟩
      | true =>
        obtain ⟨ks, h1, h2, h3⟩ := q
        simp only [Bool.false_eq_true, if_false] at h1
        have hz : ∀ z w, H a ≠ some (.frz z w) := fun z w q => by rw [h1] at q; cases q
        have hk : keyT y = true := by simpa [kOk] using hk
        obtain ⟨ys, rfl⟩ : ∃ ys, y = .tup ys := by
          cases y <;> simp only [keyT] at hk <;> first | exact ⟨_, rfl⟩ | cases hk
        obtain ⟨b, vs, ei, hb, r⟩ := rep_tup r2
        have hb := hb.key (by rw [keyish_keyT]; exact hk)
        simp only [keyT, Bool.and_eq_true, Bool.not_eq_true'] at hk
        obtain ⟨qs, e3, e4⟩ := keyL_of hk.2 r
        have hlen : kvs.length = ks.length := by simpa using congrArg List.length h2
        have le : Le m H m (upd H a (.dT (putK ks qs v))) := sr.le_put hm hz
        obtain ⟨p1, p2⟩ := putV (f := keyKs) (fun _ _ _ => keyKs_inj) (k := .tup ys) (keyKs_of e3 hk.1) (r3.mono le) h2 (h3.mono le)
        exact d_setItem (by omega) I (.inr ⟨ks, qs, b, h1, ei, by rw [hb, e4], by rw [← hlen, ← line_eq]; exact hl, rfl⟩) ri rv fun s' I' => ⟨_, I', h _ le (sr.put (ob := .dct true (dput kvs (.tup ys) d) false) ha hz ⟨_, by simp only [Bool.false_eq_true, if_false]; exact upd_same, p1, p2⟩)⟩
    · cases e
  · cases e
/-! ### targets of an assignment -/
def tA (W : Wd) (j : Sd) (cl : Cl) (E : XK) (g : MG) : TG := fun v σ H Q => ∃ m S ρ d, SR W m H S ∧ ER W j m H ρ σ ∧ Rep W m H d v ∧ KG W E m H (ER W j) (asgG cl g d ρ S) Q
def tAL (W : Wd) (j : Sd) (cl : Cl) (E : XK) (gs : List MG) : TGs := fun vs σ H Q => ∃ m S ρ ds, SR W m H S ∧ ER W j m H ρ σ ∧ RepL W m H ds vs ∧ KG W E m H (ER W j) (asgGs cl gs ds ρ S) Q
def SG (W : Wd) (k : Nat) (ways : Nat → List Way) (Γ : Gam) (g : MG) (e : Expr) : Prop := ∀ X, Ctx W k ways X Γ → ∀ E, tkE X E → PG X e (tA W (jX X) (run W.T k) E g)
def SGs (W : Wd) (k : Nat) (ways : Nat → List Way) (Γ : Gam) (gs : List MG) (es : List Expr) : Prop := ∀ X, Ctx W k ways X Γ → ∀ E, tkE X E → PGs X es (tAL W (jX X) (run W.T k) E gs)
theorem m_nm {i : Nat} {x : Str} {p : Pos} (h1 : Γ.N[i]? = some x) (h2 : locB Γ x = true) : SG W k ways Γ (.nm i) (.Name x p) := fun X c E tk => by
  refine PGw (g_nm c h1 h2) fun v σ H Q ⟨m, S, ρ, d, sr, er, rd, h⟩ => ?_
  simp only [asgG] at h
  split at h
  · rename_i hi
    exact ⟨jX X, m, d, ρ, _, er, rd, by simp only [bindT]; rw [if_pos hi], fun σ' er' _ => h σ' H m .refl sr er'⟩
  · exact h.elim
theorem ms_nil : SGs W k ways Γ [] [] := fun X c E tk => PGsw pgs_nil fun v σ H Q ⟨m, S, ρ, ds, sr, er, rd, h⟩ => by
  cases ds with
  | nil =>
    simp only [asgGs] at h
    simp only [RepL] at rd
    exact ⟨rd, h σ H m .refl sr er⟩
  | cons _ _ => simp only [asgGs] at h; exact h.elim
theorem ms_cons {g : MG} {gs : List MG} {e : Expr} {es : List Expr} (hs : isStar e = false) (h1 : SG W k ways Γ g e) (h2 : SGs W k ways Γ gs es) : SGs W k ways Γ (g :: gs) (e :: es) := fun X c E tk => by
  refine PGsw (pgs_cons (h1 X c E tk) (h2 X c E tk) (by rw [assign_no hs]; rfl)) fun vs σ H Q ⟨m, S, ρ, ds, sr, er, rd, h⟩ => ?_
  cases ds with
  | nil => simp only [asgGs] at h; exact h.elim
  | cons d ds =>
    simp only [RepL] at rd
    obtain ⟨v, r, rfl, r1, r2⟩ := rd
    simp only [asgGs] at h
    refine ⟨v, r, rfl, m, S, ρ, d, sr, er, r1, KG.imp (KG.bind (R := ER W (jX X)) h) ?_⟩
    rintro σ1 H1 ⟨m1, ρ1, S1, le1, sr1, er1, h1⟩
    exact ⟨m1, S1, ρ1, ds, sr1, er1, r2.mono le1, h1⟩
theorem m_tup {gs : List MG} {es : List Expr} {n : Nat} {p : Pos} (hc : Γ.calm = true) (hs : es.any isStar = false) (hl : gs.length = es.length) (h : SGs W k ways Γ gs es) : SG W k ways Γ (.tup gs) (.Tuple es n p) := fun X c E tk => by
  obtain ⟨a1, a2⟩ := assign_all hs X.env
  refine PGw (pg_tup (c.calm hc).1 (h X c E tk) a1 a2) fun v σ H Q ⟨m, S, ρ, d, sr, er, rd, h⟩ => ?_
  simp only [asgG] at h
  split at h
  · rename_i ds
    obtain ⟨a, vs, rfl, h1, h2⟩ := rep_tup rd
    split at h
    · rename_i hlen
      exact ⟨a, vs, rfl, tp_sq h1, by rw [← h2.length, ← hlen, hl], m, S, ρ, ds, sr, er, h2, h⟩
    · exact h.elim
  · exact h.elim
theorem sub_as {o i : Expr} {p : Pos} (hn : noSlice i = true) (env : PySem.Env) (v : Value) : assign (.Subscript o i p) env v = (do
      let ov ← holding [v] (eval o env)
      let iv ← holding [v, ov] (eval i env)
      standAt p
      holding [v, ov, iv] (setItem ov iv v)
      release [v, ov, iv] []) := by
  cases i <;> first | rfl | cases hn
theorem m_sub {a b : ME} {ea eb : Expr} {p : Pos} (hn : noSlice eb = true) (ha : SE W k ways Γ a ea) (hb : SE W k ways Γ b eb) : SG W k ways Γ (.sub a b) (.Subscript ea eb p) := fun X c E tk => by
  refine PGw (pg_sub (ha X c E tk) (hb X c E tk) (set_all (W := W) (by have := c.un; omega)) (sub_as hn _)) fun v σ H Q ⟨m, S, ρ, d, sr, er, rd, h⟩ => ?_
  simp only [asgG] at h
  refine ⟨m, S, ρ, sr, er, KG.imp (KG.bind (R := Rep W) h) ?_⟩
  rintro x H1 ⟨m1, dx, S1, le1, sr1, rx, h1⟩
  refine ⟨m1, S1, ρ, sr1, er.mono le1, KG.imp (KG.bind (R := Rep W) h1) ?_⟩
  rintro y H2 ⟨m2, dy, S2, le2, sr2, ry, h2⟩
  refine ⟨m2, S2, dx, dy, d, sr2, rx.mono le2, ry, (rd.mono le1).mono le2, ?_⟩
  cases hq : putS dx dy d S2 with
  | ok u S3 =>
    rw [hq] at h2
    exact ⟨S3, rfl, fun H' le sr => h2 σ H' m2 le sr (((er.mono le1).mono le2).mono le)⟩
  | exc _ _ _ =>
    unfold putS at hq
    repeat (first | (split at hq) | cases hq)
  | bad => rw [hq] at h2; exact h2.elim
/-- target = value -/
theorem s_asg {g : MG} {a : ME} {tg e : Expr} {p : Pos} (hst : isStar tg = false) (hsw : ∀ X, Ctx W k ways X Γ → swapsWithSole [tg] e p.line X.env = pure false) (hss : ∀ X, Ctx W k ways X Γ → swappedStores [tg] e X.env = pure none) (hg : SG W k ways Γ g tg) (ha : SE W k ways Γ a e) : SS W k ways Γ (.asg g a) (.Assign [tg] e p) := fun X c E tk => by
  refine PSw (ps_asg (ha X c.toCtx E tk) (hg X c.toCtx E tk) (hsw X c.toCtx) (hss X c.toCtx) (by rw [assign_no hst]; rfl)) fun D σ H ⟨m, S, ρ, sr, er, h⟩ => ?_
  simp only [exS] at h
  refine ⟨m, S, ρ, sr, er, KG.imp (KS.bind (R := Rep W) h) ?_⟩
  rintro v H1 ⟨m1, d, S1, le1, sr1, rv, h1⟩
  refine ⟨m1, S1, ρ, d, sr1, er.mono le1, rv, KG.imp (KS.bind (R := ER W (jX X)) h1) ?_⟩
  rintro σ2 H2 ⟨m2, ρ2, S2, le2, sr2, er2, h2⟩
  exact h2 σ2 H2 m2 .refl sr2 er2
theorem s_par {i j : Nat} {a b : ME} {x y : Str} {ea eb : Expr} {px py pt p : Pos} {kt k2 : Nat} {pt2 : Pos} (hc : Γ.calm = true) (h1 : Γ.N[i]? = some x) (h2 : Γ.N[j]? = some y) (hij : i ≠ j) (l1 : Γ.sc.names.lookup x = some .local) (l2 : Γ.sc.names.lookup y = some .local) (s1 : isStar ea = false) (s2 : isStar eb = false)
    (hw : ∀ X, Ctx W k ways X Γ → swappedStores [.Tuple [.Name x px, .Name y py] kt pt] (.Tuple [ea, eb] k2 pt2) X.env = pure (some [x, y])) (ha : SE W k ways Γ a ea) (hb : SE W k ways Γ b eb) : SS W k ways Γ (.par i j a b) (.Assign [.Tuple [.Name x px, .Name y py] kt pt] (.Tuple [ea, eb] k2 pt2) p) := fun X c E tk => by
  have cc := c.toCtx
  refine PSw (ps_par (cc.calm hc).1 cc.nd (by rw [cc.N]; exact h1) (by rw [cc.N]; exact h2) hij (by rw [cc.sc]; exact l1) (by rw [cc.sc]; exact l2) (pa_cons (ha X cc E tk) (pa_cons (hb X cc E tk) pa_nil (star_no s2 _ _)) (star_no s1 _ _)) (hw X cc)) fun D σ H ⟨m, S, ρ, sr, er, h⟩ => ?_
  simp only [exS] at h
  refine ⟨m, S, ρ, sr, er, KG.imp (KS.bind (R := Rep W) h) ?_⟩
  rintro v H1 ⟨m1, d, S1, le1, sr1, rv, h1⟩
  refine ⟨m1, S1, ρ, sr1, er.mono le1, KG.imp (KS.bind (R := Rep W) h1) ?_⟩
  rintro v2 H2 ⟨m2, d2, S2, le2, sr2, rv2, h2⟩
  exact ⟨v, v2, rfl, h2 _ H2 m2 .refl sr2 ((((er.mono le1).mono le2).set i (a := .d d) (rv.mono le2)).set j (a := .d d2) rv2)⟩
/-- name = [..] on one line -/
theorem s_setLc {mu : Bool} {own : List Nat} {elt : ME} {t : MT} {i : MI} {ifs : MEs} {ix : Nat} {y : Str} {py : Pos} {eE tg it : Expr} {iE : List Expr} {scope : Scope} {ownP : List (Str × Nat)} {pos p : Pos} (hc : Γ.calm = true) (hy : Γ.N[ix]? = some y) (hyl : Γ.sc.names.lookup y = some .local) (hk : Γ.sc.kind = .function) (hl : (py.line == pos.line) = true)
    (hown : (scope.names.any fun (n, k) => n == y && (k == .local || k == .cell)) = false) (hn : notSet it = true) (ho : ownP.map (·.2) = own) (hbk : blkC Γ.N Γ.sc scope ownP = true) (hnm : ∀ i ∈ namesT t, i ∈ own)
    (hi : SI W k ways Γ i tg it) (hg : ∀ X, Ctx W k ways X (bGam Γ scope) → PG X tg (tG W t)) (hf : SF W k ways (bGam Γ scope) ifs iE) (he : SE W k ways (bGam Γ scope) elt eE) :
    SS W k ways Γ (.asg (.nm ix) (.lc mu own elt t i ifs)) (.Assign [.Name y py] (.ListComp eE [⟨tg, it, iE, 0⟩] scope pos) p) := fun X cs E tk => by
  have c := cs.toCtx
  refine PSw (ps_setLc (i := ix) (own := ownP) (g := tG W t) (tt := tIfs W Sd.none (run W.T k) EF ifs) (te := tE W Sd.none (run W.T k) EF elt) (c.calm hc).1 c.nd (by rw [c.N]; exact hy) (by rw [c.sc]; exact hyl) (sw_true (by rw [c.sc]; exact hk) (by rw [c.sc]; exact hyl) hl hown) (hi X c E tk) (by rw [c.N, c.sc]; exact blkOk_by hbk)
    (fun s H C cl fp => hg _ (blk_ctx c hc scope s H C cl fp)) (fun s H C cl fp => PTsw (hf _ (blk_ctx c hc scope s H C cl fp) EF tk_blk) fun _ _ _ => tIfs_none)
    (fun s H C cl fp => PEw (he _ (blk_ctx c hc scope s H C cl fp) EF tk_blk) fun _ _ _ => tE_none) (fun x => fold_ok hn _ x)) fun D σ H ⟨m, S, ρ, sr, er, h⟩ => ?_
  rw [exS] at h
  refine lc_read ho hnm ⟨m, S, ρ, sr, er, KG.imp (KS.bind (R := Rep W) h) ?_⟩
  rintro v H1 ⟨m1, d, S1, le1, sr1, rv, h1⟩
  simp only [asgG] at h1
  split at h1
  · exact h1 _ H1 m1 .refl sr1 ((er.mono le1).set ix (a := .d d) rv)
  · exact h1.elim
theorem putF_set {v : V} {f : Str} : ∀ {N : List Str} {ns : List (Str × V)} {n i : Nat}, N.Nodup → ns.map (·.1) = N.take n → N[i]? = some f → i < ns.length → (putF f v ns).map (·.1) = ns.map (·.1) ∧ (putF f v ns).map (·.2) = (ns.map (·.2)).set i v
  | _, [], _, _, _, _, _, h => by simp at h
  | [], (x, y) :: ns, n, i, _, h, _, _ => by simp at h
  | z :: N, (x, y) :: ns, 0, i, _, h, _, _ => by simp at h
  | z :: N, (x, y) :: ns, n + 1, i, nd, h, hf, hi => by
    simp only [List.map_cons, List.take_succ_cons, List.cons.injEq] at h
    obtain ⟨rfl, h⟩ := h
    cases i with
    | zero =>
      simp at hf
      subst hf
      unfold putF
      rw [if_pos rfl]
      exact ⟨rfl, rfl⟩
    | succ i =>
      simp at hf
      have hne : ¬ x = f := fun e => (List.nodup_cons.mp nd).1 (by rw [e]; exact List.mem_of_getElem? hf)
      unfold putF
      rw [if_neg hne]
      obtain ⟨i1, i2⟩ := putF_set (v := v) (List.nodup_cons.mp nd).2 h hf (by simpa using hi)
      exact ⟨by simp [i1], by simp [i2]⟩
theorem putF_app {v : V} {f : Str} : ∀ {N : List Str} {ns : List (Str × V)} {n i : Nat}, N.Nodup → ns.map (·.1) = N.take n → N[i]? = some f → i = ns.length → putF f v ns = ns ++ [(f, v)]
  | _, [], _, _, _, _, _, _ => rfl
  | [], (x, y) :: ns, n, i, _, h, _, _ => by simp at h
  | z :: N, (x, y) :: ns, 0, i, _, h, _, _ => by simp at h
  | z :: N, (x, y) :: ns, n + 1, i, nd, h, hf, hi => by
    simp only [List.map_cons, List.take_succ_cons, List.cons.injEq] at h
    obtain ⟨rfl, h⟩ := h
    subst hi
    simp at hf
    have hne : ¬ x = f := fun e => (List.nodup_cons.mp nd).1 (by rw [e]; exact List.mem_of_getElem? hf)
    unfold putF
    rw [if_neg hne, putF_app (v := v) (List.nodup_cons.mp nd).2 h hf rfl]
    rfl
/-- o.f = e -/
theorem s_fld {o a : ME} {cs : List (Nat × Nat)} {eo e : Expr} {f : Str} {p p' : Pos} (hn : noComp e = true) (hal : cs.all (fun p => altA W f (p.1, .inl p.2)) = true) (ho : SE W k ways Γ o eo) (ha : SE W k ways Γ a e) : SS W k ways Γ (.asg (.fld o cs) a) (.Assign [.Attribute eo f p'] e p) := fun X c E tk => by
  refine PSw (ps_fld (ho X c.toCtx E tk) (ha X c.toCtx E tk) (sw_no hn _ _ _)) fun D σ H ⟨m, S, ρ, sr, er, h⟩ => ?_
  simp only [exS] at h
  refine ⟨m, S, ρ, sr, er, KG.imp (KS.bind (R := Rep W) h) ?_⟩
  rintro v H1 ⟨m1, d, S1, le1, sr1, rv, h1⟩
  simp only [asgG] at h1
  have bb : ∀ {α β γ : Type} (r : Res α) (f : α → Py.St → Res β) (g : β → Py.St → Res γ), (r.bind f).bind g = r.bind fun a S => (f a S).bind g := fun r f g => by cases r <;> rfl
  rw [bb] at h1
  refine ⟨m1, S1, ρ, sr1, er.mono le1, KG.imp (KS.bind (R := Rep W) h1) ?_⟩
  rintro x H2 ⟨m2, dx, S2, le2, sr2, rx, h2⟩
  unfold setF at h2
  cases dx <;> try exact h2.elim
  rename_i n
  simp only at h2
  simp only [Rep] at rx
  obtain ⟨ad, had, rfl⟩ := rx
  split at h2
  · rename_i cc fs hs
    obtain ⟨b, hb, dd, ns, e1, e2, e3⟩ := sr2.at_ n _ hs
    rw [had] at hb; cases hb
    split at h2
    · rename_i i hi
      have hq := lookup_all (p := fun p => altA W f (p.1, .inl p.2)) hal hi
      unfold altA at hq
      simp only at hq
      cases hci : W.ci cc with
      | none => rw [hci] at hq; cases hq
      | some ci =>
        rw [hci] at hq
        simp only [Bool.and_eq_true, decide_eq_true_eq] at hq
        obtain ⟨q1, q2, q3⟩ := hq
        have C := c.calls.cls cc ci hci
        rw [C.cf] at e2
        have hz : ∀ z w, H2 ad ≠ some (.frz z w) := fun z w q => by rw [e1] at q; cases q
        have hm := List.mem_of_getElem? had
        have le3 : Le m2 H2 m2 (upd H2 ad (.ins (W.ca cc) dd (putF f v ns))) := sr2.le_put hm hz
        have hlen : ns.length = fs.length := by
          have := e3.length
          simpa using this.symm
        have rv2 := (rv.mono le2).mono le3
        split at h2
        · exact h2.elim
        rename_i h900
        split at h2
        · rename_i hlt
          obtain ⟨k1, k2⟩ := putF_set (v := v) q3 e2 q1 (by rw [hlen]; exact hlt)
          refine ⟨ad, W.ca cc, dd, ns, rfl, e1, C.cls, C.no f q2, ?_, h2 σ _ m2 le3 (sr2.put (ob := .ins cc (fs.set i d)) had hz ⟨dd, _, upd_same, by rw [k1, e2, C.cf, List.length_set], by rw [k2]; exact (e3.mono le3).set i rv2⟩) (((er.mono le1).mono le2).mono le3)⟩
          rw [hlen]; omega
        · split at h2
          · rename_i hge heq
            have k1 := putF_app (v := v) q3 e2 q1 (by rw [hlen]; exact heq)
            refine ⟨ad, W.ca cc, dd, ns, rfl, e1, C.cls, C.no f q2, ?_, h2 σ _ m2 le3 (sr2.put (ob := .ins cc (fs ++ [d])) had hz ⟨dd, _, upd_same, ?_, ?_⟩) (((er.mono le1).mono le2).mono le3)⟩
            · rw [hlen, ← heq]; omega
            · rw [k1, List.map_append, e2, C.cf, List.length_append]
              have hn : ci.fields[fs.length]? = some f := by rw [← heq]; exact q1
              have hn' := List.getElem?_eq_some_iff.mp hn
              rw [show fs.length + [d].length = fs.length + 1 from rfl, List.take_succ, hn]
              rfl
            · rw [k1, List.map_append]
              exact (by rw [← k1]; exact e3.mono le3 : RepL W m2 (upd H2 ad (.ins (W.ca cc) dd (ns ++ [(f, v)]))) fs (ns.map (·.2))).append (RepL.one (by rw [← k1]; exact rv2))
          · exact h2.elim
    · exact h2.elim
  · exact h2.elim
end
end Py
end

section
set_option Elab.async false
set_option linter.all false
set_option maxRecDepth 100000
namespace Py
open PySem PySem.Spec PyProof.Rows L2
section
variable {W : Wd} {k : Nat} {ways : Nat → List Way} {Γ : Gam} {m m' : List Addr} {H H' : Hp} {S : Py.St} {E : XK}
/-! ### built-in functions -/
def rBi (W : Wd) (f : List D → Option D) : List V → Hp → VK → Prop := fun xs H Q => ∃ m S ds d, SR W m H S ∧ RepL W m H ds xs ∧ f (ds.map (vw S)) = some d ∧ ∀ v H' m', Le m H m' H' → SR W m' H' S → Rep W m' H' d v → Q v H'
theorem repl1 {ds : List D} {x : D} {xs : List V} {S : Py.St} (h : ds.map (vw S) = [x]) (r : RepL W m H ds xs) : ∃ d v, ds = [d] ∧ xs = [v] ∧ vw S d = x ∧ Rep W m H d v := by
  cases ds with
  | nil => simp at h
  | cons d ds =>
    cases ds with
    | cons _ _ => simp at h
    | nil =>
      simp only [RepL] at r
      obtain ⟨v, w, rfl, r1, rfl⟩ := r
      simp at h
      exact ⟨d, v, rfl, rfl, h, r1⟩
theorem repl2 {ds : List D} {x y : D} {xs : List V} {S : Py.St} (h : ds.map (vw S) = [x, y]) (r : RepL W m H ds xs) : ∃ d e v w, xs = [v, w] ∧ vw S d = x ∧ vw S e = y ∧ Rep W m H d v ∧ Rep W m H e w := by
  cases ds with
  | nil => simp at h
  | cons d ds =>
    cases ds with
    | nil => simp at h
    | cons e ds =>
      cases ds with
      | cons _ _ => simp at h
      | nil =>
        simp only [RepL] at r
        obtain ⟨v, w, rfl, r1, v2, w2, rfl, r2, rfl⟩ := r
        simp at h
        exact ⟨d, e, v, v2, rfl, h.1, h.2, r1, r2⟩
theorem bi_len {X : Cx} : CallR X (.builtin "len") (rBi W (biD .len)) := by
  intro pins s σ H xs us Q I rv ⟨m, S, ds, d, sr, rl, e, q⟩
  unfold biD at e
  split at e <;> try contradiction
  all_goals try (cases e; done)
  · rename_i ys hb h
    cases e
    obtain ⟨x, v, rfl, rfl, hx, r⟩ := repl1 h rl
    cases vw_tup hx
    obtain ⟨a, vs, rfl, t1, t2⟩ := rep_tup r
    exact call_len_seq pins s σ H _ us Q I rv ⟨a, vs, rfl, .inr (tp_sq t1), by rw [← t2.length]; exact q _ _ _ .refl sr (.int _)⟩
  · rename_i ys hb h
    cases e
    obtain ⟨x, v, rfl, rfl, hx, r⟩ := repl1 h rl
    obtain ⟨a, vs, rfl, t1, t2⟩ := rep_lst sr r hx
    exact call_len_seq pins s σ H _ us Q I rv ⟨a, vs, rfl, .inl (.inl t1), by rw [← t2.length]; exact q _ _ _ .refl sr (.int _)⟩
  · rename_i t kvs hb h
    cases e
    obtain ⟨x, v, rfl, rfl, hx, r⟩ := repl1 h rl
    obtain ⟨a, rfl, da⟩ := rep_dct sr r hx
    obtain ⟨u, rfl, ru⟩ := vals1 rv
    obtain rfl : u = Value.ref a := ru
    cases t with
    | false =>
      obtain ⟨ks, h1, h2, _⟩ := da
      have hl : kvs.length = ks.length := by simpa using congrArg List.length h2
      exact d_len I h1 fun t s' I' => ⟨.int ks.length, H, I', ⟨t, rfl⟩, by rw [← hl]; exact q _ _ _ .refl sr (.int _)⟩
    | true =>
      obtain ⟨ks, h1, h2, _⟩ := da
      have hl : kvs.length = ks.length := by simpa using congrArg List.length h2
      obtain ⟨z, hd, ys, rel, dd⟩ := dt_rd I.hok h1
      have hl2 : ks.length = ys.length := Paired.length rel
      refine call_len_dictH hd dd (by rw [← hl2]; rw [sizeLine_eq] at z; omega) ?_
      exact ⟨.int ys.length, H, I.tok _, ⟨_, rfl⟩, by rw [← hl2, ← hl]; exact q _ _ _ .refl sr (.int _)⟩
  · rename_i z hb h
    split at e <;> cases e
    rename_i hz
    obtain ⟨x, v, rfl, rfl, hx, r⟩ := repl1 h rl
    cases vw_str hx
    exact call_len_str pins s σ H _ us Q I rv ⟨sOf z, by rw [rep_str r], by rw [sOf_len, ← line_eq]; exact hz, by rw [sOf_len]; exact q _ _ _ .refl sr (.int _)⟩
theorem bi_abs {X : Cx} : CallR X (.builtin "abs") (rBi W (biD .abs)) := by
  intro pins s σ H xs us Q I rv ⟨m, S, ds, d, sr, rl, e, q⟩
  unfold biD at e
  split at e <;> try contradiction
  all_goals try (cases e; done)
  rename_i i hb h
  cases e
  obtain ⟨x, v, rfl, rfl, hx, r⟩ := repl1 h rl
  cases vw_int hx
  exact call_abs pins s σ H _ us Q I rv ⟨i, by rw [rep_int r], q _ _ _ .refl sr (.int _)⟩
theorem bi_max {X : Cx} (hc : X.calm = true) : CallR X (.builtin "max") (rBi W (biD .max)) := by
  intro pins s σ H xs us Q I rv ⟨m, S, ds, d, sr, rl, e, q⟩
  unfold biD at e
  split at e <;> try contradiction
  all_goals try (cases e; done)
  rename_i i j hb h
  cases e
  obtain ⟨x, y, v, w, rfl, hx, hy, r1, r2⟩ := repl2 h rl
  cases vw_int hx; cases vw_int hy
  exact call_max2 hc pins s σ H _ us Q I rv ⟨i, j, by rw [rep_int r1, rep_int r2], q _ _ _ .refl sr (.int _)⟩
theorem bi_min {X : Cx} (hc : X.calm = true) : CallR X (.builtin "min") (rBi W (biD .min)) := by
  intro pins s σ H xs us Q I rv ⟨m, S, ds, d, sr, rl, e, q⟩
  unfold biD at e
  split at e <;> try contradiction
  all_goals try (cases e; done)
  rename_i i j hb h
  cases e
  obtain ⟨x, y, v, w, rfl, hx, hy, r1, r2⟩ := repl2 h rl
  cases vw_int hx; cases vw_int hy
  exact call_min2 hc pins s σ H _ us Q I rv ⟨i, j, by rw [rep_int r1, rep_int r2], q _ _ _ .refl sr (.int _)⟩
theorem bi_divmod {X : Cx} : CallR X (.builtin "divmod") (rBi W (biD .divmod)) := by
  intro pins s σ H xs us Q I rv ⟨m, S, ds, d, sr, rl, e, q⟩
  unfold biD at e
  split at e <;> try contradiction
  all_goals try (cases e; done)
  rename_i i j hb h
  split at e <;> cases e
  rename_i hz
  obtain ⟨x, y, v, w, rfl, hx, hy, r1, r2⟩ := repl2 h rl
  cases vw_int hx; cases vw_int hy
  refine call_divmod pins s σ H _ us Q I rv ⟨i, j, by rw [rep_int r1, rep_int r2], by simpa [CDiv] using hz, fun p hp => new_tup (xs := [.int (i / j), .int (i % j)]) q sr ?_ p (nT []) hp rfl⟩
  simp only [RepL]
  exact ⟨_, _, rfl, .int _, _, _, rfl, .int _, rfl⟩
theorem r_callB {b : Bi} {es : MEs} {x : Str} {id : String} {e : Expr} {xs : List Expr} {p pos : Pos} (hc : Γ.calm = true) (h1 : isGl Γ.sc x = true) (h2 : Γ.G.lookup x = some .free) (hv : bootBuiltins x = some (.builtin id)) (hR : ∀ X : Cx, X.calm = true → CallR X (.builtin id) (rBi W (biD b))) (hs : (e :: xs).any isStar = false)
    (ha : SEs W k ways Γ es (e :: xs)) : SE W k ways Γ (.bi b es) (.Call (.Name x p) (e :: xs) [] pos) := fun X c E tk => by
  obtain ⟨g1, g2, g3⟩ := gl_of c.sc h1
  have hm : X.mg x = none := c.glob x _ h2
  simp only [List.any_cons, Bool.or_eq_false_iff] at hs
  refine PEw (pe_callB (hR X (c.calm hc).1) g1 hm hv (ha X c E tk) g3 g2 (star_no hs.1 _ _) (star_any hs.2 _ _)) fun σ H Q ⟨m, S, ρ, sr, er, h⟩ => ?_
  simp only [evE] at h
  refine ⟨m, S, ρ, sr, er, h.bind.imp ?_⟩
  rintro ys H1 ⟨m1, ds, S1, le1, sr1, rs, h1⟩
  obtain ⟨d, ed, q⟩ := h1.opt
  exact ⟨m1, S1, ds, d, sr1, rs, ed, q⟩
theorem r_callT {b : Bi} {es : MEs} {x : Str} {id : String} {e : Expr} {xs : List Expr} {p pos : Pos} (hc : Γ.calm = true) (h1 : isGl Γ.sc x = true) (h2 : Γ.G.lookup x = some .free) (hv : bootBuiltins x = some (.type id)) (hR : ∀ X : Cx, X.calm = true → CallR X (.type id) (rBi W (biD b))) (hs : (e :: xs).any isStar = false)
    (ha : SEs W k ways Γ es (e :: xs)) : SE W k ways Γ (.bi b es) (.Call (.Name x p) (e :: xs) [] pos) := fun X c E tk => by
  obtain ⟨g1, g2, g3⟩ := gl_of c.sc h1
  have hm : X.mg x = none := c.glob x _ h2
  simp only [List.any_cons, Bool.or_eq_false_iff] at hs
  refine PEw (pe_callTy (hR X (c.calm hc).1) g1 hm hv (ha X c E tk) g3 g2 (star_no hs.1 _ _) (star_any hs.2 _ _)) fun σ H Q ⟨m, S, ρ, sr, er, h⟩ => ?_
  simp only [evE] at h
  refine ⟨m, S, ρ, sr, er, h.bind.imp ?_⟩
  rintro ys H1 ⟨m1, ds, S1, le1, sr1, rs, h1⟩
  obtain ⟨d, ed, q⟩ := h1.opt
  exact ⟨m1, S1, ds, d, sr1, rs, ed, q⟩
theorem val_eq : ∀ (s : List Nat) (a : Nat), valS s a = s.foldl (fun acc c => acc * 10 + (c - 48)) a
  | [], _ => rfl
  | c :: r, a => by
    simp only [valS, List.foldl_cons]
    exact val_eq r _
theorem bi_int {X : Cx} : CallR X (.type "int") (rBi W (biD .int)) := by
  intro pins s σ H xs us Q I rv ⟨m, S, ds, d, sr, rl, e, q⟩
  unfold biD at e
  split at e <;> try contradiction
  all_goals try (cases e; done)
  · rename_i i hb h
    cases e
    obtain ⟨x, v, rfl, rfl, hx, r⟩ := repl1 h rl
    cases vw_int hx
    exact call_int1 pins s σ H _ us Q I rv (.inl ⟨i, by rw [rep_int r], q _ _ _ .refl sr (.int _)⟩)
  · rename_i b hb h
    cases e
    obtain ⟨x, v, rfl, rfl, hx, r⟩ := repl1 h rl
    cases vw_bl hx
    exact call_int1 pins s σ H _ us Q I rv (.inr ⟨b, by rw [rep_bl r], q _ _ _ .refl sr (.int _)⟩)
  · rename_i z hb h
    split at e <;> cases e
    rename_i hz
    simp only [Bool.and_eq_true, decide_eq_true_eq, figs, Bool.not_eq_true', List.all_eq_true] at hz
    obtain ⟨⟨z1, z2⟩, z3⟩ := hz
    obtain ⟨x, v, rfl, rfl, hx, r⟩ := repl1 h rl
    cases vw_str hx
    refine call_int_str pins s σ H _ us Q I rv ⟨sOf z, _, by rw [rep_str r], PySem.intText_digits (x := sOf z) ?_ ?_ ?_, by rw [sOf_len]; omega, ?_⟩
    · rw [sOf_toList]
      intro c hc
      simpa using z2 c hc
    · rw [sOf_toList]
      intro hn
      subst hn
      cases z1
    · rw [sOf_len]; omega
    · rw [sOf_toList]
      have := q (.int ((valS z 0 : Nat) : Int)) H m .refl sr (.int _)
      rw [val_eq] at this
      exact this
/-! ### built-in functions over what can be gone through -/
def rIt (W : Wd) (mu : Bool) (b : Bt) : List V → Hp → VK → Prop := fun xs H Q => ∃ E m S d v, xs = [v] ∧ SR W m H S ∧ Rep W m H d v ∧ KG W E m H (Rep W) (btD mu b (vw S d) S) Q
theorem it_tuple {X : Cx} {mu : Bool} : CallR X (.type "tuple") (rIt W mu .tuple) := by
  intro pins s σ H xs us Q I rv ⟨E, m, S, d, v, hxs, sr, r, h⟩
  subst hxs
  simp only [btD, btX, btD0] at h
  split at h
  · rename_i ys hx
    cases vw_tup hx
    obtain ⟨a, vs, rfl, t1, t2⟩ := rep_tup r
    exact call_tuple_ofX pins s σ H _ us Q I rv ⟨a, vs, rfl, .inr ⟨tp_sq t1, h.ok sr (.tup t1 t2)⟩⟩
  · rename_i ys hx
    obtain ⟨a, vs, rfl, t1, t2⟩ := rep_lst sr r hx
    exact call_tuple_ofX pins s σ H _ us Q I rv ⟨a, vs, rfl, .inl ⟨.inl t1, _, new_tup h sr t2⟩⟩
  · exact h.elim
theorem bools_rep : ∀ {xs : List D} {bs : List Bool} {vs : List V}, bools xs = some bs → RepL W m H xs vs → vs = bs.map V.bl
  | [], bs, vs, h, r => by
    simp only [bools, mapO] at h; cases h
    simp only [RepL] at r; rw [r]; rfl
  | x :: xs, bs, vs, h, r => by
    simp only [bools, mapO] at h
    split at h <;> cases h
    rename_i b bs' h1 h2
    simp only [RepL] at r
    obtain ⟨v, w, rfl, r1, r2⟩ := r
    have := bools_rep (xs := xs) (bs := bs') (by simpa only [bools] using h2) r2
    rw [this]
    cases x <;> simp only at h1 <;> cases h1
    rw [rep_bl r1]; rfl
theorem it_all {X : Cx} {mu : Bool} (hc : X.calm = true) : CallR X (.builtin "all") (rIt W mu .all) := by
  intro pins s σ H xs us Q I rv ⟨E, m, S, d, v, hxs, sr, r, h⟩
  subst hxs
  simp only [btD, btX, btD0] at h
  split at h
  · rename_i ys hx
    obtain ⟨a, vs, rfl, t1, t2⟩ := rep_lst sr r hx
    split at h
    · rename_i bs hb
      have e := bools_rep hb t2
      subst e
      exact cr_all hc pins s σ H _ us Q I rv ⟨a, bs, rfl, .inl t1, okB h sr⟩
    · exact h.elim
  · exact h.elim
theorem it_any {X : Cx} {mu : Bool} (hc : X.calm = true) : CallR X (.builtin "any") (rIt W mu .any) := by
  intro pins s σ H xs us Q I rv ⟨E, m, S, d, v, hxs, sr, r, h⟩
  subst hxs
  simp only [btD, btX, btD0] at h
  split at h
  · rename_i ys hx
    obtain ⟨a, vs, rfl, t1, t2⟩ := rep_lst sr r hx
    split at h
    · rename_i bs hb
      have e := bools_rep hb t2
      subst e
      exact cr_any hc pins s σ H _ us Q I rv ⟨a, bs, rfl, .inl t1, okB h sr⟩
    · exact h.elim
  · exact h.elim
theorem repK_of : ∀ {kvs : List (D × D)} {ks : List (Key × V)}, kvs.map (fun p => keyK p.1) = ks.map (fun p => some p.1) → RepL W m H (kvs.map (·.1)) (ks.map fun kv => kV kv.1)
  | [], [], _ => by simp only [List.map_nil, RepL]
  | [], _ :: _, h => by cases h
  | _ :: _, [], h => by cases h
  | (x, y) :: kvs, (q, w) :: ks, h => by
    simp only [List.map_cons, List.cons.injEq] at h
    simp only [List.map_cons, RepL]
    refine ⟨_, _, rfl, ?_, repK_of h.2⟩
    have h1 := h.1
    cases x <;> simp only [keyK, Option.some.injEq] at h1 <;> first | contradiction | skip
    · subst h1; exact .int _
    · subst h1; exact .str _
theorem it_list {X : Cx} {mu : Bool} (hc : X.calm = true) : CallR X (.type "list") (rIt W mu .list) := by
  intro pins s σ H xs us Q I rv ⟨E, m, S, d, v, hxs, sr, r, h⟩
  subst hxs
  simp only [btD, btX, btD0] at h
  split at h
  · rename_i ys hx
    cases vw_tup hx
    obtain ⟨a, vs, rfl, t1, t2⟩ := rep_tup r
    exact call_list_of pins s σ H _ us Q I rv ⟨a, vs, rfl, .inr (tp_sq t1), new_lstM h sr t2⟩
  · rename_i ys hx
    obtain ⟨a, vs, rfl, t1, t2⟩ := rep_lst sr r hx
    exact call_list_of pins s σ H _ us Q I rv ⟨a, vs, rfl, .inl (.inl t1), new_lstM h sr t2⟩
  · exact h.elim
theorem ints_rep : ∀ {xs : List D} {bs : List Int} {vs : List V}, Py.intZ xs = some bs → RepL W m H xs vs → vs = bs.map V.int
  | [], bs, vs, h, r => by
    simp only [Py.intZ, mapO] at h; cases h
    simp only [RepL] at r; rw [r]; rfl
  | x :: xs, bs, vs, h, r => by
    simp only [Py.intZ, mapO] at h
    split at h <;> cases h
    rename_i b bs' h1 h2
    simp only [RepL] at r
    obtain ⟨v, w, rfl, r1, r2⟩ := r
    have := ints_rep (xs := xs) (bs := bs') (by simpa only [Py.intZ] using h2) r2
    rw [this]
    cases x <;> simp only at h1 <;> cases h1
    rw [rep_int r1]; rfl
theorem it_sum {X : Cx} {mu : Bool} (hc : X.calm = true) : CallR X (.builtin "sum") (rIt W mu .sum) := by
  intro pins s σ H xs us Q I rv ⟨E, m, S, d, v, hxs, sr, r, h⟩
  subst hxs
  simp only [btD, btX, btD0] at h
  split at h
  · rename_i ys hx
    obtain ⟨a, vs, rfl, t1, t2⟩ := rep_lst sr r hx
    split at h
    · rename_i bs hb
      have e := ints_rep hb t2
      subst e
      exact cr_sum hc pins s σ H _ us Q I rv ⟨a, bs, rfl, .inl t1, h.ok sr (.int _)⟩
    · exact h.elim
  · exact h.elim
theorem maxF (n : Int) (ns : List Int) : ∀ m, m ∈ n :: ns → (∀ y, y ∈ n :: ns → y ≤ m) → m = ns.foldl (fun a b => if a < b then b else a) n := by
  have key : ∀ (ns : List Int) (n : Int), ns.foldl (fun a b => if a < b then b else a) n ∈ n :: ns ∧ ∀ y, y ∈ n :: ns → y ≤ ns.foldl (fun a b => if a < b then b else a) n := by
    intro ns
    induction ns with
    | nil => intro n; simp
    | cons b r ih =>
      intro n
      simp only [List.foldl_cons]
      split
      · rename_i hlt
        obtain ⟨i1, i2⟩ := ih b
        refine ⟨List.mem_cons_of_mem _ i1, fun y hy => ?_⟩
        rcases List.mem_cons.mp hy with rfl | hy
        · exact Int.le_trans (Int.le_of_lt hlt) (i2 b (List.mem_cons_self ..))
        · exact i2 y hy
      · rename_i hlt
        obtain ⟨i1, i2⟩ := ih n
        refine ⟨?_, fun y hy => ?_⟩
        · rcases List.mem_cons.mp i1 with h | h
          · rw [h]; exact List.mem_cons_self ..
          · exact List.mem_cons_of_mem _ (List.mem_cons_of_mem _ h)
        · rcases List.mem_cons.mp hy with rfl | hy
          · exact i2 _ (List.mem_cons_self ..)
          · rcases List.mem_cons.mp hy with rfl | hy
            · exact Int.le_trans (Int.not_lt.mp hlt) (i2 n (List.mem_cons_self ..))
            · exact i2 y (List.mem_cons_of_mem _ hy)
  intro m h1 h2
  obtain ⟨k1, k2⟩ := key ns n
  exact Int.le_antisymm (k2 m h1) (h2 _ k1)
theorem minF (n : Int) (ns : List Int) : ∀ m, m ∈ n :: ns → (∀ y, y ∈ n :: ns → m ≤ y) → m = ns.foldl (fun a b => if b < a then b else a) n := by
  have key : ∀ (ns : List Int) (n : Int), ns.foldl (fun a b => if b < a then b else a) n ∈ n :: ns ∧ ∀ y, y ∈ n :: ns → ns.foldl (fun a b => if b < a then b else a) n ≤ y := by
    intro ns
    induction ns with
    | nil => intro n; simp
    | cons b r ih =>
      intro n
      simp only [List.foldl_cons]
      split
      · rename_i hlt
        obtain ⟨i1, i2⟩ := ih b
        refine ⟨List.mem_cons_of_mem _ i1, fun y hy => ?_⟩
        rcases List.mem_cons.mp hy with rfl | hy
        · exact Int.le_trans (i2 b (List.mem_cons_self ..)) (Int.le_of_lt hlt)
        · exact i2 y hy
      · rename_i hlt
        obtain ⟨i1, i2⟩ := ih n
        refine ⟨?_, fun y hy => ?_⟩
        · rcases List.mem_cons.mp i1 with h | h
          · rw [h]; exact List.mem_cons_self ..
          · exact List.mem_cons_of_mem _ (List.mem_cons_of_mem _ h)
        · rcases List.mem_cons.mp hy with rfl | hy
          · exact i2 _ (List.mem_cons_self ..)
          · rcases List.mem_cons.mp hy with rfl | hy
            · exact Int.le_trans (i2 n (List.mem_cons_self ..)) (Int.not_lt.mp hlt)
            · exact i2 y (List.mem_cons_of_mem _ hy)
  intro m h1 h2
  obtain ⟨k1, k2⟩ := key ns n
  exact Int.le_antisymm (h2 _ k1) (k2 m h1)
theorem it_max {X : Cx} {mu : Bool} (hc : X.calm = true) : CallR X (.builtin "max") (rIt W mu .max) := by
  intro pins s σ H xs us Q I rv ⟨E, m, S, d, v, hxs, sr, r, h⟩
  subst hxs
  simp only [btD, btX, btD0] at h
  split at h
  · rename_i ys hx
    obtain ⟨a, vs, rfl, t1, t2⟩ := rep_lst sr r hx
    split at h
    · rename_i n ns hb
      have e := ints_rep hb t2
      subst e
      exact cr_max hc pins s σ H _ us Q I rv ⟨a, n :: ns, rfl, .inl t1, Nat.succ_pos _, fun z h1 h2 => by rw [maxF n ns z h1 h2]; exact h.ok sr (.int _)⟩
    · exact h.elim
  · exact h.elim
theorem it_min {X : Cx} {mu : Bool} (hc : X.calm = true) : CallR X (.builtin "min") (rIt W mu .min) := by
  intro pins s σ H xs us Q I rv ⟨E, m, S, d, v, hxs, sr, r, h⟩
  subst hxs
  simp only [btD, btX, btD0] at h
  split at h
  · rename_i ys hx
    obtain ⟨a, vs, rfl, t1, t2⟩ := rep_lst sr r hx
    split at h
    · rename_i n ns hb
      have e := ints_rep hb t2
      subst e
      exact cr_min hc pins s σ H _ us Q I rv ⟨a, n :: ns, rfl, .inl t1, Nat.succ_pos _, fun z h1 h2 => by rw [minF n ns z h1 h2]; exact h.ok sr (.int _)⟩
    · exact h.elim
  · exact h.elim
theorem bindA {α β γ : Type} (r : Res α) (f : α → Py.St → Res β) (g : β → Py.St → Res γ) : (r.bind f).bind g = r.bind fun a S => (f a S).bind g := by cases r <;> rfl
theorem it_of {b : Bt} {mu : Bool} {a : ME} {ea : Expr} {X : Cx} (hs : isStar ea = false) (c : Ctx W k ways X Γ) (tk : tkE X E) (ha : SE W k ways Γ a ea) :
    ∃ t, PA X [ea] t ∧ ∀ σ H Q, tE W (jX X) (run W.T k) E (.it b mu (.val a)) σ H Q → t σ H fun vs H1 => rIt W mu b vs H1 Q := by
  refine ⟨_, pa_cons (ha X c E tk) pa_nil (star_no hs _ _), fun σ H Q ⟨m, S, ρ, sr, er, h⟩ => ?_⟩
  simp only [evE, evI] at h
  refine ⟨m, S, ρ, sr, er, ?_⟩
  rw [bindA] at h
  refine KG.imp (KG.bind h) ?_
  rintro x H1 ⟨m1, dx, S1, le1, sr1, rx, h1⟩
  split at h1
  · exact ⟨E, m1, S1, dx, x, rfl, sr1, rx, h1⟩
  · exact h1.elim
theorem r_itB {b : Bt} {mu : Bool} {a : ME} {x : Str} {id : String} {e : Expr} {p pos : Pos} (hc : Γ.calm = true) (h1 : isGl Γ.sc x = true) (h2 : Γ.G.lookup x = some .free) (hv : bootBuiltins x = some (.builtin id)) (hR : ∀ X : Cx, X.calm = true → X.A.units + 70 < cLine → CallR X (.builtin id) (rIt W mu b)) (hs : isStar e = false)
    (ha : SE W k ways Γ a e) : SE W k ways Γ (.it b mu (.val a)) (.Call (.Name x p) [e] [] pos) := fun X c E tk => by
  obtain ⟨g1, g2, g3⟩ := gl_of c.sc h1
  have hm : X.mg x = none := c.glob x _ h2
  obtain ⟨t, pa, ht⟩ := it_of (b := b) (mu := mu) hs c tk ha
  exact PEw (pe_callB (hR X (c.calm hc).1 c.un) g1 hm hv pa g3 g2 (star_no hs _ _) (star_any (by simp) _ _)) fun σ H Q h => ht σ H Q h
theorem r_itT {b : Bt} {mu : Bool} {a : ME} {x : Str} {id : String} {e : Expr} {p pos : Pos} (hc : Γ.calm = true) (h1 : isGl Γ.sc x = true) (h2 : Γ.G.lookup x = some .free) (hv : bootBuiltins x = some (.type id)) (hR : ∀ X : Cx, X.calm = true → X.A.units + 70 < cLine → CallR X (.type id) (rIt W mu b)) (hs : isStar e = false)
    (ha : SE W k ways Γ a e) : SE W k ways Γ (.it b mu (.val a)) (.Call (.Name x p) [e] [] pos) := fun X c E tk => by
  obtain ⟨g1, g2, g3⟩ := gl_of c.sc h1
  have hm : X.mg x = none := c.glob x _ h2
  obtain ⟨t, pa, ht⟩ := it_of (b := b) (mu := mu) hs c tk ha
  exact PEw (pe_callTy (hR X (c.calm hc).1 c.un) g1 hm hv pa g3 g2 (star_no hs _ _) (star_any (by simp) _ _)) fun σ H Q h => ht σ H Q h
/-! ### C(e, ..) -/
def noSt : MEs → Bool
  | .nil => true
  | .cons b _ r => !b && noSt r
theorem evEs_len {cl : Cl} : ∀ (es : MEs), noSt es = true → ∀ {ρ : Py.Env} {S S' : Py.St} {ds : List D}, evEs cl es ρ S = .ok ds S' → ds.length = es.len
  | .nil, _, ρ, S, S', ds, h => by
    simp only [evEs] at h
    cases h; rfl
  | .cons true a r, hn, ρ, S, S', ds, h => by simp [noSt] at hn
  | .cons false a r, hn, ρ, S, S', ds, h => by
    simp only [evEs] at h
    cases e1 : evE cl a ρ S with
    | ok d1 S1 =>
      rw [e1, Res.bind_ok] at h
      cases e2 : evEs cl r ρ S1 with
      | ok d2 S2 =>
        rw [e2, Res.bind_ok] at h
        cases h
        have := evEs_len r (by simpa [noSt] using hn) e2
        simp [MEs.len, this]
      | exc _ _ _ => rw [e2] at h; cases h
      | bad => rw [e2] at h; cases h
    | exc _ _ _ => rw [e1] at h; cases h
    | bad => rw [e1] at h; cases h
def newR (cl : Cl) (c g : Nat) (mu : Bool) (ds : List D) (S : Py.St) : Res D := (cl (.fn g) (some (.d (.loc S.length)) :: ds.map fun d => some (.d d)) (S ++ [.ins c []])).bind fun r S' => match r with
  | .non => match mu with
    | true => .ok (.loc S.length) S'
    | false => closeC S (.ok (.loc S.length) S')
  | _ => .bad
theorem r_new {c g : Nat} {mu : Bool} {ci : CI} {F : Fun} {es : MEs} {x : Str} {xs : List Expr} {p pos : Pos} (hc : Γ.calm = true) (h1 : isGl Γ.sc x = true) (h2 : Γ.G.lookup x = some (.cls c)) (hci : W.ci c = some ci) (hg : ci.init = g) (hT : W.T g = some F)
    (hw : (xs.length + 1, [], []) ∈ ways g) (hs : xs.any isStar = false) (hl : es.len = xs.length) (hst : noSt es = true) (ha : SEs W k ways Γ es xs) : SE W k ways Γ (.new c g mu es) (.Call (.Name x p) xs [] pos) := fun X cx E tk => by
  subst hg
  obtain ⟨g1, g2, _⟩ := gl_of cx.sc h1
  have hm : X.mg x = some (.ref (W.ca c)) := cx.glob x _ h2
  obtain ⟨fd, F1, hkeep, hways⟩ := cx.calls.fn ci.init F hT
  obtain ⟨_, hroom⟩ := cx.calm hc
  have C := cx.calls.cls c ci hci
  refine ⟨fun pins s σ H Q I h => ?_⟩
  obtain ⟨m, S, ρ, sr, er, h⟩ := h
  simp only [evE] at h
  replace h : KG W E m H (Rep W) ((evEs (run W.T k) es ρ S).bind fun ds S1 => newR (run W.T k) c ci.init mu ds S1) Q := h
  refine wpAny_Call_Name_kw (ld_glob I g1 hm ?_ g2)
  have start : KG W E m H (RepL W) (evEs (run W.T k) es ρ S) (fun vs H1 => vs.length = xs.length ∧ ∃ m1 ds S1, SR W m1 H1 S1 ∧ RepL W m1 H1 ds vs ∧ KG W E m1 H1 (Rep W) (newR (run W.T k) c ci.init mu ds S1) Q) := by
    cases e : evEs (run W.T k) es ρ S with
    | ok ds S1 =>
      rw [e] at h
      exact fun vs H1 m1 le sr rl => ⟨by rw [← rl.length, evEs_len es hst e]; exact hl, m1, ds, S1, sr, rl, KG.mono le h⟩
    | exc _ _ _ => rw [e] at h; exact h
    | bad => rw [e] at h; exact h
  have goal : ∀ (us : List Value) (s1 : Shared), (AP X pins σ (fun vs H1 => vs.length = xs.length ∧ ∃ m1 ds S1, SR W m1 H1 S1 ∧ RepL W m1 H1 ds vs ∧ KG W E m1 H1 (Rep W) (newR (run W.T k) c ci.init mu ds S1) Q) us s1) → X.K.In s1.heap ∧ wpAny (model X.prog X.w) X.A (call (.ref (W.ca c)) us) (EP X pins σ Q) X.xe s1 := by
    intro us s1 ⟨vs, H1, I1, r1, hvl, m1, ds, S1, sr1, rl, q⟩
    exact ⟨I1.kIn, make_run C F1 (hroom.mono (by omega)) tk (hways _ hw) I1 (by rw [← r1.length]; exact hvl) r1 sr1 rl q⟩
  cases xs with
  | nil =>
    have he : es = .nil := by
      cases es with
      | nil => rfl
      | cons _ _ _ => simp [MEs.len] at hl
    subst he
    simp only [evEs] at start
    exact PySem.W.callWith_K0 I.kIn C.make.kp (goal [] s ⟨[], H, I, .nil, start.ok sr (by simp only [RepL])⟩).2
  | cons ea rest =>
    simp only [List.any_cons, Bool.or_eq_false_iff] at hs
    exact PySem.W.callWith_K (h₀ := X.base) I.ok.mod.kin C.make.kp (thn ((ha X cx E tk).run pos pins s σ H _ I ⟨m, S, ρ, sr, er, start⟩) fun us s1 hq => goal us s1 hq) (star_no hs.1 _ _) (star_any hs.2 _ _)
end
end Py
end

section
set_option Elab.async false
set_option linter.all false
set_option maxRecDepth 100000
namespace Py
open PySem PySem.Spec PyProof.Rows L2
section
variable {W : Wd} {k : Nat} {ways : Nat → List Way} {Γ : Gam} {m m' : List Addr} {H H' : Hp} {S : Py.St} {E : XK}
/-! ### methods of built-in kinds -/
theorem m1_of {X : Cx} {o e : Expr} {n : Str} {ap cp : Pos} (hb : plainB o = true) (hs : isStar e = false) (hl : (ap.endLine == cp.line) = true) : M1 X o n ap e cp where
  base := base_ok hb n X.env _
  few := by rw [star_no hs]; rfl
  line := hl
  trees := by rw [star_no hs]; rfl
theorem m2_of {X : Cx} {o e f : Expr} {n : Str} {ap cp : Pos} (hb : plainB o = true) (hs : isStar e = false) (hs2 : isStar f = false) (hl : (ap.endLine == cp.line) = true) : M2 X o n ap e f cp where
  base := base_ok hb n X.env _
  few := by rw [star_no hs, star_no hs2]; rfl
  line := hl
  trees := by rw [star_no hs, star_no hs2]; rfl
theorem isD_of {t : Bool} {kvs : List (D × D)} {a : Addr} (d : DAt W m H t kvs a) : IsD H a := by
  cases t with
  | false => obtain ⟨ks, h, _⟩ := d; exact .inl ⟨ks, h⟩
  | true => obtain ⟨ks, h, _⟩ := d; exact .inr ⟨ks, h⟩
theorem kind_dct {b : Bm} {d : D} (hb : b = .get ∨ b = .get1) (h : kindB b d = true) : ∃ t kvs, d = .dct t kvs := by
  rcases hb with rfl | rfl <;> cases d <;> first | exact ⟨_, _, rfl⟩ | (simp [kindB] at h)
theorem vw_key {t : Bool} {d : D} (h : kOk t (vw S d) = true) : vw S d = d := by
  cases d with
  | loc n =>
    rw [vw_loc] at h ⊢
    revert h
    cases S[n]? with
    | none => intro h; cases t <;> simp [kOk, keyF, keyT] at h
    | some o => cases o <;> intro h <;> cases t <;> simp [kOk, keyF, keyT] at h
  | _ => rfl
theorem get1_of {x y d : D} (h : bmD .get1 x [y] = some d) : ∃ t kvs, x = .dct t kvs ∧ kOk t y = true ∧ d = (dget kvs y).getD .non := by
  cases x <;> simp only [bmD] at h <;> first | (cases h; done) | skip
  rename_i t kvs
  split at h
  · rename_i hk
    cases h
    exact ⟨t, kvs, rfl, hk, rfl⟩
  · cases h
theorem get2_of {x y z d : D} (h : bmD .get x [y, z] = some d) : ∃ t kvs, x = .dct t kvs ∧ kOk t y = true ∧ d = (dget kvs y).getD z := by
  cases x <;> simp only [bmD] at h <;> first | (cases h; done) | skip
  rename_i t kvs
  split at h
  · rename_i hk
    cases h
    exact ⟨t, kvs, rfl, hk, rfl⟩
  · cases h
theorem r_get1 {o a : ME} {eo ea : Expr} {ap cp : Pos} (hb : plainB eo = true) (hs : isStar ea = false) (hl : (ap.endLine == cp.line) = true) (ho : SE W k ways Γ o eo) (ha : SE W k ways Γ a ea) :
    SE W k ways Γ (.bm .get1 o (.cons false a .nil)) (.Call (.Attribute eo "get" ap) [ea] [] cp) := fun X c E tk => by
  refine PEw (pe_dget1 (by have := c.un; omega) (ho X c E tk) (ha X c E tk) (m1_of hb hs hl)) fun σ H Q ⟨m, S, ρ, sr, er, h⟩ => ?_
  simp only [evE, evEs, Res.bind_ok, isMut, rawA, if_true, bindA] at h
  refine ⟨m, S, ρ, sr, er, (KG.bind h).imp ?_⟩
  rintro x H1 ⟨m1, dx, S1, le1, sr1, rx, h1⟩
  split at h1
  · rename_i hk
    obtain ⟨t, kvs, hd⟩ := kind_dct (.inr rfl) hk
    obtain ⟨p, rfl, hp⟩ := rep_dct sr1 rx hd
    refine ⟨p, rfl, isD_of hp, m1, S1, ρ, sr1, er.mono le1, (KG.bind h1).imp ?_⟩
    rintro y H2 ⟨m2, dy, S2, le2, sr2, ry, h2⟩
    obtain ⟨d, ed, q⟩ := h2.opt
    obtain ⟨t2, kvs2, e1, e2, rfl⟩ := get1_of ed
    obtain ⟨p2, e3, hp2⟩ := rep_dct sr2 (rx.mono le2) e1
    cases e3
    obtain ⟨o, g1, g2⟩ := dget_of e2 ry hp2
    refine ⟨o, g1, ?_⟩
    split at g2
    · rename_i e4
      rw [e4] at q
      rw [g2]
      exact q _ _ _ .refl sr2 .non
    · rename_i d4 e4
      rw [e4] at q
      obtain ⟨v, rfl, rv⟩ := g2
      exact q _ _ _ .refl sr2 rv
  · exact h1.elim
theorem r_get2 {o a z : ME} {eo ea eb : Expr} {ap cp : Pos} (hb : plainB eo = true) (hs : isStar ea = false) (hs2 : isStar eb = false) (hl : (ap.endLine == cp.line) = true) (ho : SE W k ways Γ o eo) (ha : SE W k ways Γ a ea) (hB : SE W k ways Γ z eb) :
    SE W k ways Γ (.bm .get o (.cons false a (.cons false z .nil))) (.Call (.Attribute eo "get" ap) [ea, eb] [] cp) := fun X c E tk => by
  refine PEw (pe_dget2 (by have := c.un; omega) (ho X c E tk) (ha X c E tk) (hB X c E tk) (m2_of hb hs hs2 hl)) fun σ H Q ⟨m, S, ρ, sr, er, h⟩ => ?_
  simp only [evE, evEs, Res.bind_ok, isMut, rawA, if_true, bindA] at h
  refine ⟨m, S, ρ, sr, er, (KG.bind h).imp ?_⟩
  rintro x H1 ⟨m1, dx, S1, le1, sr1, rx, h1⟩
  split at h1
  · rename_i hk
    obtain ⟨t, kvs, hd⟩ := kind_dct (.inl rfl) hk
    obtain ⟨p, rfl, hp⟩ := rep_dct sr1 rx hd
    refine ⟨p, rfl, isD_of hp, m1, S1, ρ, sr1, er.mono le1, (KG.bind h1).imp ?_⟩
    rintro y H2 ⟨m2, dy, S2, le2, sr2, ry, h2⟩
    refine ⟨m2, S2, ρ, sr2, (er.mono le1).mono le2, (KG.bind h2).imp ?_⟩
    rintro v H3 ⟨m3, dz, S3, le3, sr3, rz, h3⟩
    obtain ⟨d, ed, q⟩ := h3.opt
    obtain ⟨t2, kvs2, e1, e2, rfl⟩ := get2_of ed
    obtain ⟨p2, e3, hp2⟩ := rep_dct sr3 ((rx.mono le2).mono le3) e1
    cases e3
    obtain ⟨o, g1, g2⟩ := dget_of e2 (ry.mono le3) hp2
    refine ⟨o, g1, ?_⟩
    split at g2
    · rename_i e4
      rw [e4] at q
      rw [g2]
      exact q _ _ _ .refl sr3 rz
    · rename_i d4 e4
      rw [e4] at q
      obtain ⟨v, rfl, rv⟩ := g2
      exact q _ _ _ .refl sr3 rv
  · exact h1.elim
/-- each by itself -/
def SEl (W : Wd) (k : Nat) (ways : Nat → List Way) (Γ : Gam) : MEs → List Expr → Prop
  | .nil, [] => True
  | .cons false a r, x :: xs => isStar x = false ∧ SE W k ways Γ a x ∧ SEl W k ways Γ r xs
  | _, _ => False
def vMeth : Expr → Option (Expr × Str × List Expr)
  | .Call (.Attribute o n ap) xs [] cp => if ap.endLine == cp.line then some (o, n, xs) else none
  | _ => none
theorem vMeth_ok {e : Expr} {x : Expr × Str × List Expr} (h : vMeth e = some x) : ∃ ap cp, e = .Call (.Attribute x.1 x.2.1 ap) x.2.2 [] cp ∧ (ap.endLine == cp.line) = true := by
  unfold vMeth at h
  split at h
  · split at h
    · rename_i hl
      cases h
      exact ⟨_, _, rfl, hl⟩
    · cases h
  · cases h
def bmN : Bm → Option Str
  | .get => some "get"
  | .get1 => some "get"
  | _ => none
def bmSh : Bm → MEs → Bool
  | .get1, .cons false _ .nil => true
  | .get, .cons false _ (.cons false _ .nil) => true
  | _, _ => false
theorem r_bm {b : Bm} {o : ME} {es : MEs} {eo : Expr} {n : Str} {xs : List Expr} {ap cp : Pos} (hn : bmN b = some n) (hs : bmSh b es = true) (hb : plainB eo = true) (hl : (ap.endLine == cp.line) = true) (ho : SE W k ways Γ o eo) (ha : SEl W k ways Γ es xs) :
    SE W k ways Γ (.bm b o es) (.Call (.Attribute eo n ap) xs [] cp) := by
  unfold bmSh at hs
  split at hs
  · simp only [bmN, Option.some.injEq] at hn
    subst hn
    match xs, ha with
    | [x], ha => 
      simp only [SEl] at ha
      exact r_get1 hb ha.1 hl ho ha.2.1
  · simp only [bmN, Option.some.injEq] at hn
    subst hn
    match xs, ha with
    | [x, y], ha => 
      simp only [SEl] at ha
      exact r_get2 hb ha.1 ha.2.2.1 hl ho ha.2.1 ha.2.2.2.1
  · cases hs
/-- a new dict with text or int keys, a place or not -/
theorem new_dkM {Q : VK} {kvs : List (D × D)} {ks : List (Key × V)} {mu : Bool} (h : KG W E m H (Rep W) (mkO mu (.dct false kvs false) S) Q) (sr : SR W m H S) (e : kvs.map (fun p => keyK p.1) = ks.map (fun p => some p.1)) (r : RepV W m H kvs (ks.map (·.2))) (p : Addr) (hp : H p = none) :
    Q (.ref p) (upd H p (.dK ks)) := by
  cases mu with
  | false =>
    refine h _ _ m (le_new hp) (sr.new hp) ?_
    simp only [Rep]
    exact ⟨p, ks, rfl, not_in sr hp, .inl upd_same, e, RepV.mono (le_new hp) _ _ r⟩
  | true =>
    refine h _ _ (m ++ [p]) (le_add hp) (sr.add hp ⟨ks, by simpa using upd_same, e, RepV.mono (le_add hp) _ _ r⟩) ?_
    simp only [Rep]
    exact ⟨p, by rw [← sr.len]; simp, rfl⟩
theorem it_dictD {X : Cx} {mu : Bool} : CallR X (.type "dict") (rIt W mu (.dictD false)) := by
  intro pins s σ H xs us Q I rv ⟨E, m, S, d, v, hxs, sr, r, h⟩
  subst hxs
  simp only [btD, btX, btD0] at h
  split at h
  · rename_i t kvs hx
    split at h
    · rename_i ht
      subst ht
      obtain ⟨a, rfl, ks, t1, t2, t3⟩ := rep_dct sr r hx
      exact call_dictD pins s σ H _ us Q I rv ⟨a, ks, rfl, t1, new_dkM h sr t2 t3⟩
    · exact h.elim
  · exact h.elim
end
end Py
end

section
set_option Elab.async false
set_option linter.all false
set_option maxRecDepth 100000
namespace Py
open PySem PySem.Spec PyProof.Rows L2
/-! ### what enumerate, zip draw from -/
theorem draws_imp {prog : Program} {w : World} {A : Around} {it : Addr} {fp : List Addr} {n n' : Nat} {P P' : Nat → Value → Prop} {St : Nat → Heap → Prop} (D : Draws prog w A it fp n P St) (hn : n = n') (h : ∀ i x, P i x → P' i x) : Draws prog w A it fp n' P' St := by
  subst hn
  exact ⟨D.live, D.frame, fun i s Q E hi st hQ => D.item i s Q E hi st fun x h' tk p => hQ x h' tk (h i x p), D.done⟩
theorem vals_at : ∀ {xs : List V} {us : List Value} {i : Nat} {u : Value}, Vals xs us → us[i]? = some u → ∃ x, xs[i]? = some x ∧ RelV x u
  | _, _, _, _, .nil, e => by simp at e
  | _, _, 0, _, .cons r _, e => by simp at e; subst e; exact ⟨_, rfl, r⟩
  | _, _, i + 1, u, .cons _ t, e => by
    obtain ⟨x, h1, h2⟩ := vals_at (i := i) (u := u) t (by simpa using e)
    exact ⟨x, by simpa using h1, h2⟩
structure Src (P : Program) (w : World) (K : PySem.W.Frag) (it : Addr) (fp : List Addr) (src : Hp → Prop) (vs : List V) (pv : Nat → Heap → Prop) : Prop where
  mem : it ∈ fp
  obj : ∀ i h, pv i h → ∃ o, h.get? it = some o ∧ ∀ v, o.data ≠ .cell v
  keep : ∀ i h h', pv i h → (∀ o, h.get? it = some o → h'.get? it = some o) → pv i h'
  drw : ∀ (X : Cx), X.prog = P → X.w = w → X.K = K → X.calm = true → ∀ (pins : List (Addr × Obj)) (s : Shared) (σ : L2.St) (H : Hp), Inv X pins σ H s → src H →
    ∃ St : Nat → Heap → Prop, Draws P w X.A.in1 it fp vs.length (fun i u => ∃ x, vs[i]? = some x ∧ RelV x u) St ∧ (∀ i, pv i s.heap → St i s.heap) ∧ ∀ i h, St i h → pv i h
theorem src_list {P : Program} {w : World} {K : PySem.W.Frag} {it a : Addr} {vs : List V} (hne : a ≠ it) : Src P w K it [it, a] (fun H => Rd H a (.lst vs)) vs (fun i h => h.IsListIter it a i) where
  mem := by simp
  obj := fun i h ⟨o, ho, hc, hd⟩ => ⟨o, ho, fun v q => by rw [hd] at q; cases q⟩
  keep := fun i h h' st k => st.at fun o e => k o e
  drw := fun X hP hw hK hc pins s σ H I hs => by
    subst hP hw hK
    obtain ⟨its, rv, p, hz⟩ := I.list (.inl hs)
    refine ⟨_, draws_imp (Draws.list (A := X.A.in1) (I.ok.hd hc) it a hne its.toArray) (by simpa using rv.length.symm) (fun i x e => ?_), fun i st => ⟨st, p.isList⟩, fun i h st => st.1⟩
    have e : its[i]? = some x := by simpa using e
    obtain ⟨y, h1, h2⟩ := vals_at rv e
    exact ⟨y, h1, h2⟩
theorem src_tup {P : Program} {w : World} {K : PySem.W.Frag} {it a : Addr} {vs : List V} (hne : a ≠ it) : Src P w K it [it, a] (fun H => Rd H a (.tup vs)) vs (fun i h => h.IsTupleIter it a i) where
  mem := by simp
  obj := fun i h ⟨o, ho, hc, hd⟩ => ⟨o, ho, fun v q => by rw [hd] at q; cases q⟩
  keep := fun i h h' st k => st.at fun o e => k o e
  drw := fun X hP hw hK hc pins s σ H I hs => by
    subst hP hw hK
    obtain ⟨its, rv, p, hz⟩ := I.tuple (.inl hs)
    refine ⟨_, draws_imp (Draws.tuple (A := X.A.in1) (I.ok.hd hc) it a hne its.toArray) (by simpa using rv.length.symm) (fun i x e => ?_), fun i st => ⟨st, p⟩, fun i h st => st.1⟩
    have e : its[i]? = some x := by simpa using e
    obtain ⟨y, h1, h2⟩ := vals_at rv e
    exact ⟨y, h1, h2⟩
theorem src_str {P : Program} {w : World} {K : PySem.W.Frag} {it : Addr} {z : List Nat} {t : Tok} : Src P w K it [it] (fun _ => True) (z.map fun c => V.str (sOf [c])) (fun i h => h.IsStrIter it (strIterType (sOf z)) (sOf z) t i) where
  mem := by simp
  obj := fun i h ⟨o, ho, hc, hd⟩ => ⟨o, ho, fun v q => by rw [hd] at q; cases q⟩
  keep := fun i h h' st k => let ⟨o, ho, r⟩ := st; ⟨o, k o ho, r⟩
  drw := fun X hP hw hK hc pins s σ H I hs => by
    subst hP hw hK
    refine ⟨_, draws_imp (Draws.text (A := X.A.in1) (I.ok.hd hc) it (sOf z) t) (by simp [sOf]) (fun i x ⟨c, u, e1, e2⟩ => ?_), fun i st => st, fun i h st => st⟩
    refine ⟨.str (sOf [c]), ?_, ?_⟩
    · rw [List.getElem?_map]
      have : z[i]? = some c := by simpa [sOf] using e1
      rw [this]; rfl
    · subst e2
      exact ⟨u, rfl⟩
/-! ### a turn -/
theorem wt_item {P : Program} {w : World} {A : Around} {X : Cx} {z : Addr} {fp wr : List Addr} {n i : Nat} {Pt : Nat → Array Value → Prop} {St : Nat → Heap → Prop} {Mid : Nat → Addr → Heap → Prop} {elts : List Expr} {kk : Nat} {tpos : Pos} {pins : List (Addr × Obj)} {s : Shared} {σ : L2.St} {H : Hp} {E : Value → Shared → Prop} {ch : List Addr}
    (WT : WalksT P w A z fp wr n Pt St Mid) (hA : A = X.A) (hP : X.prog = P) (hw : X.w = w) (I : Inv X pins σ H s) (hch : ∀ b ∈ wr, b ∈ ch) (hf : ∀ b ∈ ch, FpOk X pins H b) (hb : ∀ b ∈ ch, b < s.heap.objs.size) (hi : i < n) (st : St i s.heap) (Z : List V → Prop) (hZ : ∀ vals, Pt i vals → ∃ xs, Vals xs vals.toList ∧ xs.length ≤ sizeLine ∧ Z xs)
    (hI : ∀ (Q : Option Value → Shared → Prop) (E : Value → Shared → Prop), (∀ T vals h' tk, Pt i vals → s.heap.objs.size ≤ T → h'.get? T = some { cls := .type "tuple", data := .seq vals } → Mid i T h' → (∀ b o, b ∉ wr → s.heap.get? b = some o → h'.get? b = some o) → Q (some (.ref T)) { s with heap := h', toks := tk }) → wpAny (model P w) A (pyNext (.ref z)) Q E s)
    (b : Bool) (G : V → Hp → Hp → Prop) (hG : ∀ T xs o, H T = none → o.dict = none → Z xs → G (.ref T) H (upd H T (tupO b o xs))) :
    wpAny (model P w) X.A (pyNext (.ref z)) (fun r s1 => ∃ u, r = some u ∧
      wpAny (model P w) X.A (letOwnedTupleGo (.Tuple elts kk tpos) (.ref z) u) (fun _ s2 => ∃ x H', Inv X pins σ H' s2 ∧ RelV x u ∧ G x H H' ∧ St (i + 1) s2.heap ∧ ∀ b ∈ ch, H' b = none) E s1) E s := by
  subst hA hP hw
  refine hI _ E fun T vals h' tk hp hT hTup hMid hk => ⟨_, rfl, ?_⟩
  refine WT.go elts kk tpos i T _ _ E hMid fun h'' hst hk2 => ?_
  obtain ⟨xs, rv, hl, hz⟩ := hZ vals hp
  have hTn : T ∉ ch := fun q => Nat.lt_irrefl _ (Nat.lt_of_lt_of_le (hb T q) hT)
  have ho2 := hk2 T _ (fun q => hTn (hch T q)) hTup
  have new : ObjOk X.prog X.w (upd H T (tupO b { cls := .type "tuple", data := .seq vals } xs)) h'' T (tupO b { cls := .type "tuple", data := .seq vals } xs) := tupO_ok ho2 ⟨hl, vals.toList, rv, ⟨_, ho2, rfl, _, rfl⟩⟩
  have I1 : Inv X pins σ (upd H T (tupO b { cls := .type "tuple", data := .seq vals } xs)) { s with heap := h'', toks := tk } :=
    I.turnedNew (ch := ch) (fun b ob hbn q => hk2 b ob (fun q' => hbn (hch b q')) (hk b ob (fun q' => hbn (hch b q')) q)) hf hT new
  refine ⟨.ref T, _, I1, rfl, hG T xs _ (I.hok.fresh hT) rfl hz, hst, fun b hbm => ?_⟩
  rw [upd_ne (fun q => hTn (by rw [← q]; exact hbm))]
  exact (hf b hbm).1
/-- pairs of a count and what is drawn -/
def JE (src : Hp → Prop) (vs : List V) (k0 : Int) (b : Nat → Bool) : It :=
  ⟨fun i H => src H ∧ i < vs.length, fun i H v H' => ∃ T x o, v = .ref T ∧ H T = none ∧ o.dict = none ∧ H' = upd H T (tupO (b i) o [.int (k0 + (i : Nat)), x]) ∧ vs[i]? = some x, fun i H => src H ∧ vs.length ≤ i⟩
theorem turn_enumS {P : Program} {w : World} {K : PySem.W.Frag} {e it : Addr} {fp : List Addr} {src : Hp → Prop} {vs : List V} {pv : Nat → Heap → Prop} {k0 : Int} {bb : Nat → Bool} {elts : List Expr} {kk : Nat} {tpos : Pos} (S : Src P w K it fp src vs pv) (hef : e ∉ fp) :
    Turn P w K (.Tuple elts kk tpos) (JE src vs k0 bb) [e, it] e (fun i h => i ≤ vs.length ∧ (∃ old, IsEnum h e it (k0 + (i : Nat)) old) ∧ pv i h) where
  mem := by simp
  obj := fun i h ⟨_, ⟨old, he⟩, hp⟩ b hb => by
    have e' : b = e ∨ b = it := by simpa using hb
    rcases e' with z | z
    · rw [z]; exact ⟨_, he, fun v q => nomatch q⟩
    · rw [z]; exact S.obj i h hp
  keep := fun i h h' ⟨hi, ⟨old, he⟩, hp⟩ k => ⟨hi, ⟨old, k e (by simp) _ he⟩, S.keep i h h' hp fun o q => k it (by simp) o q⟩
  item := by
    intro X hP hw hK hc i pins s σ H E I hf ⟨hi, ⟨old, he⟩, hp⟩ ⟨hs, hlt⟩
    have hei : e ≠ it := fun q => hef (by rw [q]; exact S.mem)
    obtain ⟨St, D, s1, s2⟩ := S.drw X hP hw hK hc pins s σ H I hs
    have WT := WalksT.enumFrom (A := X.A) k0 D e hei hef S.mem
    have hb : ∀ b ∈ [e, it], b < s.heap.objs.size := fun b hb => by
      have e' : b = e ∨ b = it := by simpa using hb
      rcases e' with z | z
      · rw [z]; exact Heap.lt_size he
      · rw [z]; obtain ⟨o, ho, _⟩ := S.obj i _ hp; exact Heap.lt_size ho
    refine wpAny_mono (wt_item (elts := elts) (kk := kk) (tpos := tpos) (E := E) (ch := [e, it]) WT rfl hP hw I (fun b hb => hb) hf hb hlt ⟨⟨old, he⟩, s1 i hp⟩
      (fun xs => ∃ x, vs[i]? = some x ∧ xs = [.int (k0 + (i : Nat)), x]) (fun vals ⟨t, x, ⟨y, hy, ry⟩, ev⟩ => ⟨[.int (k0 + (i : Nat)), y], by rw [ev]; exact .cons ⟨_, rfl⟩ (.cons ry .nil), by show 2 ≤ sizeLine; decide, y, hy, rfl⟩)
      (fun Q E hQ => by
        refine wpAny_pyNext_enum_itemC D he (s1 i hp) hlt hei hef fun x h' tk hP ho hs' hT hsz hk => ?_
        have helt : e < s.heap.objs.size := Heap.lt_size he
        have hilt : it < s.heap.objs.size := by obtain ⟨_, y⟩ := D.live _ _ (s1 i hp); exact Heap.lt_size y
        exact hQ s.heap.objs.size #[.int (k0 + (i : Int)) tk, x] h' (tk + 1) ⟨_, _, hP, rfl⟩ (Nat.le_refl _) hT
          ⟨⟨_, ho⟩, hs', Nat.ne_of_gt helt, Nat.ne_of_gt hilt⟩
          fun b o hb y => hk b o (fun e' => hb (by simp [e'])) (fun e' => hb (by simp [e'])) y)
      (bb i) (fun v H H' => ∃ T x o, v = .ref T ∧ H T = none ∧ o.dict = none ∧ H' = upd H T (tupO (bb i) o [.int (k0 + (i : Nat)), x]) ∧ vs[i]? = some x) (fun T xs o hn ho ⟨x, hx, ex⟩ => ⟨T, x, o, rfl, hn, ho, by rw [ex], hx⟩)) ?_ (fun _ _ q => q)
    rintro r s3 ⟨u, hu, q⟩
    refine ⟨u, hu, wpAny_mono q ?_ (fun _ _ q => q)⟩
    rintro _ s4 ⟨x, H', I', r1, r2, ⟨r3, r4⟩, r5⟩
    exact ⟨x, H', I', r1, r2, ⟨hlt, r3, s2 _ _ r4⟩, r5⟩
  done := by
    intro X hP hw hK hc i pins s σ H E I hf ⟨hi, ⟨old, he⟩, hp⟩ ⟨hs, hle⟩
    have hei : e ≠ it := fun q => hef (by rw [q]; exact S.mem)
    obtain ⟨St, D, s1, s2⟩ := S.drw X hP hw hK hc pins s σ H I hs
    have WT := WalksT.enumFrom (A := X.A) k0 D e hei hef S.mem
    have hn : i = vs.length := Nat.le_antisymm hi hle
    subst hn
    exact WT.done s _ E ⟨⟨old, he⟩, s1 _ hp⟩ fun h' tk hk => ⟨rfl, I.turnedL (ch := [e, it]) hk hf⟩
  self := fun A i s Q E ⟨_, ⟨old, he⟩, _⟩ q => wpAny_pyIter_enum he q

def JZ (src1 src2 : Hp → Prop) (vs ws : List V) (b : Nat → Bool) : It :=
  ⟨fun i H => (src1 H ∧ src2 H) ∧ i < min vs.length ws.length, fun i H v H' => ∃ T x y o, v = .ref T ∧ H T = none ∧ o.dict = none ∧ H' = upd H T (tupO (b i) o [x, y]) ∧ vs[i]? = some x ∧ ws[i]? = some y, fun i H => (src1 H ∧ src2 H) ∧ min vs.length ws.length ≤ i⟩
theorem turn_zipS {P : Program} {w : World} {K : PySem.W.Frag} {z TI TO i1 i2 : Addr} {fp1 fp2 : List Addr} {src1 src2 : Hp → Prop} {vs ws : List V} {pv1 pv2 : Nat → Heap → Prop} {bb : Nat → Bool} {elts : List Expr} {kk : Nat} {tpos : Pos} (S1 : Src P w K i1 fp1 src1 vs pv1) (S2 : Src P w K i2 fp2 src2 ws pv2) (Z : ZipSep2 z TI TO i1 i2 fp1 fp2) :
    Turn P w K (.Tuple elts kk tpos) (JZ src1 src2 vs ws bb) [z, TI, TO, i1, i2] z (fun i h => i ≤ min vs.length ws.length ∧ IsZip h z TI TO .none ∧ IsTupOf2 h TI (.ref i1) (.ref i2) ∧ (∃ a1 a2, IsTupOf2 h TO a1 a2) ∧ pv1 i h ∧ pv2 i h) where
  mem := by simp
  obj := fun i h ⟨_, hz, hTI, ⟨x, y, hTO⟩, h1, h2⟩ c hc => by
    have e' : c = z ∨ c = TI ∨ c = TO ∨ c = i1 ∨ c = i2 := by simpa using hc
    rcases e' with q | q | q | q | q
    · rw [q]; exact ⟨_, hz, fun v q => nomatch q⟩
    · rw [q]; exact ⟨_, hTI, fun v q => nomatch q⟩
    · rw [q]; exact ⟨_, hTO, fun v q => nomatch q⟩
    · rw [q]; exact S1.obj i h h1
    · rw [q]; exact S2.obj i h h2
  keep := fun i h h' ⟨hi, hz, hTI, ⟨x, y, hTO⟩, h1, h2⟩ k =>
    ⟨hi, k z (by simp) _ hz, k TI (by simp) _ hTI, ⟨x, y, k TO (by simp) _ hTO⟩, S1.keep i h h' h1 fun o q => k i1 (by simp) o q, S2.keep i h h' h2 fun o q => k i2 (by simp) o q⟩
  item := by
    intro X hP hw hK hc i pins s σ H E I hf ⟨hi, hz, hTI, ⟨x0, y0, hTO⟩, h1, h2⟩ ⟨⟨hs1, hs2⟩, hlt⟩
    obtain ⟨St1, D1, a1, a2⟩ := S1.drw X hP hw hK hc pins s σ H I hs1
    obtain ⟨St2, D2, b1, b2⟩ := S2.drw X hP hw hK hc pins s σ H I hs2
    have WT := WalksT.zipD2 (A := X.A) Z D1 D2
    have hb : ∀ b ∈ [z, TI, TO, i1, i2], b < s.heap.objs.size := fun b hb => by
      have e' : b = z ∨ b = TI ∨ b = TO ∨ b = i1 ∨ b = i2 := by simpa using hb
      rcases e' with q | q | q | q | q
      · rw [q]; exact Heap.lt_size hz
      · rw [q]; exact Heap.lt_size hTI
      · rw [q]; exact Heap.lt_size hTO
      · rw [q]; obtain ⟨o, ho, _⟩ := S1.obj i _ h1; exact Heap.lt_size ho
      · rw [q]; obtain ⟨o, ho, _⟩ := S2.obj i _ h2; exact Heap.lt_size ho
    refine wpAny_mono (wt_item (elts := elts) (kk := kk) (tpos := tpos) (E := E) (ch := [z, TI, TO, i1, i2]) WT rfl hP hw I (fun b hb => by
        have e' : b = z ∨ b = TO ∨ b = i1 ∨ b = i2 := by simpa using hb
        rcases e' with q | q | q | q <;> simp [q]) hf hb hlt ⟨hz, hTI, ⟨_, _, hTO⟩, a1 i h1, b1 i h2⟩
      (fun xs => ∃ x y, vs[i]? = some x ∧ ws[i]? = some y ∧ xs = [x, y]) (fun vals ⟨x1, x2, ⟨y, hy, ry⟩, ⟨y2, hy2, ry2⟩, ev⟩ => ⟨[y, y2], by rw [ev]; exact .cons ry (.cons ry2 .nil), by show 2 ≤ sizeLine; decide, y, y2, hy, hy2, rfl⟩)
      (fun Q E hQ => by
        refine wpAny_pyNext_zipD2_item Z D1 D2 hz hTI hTO (a1 i h1) (b1 i h2) (by omega) (by omega) fun x1 x2 h' tk y1 y2 c1 c2 d1 d2 b5 b6 hk => ?_
        have lt : ∀ {c o}, s.heap.get? c = some o → s.heap.objs.size ≠ c := fun e => Nat.ne_of_gt (Heap.lt_size e)
        have l1 : s.heap.objs.size ≠ i1 := by obtain ⟨_, e⟩ := D1.live _ _ (a1 i h1); exact lt e
        have l2 : s.heap.objs.size ≠ i2 := by obtain ⟨_, e⟩ := D2.live _ _ (b1 i h2); exact lt e
        exact hQ s.heap.objs.size #[x1, x2] h' tk ⟨x1, x2, y1, y2, rfl⟩ (Nat.le_refl _) b5
          ⟨c1, hk _ _ Z.TIz Z.TITO Z.TIi1 Z.TIi2 hTI, ⟨_, _, c2⟩, d1, d2, lt hz, lt hTO, l1, l2⟩
          fun c o hc e => hk c o (fun x => hc (by simp [x])) (fun x => hc (by simp [x])) (fun x => hc (by simp [x])) (fun x => hc (by simp [x])) e)
      (bb i) (fun v H H' => ∃ T x y o, v = .ref T ∧ H T = none ∧ o.dict = none ∧ H' = upd H T (tupO (bb i) o [x, y]) ∧ vs[i]? = some x ∧ ws[i]? = some y) (fun T xs o hn ho ⟨x, y, hx, hy, ex⟩ => ⟨T, x, y, o, rfl, hn, ho, by rw [ex], hx, hy⟩)) ?_ (fun _ _ q => q)
    rintro r s3 ⟨u, hu, q⟩
    refine ⟨u, hu, wpAny_mono q ?_ (fun _ _ q => q)⟩
    rintro _ s4 ⟨x, H', I', r1, r2, ⟨r3, r4, r5, r6, r7⟩, r8⟩
    exact ⟨x, H', I', r1, r2, ⟨hlt, r3, r4, r5, a2 _ _ r6, b2 _ _ r7⟩, r8⟩
  done := by
    intro X hP hw hK hc i pins s σ H E I hf ⟨hi, hz, hTI, ⟨x0, y0, hTO⟩, h1, h2⟩ ⟨⟨hs1, hs2⟩, hle⟩
    obtain ⟨St1, D1, a1, a2⟩ := S1.drw X hP hw hK hc pins s σ H I hs1
    obtain ⟨St2, D2, b1, b2⟩ := S2.drw X hP hw hK hc pins s σ H I hs2
    have WT := WalksT.zipD2 (A := X.A) Z D1 D2
    have hn : i = min vs.length ws.length := Nat.le_antisymm hi hle
    subst hn
    refine WT.done s _ E ⟨hz, hTI, ⟨_, _, hTO⟩, a1 _ h1, b1 _ h2⟩ fun h' tk hk => ⟨rfl, I.turnedL (ch := [z, TI, TO, i1, i2]) (fun b o hb q => hk b o (fun hb' => hb ?_) q) hf⟩
    have e' : b = z ∨ b = TO ∨ b = i1 ∨ b = i2 := by simpa using hb'
    rcases e' with q | q | q | q <;> simp [q]
  self := fun A i s Q E ⟨_, hz, _⟩ q => wpAny_pyIter_zip hz q
/-! ### what stands still by itself -/
section
variable {W : Wd} {k : Nat} {ways : Nat → List Way} {Γ : Gam} {m m' : List Addr} {H H' : Hp} {S : Py.St} {E : XK}
theorem rep_codes {s : List Nat} : RepL W m H (s.map fun c => D.str [c]) (s.map fun c => V.str (sOf [c])) := by
  induction s with
  | nil => simp [RepL]
  | cons c r ih =>
    simp only [List.map_cons, RepL]
    exact ⟨_, _, rfl, Rep.str [c], ih⟩
/-- a source: its new iterator o -/
structure SrcV (X : Cx) (W : Wd) (m : List Addr) (H : Hp) (h : Heap) (u : Value) (xs : List D) : Prop where
  ex : ∃ (o : Obj) (Hb : Heap → Prop) (more : List Addr) (src : Hp → Prop) (vs : List V) (pv : Addr → Nat → Heap → Prop), Begins u o Hb ∧ Hb h ∧ (∀ b ∈ more, b < h.objs.size) ∧ (∀ m' H', Le m H m' H' → src H') ∧ RepL W m H xs vs ∧
    ∀ N, h.objs.size ≤ N → Src X.prog X.w X.K N (N :: more) src vs (pv N) ∧ ∀ h', h'.get? N = some o → pv N 0 h'
theorem src_of {X : Cx} {pins : List (Addr × Obj)} {σ : L2.St} {s : Shared} {d : D} {v : V} {u : Value} {xs : List D} (I : Inv X pins σ H s) (sr : SR W m H S) (r : Rep W m H d v) (rv : RelV v u) (hx : srcI d = some xs) : SrcV X W m H s.heap u xs := by
  cases d <;> simp only [srcI] at hx <;> cases hx
  · -- text
    rename_i z
    rw [rep_str r] at rv
    obtain ⟨t, rfl⟩ := rv
    exact ⟨_, _, [], fun _ => True, _, _, begins_text (sOf z) t, True.intro, by simp, fun _ _ _ => True.intro, rep_codes, fun N _ => ⟨src_str, fun h' e => ⟨_, e, rfl, rfl⟩⟩⟩
  · obtain ⟨a, vs, rfl, t1, t2⟩ := rep_tup r
    obtain rfl : u = Value.ref a := rv
    obtain ⟨its, rl, p, hz⟩ := I.tuple (tp_sq t1)
    have hlt : a < s.heap.objs.size := by obtain ⟨o, ho, _⟩ := p; exact Heap.lt_size ho
    exact ⟨_, _, [a], fun H => Rd H a (.tup vs), vs, _, begins_tuple a its.toArray, p, by simpa using hlt, fun m' H' le => (le.tp t1).rd, t2, fun N hN => ⟨src_tup (Nat.ne_of_lt (Nat.lt_of_lt_of_le hlt hN)), fun h' e => ⟨_, e, rfl, rfl⟩⟩⟩
  · simp only [Rep] at r
    obtain ⟨a, vs, rfl, t1, hn, t2⟩ := r
    obtain rfl : u = Value.ref a := rv
    obtain ⟨its, rl, p, hz⟩ := I.list (.inl t1)
    have hlt : a < s.heap.objs.size := p.lt
    exact ⟨_, _, [a], fun H => Rd H a (.lst vs), vs, _, begins_list a its.toArray, p.isList, by simpa using hlt, fun m' H' le => le.rd t1 hn (fun ps q => nomatch q), t2, fun N hN => ⟨src_list (Nat.ne_of_lt (Nat.lt_of_lt_of_le hlt hN)), fun h' e => ⟨_, e, rfl, rfl⟩⟩⟩
/-! ### enumerate -/
theorem enumL_at : ∀ {xs : List D} {k0 : Int} {i : Nat} {d : D}, (enumL xs k0)[i]? = some d → ∃ x, xs[i]? = some x ∧ d = .tup [.int (k0 + (i : Nat)), x]
  | [], _, i, _, h => by simp [enumL] at h
  | x :: xs, k0, 0, d, h => by
    simp [enumL] at h
    exact ⟨x, rfl, by rw [← h]; simp⟩
  | x :: xs, k0, i + 1, d, h => by
    obtain ⟨y, h1, h2⟩ := enumL_at (xs := xs) (k0 := k0 + 1) (i := i) (by simpa [enumL] using h)
    refine ⟨y, by simpa using h1, ?_⟩
    rw [h2]
    have : k0 + 1 + (i : Int) = k0 + ((i + 1 : Nat) : Int) := by omega
    rw [this]
theorem enumL_len : ∀ {xs : List D} {k0 : Int}, (enumL xs k0).length = xs.length
  | [], _ => rfl
  | x :: xs, k0 => by simp [enumL, enumL_len (xs := xs)]
def kyAt (xs : List D) (i : Nat) : Bool := match xs[i]? with
  | some (.tup p) => keyish p
  | _ => true
theorem kyAt_of {xs : List D} {i : Nat} {p : List D} (h : xs[i]? = some (.tup p)) : kyAt xs i = keyish p := by simp only [kyAt, h]
theorem wj_enum {src : Hp → Prop} {vs : List V} {xs : List D} {k0 : Int} (hs : ∀ m' H', Le m H m' H' → src H') (r : RepL W m H xs vs) : WJ W m H S (.non, enumL xs k0) (JE src vs k0 (kyAt (enumL xs k0))) := by
  intro m2 H2 S2 le sr2 _ i
  have r2 := r.mono le
  have hl := r.length
  refine ⟨fun d e => ?_, fun hi => ⟨hs _ _ le, by rw [← hl]; simpa [enumL_len] using hi⟩⟩
  obtain ⟨x, ex, rfl⟩ := enumL_at e
  obtain ⟨v, ev, rv⟩ := r2.at ex
  refine ⟨⟨hs _ _ le, (List.getElem?_eq_some_iff.mp ev).1⟩, fun u H3 ⟨T, y, o, eu, hn, ho, e3, ey⟩ => ?_⟩
  subst eu e3
  rw [ev] at ey; cases ey
  rw [kyAt_of e]
  refine ⟨m2, le_new hn, sr2.new hn, .tup (.new ho) ?_⟩
  simp only [RepL]
  exact ⟨_, _, rfl, .int _, _, _, rfl, rv.mono (le_new hn), rfl⟩
end
set_option maxHeartbeats 1000000 in
theorem meets_enumerate_newB1 {v : Value} {o : Obj} {H : Heap → Prop} (B : Begins v o H) :
    Meets (Builtin.«enumerate.__new__» ⟨[.type "enumerate", v], []⟩) (fun _ R s => H s.heap ∧
      R (.ok (.ret (.ref (s.heap.push o).objs.size))) { s with heap := (s.heap.push o).push { cls := .type "enumerate", data := .fields #[.none, .bool false, .ref s.heap.objs.size, rawInt 0, .none, .none] } }) :=
  .of_wp fun prog w A R s h => by
    obtain ⟨hp, g, d, tk, os⟩ := s; obtain ⟨h1, h⟩ := h
    have hsub := sub_enumerate
    have q1 : ∀ {A' : Around} {E : Value → Shared → Prop} {Q : Value → Shared → Prop}, Q (.ref hp.objs.size) ⟨hp.push o, g, d, tk, os⟩ → wpAny (model prog w) A' (pyIter v) Q E ⟨hp, g, d, tk, os⟩ :=
      fun q => B.iter prog w _ _ ⟨hp, g, d, tk, os⟩ _ h1 q
    wp_walk using q1
    refine wpAny_stack_any fun st => wpAny_pure ?_
    split
    · rename_i c _ _ _ _ _
      cases (c == Value.type "enumerate")
      · wp_walk using q1
        exact ⟨_, rfl, h⟩
      · wp_walk using q1
        exact ⟨_, rfl, h⟩
    · wp_walk using q1
      exact ⟨_, rfl, h⟩
section
variable {prog : Program} {w : World} {A : Around} {E : Value → Shared → Prop} {s : Shared}
theorem enum_begins1 {v : Value} {o : Obj} {H : Heap → Prop} {Q : Value → Shared → Prop} (B : Begins v o H) (h1 : H s.heap)
    (h : ∀ h', IsEnum h' (s.heap.objs.size + 1) s.heap.objs.size 0 .none → h'.get? s.heap.objs.size = some o → h'.objs.size = s.heap.objs.size + 2 →
      (∀ b o, s.heap.get? b = some o → h'.get? b = some o) → Q (.ref (s.heap.objs.size + 1)) { s with heap := h' }) :
    wpAny (model prog w) A (call (.type "enumerate") [v]) Q E s := by
  refine callType_new F.called_enumerate (by decide) (F.typeCall_enumerate_1 _) (F.newCall_enumerate_1 _) (fun obj => F.args_object_init_2 obj _) F.entry_enumerate_new
    (meets_enumerate_newB1 B) ⟨h1, ?_⟩
  have hz : (s.heap.push o).objs.size = s.heap.objs.size + 1 := Heap.size_push ..
  show _ ∧ _
  rw [hz]
  have he : IsEnum ((s.heap.push o).push { cls := .type "enumerate", data := .fields #[.none, .bool false, .ref s.heap.objs.size, rawInt 0, .none, .none] }) (s.heap.objs.size + 1) s.heap.objs.size 0 .none := by
    have := Heap.get?_push_size (s.heap.push o) (o := { cls := .type "enumerate", data := .fields #[.none, .bool false, .ref s.heap.objs.size, rawInt 0, .none, .none] }) rfl
    rw [hz] at this; exact this
  refine ⟨⟨_, he, rfl⟩, h _ he (Heap.get?_push_of_some _ (Heap.get?_push_size _ B.free)) (by rw [Heap.size_push, hz]) fun b o x => Heap.get?_push_of_some _ (Heap.get?_push_of_some _ x)⟩
end
section
variable {W : Wd} {k : Nat} {ways : Nat → List Way} {Γ : Gam} {m m' : List Addr} {H H' : Hp} {S : Py.St} {E : XK}
theorem enum_fin {X : Cx} {pins : List (Addr × Obj)} {σ : L2.St} {s : Shared} {xs : List D} {k0 : Int} {elts : List Expr} {kk : Nat} {tpos : Pos} {R : It → Hp → Prop} {o : Obj} {more : List Addr} {src : Hp → Prop} {vs : List V} {pv : Addr → Nat → Heap → Prop} {h' : Heap}
    (I : Inv X pins σ H s) (hm : ∀ b ∈ more, b < s.heap.objs.size) (hs : ∀ m' H', Le m H m' H' → src H') (r : RepL W m H xs vs)
    (hN : ∀ N, s.heap.objs.size ≤ N → Src X.prog X.w X.K N (N :: more) src vs (pv N) ∧ ∀ h', h'.get? N = some o → pv N 0 h')
    (he : IsEnum h' (s.heap.objs.size + 1) s.heap.objs.size k0 .none) (hit : h'.get? s.heap.objs.size = some o) (hk : ∀ b o, s.heap.get? b = some o → h'.get? b = some o)
    (h : ∀ J, WJ W m H S (.non, enumL xs k0) J → R J H) : wpAny (model X.prog X.w) X.A (pyIter (.ref (s.heap.objs.size + 1))) (PIE X pins σ (.Tuple elts kk tpos) R) X.xe { s with heap := h' } := by
  refine wpAny_pyIter_enum he ?_
  obtain ⟨n1, n2⟩ := hN _ (Nat.le_refl _)
  have hef : s.heap.objs.size + 1 ∉ s.heap.objs.size :: more := fun q => by
    rcases List.mem_cons.mp q with q | q
    · exact Nat.succ_ne_self _ q
    · exact Nat.lt_irrefl _ (Nat.lt_of_succ_lt (hm _ q))
  refine ⟨s.heap.objs.size + 1, _, _, _, H, rfl, I.kept (t' := s.toks) hk, turn_enumS (k0 := k0) n1 hef, ⟨Nat.zero_le _, ⟨.none, by simpa using he⟩, n2 _ hit⟩, fun b hb => ?_, h _ (wj_enum hs r)⟩
  have e' : b = s.heap.objs.size + 1 ∨ b = s.heap.objs.size := by simpa using hb
  have hle : s.heap.objs.size ≤ b := by
    rcases e' with z | z
    · rw [z]; exact Nat.le_add_right _ _
    · rw [z]; exact Nat.le_refl _
  exact I.fpOk hle (I.hok.fresh hle)
/-- what a walk's source has come to -/
def SQ (W : Wd) (R : It → Hp → Prop) (f : List D → List D) (v : V) (H1 : Hp) : Prop := ∃ m1 d S1 xs, SR W m1 H1 S1 ∧ Rep W m1 H1 d v ∧ srcI d = some xs ∧ ∀ J, WJ W m1 H1 S1 (.non, f xs) J → R J H1
theorem enum_q {X : Cx} {j : Sd} {a : ME} {k0 : Int} {σ : L2.St} {R : It → Hp → Prop} {cl : Cl} (h : tI W j cl E (.enum a k0) σ H R) : (0 ≤ k0 ∧ k0 < 1073741824 ∨ ∀ Q, tE W j cl E a σ H Q) ∧ tE W j cl E a σ H (SQ W R (fun xs => enumL xs k0)) := by
  obtain ⟨m, S, ρ, sr, er, h⟩ := h
  simp only [evI] at h
  by_cases hk : 0 ≤ k0 ∧ k0 < 1073741824
  · refine ⟨.inl hk, m, S, ρ, sr, er, (KI.bind h).imp ?_⟩
    rintro v H1 ⟨m1, d, S1, le1, sr1, rx, q⟩
    split at q
    · rename_i xs hx
      rw [if_pos hk] at q
      exact ⟨m1, d, S1, xs, sr1, rx, hx, fun J wj => q J H1 m1 .refl sr1 wj⟩
    · exact q.elim
  · have key : ∀ Q, KG W E m H (Rep W) (evE cl a ρ S) Q := fun Q => by
      refine (KI.bind (R1 := Rep W) h).imp ?_
      rintro v H1 ⟨m1, d, S1, le1, sr1, rx, q⟩
      split at q
      · rw [if_neg hk] at q; exact q.elim
      · exact q.elim
    exact ⟨.inr fun Q => ⟨m, S, ρ, sr, er, key Q⟩, m, S, ρ, sr, er, key _⟩
theorem i_enum1 {a : ME} {e : Expr} {elts : List Expr} {kk : Nat} {tpos p p2 : Pos} (h1 : isGl Γ.sc ("enumerate" : Str) = true) (h2 : Γ.G.lookup ("enumerate" : Str) = some GV.free) (hs : isStar e = false) (ha : SE W k ways Γ a e) : SI W k ways Γ (.enum a 0) (.Tuple elts kk tpos) (.Call (.Name "enumerate" p) [e] [] p2) := fun X c E tk => by
  obtain ⟨g1, _, _⟩ := gl_of c.sc h1
  have hm : X.mg "enumerate" = none := c.glob "enumerate" _ h2
  refine ⟨fun pins s σ H R I h => ?_⟩
  have pa := pa_cons (ha X c E tk) pa_nil (star_no hs _ _)
  obtain ⟨_, h⟩ := enum_q (X := X) h
  refine Call_ (ld_blt I g1 hm boot_enumerate (PyProof.Rows.callWith_type1 (thn (pa.run p2 pins s σ H (fun vs H1 => ∃ v, vs = [v] ∧ SQ W R (fun xs => enumL xs 0) v H1) I ?_) fun us s1 ⟨vs, H1, I1, r1, v, ev, q1⟩ => ?_) (star_no hs _ _) rfl))
  · obtain ⟨m, S, ρ, sr, er, h⟩ := h
    exact ⟨m, S, ρ, sr, er, h.imp fun v H1 q => ⟨v, rfl, q⟩⟩
  · subst ev
    obtain ⟨u, rfl, ru⟩ := vals1 r1
    obtain ⟨m1, d, S1, xs, sr1, rx, hx, q⟩ := q1
    obtain ⟨o, Hb, more, src, vs, pv, B, hb, hmo, hsrc, rl, hN⟩ := (src_of I1 sr1 rx ru hx).ex
    exact enum_begins1 B hb fun h' he hit hsz hk => enum_fin I1 hmo hsrc rl hN he hit hk q
theorem i_enum2 {a : ME} {e : Expr} {k0 : Int} {n : Nat} {elts : List Expr} {kk : Nat} {tpos p p2 p3 : Pos} (h1 : isGl Γ.sc ("enumerate" : Str) = true) (h2 : Γ.G.lookup ("enumerate" : Str) = some GV.free) (hs : isStar e = false) (hk0 : 0 ≤ k0 ∧ k0 < 1073741824) (ha : SE W k ways Γ a e) :
    SI W k ways Γ (.enum a k0) (.Tuple elts kk tpos) (.Call (.Name "enumerate" p) [e, .Constant (.int k0) n p3] [] p2) := fun X c E tk => by
  obtain ⟨g1, _, _⟩ := gl_of c.sc h1
  have hm : X.mg "enumerate" = none := c.glob "enumerate" _ h2
  refine ⟨fun pins s σ H R I h => ?_⟩
  have pa := pa_cons (ha X c E tk) (pa_cons (pe_int (X := X) (i := k0) (j := n) (pos := p3)) pa_nil) (star_no hs _ _)
  obtain ⟨_, h⟩ := enum_q (X := X) h
  refine Call_ (ld_blt I g1 hm boot_enumerate (PyProof.Rows.callWith_type1 (thn (pa.run p2 pins s σ H (fun vs H1 => ∃ v, vs = [v, .int k0] ∧ SQ W R (fun xs => enumL xs k0) v H1) I ?_) fun us s1 ⟨vs, H1, I1, r1, v, ev, q1⟩ => ?_) (star_no hs _ _) rfl))
  · obtain ⟨m, S, ρ, sr, er, h⟩ := h
    exact ⟨m, S, ρ, sr, er, h.imp fun v H1 q => ⟨v, rfl, q⟩⟩
  · subst ev
    obtain ⟨u, u2, rfl, ru, t, rfl⟩ := vals2 r1
    obtain ⟨m1, d, S1, xs, sr1, rx, hx, q⟩ := q1
    obtain ⟨o, Hb, more, src, vs, pv, B, hb, hmo, hsrc, rl, hN⟩ := (src_of I1 sr1 rx ru hx).ex
    exact enum_begins B hb (by omega) (by omega) fun h' he hit hsz hk => enum_fin I1 hmo hsrc rl hN he hit hk q
/-! ### zip -/
theorem zipL_at : ∀ {xs ys : List D} {i : Nat} {d : D}, (zipL xs ys)[i]? = some d → ∃ x y, xs[i]? = some x ∧ ys[i]? = some y ∧ d = .tup [x, y]
  | [], _, i, _, h => by simp [zipL] at h
  | _ :: _, [], i, _, h => by simp [zipL] at h
  | x :: xs, y :: ys, 0, d, h => by
    simp [zipL] at h
    exact ⟨x, y, rfl, rfl, h.symm⟩
  | x :: xs, y :: ys, i + 1, d, h => by
    obtain ⟨a, b, h1, h2, h3⟩ := zipL_at (xs := xs) (ys := ys) (i := i) (by simpa [zipL] using h)
    exact ⟨a, b, by simpa using h1, by simpa using h2, h3⟩
theorem zipL_len : ∀ {xs ys : List D}, (zipL xs ys).length = min xs.length ys.length
  | [], _ => by simp [zipL]
  | _ :: _, [] => by simp [zipL]
  | x :: xs, y :: ys => by simp [zipL, zipL_len (xs := xs) (ys := ys)]
theorem wj_zip {src1 src2 : Hp → Prop} {vs ws : List V} {xs ys : List D} (hs1 : ∀ m' H', Le m H m' H' → src1 H') (hs2 : ∀ m' H', Le m H m' H' → src2 H') (r1 : RepL W m H xs vs) (r2 : RepL W m H ys ws) : WJ W m H S (.non, zipL xs ys) (JZ src1 src2 vs ws (kyAt (zipL xs ys))) := by
  intro m2 H2 S2 le sr2 _ i
  have q1 := r1.mono le
  have q2 := r2.mono le
  have l1 := r1.length
  have l2 := r2.length
  refine ⟨fun d e => ?_, fun hi => ⟨⟨hs1 _ _ le, hs2 _ _ le⟩, by rw [← l1, ← l2]; simpa [zipL_len] using hi⟩⟩
  obtain ⟨x, y, ex, ey, rfl⟩ := zipL_at e
  obtain ⟨v, ev, rv⟩ := q1.at ex
  obtain ⟨w, ew, rw'⟩ := q2.at ey
  refine ⟨⟨⟨hs1 _ _ le, hs2 _ _ le⟩, Nat.lt_min.mpr ⟨(List.getElem?_eq_some_iff.mp ev).1, (List.getElem?_eq_some_iff.mp ew).1⟩⟩, fun u H3 ⟨T, y1, y2, o, eu, hn, ho, e3, e4, e5⟩ => ?_⟩
  subst eu e3
  rw [kyAt_of e]
  rw [ev] at e4; cases e4
  rw [ew] at e5; cases e5
  refine ⟨m2, le_new hn, sr2.new hn, .tup (.new ho) ?_⟩
  simp only [RepL]
  exact ⟨_, _, rfl, rv.mono (le_new hn), _, _, rfl, rw'.mono (le_new hn), rfl⟩
theorem zip_fin {X : Cx} {pins : List (Addr × Obj)} {σ : L2.St} {s : Shared} {xs ys : List D} {elts : List Expr} {kk : Nat} {tpos : Pos} {R : It → Hp → Prop} {o1 o2 : Obj} {more1 more2 : List Addr} {src1 src2 : Hp → Prop} {vs ws : List V} {pv1 pv2 : Addr → Nat → Heap → Prop} {h' : Heap}
    (I : Inv X pins σ H s) (hm1 : ∀ b ∈ more1, b < s.heap.objs.size) (hm2 : ∀ b ∈ more2, b < s.heap.objs.size) (hs1 : ∀ m' H', Le m H m' H' → src1 H') (hs2 : ∀ m' H', Le m H m' H' → src2 H') (r1 : RepL W m H xs vs) (r2 : RepL W m H ys ws)
    (hN1 : ∀ N, s.heap.objs.size ≤ N → Src X.prog X.w X.K N (N :: more1) src1 vs (pv1 N) ∧ ∀ h', h'.get? N = some o1 → pv1 N 0 h') (hN2 : ∀ N, s.heap.objs.size ≤ N → Src X.prog X.w X.K N (N :: more2) src2 ws (pv2 N) ∧ ∀ h', h'.get? N = some o2 → pv2 N 0 h')
    (hz : IsZip h' (s.heap.objs.size + 4) (s.heap.objs.size + 2) (s.heap.objs.size + 3) .none) (hTI : IsTupOf2 h' (s.heap.objs.size + 2) (.ref s.heap.objs.size) (.ref (s.heap.objs.size + 1))) (hTO : IsTupOf2 h' (s.heap.objs.size + 3) .none .none)
    (hi1 : h'.get? s.heap.objs.size = some o1) (hi2 : h'.get? (s.heap.objs.size + 1) = some o2) (hk : ∀ b o, s.heap.get? b = some o → h'.get? b = some o)
    (h : ∀ J, WJ W m H S (.non, zipL xs ys) J → R J H) : wpAny (model X.prog X.w) X.A (pyIter (.ref (s.heap.objs.size + 4))) (PIE X pins σ (.Tuple elts kk tpos) R) X.xe { s with heap := h' } := by
  refine wpAny_pyIter_zip hz ?_
  obtain ⟨n1, n2⟩ := hN1 _ (Nat.le_refl _)
  obtain ⟨n3, n4⟩ := hN2 (s.heap.objs.size + 1) (Nat.le_succ _)
  refine ⟨s.heap.objs.size + 4, _, _, _, H, rfl, I.kept (t' := s.toks) hk, turn_zipS n1 n3 (zip_sep2 hm1 hm2), ⟨Nat.zero_le _, hz, hTI, ⟨_, _, hTO⟩, n2 _ hi1, n4 _ hi2⟩, fun b hb => ?_, h _ (wj_zip hs1 hs2 r1 r2)⟩
  have e' : b = s.heap.objs.size + 4 ∨ b = s.heap.objs.size + 2 ∨ b = s.heap.objs.size + 3 ∨ b = s.heap.objs.size ∨ b = s.heap.objs.size + 1 := by simpa using hb
  have hle : s.heap.objs.size ≤ b := by
    rcases e' with z | z | z | z | z
    · rw [z]; exact Nat.le_add_right _ _
    · rw [z]; exact Nat.le_add_right _ _
    · rw [z]; exact Nat.le_add_right _ _
    · rw [z]; exact Nat.le_refl _
    · rw [z]; exact Nat.le_add_right _ _
  exact I.fpOk hle (I.hok.fresh hle)
def ZQ (W : Wd) (R : It → Hp → Prop) (v w : V) (H1 : Hp) : Prop := ∃ m1 d e S1 xs ys, SR W m1 H1 S1 ∧ Rep W m1 H1 d v ∧ Rep W m1 H1 e w ∧ srcI d = some xs ∧ srcI e = some ys ∧ ∀ J, WJ W m1 H1 S1 (.non, zipL xs ys) J → R J H1
theorem i_zip {a b : ME} {e f : Expr} {elts : List Expr} {kk : Nat} {tpos p p2 : Pos} (h1 : isGl Γ.sc ("zip" : Str) = true) (h2 : Γ.G.lookup ("zip" : Str) = some GV.free) (hs : isStar e = false) (hs2 : isStar f = false) (ha : SE W k ways Γ a e) (hb : SE W k ways Γ b f) : SI W k ways Γ (.zip a b) (.Tuple elts kk tpos) (.Call (.Name "zip" p) [e, f] [] p2) := fun X c E tk => by
  obtain ⟨g1, _, _⟩ := gl_of c.sc h1
  have hm : X.mg "zip" = none := c.glob "zip" _ h2
  refine ⟨fun pins s σ H R I h => ?_⟩
  have pa := pa_cons (ha X c E tk) (pa_cons (hb X c E tk) pa_nil (star_no hs2 _ _)) (star_no hs _ _)
  refine Call_ (ld_blt I g1 hm PyProof.Rows.boot_zip (PyProof.Rows.callWith_type1 (thn (pa.run p2 pins s σ H (fun vs H1 => ∃ v w, vs = [v, w] ∧ ZQ W R v w H1) I ?_) fun us s1 ⟨vs, H1, I1, r1, v, w, ev, q1⟩ => ?_) (star_no hs _ _) (by rw [star_no hs2]; rfl)))
  · obtain ⟨m, S, ρ, sr, er, h⟩ := h
    simp only [evI] at h
    refine ⟨m, S, ρ, sr, er, (KI.bind h).imp ?_⟩
    rintro v H1 ⟨m1, d, S1, le1, sr1, rx, q⟩
    refine ⟨m1, S1, ρ, sr1, er.mono le1, (KI.bind q).imp ?_⟩
    rintro w H2 ⟨m2, d2, S2, le2, sr2, ry, q⟩
    split at q
    · rename_i xs ys hx hy
      exact ⟨v, w, rfl, m2, d, d2, S2, xs, ys, sr2, rx.mono le2, ry, hx, hy, fun J wj => q J H2 m2 .refl sr2 wj⟩
    · exact q.elim
  · subst ev
    obtain ⟨u, u2, rfl, ru, ru2⟩ := vals2 r1
    obtain ⟨m1, d, d2, S1, xs, ys, sr1, rx, ry, hx, hy, q⟩ := q1
    obtain ⟨o, Hb, more, src, vs, pv, B, hb, hmo, hsrc, rl, hN⟩ := (src_of I1 sr1 rx ru hx).ex
    obtain ⟨o2, Hb2, more2, src2, vs2, pv2, B2, hb2, hmo2, hsrc2, rl2, hN2⟩ := (src_of I1 sr1 ry ru2 hy).ex
    exact zip_begins2 B B2 hb hb2 fun h' hz hTI hTO hi1 hi2 hsz hk => zip_fin I1 hmo hmo2 hsrc hsrc2 rl rl2 hN hN2 hz hTI hTO hi1 hi2 hk q
end
end Py
end

section
set_option Elab.async false
set_option linter.all false
set_option maxRecDepth 100000
namespace Py
open PySem PySem.Spec PyProof.Rows L2
section
variable {W : Wd} {k : Nat} {ways : Nat → List Way} {Γ : Gam} {m m' : List Addr} {H H' : Hp} {S : Py.St} {E : XK}
/-! ### a call, its callee known -/
theorem callW {X : Cx} {g : Nat} {es fs : MEs} {perm : List Nat} {xs : List Expr} {kws : List Keyword} {ks : List Str} {F : Fun} {pos : Pos} (c : Ctx W k ways X Γ) (tk : tkE X E) (hc : Γ.calm = true) (hT : W.T g = some F) (hw : (xs.length, ks, perm) ∈ ways g)
    (hs : xs.any isStar = false) (hk : kwNames kws = ks.map some) (hp : perm.all (fun i => decide (i < es.len + fs.len)) = true) (l1 : es.len = xs.length) (l2 : fs.len = kws.length) (ha : SAs W k ways Γ es xs) (hb : SKs W k ways Γ fs kws)
    {pins : List (Addr × Obj)} {s : Shared} {σ : L2.St} {H : Hp} {Q : VK} (I : Inv X pins σ H s) {m : List Addr} {S : Py.St} {ρ : Py.Env} (sr : SR W m H S) (er : ER W (jX X) m H ρ σ)
    (h : KG W E m H (Rep W) ((evAs (run W.T k) (es.app fs) ρ S).bind fun as S => run W.T k (.fn g) (permute perm as) S) Q) :
    wpAny (model X.prog X.w) X.A (callWith pos (.ref (W.fa g)) [] (backTo pos (starEach xs X.env)) (backToKw pos (keywordEach kws X.env))) (EP X pins σ Q) X.xe s := by
  obtain ⟨fd, F1, hkeep, hways⟩ := c.calls.fn g F hT
  obtain ⟨_, hroom⟩ := c.calm hc
  obtain ⟨k1, k2, k3⟩ := kw_all hk X.env pos
  rw [evAs_app] at h
  have bb : ∀ {α β γ : Type} (r : Res α) (f : α → Py.St → Res β) (g : β → Py.St → Res γ), (r.bind f).bind g = r.bind fun a S => (f a S).bind g := fun r f g => by cases r <;> rfl
  simp only [bb, Res.bind_ok] at h
  have goal : ∀ (us : List Value) (s1 : Shared), (AP X pins σ (fun vs H1 => vs.length = xs.length ∧ ∃ m1 as S1, Le m H m1 H1 ∧ SR W m1 H1 S1 ∧ AL W (jX X) m1 H1 as vs ∧ as.length = es.len ∧ KG W E m1 H1 (Rep W) ((evAs (run W.T k) fs ρ S1).bind fun bs S => run W.T k (.fn g) (permute perm (as ++ bs)) S) Q) us s1) →
      wpAny (model X.prog X.w) X.A (evalAll ((backToKw pos (keywordEach kws X.env)).map (·.2))) (fun ws s2 => X.K.In s2.heap ∧ wpAny (model X.prog X.w) X.A (call (.ref (W.fa g)) ([] ++ us) (((backToKw pos (keywordEach kws X.env)).filterMap (·.1)).zip ws)) (EP X pins σ Q) X.xe s2) X.xe s1 := by
    intro us s1 ⟨vs, H1, I1, r1, hl, m1, as, S1, le1, sr1, al1, al2, q⟩
    have q2 : KG W E m1 H1 (AL W (jX X)) (evAs (run W.T k) fs ρ S1) (fun zs H2 => ∃ m2 bs S2, Le m1 H1 m2 H2 ∧ SR W m2 H2 S2 ∧ AL W (jX X) m2 H2 bs zs ∧ bs.length = fs.len ∧ KG W E m2 H2 (Rep W) (run W.T k (.fn g) (permute perm (as ++ bs)) S2) Q) := by
      cases e : evAs (run W.T k) fs ρ S1 with
      | ok bs S2 =>
        rw [e] at q
        exact fun zs H2 m2 le sr al => ⟨m2, bs, S2, le, sr, al, evAs_len fs e, KG.mono le q⟩
      | exc _ _ _ => rw [e] at q; exact q
      | bad => rw [e] at q; exact q
    refine thn ((hb X c E tk).run pos pins s1 σ H1 _ I1 ⟨m1, S1, ρ, sr1, er.mono le1, q2⟩) fun ws s2 ⟨zs, H2, I2, rz, m2, bs, S2, le2, sr2, al3, al4, q3⟩ => ⟨I2.kIn, ?_⟩
    rw [k2]
    have hks : ws.length = ks.length := by
      have e1 : kws.length = ks.length := by simpa [kwNames] using congrArg List.length hk
      rw [← e1, ← l2, ← al4, al3.length, rz.length]
    have al5 := (al1.mono le2).append al3
    exact call_run F1 (hroom.mono (by omega)) tk (hways _ hw) I2 (by rw [List.nil_append, ← r1.length]; exact hl) hks (Py.Vals.pick (Vals.append r1 rz) perm) ⟨m2, S2, permute perm (as ++ bs), sr2, al_move I2 (al5.perm (by rw [List.length_append, al2, al4]; exact hp)), q3⟩
  have start : KG W E m H (AL W (jX X)) (evAs (run W.T k) es ρ S) (fun vs H1 => vs.length = xs.length ∧ ∃ m1 as S1, Le m H m1 H1 ∧ SR W m1 H1 S1 ∧ AL W (jX X) m1 H1 as vs ∧ as.length = es.len ∧ KG W E m1 H1 (Rep W) ((evAs (run W.T k) fs ρ S1).bind fun bs S => run W.T k (.fn g) (permute perm (as ++ bs)) S) Q) := by
    cases e : evAs (run W.T k) es ρ S with
    | ok as S1 =>
      rw [e] at h
      exact fun vs H1 m1 le sr al => ⟨by rw [← al.length, evAs_len es e]; exact l1, m1, as, S1, le, sr, al, evAs_len es e, KG.mono le h⟩
    | exc _ _ _ => rw [e] at h; exact h
    | bad => rw [e] at h; exact h
  cases xs with
  | nil =>
    have he : es = .nil := by
      cases es with
      | nil => rfl
      | cons _ _ _ => simp [MEs.len] at l1
    subst he
    simp only [evAs] at start
    refine PySem.W.callWith_KW0 (h₀ := X.base) I.ok.mod.kin hkeep k1 ?_ (by show (false || _) = false; rw [k3]; rfl)
    exact goal [] s ⟨[], H, I, .nil, start.ok sr (by simp only [AL])⟩
  | cons ea rest =>
    simp only [List.any_cons, Bool.or_eq_false_iff] at hs
    have hst := star_no hs.1 rest X.env
    refine PySem.W.callWith_KW (h₀ := X.base) I.ok.mod.kin hkeep k1 (thn ((ha X c E tk).run pos pins s σ H _ I ⟨m, S, ρ, sr, er, start⟩) fun us s1 hq => goal us s1 hq) ?_ hst
    have := star_any (es := ea :: rest) (by simp [hs]) X.env pos
    rw [this, k3]
    rfl
/-- a name holds a function -/
theorem r_callv {i : Nat} {alts : List (Nat × List Nat)} {es fs : MEs} {x : Str} {xs : List Expr} {kws : List Keyword} {ks : List Str} {p pos : Pos} (hc : Γ.calm = true) (n1 : Γ.N[i]? = some x) (n2 : visB Γ.sc x = true) (n3 : plainN x = true)
    (hw : ∀ g perm, alts.lookup g = some perm → (∃ F, W.T g = some F) ∧ (xs.length, ks, perm) ∈ ways g ∧ perm.all (fun i => decide (i < es.len + fs.len)) = true)
    (hs : xs.any isStar = false) (hk : kwNames kws = ks.map some) (l1 : es.len = xs.length) (l2 : fs.len = kws.length) (ha : SAs W k ways Γ es xs) (hb : SKs W k ways Γ fs kws) (hclo : ∀ X m H np body caps v, ¬ AgR W (jX X) m H (.clo np body caps) v) :
    SE W k ways Γ (.callv i alts (es.app fs)) (.Call (.Name x p) xs kws pos) := fun X c E tk => by
  obtain ⟨p1, p2, _⟩ := plainN_of n3
  refine ⟨fun pins s σ H Q I h => ?_⟩
  obtain ⟨m, S, ρ, sr, er, h⟩ := h
  simp only [evE] at h
  split at h
  · rename_i g hg
    obtain ⟨v, e1, e2⟩ := er.slot hg
    have e2 : Rep W m H (.fn g) v := e2
    simp only [Rep] at e2
    subst e2
    split at h
    · rename_i perm hl
      obtain ⟨⟨F, hT⟩, hway, hp⟩ := hw g perm hl
      refine wpAny_Call_Name_kw (thn ((pe_var (pos := p) (by rw [c.N]; exact n1) (vis_of c.sc n2) p1 p2).run pins s σ H (fun v H1 => v = .ref (W.fa g) ∧ H1 = H) I ⟨_, e1, rfl, rfl⟩) fun u s1 ⟨v, H1, I1, r1, q1⟩ => ?_)
      obtain ⟨rfl, rfl⟩ := q1
      cases r1
      exact callW c tk hc hT hway hs hk hp l1 l2 ha hb I1 sr er h
    · exact h.elim
  · rename_i np body caps hg
    obtain ⟨v, e1, e2⟩ := er.slot hg
    exact (hclo _ _ _ _ _ _ _ e2).elim
  · exact h.elim
/-! ### isinstance -/
def kdV : Kd → Option (String × String)
  | .int => some ("int", "int")
  | .bool => some ("bool", "bool")
  | .str => some ("str", "str")
  | .tuple => some ("tuple", "tuple")
  | .list => some ("list", "list")
  | .dict => some ("dict", "dict")
  | .cls _ => none
/-- a value's kind, as isinstance asks: a built-in type's name, or a class -/
def tyN : D → Option String
  | .non => some "NoneType"
  | .bl _ => some "bool"
  | .int _ => some "int"
  | .str _ => some "str"
  | .tup _ => some "tuple"
  | .lst _ => some "list"
  | .dct _ _ => some "dict"
  | _ => none
theorem dct_ty {K : PySem.W.Frag} {t : Bool} {kvs : List (D × D)} {a : Addr} (h : DAt W m H t kvs a) (ht : t = true → ∃ ks, H a = some (.dT ks)) : TyX K H (.ref a) (.type "dict") := by
  cases t with
  | false =>
    obtain ⟨ks, h, _⟩ := h
    rcases h with h | ⟨o, h⟩
    · exact .base (.dK h)
    · exact .fDict h
  | true =>
    obtain ⟨ks, h⟩ := ht rfl
    exact .base (.dT h)
theorem kitB_ok : ∀ a ∈ (["NoneType", "bool", "int", "str", "tuple", "list", "dict"] : List String), ∀ b ∈ (["int", "bool", "str", "tuple", "list", "dict"] : List String), kitB a b = some (a == b || (a == "bool" && b == "int")) := by decide +kernel
/-- a value's type, told -/
inductive TyD (W : Wd) (K : PySem.W.Frag) : D → Value → Prop where
  | bt {d : D} {n : String} (h : tyN d = some n) : TyD W K d (.type n)
  | ins (c : Nat) (fs : List D) : TyD W K (.ins c fs) (.ref (W.ca c))
theorem tyx_of {X : Cx} {kn : List Nat} {d : D} {v : V} (sr : SR W m H S) (r : Rep W m H d v) (hk : ∀ c ∈ kn, ∃ ci, W.ci c = some ci ∧ ClsC W X.K c ci) (hn : notFn d = true) (h : knC kn (vw S d) = true) : ∃ t, TyX X.K H v t ∧ TyD W X.K (vw S d) t := by
  have main : ∀ e : D, vw S d = e → ∃ t, TyX X.K H v t ∧ TyD W X.K e t := by
    intro e he
    rw [he] at h
    cases e with
    | non => cases vw_non he; rw [rep_non r]; exact ⟨_, .base .non, .bt rfl⟩
    | bl b => cases vw_bl he; rw [rep_bl r]; exact ⟨_, .base (.bl _), .bt rfl⟩
    | int i => cases vw_int he; rw [rep_int r]; exact ⟨_, .base (.int _), .bt rfl⟩
    | str z => cases vw_str he; rw [rep_str r]; exact ⟨_, .base (.str _), .bt rfl⟩
    | tup xs => cases vw_tup he; obtain ⟨a, vs, rfl, t1, _⟩ := rep_tup r; exact ⟨_, (t1.rd.elim (fun h => .base (.tup h)) fun ⟨o, h⟩ => .fTuple h), .bt rfl⟩
    | lst xs =>
      obtain ⟨a, vs, rfl, t1, _⟩ := rep_lst sr r he
      rcases t1 with t1 | ⟨o, t1⟩
      · exact ⟨_, .base (.lst t1), .bt rfl⟩
      · exact ⟨_, .base (.frz t1), .bt rfl⟩
    | dct t kvs =>
      cases t with
      | true => simp [knC] at h
      | false =>
        obtain ⟨a, rfl, da⟩ := rep_dct sr r he
        exact ⟨_, dct_ty da (fun z => by cases z), .bt rfl⟩
    | fn g =>
      have := vw_flat he trivial
      subst this
      cases hn
    | loc n => simp [knC] at h
    | ins c fs =>
      have hc : c ∈ kn := by simpa [knC] using h
      obtain ⟨ci, _, C⟩ := hk c hc
      have key : ∃ a dx ns, v = .ref a ∧ H a = some (.ins (W.ca c) dx ns) := by
        cases d with
        | loc n =>
          rw [vw_loc] at he
          simp only [Rep] at r
          obtain ⟨a, ha, rfl⟩ := r
          split at he <;> cases he
          rename_i e
          obtain ⟨b, hb, dx, ns, h1, _⟩ := sr.at_ n _ e
          rw [ha] at hb; cases hb
          exact ⟨a, dx, ns, rfl, h1⟩
        | ins c' fs' =>
          cases (show D.ins c' fs' = D.ins c fs from he)
          simp only [Rep] at r
          obtain ⟨a, dx, ns, e, h1, _⟩ := r
          exact ⟨a, dx, ns, e, h1⟩
        | _ => cases he
      obtain ⟨a, dx, ns, rfl, h1⟩ := key
      exact ⟨_, .base (.ins h1 C.cls C.ty1 C.ty2 C.ty3 C.ty4), .ins c fs⟩
  exact main _ rfl
theorem tyn_mem {d : D} {n : String} (h : tyN d = some n) : n ∈ (["NoneType", "bool", "int", "str", "tuple", "list", "dict"] : List String) := by
  cases d <;> simp only [tyN] at h <;> cases h <;> decide
theorem kit_bt {K : PySem.W.Frag} {kd : Kd} {d : D} {n : String} {a b : String} (hk : kdV kd = some (a, b)) (hd : vw S d = d') (h : tyN d' = some n) : PySem.W.kitOne K (.type n) (.type b) = some (isK S d kd) := by
  have hb : b ∈ (["int", "bool", "str", "tuple", "list", "dict"] : List String) := by
    cases kd <;> simp only [kdV] at hk <;> cases hk <;> decide
  rw [kit_ty (kitB_ok n (tyn_mem h) b hb)]
  congr 1
  have key : ∀ e : D, vw S d = e → tyN e = some n → (n == b || (n == "bool" && b == "int")) = isK S d kd := by
    intro e he hn
    cases e <;> simp only [tyN] at hn <;> cases hn
    case non => cases vw_flat he trivial; cases kd <;> simp only [kdV] at hk <;> cases hk <;> simp [isK, vw]
    case bl => cases vw_flat he trivial; cases kd <;> simp only [kdV] at hk <;> cases hk <;> simp [isK, vw]
    case int => cases vw_flat he trivial; cases kd <;> simp only [kdV] at hk <;> cases hk <;> simp [isK, vw]
    case str => cases vw_flat he trivial; cases kd <;> simp only [kdV] at hk <;> cases hk <;> simp [isK, vw]
    case tup => cases vw_flat he trivial; cases kd <;> simp only [kdV] at hk <;> cases hk <;> simp [isK, vw]
    case lst xs =>
      have hd : d = .lst xs ∨ ∃ n, d = .loc n := by cases d <;> first | exact .inr ⟨_, rfl⟩ | exact .inl he | cases he
      cases kd <;> simp only [kdV] at hk <;> cases hk <;> simp only [isK, he] <;> rcases hd with rfl | ⟨n, rfl⟩ <;> simp
    case dct t ks =>
      have hd : d = .dct t ks ∨ ∃ n, d = .loc n := by cases d <;> first | exact .inr ⟨_, rfl⟩ | exact .inl he | cases he
      cases kd <;> simp only [kdV] at hk <;> cases hk <;> simp only [isK, he] <;> rcases hd with rfl | ⟨n, rfl⟩ <;> simp
  exact key d' hd h
theorem r_isi {a : ME} {kn : List Nat} {kd : Kd} {e c : Expr} {p pos : Pos} (hc : Γ.calm = true) (h1 : isGl Γ.sc ("isinstance" : Str) = true) (h2 : Γ.G.lookup ("isinstance" : Str) = some .free) (hs : isStar e = false) (hs2 : isStar c = false) (hk : ∀ c ∈ kn, ∃ ci, W.ci c = some ci)
    (hT : (∃ x p2 T b, c = .Name x p2 ∧ kdV kd = some (T, b) ∧ isGl Γ.sc x = true ∧ Γ.G.lookup x = some .free ∧ bootBuiltins x = some (.type b)) ∨ ∃ x p2 cc ci, c = .Name x p2 ∧ kd = .cls cc ∧ isGl Γ.sc x = true ∧ Γ.G.lookup x = some (.cls cc) ∧ W.ci cc = some ci)
    (ha : SE W k ways Γ a e) : SE W k ways Γ (.isi a kn [kd]) (.Call (.Name "isinstance" p) [e, c] [] pos) := fun X cx E tk => by
  obtain ⟨g1, g2, g3⟩ := gl_of cx.sc h1
  have hm : X.mg "isinstance" = none := cx.glob _ _ h2
  have hkC : ∀ c ∈ kn, ∃ ci, W.ci c = some ci ∧ ClsC W X.K c ci := fun c h => let ⟨ci, q⟩ := hk c h; ⟨ci, q, cx.calls.cls c ci q⟩
  have fin : ∀ (cv : V) (u : Value), PE X c (tC cv) → ClsV cv u → (∀ (m : List Addr) (S : Py.St) (d : D) t, TyD W X.K (vw S d) t → (∀ c fs, vw S d = .ins c fs → c ∈ kn) → PySem.W.kitOne X.K t u = some (isK S d kd)) → PE X (.Call (.Name "isinstance" p) [e, c] [] pos) (tE W (jX X) (run W.T k) E (.isi a kn [kd])) := fun cv u pc cl hkit => by
    refine PEw (pe_callB call_isi g1 hm (show bootBuiltins "isinstance" = some (.builtin "isinstance") by decide +kernel) (pa_cons (ha X cx E tk) (pa_cons pc pa_nil (star_no hs2 _ _)) (star_no hs _ _)) g3 g2 (star_no hs _ _) (star_any (by simp [hs2]) _ _)) fun σ H Q ⟨m, S, ρ, sr, er, h⟩ => ?_
    simp only [evE] at h
    refine ⟨m, S, ρ, sr, er, (KG.bind h).imp ?_⟩
    rintro x H1 ⟨m1, d, S1, le1, sr1, rx, q⟩
    split at q
    · rename_i hn
      rw [Bool.and_eq_true] at hn
      obtain ⟨t, ty, td⟩ := tyx_of (X := X) sr1 rx hkC hn.1 hn.2
      refine ⟨x, cv, t, u, isK S1 d kd, rfl, cl, ty, hkit m1 S1 d t td (fun c fs hv => ?_), ?_⟩
      · have := hn.2
        rw [hv] at this
        simpa [knC] using this
      · have := okB q sr1
        simpa using this
    · exact q.elim
  rcases hT with ⟨x, p2, T, b, rfl, hkd, q1, q2, q3⟩ | ⟨x, p2, cc, ci, rfl, rfl, q1, q2, q3⟩
  · obtain ⟨g4, g5, g6⟩ := gl_of cx.sc q1
    refine fin (.ty b) (.type b) (pe_bltn g4 (cx.glob x _ q2) q3 rfl g6 g5) (.ty b) fun m S d t td hin => ?_
    generalize hv : vw S d = d' at td
    cases td with
    | bt h => exact kit_bt hkd hv h
    | ins c fs =>
      obtain ⟨ci, _, C⟩ := hkC c (hin c fs hv)
      have hb : b ∈ (["int", "bool", "str", "tuple", "list", "dict", "NoneType"] : List String) := by cases kd <;> simp only [kdV] at hkd <;> cases hkd <;> decide
      rw [(C.isT b hb).1]
      congr 1
      have hd : d = .ins c fs ∨ ∃ n, d = .loc n := by cases d <;> first | exact .inr ⟨_, rfl⟩ | exact .inl hv | cases hv
      cases kd <;> simp only [kdV] at hkd <;> cases hkd <;> simp only [isK, hv] <;> rcases hd with rfl | ⟨n, rfl⟩ <;> simp
  · obtain ⟨g4, g5, g6⟩ := gl_of cx.sc q1
    refine fin (.ref (W.ca cc)) (.ref (W.ca cc)) (pe_glob g4 (cx.glob x _ q2) rfl g5) (.own _) fun m S d t td hin => ?_
    generalize hv : vw S d = d' at td
    cases td with
    | bt h =>
      have hm := tyn_mem h
      have hm2 : ∀ n ∈ (["NoneType", "bool", "int", "str", "tuple", "list", "dict"] : List String), n ∈ (["int", "bool", "str", "tuple", "list", "dict", "NoneType"] : List String) := by decide
      rw [((cx.calls.cls cc ci q3).isT _ (hm2 _ hm)).2]
      congr 1
      simp only [isK, hv]
      cases d' <;> simp only [tyN] at h <;> first | cases h <;> rfl | rfl
    | ins c fs =>
      obtain ⟨ci2, hc2, C⟩ := hkC c (hin c fs hv)
      rw [C.isC cc ci q3]
      simp only [isK, hv]
/-! ### methods of texts, lists -/
def bmRun (b : Bm) (x : D) (ys : List D) (S : Py.St) : Res D := match isMut b with
  | true => match x with
    | .loc n => bmS b n ys S
    | _ => .bad
  | false => opt (bmD b (vw S x) (if rawA b then ys else ys.map (vw S))) S
def rBm (W : Wd) (b : Bm) : V → List V → Hp → VK → Prop := fun x xs H Q => ∃ E m S dx ds, SR W m H S ∧ Rep W m H dx x ∧ RepL W m H ds xs ∧ KG W E m H (Rep W) (bmRun b dx ds S) Q
theorem few_ok {es : List Expr} (h : es.any isStar = false) (hl : es.length < 28) (env : PySem.Env) (pos : Pos) : ((backTo pos (starEach es env)).all (fun x => !x.1) && (backToKw pos (keywordEach [] env)).all (fun x => x.1.isSome)
      && decide (es.length + ([] : List Keyword).length + (if ([] : List Keyword).isEmpty then 0 else 1) < 30)) = true := by
  have h1 := star_any h env pos
  have h2 : (backTo pos (starEach es env)).all (fun x => !x.1) = true := by
    rw [List.all_eq_not_any_not]
    simp only [Bool.not_not]
    rw [h1]; rfl
  rw [h2]
  have h3 : (backToKw pos (keywordEach [] env)).all (fun x => x.1.isSome) = true := rfl
  rw [h3]
  simp
  omega
theorem r_bmG {b : Bm} {T id : String} {name : Str} {o : ME} {es : MEs} {eo x : Expr} {xs : List Expr} {ap cp : Pos} (hc : Γ.calm = true) (pa : PlainAttrs T) (slot : Slot T name id) (hty : typeOf (.builtin id) = pure (.type "method_descriptor")) (hm : ∀ X : Cx, X.calm = true → X.A.units + 70 < cLine → MtR X id (rBm W b))
    (hk : ∀ (K : PySem.W.Frag) m H S d v, SR W m H S → Rep W m H d v → kindB b (vw S d) = true → tyV K T v H) (hb : plainB eo = true) (hs : (x :: xs).any isStar = false) (hl : (ap.endLine == cp.line) = true) (hlen : xs.length < 27) (ho : SE W k ways Γ o eo) (ha : SEs W k ways Γ es (x :: xs)) :
    SE W k ways Γ (.bm b o es) (.Call (.Attribute eo name ap) (x :: xs) [] cp) := fun X c E tk => by
  have hs1 := hs
  simp only [List.any_cons, Bool.or_eq_false_iff] at hs
  refine PEw (pe_bm pa slot hty (hm X (c.calm hc).1 c.un) (ho X c E tk) (ha X c E tk) (base_ok hb name X.env _) (few_ok hs1 (by simp; omega) _ _) hl (star_no hs.1 _ _) (star_any hs.2 _ _)) fun σ H Q ⟨m, S, ρ, sr, er, h⟩ => ?_
  simp only [evE] at h
  refine ⟨m, S, ρ, sr, er, (KG.bind h).imp ?_⟩
  rintro v H1 ⟨m1, d, S1, le1, sr1, rx, q⟩
  split at q
  · rename_i hkd
    refine ⟨hk X.K m1 H1 S1 d v sr1 rx hkd, m1, S1, ρ, sr1, er.mono le1, (KG.bind q).imp ?_⟩
    rintro vs H2 ⟨m2, ds, S2, le2, sr2, rs, q2⟩
    refine ⟨E, m2, S2, d, ds, sr2, rx.mono le2, rs, ?_⟩
    unfold bmRun
    exact q2
  · exact q.elim
theorem r_bmG0 {b : Bm} {T id : String} {name : Str} {o : ME} {eo : Expr} {ap cp : Pos} (hc : Γ.calm = true) (pa : PlainAttrs T) (slot : Slot T name id) (hty : typeOf (.builtin id) = pure (.type "method_descriptor")) (hm : ∀ X : Cx, X.calm = true → X.A.units + 70 < cLine → MtR X id (rBm W b))
    (hk : ∀ (K : PySem.W.Frag) m H S d v, SR W m H S → Rep W m H d v → kindB b (vw S d) = true → tyV K T v H) (hb : plainB eo = true) (hl : (ap.endLine == cp.line) = true) (ho : SE W k ways Γ o eo) :
    SE W k ways Γ (.bm b o .nil) (.Call (.Attribute eo name ap) [] [] cp) := fun X c E tk => by
  refine PEw (pe_bm0 pa slot hty (hm X (c.calm hc).1 c.un) (ho X c E tk) (base_ok hb name X.env _) hl) fun σ H Q ⟨m, S, ρ, sr, er, h⟩ => ?_
  simp only [evE] at h
  refine ⟨m, S, ρ, sr, er, (KG.bind h).imp ?_⟩
  rintro v H1 ⟨m1, d, S1, le1, sr1, rx, q⟩
  split at q
  · rename_i hkd
    refine ⟨hk X.K m1 H1 S1 d v sr1 rx hkd, E, m1, S1, d, [], sr1, rx, by simp [RepL], ?_⟩
    simp only [evEs, Res.bind_ok] at q
    unfold bmRun
    exact q
  · exact q.elim
theorem kind_str {b : Bm} (hb : ∀ d, kindB b d = true → ∃ s, d = .str s) : ∀ (K : PySem.W.Frag) m H S d v, SR W m H S → Rep W m H d v → kindB b (vw S d) = true → tyV K "str" v H := fun K m H S d v sr r h => by
  obtain ⟨s, hs⟩ := hb _ h
  cases vw_str hs
  rw [rep_str r]
  rfl
theorem kind_lst {b : Bm} (hb : ∀ d, kindB b d = true → ∃ s, d = .lst s) : ∀ (K : PySem.W.Frag) m H S d v, SR W m H S → Rep W m H d v → kindB b (vw S d) = true → tyV K "list" v H := fun K m H S d v sr r h => by
  obtain ⟨s, hs⟩ := hb _ h
  obtain ⟨a, vs, rfl, t1, _⟩ := rep_lst sr r hs
  exact .inl ⟨rfl, _, .inl t1⟩
theorem strs_rep : ∀ {xs : List D} {bs : List (List Nat)} {vs : List V}, Py.strZ xs = some bs → RepL W m H xs vs → vs = (bs.map sOf).map V.str
  | [], bs, vs, h, r => by
    simp only [Py.strZ, mapO] at h; cases h
    simp only [RepL] at r; rw [r]; rfl
  | x :: xs, bs, vs, h, r => by
    simp only [Py.strZ, mapO] at h
    split at h <;> cases h
    rename_i b bs' h1 h2
    simp only [RepL] at r
    obtain ⟨v, w, rfl, r1, r2⟩ := r
    have := strs_rep (xs := xs) (bs := bs') (by simpa only [Py.strZ] using h2) r2
    rw [this]
    cases x <;> simp only at h1 <;> cases h1
    rw [rep_str r1]; rfl
theorem joinS_eq (sep : List Nat) : ∀ bs : List (List Nat), (Str.join (sOf sep) (bs.map sOf)).cps.toList = joinS sep bs
  | [] => rfl
  | [x] => by simp [Str.join, sOf, joinS]
  | x :: y :: r => by
    have ih := joinS_eq sep (y :: r)
    simp only [List.map_cons] at ih ⊢
    have e : Str.join (sOf sep) (sOf x :: sOf y :: r.map sOf) = sOf x ++ sOf sep ++ Str.join (sOf sep) (sOf y :: r.map sOf) := rfl
    rw [e]
    show ((sOf x).cps ++ (sOf sep).cps ++ (Str.join (sOf sep) (sOf y :: r.map sOf)).cps).toList = _
    rw [Array.toList_append, Array.toList_append, ih]
    simp [sOf, joinS]
theorem sOf_cps {a : Str} {b : List Nat} (h : a.cps.toList = b) : a = sOf b := by
  rw [← h, sOf_of]
theorem bm_join {X : Cx} : MtR X "str.join" (rBm W .join) := by
  intro pins s σ H x xs v us Q I rx rs ⟨E, m, S, dx, ds, sr, rd, rl, h⟩
  simp only [bmRun, isMut, rawA, Bool.false_eq_true, if_false] at h
  obtain ⟨d, e, q⟩ := h.opt
  have e0 : ∃ sep y, vw S dx = .str sep ∧ ds.map (vw S) = [y] := by
    unfold bmD at e
    split at e <;> first | contradiction | skip
    rename_i hx hy
    exact ⟨_, _, hx, hy⟩
  obtain ⟨sep, y, hx, hy⟩ := e0
  rw [hx, hy] at e
  simp only [bmD] at e
  have key : ∀ (a : Addr) (ys : List D) (ss : List (List Nat)), Py.strZ ys = some ss → (if (ss.map (·.length)).sum + ss.length * sep.length ≤ line then some (D.str (joinS sep ss)) else none) = some d → xs = [.ref a] →
      (∀ vs, vs = (ss.map sOf).map V.str → SqL X.K H a vs ∨ SqT X.K H a vs) → wpAny (model X.prog X.w) X.A (call (.builtin "str.join") (v :: us)) (EP X pins σ Q) X.xe s := by
    intro a ys ss h1 h2 hxs h3
    split at h2 <;> cases h2
    rename_i hz
    cases vw_str hx
    refine mt_join pins s σ H x xs v us Q I rx rs ⟨sOf sep, a, ss.map sOf, rep_str rd, hxs, h3 _ rfl, ?_, ?_⟩
    · rw [List.map_map, List.length_map, sOf_len]
      have : ((fun x : Str => x.length) ∘ sOf) = fun x : List Nat => x.length := by funext z; exact sOf_len z
      rw [this]
      simpa [line] using hz
    · have := q (.str (sOf (joinS sep ss))) H m .refl sr (.str _)
      rw [← sOf_cps (joinS_eq sep ss), ← PySem.StrLaws.glued_eq_join] at this
      exact this
  obtain ⟨dy, vy, rfl, rfl, hv, ry⟩ := repl1 hy rl
  cases y <;> simp only [items] at e <;> first | (cases e; done) | skip
  · rename_i ys
    split at e
    · rename_i ss hss
      cases vw_tup hv
      obtain ⟨a, vs, rfl, t1, t2⟩ := rep_tup ry
      have := strs_rep hss t2
      subst this
      exact key a _ ss hss e rfl fun vs hvs => by rw [hvs]; exact .inr (tp_sq t1)
    · cases e
  · rename_i ys
    split at e
    · rename_i ss hss
      obtain ⟨a, vs, rfl, t1, t2⟩ := rep_lst sr ry hv
      have := strs_rep hss t2
      subst this
      exact key a _ ss hss e rfl fun vs hvs => by rw [hvs]; exact .inl (.inl t1)
    · cases e
end
end Py
end

section
set_option Elab.async false
set_option linter.all false
set_option maxRecDepth 100000
namespace Py
open PySem PySem.Spec PyProof.Rows L2
section
variable {W : Wd} {k : Nat} {ways : Nat → List Way} {Γ : Gam} {m m' : List Addr} {H H' : Hp} {S : Py.St} {E : XK}
theorem dc_read {mu : Bool} {own : List Nat} {key val : ME} {t : MT} {i : MI} {ifs : MEs} {ownP : List (Str × Nat)} {X : Cx} {σ : L2.St} {Q : VK} (ho : ownP.map (·.2) = own) (hnm : ∀ i ∈ namesT t, i ∈ own) (h : tE W (jX X) (run W.T k) E (.dc false mu own key val t i ifs) σ H Q) :
    tDc (tI W (jX X) (run W.T k) E i) (tG W t) (tIfs W Sd.none (run W.T k) EF ifs) (tE W Sd.none (run W.T k) EF key) (tE W Sd.none (run W.T k) EF val) (ownP.map (·.2)) σ H Q := by
  obtain ⟨m, S, ρ, sr, er, h⟩ := h
  simp only [evE] at h
  refine ⟨m, S, ρ, sr, er, ?_⟩
  cases hw : evI (run W.T k) i ρ S with
  | bad => rw [hw] at h; exact h.elim
  | exc ec fs S1 => rw [hw] at h; exact h
  | ok w S1 =>
    rw [hw] at h
    simp only [Res.bind_ok, compS] at h
    intro J H1 m1 le1 sr1 wj D hD
    generalize hS : lockS w.1 S1 = S0 at h sr1 wj
    have h := KG.mono le1 h
    have hlen : m1.length = S0.length := sr1.len
    -- what is still to be done
    let P : Res Unit → Prop := fun r => KG W E m1 H1 (Rep W) (r.noX.bind fun _ S' => doneS mu S0 S') Q
    have Pb : ¬ P .bad := fun z => z
    have Pe : ∀ c fs S, ¬ P (.exc c fs S) := fun _ _ _ z => z
    have P0 : P (goesL (lockOf w.1 S0) (fun x S' => match bindT t x (Py.wipe (Py.dropA ρ) own) with
      | none => .bad
      | some ρ1 => (evIfs (run W.T k) ifs ρ1 S').bind fun b S' => if b then (evE (run W.T k) key ρ1 S').bind fun y S' => (evE (run W.T k) val ρ1 S').bind fun z S' => entS false S0.length y z S' else .ok () S') w.2 (S0 ++ [.dct false [] false])) := h
    generalize hF : (fun x S' => match bindT t x (Py.wipe (Py.dropA ρ) own) with
      | none => Res.bad
      | some ρ1 => (evIfs (run W.T k) ifs ρ1 S').bind fun b S' => if b then (evE (run W.T k) key ρ1 S').bind fun y S' => (evE (run W.T k) val ρ1 S').bind fun z S' => entS false S0.length y z S' else .ok () S') = F at P0
    have le2 : Le m1 H1 (m1 ++ [D]) (upd H1 D (.dK [])) := le_add hD
    have sr2 : SR W (m1 ++ [D]) (upd H1 D (.dK [])) (S0 ++ [.dct false [] false]) := sr1.add hD ⟨[], by simpa using upd_same, rfl, by simp [RepV]⟩
    refine ⟨fun i mm Hc => mm = w.2.length - i ∧ i ≤ w.2.length ∧ ∃ mc Sc, Le m1 H1 mc Hc ∧ mc[S0.length]? = some D ∧ SR W mc Hc Sc ∧ P (goesL (lockOf w.1 S0) F (w.2.drop i) Sc),
      ⟨_, rfl, Nat.zero_le _, m1 ++ [D], S0 ++ [.dct false [] false], le2, by rw [← hlen]; simp, sr2, by simpa using P0⟩, ?_⟩
    rintro i mm Hc ⟨rfl, hi', mc, Sc, lec, hDc, src, hP⟩
    by_cases hlt : i < w.2.length
    · rw [List.drop_eq_getElem_cons hlt] at hP
      unfold goesL at hP
      by_cases hst : still (lockOf w.1 S0) Sc = true
      · rw [if_pos hst] at hP
        obtain ⟨w1, _⟩ := wj mc Hc Sc lec src hst i
        obtain ⟨hgo, hy⟩ := w1 _ (List.getElem?_eq_getElem hlt)
        refine .inr ⟨hgo, fun Hn => ∃ mc' Sc', Le m1 H1 mc' Hn ∧ mc'[S0.length]? = some D ∧ SR W mc' Hn Sc' ∧ P (goesL (lockOf w.1 S0) F (w.2.drop (i + 1)) Sc'), fun Hn ⟨mc', Sc', a1, a2, a3, a4⟩ => ⟨w.2.length - (i + 1), by omega, rfl, hlt, mc', Sc', a1, a2, a3, a4⟩, fun x Hx hyx => ?_⟩
        obtain ⟨m3, le3, sr3, rx⟩ := hy x Hx hyx
        have hD3 := le3.at hDc
        rw [← hF] at hP
        simp only at hP
        have er3 : ER W Sd.none m3 Hx (Py.wipe (Py.dropA ρ) own) (L2.wipe σ (ownP.map (·.2))) := by
          rw [ho]
          exact ((((er.mono le1).mono lec).mono le3).dropA).wipe own
        cases hbt : bindT t w.2[i] (Py.wipe (Py.dropA ρ) own) with
        | none => rw [hbt] at hP; exact (Pb hP).elim
        | some ρ1 =>
          rw [hbt] at hP
          simp only at hP
          refine ⟨Sd.none, m3, _, _, ρ1, er3, rx, hbt, fun σ2 er4 hwp => ⟨by rw [hwp (ownP.map (·.2)) (fun i hi => by rw [ho]; exact hnm i hi), wipe_twice], ?_⟩⟩
          have bb : ∀ {α β γ : Type} (r : Res α) (f : α → Py.St → Res β) (g : β → Py.St → Res γ), (r.bind f).bind g = r.bind fun a S => (f a S).bind g := fun r f g => by cases r <;> rfl
          rw [bb] at hP
          refine ⟨m3, Sc, ρ1, sr3, er4, (stepX Pb Pe hP).imp ?_⟩
          rintro b H4 ⟨m4, b', S4, le4, sr4, eb, hP4⟩
          have eb : b' = b := eb
          subst eb
          cases b' with
          | false =>
            simp only [Bool.false_eq_true, if_false, Res.bind_ok] at hP4 ⊢
            exact ⟨m4, S4, (lec.trans le3).trans le4, le4.at hD3, sr4, by rw [← hF]; exact hP4⟩
          | true =>
            simp only [if_true] at hP4 ⊢
            rw [bb] at hP4
            refine ⟨m4, S4, ρ1, sr4, er4.mono le4, (stepX Pb Pe hP4).imp ?_⟩
            rintro y H5 ⟨m5, dy, S5, le5, sr5, ry, hP5⟩
            rw [bb] at hP5
            refine ⟨m5, S5, ρ1, sr5, (er4.mono le4).mono le5, (stepX Pb Pe hP5).imp ?_⟩
            rintro z H6 ⟨m6, dz, S6, le6, sr6, rz, hP6⟩
            have hD6 := le6.at (le5.at (le4.at hD3))
            unfold entS at hP6
            split at hP6
            · rename_i t' kvs hacc
              split at hP6
              · rename_i hkz
                obtain ⟨rfl, hky, hsz⟩ := hkz
                simp only [Res.bind_ok] at hP6
                obtain ⟨a, ha, q⟩ := sr6.at_ _ _ hacc
                rw [hD6] at ha; cases ha
                obtain ⟨ks, h5, h6, r6⟩ := q
                simp only [Bool.false_eq_true, if_false] at h5
                have hz : ∀ z u, H6 D ≠ some (.frz z u) := fun z u q => by rw [h5] at q; cases q
                obtain ⟨q, hq, rfl⟩ : ∃ q, keyK dy = some q ∧ y = kV q := by
                  cases dy <;> simp only [kOk, keyF, Bool.false_eq_true, if_false] at hky <;> first | (cases hky; done) | skip
                  · exact ⟨.inl _, rfl, rep_int ry⟩
                  · exact ⟨.inr _, rfl, rep_str ry⟩
                have le7 : Le m6 H6 m6 (upd H6 D (.dK (putK ks q z))) := sr6.le_put (List.mem_of_getElem? hD6) hz
                obtain ⟨p1, p2⟩ := putV (fun _ _ _ => keyK_inj) hq (rz.mono le7) h6 (r6.mono le7)
                refine ⟨ks, q, rfl, h5, ?_, m6, _, ((((lec.trans le3).trans le4).trans le5).trans le6).trans le7, hD6, sr6.put (ob := .dct false (dput kvs dy dz) false) hD6 hz ⟨putK ks q z, by simpa using upd_same, p1, p2⟩, by rw [← hF]; exact hP6⟩
                rw [← line_eq]
                have := congrArg List.length h6
                simp only [List.length_map] at this
                rw [← this]; exact hsz
              · exact (Pb hP6).elim
            · exact (Pb hP6).elim
      · rw [if_neg hst] at hP
        exact (Pb hP).elim
    · have hd : w.2.drop i = [] := List.drop_eq_nil_of_le (by omega)
      rw [hd] at hP
      unfold goesL at hP
      by_cases hst : still (lockOf w.1 S0) Sc = true
      · rw [if_pos hst] at hP
        obtain ⟨_, w2⟩ := wj mc Hc Sc lec src hst i
        refine .inl ⟨w2 (by omega), ?_⟩
        have hP : KG W E m1 H1 (Rep W) (doneS mu S0 Sc) Q := hP
        have rl : Rep W mc Hc (.loc S0.length) (.ref D) := by simp only [Rep]; exact ⟨D, hDc, rfl⟩
        cases mu with
        | true => exact hP (.ref D) Hc mc lec src rl
        | false =>
          have hP : KG W E m1 H1 (Rep W) (closeC S0 (.ok (.loc S0.length) Sc)) Q := hP
          have := close_ok sr1 hP
          exact this (.ref D) Hc mc lec src rl
      · rw [if_neg hst] at hP
        exact (Pb hP).elim
theorem r_dc {mu : Bool} {own : List Nat} {key val : ME} {t : MT} {i : MI} {ifs : MEs} {eK eV tg it : Expr} {iE : List Expr} {scope : Scope} {ownP : List (Str × Nat)} {pos : Pos} (hc : Γ.calm = true) (hn : notSet it = true) (ho : ownP.map (·.2) = own) (hbk : blkC Γ.N Γ.sc scope ownP = true) (hnm : ∀ i ∈ namesT t, i ∈ own)
    (hi : SI W k ways Γ i tg it) (hg : ∀ X, Ctx W k ways X (bGam Γ scope) → PG X tg (tG W t)) (hf : SF W k ways (bGam Γ scope) ifs iE) (hk : SE W k ways (bGam Γ scope) key eK) (he : SE W k ways (bGam Γ scope) val eV) : SE W k ways Γ (.dc false mu own key val t i ifs) (.DictComp eK eV [⟨tg, it, iE, 0⟩] scope pos) := fun X c E tk =>
  PEw (pe_dc (own := ownP) (g := tG W t) (tt := tIfs W Sd.none (run W.T k) EF ifs) (tk := tE W Sd.none (run W.T k) EF key) (tv := tE W Sd.none (run W.T k) EF val) (c.calm hc).1 c.nd (hi X c E tk) (by rw [c.N, c.sc]; exact blkOk_by hbk)
    (fun s H C cl fp => hg _ (blk_ctx c hc scope s H C cl fp)) (fun s H C cl fp => PTsw (hf _ (blk_ctx c hc scope s H C cl fp) EF tk_blk) fun _ _ _ => tIfs_none)
    (fun s H C cl fp => PEw (hk _ (blk_ctx c hc scope s H C cl fp) EF tk_blk) fun _ _ _ => tE_none) (fun s H C cl fp => PEw (he _ (blk_ctx c hc scope s H C cl fp) EF tk_blk) fun _ _ _ => tE_none) (fun x => fold_ok hn _ x)) fun σ H Q h => dc_read ho hnm h
end
end Py
end

section
set_option Elab.async false
set_option linter.all false
set_option maxRecDepth 100000
set_option autoImplicit false
namespace Py
open PySem PySem.Spec PyProof.Rows L2
open PySem.W (alike alikeAll dataLt dataLe dataLt_bool dataLt_int dataLt_str dataLt_tuple dataLt_cons lex_atom keyToks keyToksAll AllAlike Sortable EachIs list_sort_data)
section
variable {W : Wd} {k : Nat} {ways : Nat → List Way} {Γ : Gam} {m m' : List Addr} {H H' : Hp} {S : Py.St} {E : XK}
theorem repKT_of : ∀ {kvs : List (D × D)} {ks : List (List Key × V)} {bs : List Addr}, kvs.map (fun p => keyKs p.1) = ks.map (fun p => some p.1) → IsKeys H ks bs → RepL W m H (kvs.map (·.1)) (bs.map V.ref)
  | [], [], _, _, h => by cases h; simp only [List.map_nil, RepL]
  | [], _ :: _, _, h, _ => by cases h
  | _ :: _, [], _, h, _ => by cases h
  | (x, y) :: kvs, (q, w) :: ks, _, h, .cons hb hr => by
    simp only [List.map_cons, List.cons.injEq] at h
    simp only [List.map_cons, RepL]
    refine ⟨_, _, rfl, ?_, repKT_of h.2 hr⟩
    have h1 := h.1
    cases x <;> first | (simp only [keyKs] at h1; cases h1; done) | skip
    rename_i xs
    refine .tup (.of_key (keyish_of h1) hb) ?_
    replace h1 := (keyKs_tup h1).1
    clear hb hr h
    induction xs generalizing q with
    | nil => simp only [mapO] at h1; cases h1; simp only [RepL, List.map_nil]
    | cons y ys ih =>
      simp only [mapO] at h1
      split at h1 <;> cases h1
      rename_i a1 a2 h3 h4
      simp only [List.map_cons, RepL]
      refine ⟨_, _, rfl, ?_, ih _ h4⟩
      cases y <;> simp only [keyK] at h3 <;> cases h3
      · exact Rep.int _
      · exact Rep.str _
/-! ### what can be gone through, gathered -/
theorem vals_signs : ∀ {z : List Nat} {us : List Value}, us.length = z.length → (∀ j v, us[j]? = some v → SignAt (sOf z) j v) → Vals (z.map fun c => V.str (sOf [c])) us
  | [], [], _, _ => .nil
  | [], _ :: _, h, _ => by simp at h
  | _ :: _, [], h, _ => by simp at h
  | c :: z, u :: us, h, hs => by
    obtain ⟨c', t, h1, h2⟩ := hs 0 u rfl
    have : c = c' := by simpa [sOf] using h1
    subst this h2
    refine .cons ⟨t, rfl⟩ (vals_signs (by simpa using h) fun j v e => ?_)
    obtain ⟨c', t, h1, h2⟩ := hs (j + 1) v (by simpa using e)
    exact ⟨c', t, by simpa [sOf] using h1, h2⟩
theorem collect_of {X : Cx} {pins : List (Addr × Obj)} {σ : L2.St} {s : Shared} {d : D} {v : V} {u : Value} {xs : List D} {Q : List Value → Shared → Prop} {A : Around} {E : Value → Shared → Prop} (I : Inv X pins σ H s) (hh : A.handled = none) (sr : SR W m H S) (r : Rep W m H d v) (rv : RelV v u)
    (hx : items (vw S d) = some xs) (hq : ∀ us vs h' tk, Vals vs us → RepL W m H xs vs → xs.length ≤ sizeLine → (∀ b o, s.heap.get? b = some o → h'.get? b = some o) → Q us { s with heap := h', toks := tk }) (hs : ∀ z, vw S d = .str z → z.length ≤ line) : wpAny (model X.prog X.w) A (collect u) Q E s := by
  generalize hv : vw S d = e at hx
  cases e <;> simp only [items] at hx <;> cases hx
  · rename_i z
    cases vw_str hv
    rw [rep_str r] at rv
    obtain ⟨t, rfl⟩ := rv
    have hz : (sOf z).cps.size ≤ sizeLine := by
      rw [← line_eq]
      simpa [sOf] using hs z hv
    refine wpAny_collect_str hh (sOf z) t (fun s' acc hk hg hd ho hacc => ?_) hz
    have e : s' = { s with heap := s'.heap, toks := s'.toks } := by
      cases s'; cases s; cases hg; cases hd; cases ho; rfl
    rw [e]
    refine hq _ (z.map fun c => V.str (sOf [c])) s'.heap s'.toks ?_ rep_codes (by rw [← line_eq]; simpa using hs z hv) hk
    exact vals_signs (by rw [Array.length_toList, hacc.1]; simp [sOf]) fun j v e => hacc.2 j v (by rw [← Array.getElem?_toList]; exact e)
  · cases vw_tup hv
    obtain ⟨a, vs, rfl, t1, t2⟩ := rep_tup r
    obtain rfl : u = Value.ref a := rv
    obtain ⟨its, rl, ⟨o, ho, hc, n, hd⟩, hz⟩ := I.tuple (tp_sq t1)
    refine wpAny_collect_seq a (.inr rfl) ho hc hd (fun h' hk => ?_) (by rw [List.size_toArray, ← rl.length]; exact hz)
    have := hq its vs h' s.toks rl t2 (by rw [t2.length]; exact hz) hk
    simpa using this
  · obtain ⟨a, vs, rfl, t1, t2⟩ := rep_lst sr r hv
    obtain rfl : u = Value.ref a := rv
    obtain ⟨its, rl, p, hz⟩ := I.list (.inl t1)
    obtain ⟨o, ho, hc, n, hd⟩ := p.isList
    refine wpAny_collect_seq a (.inl rfl) ho hc hd (fun h' hk => ?_) (by rw [List.size_toArray, ← rl.length]; exact hz)
    have := hq its vs h' s.toks rl t2 (by rw [t2.length]; exact hz) hk
    simpa using this
  · rename_i t kvs
    obtain ⟨a, rfl, da⟩ := rep_dct sr r hv
    obtain rfl : u = Value.ref a := rv
    cases t with
    | false =>
      obtain ⟨ks, hr, hk, _⟩ := da
      obtain ⟨z, lo, vs, rel, dd⟩ := dk_rd I.hok hr
      obtain ⟨ep, hat⟩ := dd.dictAt
      have hl : kvs.length = ks.length := by simpa using congrArg List.length hk
      refine PySem.W.kdu_collect (PySem.W.kdl_dict (knd := mixKind X.prog X.w) (kvs := vs) (ep := ep) lo) hh hat (by rw [← rel.length]; exact z) fun h' tk acc hkp hacc => ?_
      have ek : (ks.map fun kv => kV kv.1) = vs.map fun p => kV p.1 := by
        have e := congrArg (List.map kV) rel.keys
        rw [List.map_map, List.map_map] at e
        exact e
      have hvv : Vals (vs.map fun p => kV p.1) acc.toList := keys_at (by rw [Array.length_toList]; exact hacc.1) fun j v e => hacc.2 j v (by rw [← Array.getElem?_toList]; exact e)
      rw [← ek] at hvv
      exact hq _ _ h' tk hvv (repK_of hk) (by simp; omega) hkp
    | true =>
      obtain ⟨ks, hr, hk, _⟩ := da
      obtain ⟨z, hsy, xs, pr, o, es, ep, ho, hx, hdt, he, hn⟩ := (show ObjOk X.prog X.w H s.heap a (.dT ks) from hr.ok I.hok)
      have l1 : es.size = xs.length := size_of_entries he
      have l2 : ks.length = xs.length := Paired.length pr
      have hl : kvs.length = ks.length := by simpa using congrArg List.length hk
      refine PySem.W.kdu_collect (kdl_raw hsy hx hdt) hh ho (by omega) fun h' tk acc kp it => ?_
      have ea : acc.toList = (xs.map fun x => x.2.1).map Value.ref := by
        have hl : acc.toList.length = xs.length := by rw [Array.length_toList, it.1]; exact l1
        apply List.ext_getElem?
        intro j
        rw [List.getElem?_map, List.getElem?_map]
        cases hj : acc.toList[j]? with
        | none =>
          have h1 := List.getElem?_eq_none_iff.mp hj
          rw [List.getElem?_eq_none (by omega)]
          rfl
        | some v =>
          obtain ⟨en, hen, hv⟩ := it.2 j v (by rw [← Array.getElem?_toList]; exact hj)
          have qe := entry_at he j
          rw [hen] at qe
          cases hb : xs[j]? with
          | none =>
            rw [hb] at qe
            exact nomatch (show some en = none from qe)
          | some b =>
            rw [hb] at qe
            have e2 : en = entryOfKey (tupleKind (mixKind X.prog X.w)) b := Option.some.inj qe
            rw [hv, e2]
            rfl
      have hz : (kvs.map (·.1)).length ≤ sizeLine := by rw [List.length_map]; omega
      refine hq _ ((xs.map fun x => x.2.1).map V.ref) h' tk ?_ (repKT_of hk (isKeys_of pr)) hz kp
      rw [ea]
      exact vals_refs _
/-! ### tuple(d) of a dict -/
theorem code_tuple_dict {X : Cx} {A : Around} {E : Value → Shared → Prop} {s : Shared} {a : Addr} {Q₁ : Value → Shared → Prop} (hT : s.TypeIs (.ref a) "dict") (P : List Value → Heap → Nat → Prop)
    (hcol : ∀ (A' : Around) (E' : Value → Shared → Prop) (Q : List Value → Shared → Prop), A'.handled = A.handled → (∀ us h' tk, P us h' tk → Q us { s with heap := h', toks := tk }) → wpAny (model X.prog X.w) A' (collect (.ref a)) Q E' s)
    (hP : ∀ us h' tk, P us h' tk → us.length ≤ sizeLine) (h : ∀ us h' tk, P us h' tk → Q₁ (.ref h'.objs.size) { s with heap := h'.push { cls := .type "tuple", data := .seq us.toArray }, toks := tk }) :
    codeAny (model X.prog X.w) A (.call (.builtin "tuple.__new__") ⟨[.type "tuple", .ref a], []⟩) (wants Q₁ E) s := by
  refine codeAny_of_tree ?_
  show wpAny _ A.in1 (do checkBuiltinCall "tuple.__new__" ⟨[.type "tuple", .ref a], []⟩; again (.builtin "tuple.__new__" ⟨[.type "tuple", .ref a], []⟩)) _ _ s
  refine wpAny_bind (wpAny_of_eq (F.newCall_tuple_1 _) (wpAny_pure ⟨plainId_quiet F.plain_tuple_new _, codeAny_builtin F.entry_tuple_new ?_⟩))
  rw [Around.under_plainId F.plain_tuple_new _]
  have hsub := sub_tuple_self
  have hinit := init_tuple_lookup
  have hmh := madeHere_tuple
  have col := fun {E' : Value → Shared → Prop} {Q : List Value → Shared → Prop} => hcol A.in1 E' Q rfl
  wp_walk using wpAny_typeOf hT, col
  intro us h' tk hp
  show wpAny _ _ (Builtin.Tuple.tupleExact us.toArray >>= fun v => ret v) _ _ _
  unfold Builtin.Tuple.tupleExact
  refine wpAny_bind (wpAny_newObj_type ?_ (by show us.toArray.size ≤ sizeLine; rw [List.size_toArray]; exact hP us h' tk hp))
  exact wpAny_pure (h us h' tk hp)
theorem it_tupleD {X : Cx} {mu : Bool} (hc : X.calm = true) : CallR X (.type "tuple") (rIt W mu .tupleD) := by
  intro pins s σ H xs us Q I rv ⟨E, m, S, d, v, hxs, sr, r, h⟩
  subst hxs
  simp only [btD, btX, btD0] at h
  split at h
  · rename_i t kvs hx
    obtain ⟨a, rfl, da⟩ := rep_dct sr r hx
    obtain ⟨u, rfl, ru⟩ := vals1 rv
    obtain rfl : u = Value.ref a := ru
    have hT : s.TypeIs (.ref a) "dict" := by
      cases t with
      | false => 
        obtain ⟨ks, hr, hk, _⟩ := da
        obtain ⟨z, lo, vs, rel, dd⟩ := dk_rd I.hok hr
        exact dd.typeIs
      | true =>
        obtain ⟨ks, hr, hk, _⟩ := da
        obtain ⟨z, hsy, xs, pr, o, es, ep, ho, hx, hdt, he, hn⟩ := (show ObjOk X.prog X.w H s.heap a (.dT ks) from hr.ok I.hok)
        exact ⟨o, ho, hx.1⟩
    refine callType_codes (Q₁ := fun obj s₁ => s₁.TypeIs obj "tuple" ∧ EP X pins σ Q obj s₁) F.called_tuple (F.typeCall_tuple_1 _) F.entry_object_init
      (code_tuple_dict (X := X) (A := X.A.in1) hT (fun us h' tk => ∃ vs, Vals vs us ∧ RepL W m H (kvs.map (·.1)) vs ∧ (kvs.map (·.1)).length ≤ sizeLine ∧ ∀ b o, s.heap.get? b = some o → h'.get? b = some o) (fun A' E' Q hA hq => ?_) (fun us h' tk ⟨vs, rv, rl, hz, _⟩ => ?_) (fun us h' tk ⟨vs, rv, rl, hz, hk⟩ => ?_)) fun obj s₁ h₁ => ?_
    · refine collect_of I (hA.trans (I.ok.hd hc)) sr r rfl (xs := kvs.map (·.1)) (by rw [hx]; rfl) (fun us vs h' tk rv rl hz hk => hq us h' tk ⟨vs, rv, rl, hz, hk⟩) (fun z q => ?_)
      rw [hx] at q
      cases q
    · rw [← rv.length, ← rl.length]; exact hz
    · have I1 : Inv X pins σ H { s with heap := h', toks := tk } := I.kept hk
      exact ⟨⟨_, Heap.get?_push_size _ rfl, rfl⟩, .ref h'.objs.size, _, laid_tup (t' := tk) I1 _ (fun _ _ e => e) (Nat.le_refl _) rv (by rw [← rl.length]; exact hz), rfl, new_tup h sr rl _ _ (I1.hok.fresh (Nat.le_refl _)) rfl⟩
    · exact ⟨h₁.1, F.args_object_init_2 obj _, object_init_meets F.called_tuple.init.lookup F.called_tuple.made (by decide) X.prog X.w X.A.in1 _ s₁ ⟨h₁.1, rfl, h₁.2⟩⟩
  · exact h.elim
/-! ### sorted -/
mutual
theorem reads_nl {X : Cx} {pins : List (Addr × Obj)} {σ : L2.St} {s : Shared} (I : Inv X pins σ H s) : ∀ (d : D) (v : V) (u : Value), D.alk d d = true → Rep W m H d v → RelV v u → Reads s.heap u (toPD d) []
  | .non, v, u, _, r, ru => by
    rw [rep_non r] at ru; cases (show u = Value.none from ru); simp only [toPD]; exact .none
  | .bl b, v, u, _, r, ru => by
    rw [rep_bl r] at ru; cases (show u = Value.bool b from ru); simp only [toPD]; exact .bool b
  | .int i, v, u, _, r, ru => by
    rw [rep_int r] at ru; obtain ⟨t, rfl⟩ := (show ∃ t, u = Value.int i t from ru); simp only [toPD]; exact .int i t
  | .str z, v, u, _, r, ru => by
    rw [rep_str r] at ru; obtain ⟨t, rfl⟩ := (show ∃ t, u = Value.str (sOf z) t from ru); simp only [toPD]; exact .str _ t
  | .tup xs, v, u, h, r, ru => by
    obtain ⟨a, vs, rfl, t1, t2⟩ := rep_tup r
    obtain rfl : u = Value.ref a := ru
    obtain ⟨its, rl, ⟨o, ho, hc, n, hd⟩, hz⟩ := I.tuple (tp_sq t1)
    simp only [toPD]
    refine .tuple ho hc hd ?_
    simpa using reads_nls I xs vs its (by simpa only [D.alk] using h) t2 rl
  | .lst _, _, _, h, _, _ | .dct _ _, _, _, h, _, _ | .ins _ _, _, _, h, _, _ | .fn _, _, _, h, _, _ | .loc _, _, _, h, _, _ => by simp [D.alk] at h
theorem reads_nls {X : Cx} {pins : List (Addr × Obj)} {σ : L2.St} {s : Shared} (I : Inv X pins σ H s) : ∀ (ds : List D) (vs : List V) (us : List Value), D.alkL ds ds = true → RepL W m H ds vs → Vals vs us → ReadsAll s.heap us (toPDs ds) []
  | [], vs, us, _, r, ru => by
    simp only [RepL] at r; subst r; cases ru; simp only [toPDs]; exact .nil
  | d :: ds, vs, us, h, r, ru => by
    simp only [RepL] at r
    obtain ⟨v, w, rfl, r1, r2⟩ := r
    cases ru with
    | cons q1 q2 =>
      simp only [D.alkL, Bool.and_eq_true] at h
      simp only [toPDs]
      exact .cons (as := []) (bs := []) (reads_nl I d v _ h.1 r1 q1) (reads_nls I ds w _ h.2 r2 q2)
end
mutual
theorem alk_of : ∀ a b : D, D.alk a b = true → alike (toPD a) (toPD b) = true
  | .non, b, h => by cases b <;> simp_all [D.alk, toPD, alike]
  | .bl _, b, h => by cases b <;> simp_all [D.alk, toPD, alike]
  | .int _, b, h => by cases b <;> simp_all [D.alk, toPD, alike]
  | .str _, b, h => by cases b <;> simp_all [D.alk, toPD, alike]
  | .tup xs, b, h => by
    cases b <;> simp only [D.alk, Bool.false_eq_true] at h
    simp only [toPD, alike]
    exact alk_ofs xs _ h
  | .lst _, b, h | .dct _ _, b, h | .ins _ _, b, h | .fn _, b, h | .loc _, b, h => by simp [D.alk] at h
theorem alk_ofs : ∀ a b : List D, D.alkL a b = true → alikeAll (toPDs a) (toPDs b) = true
  | [], b, h => by cases b <;> simp [toPDs, alikeAll]
  | x :: xs, [], h => by simp [toPDs, alikeAll]
  | x :: xs, y :: ys, h => by
    simp only [D.alkL, Bool.and_eq_true] at h
    simp only [toPDs, alikeAll, Bool.and_eq_true]
    exact ⟨alk_of x y h.1, alk_ofs xs ys h.2⟩
end
mutual
theorem lt_of : ∀ a b : D, D.alk a b = true → a.data = true → b.data = true → dataLt (toPD a) (toPD b) = D.lt a b
  | .non, b, h, _, _ => by
    cases b <;> simp only [D.alk, Bool.false_eq_true] at h
    simp only [toPD, D.lt]
    exact lex_irrefl _
  | .bl x, b, h, _, _ => by
    cases b with
    | bl y =>
      simp only [toPD, D.lt, dataLt_bool]
      cases x <;> cases y <;> decide
    | _ => simp [D.alk] at h
  | .int x, b, h, _, _ => by
    cases b <;> simp only [D.alk, Bool.false_eq_true] at h
    simp only [toPD, D.lt, dataLt_int]
  | .str x, b, h, _, _ => by
    cases b <;> simp only [D.alk, Bool.false_eq_true] at h
    simp only [toPD, D.lt, dataLt_str, sOf_toList]
  | .tup xs, b, h, ha, hb => by
    cases b <;> simp only [D.alk, Bool.false_eq_true] at h
    simp only [toPD, D.lt, dataLt_tuple]
    simp only [D.data] at ha hb
    exact lt_ofs xs _ h ha hb
  | .lst _, b, h, _, _ | .dct _ _, b, h, _, _ | .ins _ _, b, h, _, _ | .fn _, b, h, _, _ | .loc _, b, h, _, _ => by simp [D.alk] at h
theorem lt_ofs : ∀ a b : List D, D.alkL a b = true → D.dataL a = true → D.dataL b = true → PyProof.Rows.lexLt itemOrd (keyToksAll (toPDs a)) (keyToksAll (toPDs b)) = D.ltL a b
  | [], [], h, _, _ => by simp only [toPDs, D.ltL]; exact lex_irrefl _
  | [], y :: ys, h, _, _ => by
    simp only [toPDs, keyToksAll, D.ltL]
    rw [lex_atom (by simp)]
    decide
  | x :: xs, [], h, _, _ => by
    simp only [toPDs, keyToksAll, D.ltL]
    rw [lex_atom (by simp)]
    decide
  | x :: xs, y :: ys, h, ha, hb => by
    simp only [D.alkL, Bool.and_eq_true] at h
    simp only [D.dataL, Bool.and_eq_true] at ha hb
    simp only [toPDs, D.ltL]
    rw [dataLt_cons (alk_of x y h.1), eqv_of x y ha.1 hb.1, lt_of x y h.1 ha.1 hb.1, lt_ofs xs ys h.2 ha.2 hb.2]
end
theorem each_vals {R : D → V → Prop} : ∀ {us : List Value} {ds : List D}, EachIs (fun u d => ∃ v, RelV v u ∧ Rep W m H d v) us ds → ∃ vs, Vals vs us ∧ RepL W m H ds vs
  | _, _, .nil => ⟨[], .nil, by simp only [RepL]⟩
  | _, _, .cons ⟨v, h1, h2⟩ hr => by
    obtain ⟨vs, g1, g2⟩ := each_vals (R := R) hr
    exact ⟨v :: vs, .cons h1 g1, by simp only [RepL]; exact ⟨v, vs, rfl, h2, g2⟩⟩
theorem vals_each {P : Value → D → Prop} : ∀ {ds : List D} {vs : List V} {us : List Value}, RepL W m H ds vs → Vals vs us → (∀ d v u, d ∈ ds → Rep W m H d v → RelV v u → P u d) → EachIs P us ds
  | [], vs, us, r, ru, _ => by
    simp only [RepL] at r; subst r; cases ru; exact .nil
  | d :: ds, vs, us, r, ru, h => by
    simp only [RepL] at r
    obtain ⟨v, w, rfl, r1, r2⟩ := r
    cases ru with
    | cons q1 q2 => exact .cons (h d v _ (List.mem_cons_self ..) r1 q1) (vals_each r2 q2 fun d v u hm => h d v u (List.mem_cons_of_mem _ hm))
theorem sort_eq {xs : List D} (h : sortable xs = true) : xs.mergeSort (dataLe false toPD) = xs.mergeSort fun a b => !(D.lt b a) := by
  have := List.map_mergeSort (r := dataLe false toPD) (s := fun a b => !(D.lt b a)) (f := id) (l := xs) (fun a ha b hb => by
    unfold sortable at h
    simp only [Bool.and_eq_true, List.all_eq_true] at h
    have h1 := h.2.1 a ha
    have h2 := h.2.1 b hb
    have q := h2.2 a ha
    show (!dataLt (toPD b) (toPD a)) = _
    rw [lt_of b a q (shp_data h2.1) (shp_data h1.1)]
    rfl)
  simpa using this
theorem sortable_of {xs : List D} (h : sortable xs = true) : AllAlike (xs.map toPD) ∧ Sortable (xs.map toPD) ∧ (∀ d ∈ xs, D.alk d d = true ∧ d.shp = true) ∧ xs.length ≤ line := by
  unfold sortable at h
  simp only [Bool.and_eq_true, Bool.or_eq_true, List.all_eq_true, decide_eq_true_eq] at h
  obtain ⟨h1, h2, h3⟩ := h
  refine ⟨fun d hd d' hd' => ?_, ?_, fun d hd => ⟨(h2 d hd).2 d hd, (h2 d hd).1⟩, h3⟩
  · obtain ⟨a, ha, rfl⟩ := List.mem_map.mp hd
    obtain ⟨b, hb, rfl⟩ := List.mem_map.mp hd'
    exact alk_of a b ((h2 a ha).2 b hb)
  · rcases h1 with h1 | h1
    · refine .inl fun d hd => ?_
      obtain ⟨a, ha, rfl⟩ := List.mem_map.mp hd
      have := h1 a ha
      cases a <;> simp only [D.tup1] at this <;> try (cases this; done)
      rename_i ys
      cases ys with
      | nil => cases this
      | cons y ys => exact ⟨toPD y, toPDs ys, by simp [toPD, toPDs]⟩
    · refine .inr fun d hd => ?_
      obtain ⟨a, ha, rfl⟩ := List.mem_map.mp hd
      have := h1 a ha
      cases a <;> simp only [D.atom] at this <;> first | (cases this; done) | skip
      · exact ⟨by simp [toPD], fun xs => by simp [toPD]⟩
      · exact ⟨by simp [toPD], fun xs => by simp [toPD]⟩
/-- a list that was just made is sorted -/
theorem sort_new {X : Cx} {pins : List (Addr × Obj)} {σ : L2.St} {s : Shared} {A : Around} {E : Value → Shared → Prop} {us : List Value} {vs : List V} {xs : List D} {Q : Value → Shared → Prop} (I : Inv X pins σ H s) (hu : A.units + 66 < cLine) (rv : Vals vs us) (rl : RepL W m H xs vs) (h : sortable xs = true)
    (hq : ∀ (ws : List V) (p : Addr) s', H p = none → RepL W m H (xs.mergeSort fun a b => !(D.lt b a)) ws → Inv X pins σ (upd H p (.lst ws)) s' → Q (.ref p) s') :
    wpAny (model X.prog X.w) A (newList us >>= fun l => holding [l] (call (.builtin "list.sort") [l] []) >>= fun _ => ret l) (fun f s' => ∃ v, f = .done (.ret v) ∧ Q v s') E s := by
  obtain ⟨h1, h2, h3, h4⟩ := sortable_of h
  have hl : us.length = xs.length := by rw [← rv.length, ← rl.length]
  have hz : us.length ≤ sizeLine := by rw [hl, ← line_eq]; exact h4
  refine wpAny_bind (wpAny_newList ?_ hz)
  have hoL : (s.heap.push (seqObj "list" us.toArray 0)).get? s.heap.objs.size = some (seqObj "list" us.toArray 0) := Heap.get?_push_size _ rfl
  have I1 : Inv X pins σ H { s with heap := s.heap.push (seqObj "list" us.toArray 0) } := I.kept (t' := s.toks) fun b o e => Heap.get?_push_of_some _ e
  refine wpAny_bind (wpAny_holding (list_sort_data (s := { s with heap := s.heap.push (seqObj "list" us.toArray 0) }) (bs := xs) (enc := toPD) (R := fun u d => ∃ v, RelV v u ∧ Rep W m H d v) hoL (vals_each rl rv fun d v u _ r q => ⟨v, q, r⟩)
    (vals_each rl rv fun d v u hm r q => ⟨[], reads_nl I1 d v u (h3 d hm).1 r q, by simp⟩) h1 h2 (by rw [← hl]; exact hz) (fun d hd => ?_) fun out ho1 ho2 => ?_))
  · have := (h3 d hd).2
    simp only [D.shp, Bool.and_eq_true, decide_eq_true_eq] at this
    rw [depth_of]
    have := this.2
    omega
  · rw [sort_eq h] at ho2
    obtain ⟨ws, g1, g2⟩ := each_vals (R := fun _ _ => True) ho2
    obtain ⟨c, hc⟩ := sortedHeap_at (vs := us) (out := out.toArray) hoL
    refine wpAny_pure ⟨_, rfl, hq ws s.heap.objs.size _ (I.hok.fresh (Nat.le_refl _)) g2 ?_⟩
    refine I.laid (t' := s.toks) (fun b u e => ?_) (Nat.le_refl _) (show ObjOk X.prog X.w _ _ _ (.lst ws) from ⟨by rw [g1.length, ho1, ← hl]; exact hz, out, c, g1, hc⟩)
    have hb : b < s.heap.objs.size := Heap.lt_size e
    show (sortedHeap (s.heap.push (seqObj "list" us.toArray 0)) s.heap.objs.size us out.toArray).get? b = some u
    rw [sortedHeap_old (Nat.ne_of_lt hb) (by rw [size_push']; exact Nat.lt_succ_of_lt hb)]
    exact Heap.get?_push_of_some _ e
theorem it_sorted {X : Cx} {mu : Bool} (hc : X.calm = true) (hu : X.A.units + 70 < cLine) : CallR X (.builtin "sorted") (rIt W mu .sorted) := by
  intro pins s σ H xs us Q I rv ⟨E, m, S, d, v, hxs, sr, r, h⟩
  subst hxs
  obtain ⟨u, rfl, ru⟩ := vals1 rv
  simp only [btD, btX, btD0] at h
  cases hi : items (vw S d) with
  | none => rw [hi] at h; exact h.elim
  | some ys =>
    rw [hi] at h
    simp only [sortD] at h
    by_cases hs : sortable ys = true
    · rw [if_pos hs] at h
      simp only at h
      refine Calls.call_function_entry PyProof.Rows.kind_sorted PyProof.Rows.plain_sorted PyProof.Rows.entry_sorted (PyProof.Rows.args_sorted1 _) ?_
      unfold Builtin.«sorted»
      refine wpAny_bind (m := checkCount "sorted" 1 1 _) (wpAny_pure ?_)
      refine wpAny_bind (collect_of (A := X.A.in1) I (I.ok.hd hc) sr r ru hi (fun us vs h' tk rv rl hz hk => ?_) (fun z hz => ?_))
      rotate_left 1
      · have := (sortable_of hs).2.2.2
        rw [hz] at hi
        simp only [items, Option.some.injEq] at hi
        subst hi
        simpa using this
      have I1 : Inv X pins σ H { s with heap := h', toks := tk } := I.kept hk
      exact sort_new (A := X.A.in1) I1 (by simp only [Around.in1_units]; omega) rv rl hs fun ws p s' hp r2 I2 => ⟨.ref p, _, I2, rfl, new_lstM h sr r2 p hp⟩
    · rw [if_neg hs] at h
      exact h.elim
end
end Py
end

section
set_option Elab.async false
set_option linter.all false
set_option maxRecDepth 100000
set_option autoImplicit false
namespace Py
open PySem PySem.Spec PyProof.Rows L2
/-! ### set(xs): the adds, one by one -/
section
variable {P : Program} {w : World} {A : Around} {E : Value → Shared → Prop} {s : Shared}
/-- what a set's growing is told by: SS h i, the set at S behind i adds -/
structure Grow (P : Program) (w : World) (u : Nat) (S : Addr) (h0 : Heap) (n : Nat) (Pv : Nat → Value → Prop) (SS : Heap → Nat → Prop) : Prop where
  keep : ∀ h h' i, SS h i → (∀ o, h.get? S = some o → h'.get? S = some o) → (∀ b o, h0.get? b = some o → h'.get? b = some o) → SS h' i
  add : ∀ (A : Around) (E : Value → Shared → Prop) i (s : Shared) v (Q : Bool → Shared → Prop), A.units ≤ u → i < n → Pv i v → SS s.heap i → (∀ b o, h0.get? b = some o → s.heap.get? b = some o) →
    (∀ r h' tk, Heap.SameBut S s.heap h' → s.toks ≤ tk → SS h' (i + 1) → Q r { s with heap := h', toks := tk }) → wpAny (model P w) A (setAdd S v) Q E s
theorem grow_loop {I : Addr} {fp wr : List Addr} {G : Array GenState → Array GenState → Prop} {n u : Nat} {Pv : Nat → Value → Prop} {St : Nat → Shared → Prop} {R : Result → Shared → Prop} {S : Addr} {h0 : Heap} {SS : Heap → Nat → Prop}
    (W : WalksS P w A.in1 I fp wr G n Pv St) (g : Grow P w u S h0 n Pv SS) (hu : A.units + 1 ≤ u) (hSf : S ∉ fp) (hS0 : h0.get? S = none) (hw0 : ∀ b ∈ wr, h0.get? b = none) :
    ∀ (k i : Nat) (s : Shared), n - i = k → i ≤ n → St i s → (∀ b o, h0.get? b = some o → s.heap.get? b = some o) → SS s.heap i →
      (∀ s', Moved (S :: wr) G s s' → SS s'.heap n → (∀ b o, h0.get? b = some o → s'.heap.get? b = some o) → R (.ok (.ret .none)) s') →
      codeAny (model P w) A (.builtin "set.update.loop" ⟨[.ref S, .ref I], []⟩) R s := by
  have hSw : S ∉ wr := fun h => hSf (W.sub _ h)
  have up : ∀ b ∈ wr, b ∈ S :: wr := fun b hb => List.mem_cons_of_mem _ hb
  have old : ∀ {a b : Shared}, Moved wr G a b → (∀ c o, h0.get? c = some o → a.heap.get? c = some o) → ∀ c o, h0.get? c = some o → b.heap.get? c = some o := fun hm hk c o e =>
    hm.heap c o (fun hb => by rw [hw0 c hb] at e; cases e) (hk c o e)
  intro k
  induction k with
  | zero =>
    intro i s hk hi hst ho hS hR
    obtain rfl : i = n := by omega
    refine codeAny_builtin F.entry_set_update_loop ?_
    rw [Around.under_plainId F.plain_set_update_loop _]
    show wpAny _ A.in1 (pyNext (.ref I) >>= _) _ _ s
    refine wpAny_bind (W.done s _ _ hst fun s' hm => ?_)
    exact wpAny_pure (hR s' (hm.mono up) (g.keep _ _ _ hS (fun o e => hm.heap S o hSw e) (old hm ho)) (old hm ho))
  | succ k ih =>
    intro i s hk hi hst ho hS hR
    have hlt : i < n := by omega
    refine codeAny_builtin F.entry_set_update_loop ?_
    rw [Around.under_plainId F.plain_set_update_loop _]
    show wpAny _ A.in1 (pyNext (.ref I) >>= _) _ _ s
    refine wpAny_bind (W.item i s _ _ hlt hst fun v s' hP hst' hm => ?_)
    have ho' := old hm ho
    show wpAny _ A.in1 (holding [v] (setAdd S v) >>= _) _ _ s'
    refine wpAny_bind (wpAny_holding (g.add A.in1 _ i s' v _ hu hlt hP (g.keep _ _ _ hS (fun o e => hm.heap S o hSw e) ho') ho' fun r h' tk hsb ht hS2 => ?_))
    have ho2 : ∀ b o, h0.get? b = some o → h'.get? b = some o := fun b o e => (hsb.2 b (fun z => by rw [z, hS0] at e; cases e)).trans (ho' b o e)
    refine wpAny_pure ⟨plainId_quiet F.plain_set_update_loop _, ih (i + 1) _ (by omega) hlt (W.frame _ s' _ _ hst' ht fun b hb o e => ?_) ho2 hS2 fun s'' hm2 hS3 ho3 => ?_⟩
    · exact (hsb.2 b (fun h : b = S => hSf (by rw [← h]; exact hb))).trans e
    · refine hR s'' (Moved.trans W.gtrans ((hm.mono up).then_heap ht fun b o hb e => ?_) hm2) hS3 ho3
      exact (hsb.2 b (fun h : b = S => hb (by rw [h]; exact List.mem_cons_self))).trans e
end
/-- a set that was just made -/
def set0 (w : World) : Obj := { cls := .type "set", dict := none, data := .set #[] 0 (.fresh 0 0 (!w.params.followText "set-order")) }
section
variable {P : Program} {w : World} {A : Around} {E : Value → Shared → Prop} {s : Shared}
set_option maxHeartbeats 3200000 in
/-- set(xs), xs at l of type T: a list, a tuple -/
theorem set_call {T itT : String} {l : Addr} {items : Array Value} {Q : Value → Shared → Prop} {SS : Heap → Nat → Prop} {ol : Obj} {nl : Nat} (hh : A.handled = none) (hol : s.heap.get? l = some ol) (hcl : ol.cls = .type T) (hdl : ol.data = .seq items nl)
    (hsls : isSubtype (.type T) (.type "set") = pure false) (hslf : isSubtype (.type T) (.type "frozenset") = pure false) (hne : (Value.type T == Value.type "dict") = false)
    (hit : ∀ (A : Around) (E : Value → Shared → Prop) (s' : Shared) (Q : Value → Shared → Prop), s'.heap.get? l = some ol → Q (.ref s'.heap.objs.size) { s' with heap := s'.heap.push { cls := .type itT, data := .fields #[.ref l, .int 0 0] } } → wpAny (model P w) A (pyIter (.ref l)) Q E s')
    (hwk : ∀ (A : Around) (it : Addr) (h : Heap), A.handled = none → l ≠ it → h.get? l = some ol → h.get? it = some { cls := .type itT, data := .fields #[.ref l, .int 0 0] } → ∃ St : Nat → Heap → Prop, Walks P w A it [it, l] [it] items.size (fun i v => items[i]? = some v) St ∧ St 0 h)
    (g : Grow P w (A.units + 3) s.heap.objs.size s.heap items.size (fun i v => items[i]? = some v) SS) (h0 : ∀ h : Heap, h.get? s.heap.objs.size = some (set0 w) → (∀ b o, s.heap.get? b = some o → h.get? b = some o) → SS h 0)
    (h : ∀ (h' : Heap) (tk : Nat), SS h' items.size → (∀ b o, s.heap.get? b = some o → h'.get? b = some o) → Q (.ref s.heap.objs.size) { s with heap := h', toks := tk }) :
    wpAny (model P w) A (call (.type "set") [.ref l]) Q E s := by
  obtain ⟨ocls, odict, odata, oslots⟩ := ol
  simp only at hcl hdl
  subst hcl hdl
  obtain ⟨c, tl, hmro⟩ := F.called_set.mro
  have hmade := F.called_set.made
  have hsub := F.called_set.sub
  refine wpAny_call (codeAny_of_tree ?_)
  show wpAny _ _ (callAny (.type "set") _) _ _ _
  refine wpAny_pure ⟨Code.quiet_builtin _ (by decide +kernel), codeAny_builtin F.entry_type_call ?_⟩
  rw [Around.under_plain (weight_type_call_type "set" [.ref l] []) rfl]
  have h1 := F.called_set.notType
  have h2 := F.called_set.canCreate
  have hct := F.typeCall_set_1 (.ref l)
  repeat (any_goals (first | assumption | wp_step))
  refine codeAny_mono (code_set_led1 (.ref l) (E := E) (Q₁ := fun obj s₁ => obj = .ref s.heap.objs.size ∧ s₁ = { s with heap := s.heap.push (set0 w) }) ⟨rfl, rfl⟩) fun r s₁ hr => ?_
  cases r with
  | error e => exact hr
  | ok fl =>
    cases fl with
    | ret obj =>
      obtain ⟨rfl, rfl⟩ := hr
      have hS : (s.heap.push (set0 w)).get? s.heap.objs.size = some (set0 w) := Heap.get?_push_size _ rfl
      have hT : Shared.TypeIs { s with heap := s.heap.push (set0 w) } (.ref s.heap.objs.size) "set" := ⟨_, hS, rfl⟩
      have hli := F.called_set.init.lookup
      have hbi := F.called_set.init.bind (.ref s.heap.objs.size)
      repeat (any_goals (first | assumption | wp_step))
      refine codeAny_mono (codeAny_call_builtin (R := wants (fun r s₂ => r = .none ∧ ∃ h' tk, s₂ = { s with heap := h', toks := tk } ∧ SS h' items.size ∧ ∀ b o, s.heap.get? b = some o → h'.get? b = some o) E)
        F.called_set.init.plain F.entry_set_init (check_set_init_1 hT ?_)) fun r₂ s₂ hr₂ => ?_
      · have hlS : l < s.heap.objs.size := Heap.lt_size hol
        have hol' : (s.heap.push (set0 w)).get? l = some ⟨.type T, odict, .seq items nl, oslots⟩ := Heap.get?_push_of_some _ hol
        have hS' : (s.heap.push (set0 w)).get? s.heap.objs.size = some { cls := .type "set", dict := none, data := .set #[] 0 (.fresh 0 0 (!w.params.followText "set-order")) } := hS
        unfold Builtin.«set.__init__» noKeywords Builtin.Frozenset.updateFrom
        generalize hPI : pyIter = PI
        wp_walk
        subst hPI
        refine hit _ _ _ _ hol' ?_
        refine wpAny_bind (wpAny_runValue ?_)
        have hne2 : l ≠ (s.heap.push (set0 w)).objs.size := by rw [Heap.size_push]; exact Nat.ne_of_lt (Nat.lt_succ_of_lt hlS)
        have hgI : ((s.heap.push (set0 w)).push { cls := .type itT, data := .fields #[.ref l, .int 0 0] }).get? (s.heap.push (set0 w)).objs.size = some { cls := .type itT, data := .fields #[.ref l, .int 0 0] } := Heap.get?_push_size _ rfl
        obtain ⟨St, WK, st0⟩ := hwk A.in1.in1.in1 (s.heap.push (set0 w)).objs.size _ (by simp [hh]) hne2 (Heap.get?_push_of_some _ hol') hgI
        have hSf : s.heap.objs.size ∉ [(s.heap.push (set0 w)).objs.size, l] := by
          rw [Heap.size_push]; simp only [List.mem_cons, List.mem_singleton, List.not_mem_nil, or_false, not_or]
          exact ⟨Nat.ne_of_lt (Nat.lt_succ_self _), Nat.ne_of_gt hlS⟩
        have hn1 : s.heap.get? s.heap.objs.size = none := by
          cases q : s.heap.get? s.heap.objs.size with
          | none => rfl
          | some o => exact absurd (Heap.lt_size q) (Nat.lt_irrefl _)
        have hn2 : ∀ b ∈ [(s.heap.push (set0 w)).objs.size], s.heap.get? b = none := fun b hb => by
          rw [List.mem_singleton.mp hb, Heap.size_push]
          cases q : s.heap.get? (s.heap.objs.size + 1) with
          | none => rfl
          | some o => exact absurd (Heap.lt_size q) (Nat.not_lt_of_le (Nat.le_succ _))
        refine grow_loop (A := A.in1.in1) WK.toS g (Nat.le_refl (A.units + 3)) hSf hn1 hn2 (items.size - 0) 0 _ (by omega) (Nat.zero_le _) st0 (fun b o e => Heap.get?_push_of_some _ (Heap.get?_push_of_some _ e)) (h0 _ (Heap.get?_push_of_some _ hS) fun b o e => Heap.get?_push_of_some _ (Heap.get?_push_of_some _ e)) ?_
        intro s' hm hS2 ho2
        obtain ⟨h', g', d', tk', os'⟩ := s'
        have eg : g' = s.gens := hm.gens
        have ed : d' = s.drawn := hm.drawn
        have eo : os' = s.os := hm.os
        subst eg ed eo
        show wpAny _ _ _ _ _ _
        refine wpAny_pure ?_
        show wpAny _ _ (ret Value.none) _ _ _
        exact wpAny_pure ⟨rfl, h', tk', rfl, hS2, ho2⟩
      · cases r₂ with
        | error e => exact hr₂
        | ok fl₂ =>
          cases fl₂ with
          | ret r =>
            obtain ⟨rfl, h', tk, rfl, hS', hk'⟩ := hr₂
            repeat (any_goals (first | assumption | wp_step))
            exact h _ _ hS' hk'
          | _ => exact hr₂.elim
    | _ => exact hr.elim
end
end Py
end

section
set_option Elab.async false
set_option linter.all false
set_option maxRecDepth 100000
set_option autoImplicit false
namespace Py
open PySem PySem.Spec PyProof.Rows L2
open PySem.Froz (tailTx addTx TxOk sObj SD add_x add_ok)
/-! ### sets of texts -/
section
variable {P : Program} {w : World} {A : Around} {E : Value → Shared → Prop} {s : Shared}
theorem tail_ris {ep : Nat} {es1 : Array (Int × Value)} {t2 : SetTable} {b : Bool} (h : Ris t2.place.toList) : Ris (tailTx ep es1 t2 b).2.2.place.toList := by
  unfold tailTx
  split
  · exact relayAll_ris _ _ _
  · exact h
theorem tail_led {ep : Nat} {es1 : Array (Int × Value)} {t2 : SetTable} {b : Bool} : (tailTx ep es1 t2 b).2.2.led = t2.led := by
  unfold tailTx
  split
  · exact relayAll_led _ _ _
  · rfl
theorem add_ris {h : Int} {v : Value} {D : SD} (r : Ris D.2.2.place.toList) : Ris (addTx h v D).2.2.place.toList := by
  unfold addTx
  refine tail_ris ?_
  have := layNew_ris D.2.2 D.1 h v r
  split <;> exact this
theorem add_led {h : Int} {v : Value} {D : SD} : (addTx h v D).2.2.led = D.2.2.led := by
  unfold addTx
  rw [tail_led]
  have := layNew_led D.2.2 D.1 h v
  split <;> exact this
/-- a text that is there already -/
theorem same_x {a : Addr} {T : String} {D : SD} {l : List Str} {k : Str} {u : Tok} {Q : Bool → Shared → Prop} (ho : s.heap.get? a = some (sObj T D)) (F : TxOk P w D l) (hk : k ∈ l) (hb : l.length < scanBound)
    (h : Q false s) : wpAny (model P w) A (setAddHashed a (.str k u) (hashStr w k)) Q E s := by
  obtain ⟨es, ep, t⟩ := D
  have hd : (sObj T (es, ep, t)).data = .set es ep t := rfl
  have hf : t.fits es.size = true := F.fit
  have hel : ElemsOf (strKind P w) es.toList := F.el
  have hsz : es.size = l.length := F.sz
  have hkey : (strKind P w).is k (.str k u) = true := Froz.is_str k u
  obtain ⟨e, he, hke⟩ := (F.mem k).mp hk
  unfold setAddHashed setAddHashedIn
  refine wpAny_holding (wpAny_bind (wpAny_setState_of ho hd hf ?_))
  dsimp only
  rw [byScan_of rfl (by omega) hel]
  simp only [↓reduceIte]
  unfold setAddByScan
  refine wpAny_bind ?_
  refine wpAny_bind (wpAny_rule ?_)
  refine wpAny_bind (wpAny_setScan_of (knd := strKind P w) (k := k) hkey ho hd hf hel ?_)
  cases hfi : List.findIdx? (fun e => (strKind P w).is k e.2) es.toList with
  | none =>
    have := List.findIdx?_eq_none_iff.mp hfi e he
    rw [hke] at this; cases this
  | some j => 
    dsimp only
    exact wpAny_pure (wpAny_pure h)
/-- the texts of ss, each once -/
structure TxS (P : Program) (w : World) (S : Addr) (ss : List Str) (h : Heap) (i : Nat) : Prop where
  ex : ∃ (D : SD) (l : List Str), h.get? S = some (sObj "set" D) ∧ TxOk P w D l ∧ Ris D.2.2.place.toList ∧ (w.params.followText "set-order" = true ∨ D.2.2.led = true) ∧ l.Nodup ∧ l.length ≤ i ∧ ∀ x, x ∈ l ↔ x ∈ ss.take i
theorem grow_txt {S : Addr} {ss : List Str} {items : Array Value} {h0 : Heap} {u : Nat} (hi : StrsAre items.toList ss) (hn : items.size + 1 < scanBound) : Grow P w u S h0 items.size (fun i v => items[i]? = some v) (TxS P w S ss) where
  keep := fun h h' i ⟨D, l, a, r⟩ hS _ => ⟨D, l, hS _ a, r⟩
  add := fun A E i s v Q hu hlt hv ⟨D, l, ho, F, r, ld, nd, hl, hm⟩ _ hQ => by
    obtain ⟨x, t, hx, rfl⟩ : ∃ x t, ss[i]? = some x ∧ v = .str x t := by
      have key : ∀ {vs : List Value} {ss : List Str} {i : Nat}, StrsAre vs ss → vs[i]? = some v → ∃ x t, ss[i]? = some x ∧ v = .str x t := by
        intro vs ss i h
        induction h generalizing i with
        | nil => intro e; simp at e
        | cons x t h ih =>
          intro e
          cases i with
          | zero => simp at e; exact ⟨x, t, rfl, e.symm⟩
          | succ i => 
            obtain ⟨x, t, a, b⟩ := ih (i := i) (by simpa using e)
            exact ⟨x, t, by simpa using a, b⟩
      exact key hi (by rw [Array.getElem?_toList]; exact hv)
    have ht : ss.take (i + 1) = ss.take i ++ [x] := by rw [List.take_succ, hx]; rfl
    unfold setAdd
    refine wpAny_holding ?_
    refine wpAny_bind ((strKind P w).pyHash (k := x) (Froz.is_str x t) ?_)
    by_cases hk : x ∈ l
    · refine same_x (s := { s with toks := s.toks + 1 }) ho F hk (by omega) (hQ _ _ _ (Heap.SameBut.refl _ _) (Nat.le_succ _) ⟨D, l, ho, F, r, ld, nd, by omega, fun y => ?_⟩)
      rw [ht, List.mem_append, List.mem_singleton, hm y]
      constructor
      · exact .inl
      · rintro (q | q)
        · exact q
        · rw [q]; exact (hm x).mp hk
    · refine add_x (s := { s with toks := s.toks + 1 }) ho F hk (by omega) (hQ _ _ _ (Heap.SameBut.update ..) (Nat.le_succ _) ⟨_, x :: l, Heap.get?_update_self _ ho rfl, add_ok t F, add_ris r, ?_, List.nodup_cons.mpr ⟨hk, nd⟩, by simp; omega, fun y => ?_⟩)
      · rcases ld with q | q
        · exact .inl q
        · exact .inr (add_led.trans q)
      · rw [ht, List.mem_append, List.mem_singleton, List.mem_cons, hm y]
        exact or_comm
theorem txs0 {S : Addr} {ss : List Str} {h : Heap} (ho : h.get? S = some (set0 w)) : TxS P w S ss h 0 :=
  ⟨(#[], 0, .fresh 0 0 (!w.params.followText "set-order")), [], ho, .nil (by rfl), List.Pairwise.nil, by
    cases w.params.followText "set-order"
    · exact .inr rfl
    · exact .inl rfl, List.nodup_nil, Nat.le_refl _, fun x => by simp⟩
end
/-! ### sorting, plainly -/
theorem perm_sorted {α : Type} {le : α → α → Bool} (anti : ∀ a b, le a b = true → le b a = true → a = b) : ∀ {l1 l2 : List α}, l1.Perm l2 → l1.Pairwise (fun a b => le a b = true) → l2.Pairwise (fun a b => le a b = true) → l1 = l2
  | [], l2, p, _, _ => (List.Perm.nil_eq p)
  | a :: l1, [], p, _, _ => by have := p.length_eq; simp at this
  | a :: l1, b :: l2, p, h1, h2 => by
    obtain ⟨a1, a2⟩ := List.pairwise_cons.mp h1
    obtain ⟨b1, b2⟩ := List.pairwise_cons.mp h2
    have hab : a = b := by
      have m1 : a ∈ b :: l2 := p.mem_iff.mp (List.mem_cons_self ..)
      have m2 : b ∈ a :: l1 := p.mem_iff.mpr (List.mem_cons_self ..)
      rcases List.mem_cons.mp m1 with q | q
      · exact q
      · rcases List.mem_cons.mp m2 with r | r
        · exact r.symm
        · exact anti a b (a1 b r) (b1 a q)
    subst hab
    rw [perm_sorted anti ((List.perm_cons a).mp p) a2 b2]
abbrev leS (x y : List Nat) : Bool := !decide (y < x)
theorem leS_iff {x y : List Nat} : leS x y = true ↔ x ≤ y := by
  simp [leS, List.not_lt]
theorem leS_trans (a b c : List Nat) : leS a b = true → leS b c = true → leS a c = true := by
  rw [leS_iff, leS_iff, leS_iff]
  exact List.le_trans
theorem leS_total (a b : List Nat) : (leS a b || leS b a) = true := by
  rw [Bool.or_eq_true, leS_iff, leS_iff]
  exact List.le_total a b
theorem leS_anti (a b : List Nat) : leS a b = true → leS b a = true → a = b := by
  rw [leS_iff, leS_iff]
  exact List.le_antisymm
theorem msort_perm {a b : List (List Nat)} (p : a.Perm b) : a.mergeSort leS = b.mergeSort leS :=
  perm_sorted leS_anti ((List.mergeSort_perm a leS).trans (p.trans (List.mergeSort_perm b leS).symm)) (List.pairwise_mergeSort leS_trans leS_total a) (List.pairwise_mergeSort leS_trans leS_total b)
theorem sort_strs (ss : List (List Nat)) : (ss.map D.str).mergeSort (fun a b => !(D.lt b a)) = (ss.mergeSort leS).map D.str :=
  (List.map_mergeSort (fun a _ b _ => by simp [leS, D.lt])).symm
theorem strs_map : ∀ {xs : List D} {ss : List (List Nat)}, Py.strZ xs = some ss → xs = ss.map D.str
  | [], ss, h => by simp only [Py.strZ, mapO] at h; cases h; rfl
  | x :: xs, ss, h => by
    simp only [Py.strZ, mapO] at h
    split at h <;> cases h
    rename_i b bs' h1 h2
    rw [strs_map (xs := xs) (ss := bs') (by simpa only [Py.strZ] using h2)]
    cases x <;> simp only at h1 <;> cases h1
    rfl
theorem mapO_strs (ss : List (List Nat)) : Py.strZ (ss.map D.str) = some ss := by
  induction ss with
  | nil => rfl
  | cons s ss ih =>
    simp only [Py.strZ] at ih
    simp only [Py.strZ, List.map_cons, mapO, ih]
theorem dedup_spec : ∀ (r acc : List D), acc.Nodup → (dedup acc r).Nodup ∧ ∀ x, x ∈ dedup acc r ↔ x ∈ acc ∨ x ∈ r
  | [], acc, h => by
    simp only [dedup]
    exact ⟨(List.reverse_perm acc).nodup_iff.mpr h, fun x => by simp⟩
  | y :: r, acc, h => by
    simp only [dedup]
    split
    · rename_i hc
      obtain ⟨h1, h2⟩ := dedup_spec r acc h
      refine ⟨h1, fun x => ?_⟩
      rw [h2, List.mem_cons]
      have hy : y ∈ acc := by
        obtain ⟨z, hz, e⟩ := List.any_eq_true.mp hc
        rw [← of_decide_eq_true e]; exact hz
      constructor
      · rintro (q | q)
        · exact .inl q
        · exact .inr (.inr q)
      · rintro (q | q | q)
        · exact .inl q
        · rw [q]; exact .inl hy
        · exact .inr q
    · rename_i hc
      have hy : y ∉ acc := fun q => hc (List.any_eq_true.mpr ⟨y, q, by simp⟩)
      obtain ⟨h1, h2⟩ := dedup_spec r (y :: acc) (List.nodup_cons.mpr ⟨hy, h⟩)
      refine ⟨h1, fun x => ?_⟩
      rw [h2, List.mem_cons, List.mem_cons]
      constructor
      · rintro ((q | q) | q)
        · exact .inr (.inl q)
        · exact .inl q
        · exact .inr (.inr q)
      · rintro (q | q | q)
        · exact .inl (.inr q)
        · exact .inl (.inl q)
        · exact .inr q
theorem nodup_perm {α : Type} [DecidableEq α] : ∀ {l m : List α}, l.Nodup → (∀ x, x ∈ l → x ∈ m) → m.length = l.length → m.Perm l
  | [], m, _, _, h => by
    have : m = [] := List.eq_nil_of_length_eq_zero (by simpa using h)
    rw [this]
  | x :: l, m, nd, hs, h => by
    obtain ⟨n1, n2⟩ := List.nodup_cons.mp nd
    have hx := hs x (List.mem_cons_self ..)
    have p : m.Perm (x :: m.erase x) := List.perm_cons_erase hx
    refine p.trans (List.Perm.cons x (nodup_perm n2 (fun y hy => ?_) ?_))
    · have hne : y ≠ x := fun q => n1 (by rw [← q]; exact hy)
      exact (List.mem_erase_of_ne hne).mpr (hs y (List.mem_cons_of_mem _ hy))
    · have := p.length_eq
      simp only [List.length_cons] at this h
      omega
/-! ### set(xs), sorted(set(xs)) of texts -/
/-- the set at a holds the texts of ss, each once -/
structure TxF (P : Program) (w : World) (a : Addr) (ss : List Str) (h : Heap) : Prop where
  ex : ∃ (D : SD) (l : List Str), h.get? a = some (sObj "set" D) ∧ TxOk P w D l ∧ Ris D.2.2.place.toList ∧ (w.params.followText "set-order" = true ∨ D.2.2.led = true) ∧ l.Nodup ∧ l.length < 4000 ∧ ∀ x, x ∈ l ↔ x ∈ ss
def TxO (P : Program) (w : World) (a : Addr) (ss : List Str) : HO := .ext fun h => TxF P w a ss h
theorem txO_new {P : Program} {w : World} {H : Hp} {h : Heap} {a : Addr} {ss : List Str} (R : TxF P w a ss h) : ObjOk P w H h a (TxO P w a ss) := by
  have ⟨D, l, ho, r⟩ := R.ex
  refine ⟨R, ⟨_, ho⟩, fun h1 h2 p k => ?_⟩
  have ⟨D', l', ho', r'⟩ := TxF.ex p
  exact ⟨D', l', k _ ho', r'⟩
section
variable {W : Wd} {k : Nat} {ways : Nat → List Way} {Γ : Gam} {m m' : List Addr} {H H' : Hp} {S : Py.St} {E : XK}
theorem strs_are : ∀ {ss : List (List Nat)} {us : List Value}, Vals ((ss.map sOf).map V.str) us → StrsAre us (ss.map sOf)
  | [], us, h => by cases h; exact .nil
  | s :: ss, us, h => by
    cases h with
    | cons r h =>
      obtain ⟨t, rfl⟩ := (show ∃ t, _ = Value.str (sOf s) t from r)
      exact .cons _ t (strs_are h)
def rSetTx (W : Wd) (P : Program) (w : World) : List V → Hp → VK → Prop := fun xs H Q => ∃ (m : List Addr) (S : Py.St) (d : D) (v : V) (ys : List D) (ss : List (List Nat)), xs = [v] ∧ SR W m H S ∧ Rep W m H d v ∧ seqI (vw S d) = some ys ∧ Py.strZ ys = some ss ∧ ss.length < 4000 ∧ ∀ p, H p = none → Q (.ref p) (upd H p (TxO P w p (ss.map sOf)))
theorem cr_setTx {X : Cx} (hc : X.calm = true) (hu : X.A.units + 70 < cLine) : CallR X (.type "set") (rSetTx W X.prog X.w) := by
  intro pins s σ H xs us Q I rv ⟨m, S, d, v, ys, ss, hxs, sr, r, hy, hss, hl, q⟩
  subst hxs
  obtain ⟨u, rfl, ru⟩ := vals1 rv
  have hh := I.ok.hd hc
  have fin : ∀ (its : List Value), StrsAre its (ss.map sOf) → ∀ h' tk, TxS X.prog X.w s.heap.objs.size (ss.map sOf) h' its.toArray.size → (∀ b o, s.heap.get? b = some o → h'.get? b = some o) → EP X pins σ Q (.ref s.heap.objs.size) { s with heap := h', toks := tk } := by
    intro its hi h' tk ⟨D, l, a1, a2, a3, a4, a5, a6, a7⟩ hk
    have hlen : its.length = (ss.map sOf).length := StrsAre.len_eq hi
    have hn : H s.heap.objs.size = none := I.hok.fresh (Nat.le_refl _)
    refine ⟨.ref s.heap.objs.size, _, I.laid (t' := tk) (o := TxO X.prog X.w s.heap.objs.size (ss.map sOf)) hk (Nat.le_refl _) (txO_new ⟨D, l, a1, a2, a3, a4, a5, ?_, fun x => ?_⟩), rfl, q _ hn⟩
    · rw [List.size_toArray, hlen, List.length_map] at a6; omega
    · rw [a7, List.size_toArray, hlen, List.take_length]
  have hbd : ∀ (its : List Value), StrsAre its (ss.map sOf) → its.toArray.size + 1 < scanBound := fun its hi => by
    have := StrsAre.len_eq hi
    rw [List.length_map] at this
    rw [List.size_toArray]
    unfold scanBound
    omega
  generalize hv : vw S d = e at hy
  cases e <;> simp only [seqI] at hy <;> cases hy
  · cases vw_tup hv
    obtain ⟨a, vs, rfl, t1, t2⟩ := rep_tup r
    obtain rfl : u = Value.ref a := ru
    obtain ⟨its, rl, p, hz⟩ := I.tuple (tp_sq t1)
    have hi : StrsAre its (ss.map sOf) := strs_are (by rw [← strs_rep hss t2]; exact rl)
    obtain ⟨ol, ho, hcl, n, hd⟩ := id p
    exact set_call (P := X.prog) (w := X.w) (T := "tuple") (itT := "tuple_iterator") (items := its.toArray) hh ho hcl hd F.sub_tuple_set F.sub_tuple_frozenset (by decide) (fun A E s' Q hol hq => wpAny_pyIter_tuple (items := its.toArray) ⟨ol, hol, hcl, n, hd⟩ hq)
      (fun A it h hh hne hol hit => ⟨_, Walks.tuple hh it a hne its.toArray, ⟨⟨_, hit, rfl, rfl⟩, ⟨ol, hol, hcl, n, hd⟩⟩⟩) (grow_txt (by simpa using hi) (hbd its hi)) (fun h ho _ => txs0 ho) (fin its hi)
  · obtain ⟨a, vs, rfl, t1, t2⟩ := rep_lst sr r hv
    obtain rfl : u = Value.ref a := ru
    obtain ⟨its, rl, p, hz⟩ := I.list (.inl t1)
    have hi : StrsAre its (ss.map sOf) := strs_are (by rw [← strs_rep hss t2]; exact rl)
    obtain ⟨ol, ho, hcl, n, hd⟩ := p.isList
    exact set_call (P := X.prog) (w := X.w) (T := "list") (itT := "list_iterator") (items := its.toArray) hh ho hcl hd F.sub_list_set F.sub_list_frozenset (by decide) (fun A E s' Q hol hq => wpAny_pyIter_list (items := its.toArray) ⟨ol, hol, hcl, n, hd⟩ hq)
      (fun A it h hh hne hol hit => ⟨_, Walks.list hh it a hne its.toArray, ⟨⟨_, hit, rfl, rfl⟩, ⟨ol, hol, hcl, n, hd⟩⟩⟩) (grow_txt (by simpa using hi) (hbd its hi)) (fun h ho _ => txs0 ho) (fin its hi)
def rSortTx (W : Wd) (P : Program) (w : World) : List V → Hp → VK → Prop := fun xs H Q => ∃ (E : XK) (m : List Addr) (S : Py.St) (a : Addr) (ss : List (List Nat)) (ys : List D), xs = [.ref a] ∧ H a = some (TxO P w a (ss.map sOf)) ∧ SR W m H S ∧ sortD (dedup [] (ss.map D.str)) = some ys ∧ KG W E m H (Rep W) (.ok (.lst ys) S) Q
theorem sortable_perm {xs ys : List D} (p : xs.Perm ys) (h : sortable xs = true) : sortable ys = true := by
  unfold sortable at *
  simp only [Bool.and_eq_true, Bool.or_eq_true, List.all_eq_true, decide_eq_true_eq] at *
  obtain ⟨h1, h2, h3⟩ := h
  refine ⟨?_, fun a ha => ⟨(h2 a (p.mem_iff.mpr ha)).1, fun b hb => (h2 a (p.mem_iff.mpr ha)).2 b (p.mem_iff.mpr hb)⟩, by rw [← p.length_eq]; exact h3⟩
  rcases h1 with h1 | h1
  · exact .inl fun a ha => h1 a (p.mem_iff.mpr ha)
  · exact .inr fun a ha => h1 a (p.mem_iff.mpr ha)
theorem strs_of_set {w : World} {P : Program} : ∀ {es : List (Int × Value)}, ElemsOf (strKind P w) es → ∃ ks : List Str, StrsAre (es.map (·.2)) ks
  | [], _ => ⟨[], .nil⟩
  | e :: es, h => by
    obtain ⟨⟨k, hk, _⟩, _⟩ := h e (List.mem_cons_self ..)
    obtain ⟨ks, g⟩ := strs_of_set (es := es) fun x hx => h x (List.mem_cons_of_mem _ hx)
    obtain ⟨t, ht⟩ := Value.isStrOf_shape (x := k) (v := e.2) hk
    exact ⟨k :: ks, by rw [List.map_cons, ht]; exact .cons k t g⟩
theorem strs_perm : ∀ {us vs : List Value}, us.Perm vs → ∀ {ks : List Str}, StrsAre vs ks → ∃ ls, StrsAre us ls ∧ ls.Perm ks := by
  intro us vs p
  induction p with
  | nil => intro ks h; cases h; exact ⟨[], .nil, .refl _⟩
  | cons x p ih =>
    intro ks h
    cases h with
    | cons y t h =>
      obtain ⟨ls, a, b⟩ := ih h
      exact ⟨y :: ls, .cons y t a, .cons y b⟩
  | swap x y l =>
    intro ks h
    cases h with
    | cons a t h =>
      cases h with
      | cons b u h => exact ⟨b :: a :: _, .cons b u (.cons a t h), .swap _ _ _⟩
  | trans p1 p2 ih1 ih2 =>
    intro ks h
    obtain ⟨ls, a, b⟩ := ih2 h
    obtain ⟨ms, c, d⟩ := ih1 a
    exact ⟨ms, c, d.trans b⟩
theorem strs_mem {P : Program} {w : World} : ∀ {es : List (Int × Value)} {ks : List Str}, StrsAre (es.map (·.2)) ks → ∀ k, k ∈ ks ↔ ∃ e ∈ es, (strKind P w).is k e.2 = true
  | [], ks, h, k => by cases h; simp
  | e :: es, ks, h, k => by
    rw [List.map_cons] at h
    generalize he : e.2 = v at h
    cases h with
    | cons x t h =>
      have ih := strs_mem (P := P) (w := w) h k
      rw [List.mem_cons, ih]
      constructor
      · rintro (q | ⟨e', a, b⟩)
        · exact ⟨e, List.mem_cons_self .., by rw [he, q]; exact Froz.is_str x t⟩
        · exact ⟨e', List.mem_cons_of_mem _ a, b⟩
      · rintro ⟨e', a, b⟩
        rcases List.mem_cons.mp a with q | q
        · left
          rw [q, he] at b
          exact (strKind P w).inj _ k x b (Froz.is_str x t)
        · exact .inr ⟨e', q, b⟩
theorem cr_sortTx {X : Cx} (hc : X.calm = true) (hu : X.A.units + 70 < cLine) : CallR X (.builtin "sorted") (rSortTx W X.prog X.w) := by
  intro pins s σ H xs us Q I rv ⟨E, m, S, a, ss, ys, hxs, ha, sr, hs, q⟩
  subst hxs
  obtain ⟨u, rfl, ru⟩ := vals1 rv
  obtain rfl : u = Value.ref a := ru
  have ⟨Ds, l, ho, F, hris, hled, hnd, hl, hm⟩ := (show TxF X.prog X.w a (ss.map sOf) s.heap from (I.hok a _ ha).1).ex
  refine Calls.call_function_entry PyProof.Rows.kind_sorted PyProof.Rows.plain_sorted PyProof.Rows.entry_sorted (PyProof.Rows.args_sorted1 _) ?_
  unfold Builtin.«sorted»
  refine wpAny_bind (m := checkCount "sorted" 1 1 _) (wpAny_pure ?_)
  refine wpAny_bind (collect_set (A := X.A.in1) (es := Ds.1) (ep := Ds.2.1) (t := Ds.2.2) (I.ok.hd hc) ⟨_, ho, rfl, rfl⟩ F.fit (by have := F.sz; unfold scanBound; omega) hris hled fun s1 vs k1 hz g1 o1 pm => ?_)
  obtain ⟨ks, hks⟩ := strs_of_set F.el
  obtain ⟨ls, hls, pl⟩ := strs_perm pm hks
  have pk : ks.Perm l := by
    refine nodup_perm hnd (fun x hx => (strs_mem hks x).mpr ((F.mem x).mp hx)) ?_
    have := StrsAre.len_eq hks
    rw [List.length_map, Array.length_toList] at this
    rw [← this]; exact F.sz
  have I1 : Inv X pins σ H s1 := I.call' (ch := []) o1 (Un.kept k1) (I.hok.kept k1) (by rw [g1]; exact I.bare) (fun _ z => nomatch z)
  -- as data
  have ed : ∀ zs : List Str, zs.map V.str = ((zs.map fun z => z.cps.toList).map sOf).map V.str := fun zs => by
    rw [List.map_map, List.map_map]
    refine List.map_congr_left fun z _ => ?_
    show V.str z = V.str (sOf z.cps.toList)
    rw [sOf_of]
  have rl : RepL W m H ((ls.map fun z => z.cps.toList).map D.str) (ls.map V.str) := by
    rw [ed]
    generalize (ls.map fun z => z.cps.toList) = zs
    induction zs with
    | nil => simp [RepL]
    | cons z zs ih => simp only [List.map_cons, RepL]; exact ⟨_, _, rfl, .str z, ih⟩
  obtain ⟨dn, dm⟩ := dedup_spec (ss.map D.str) [] List.nodup_nil
  have pd : (dedup [] (ss.map D.str)).Perm ((ls.map fun z => z.cps.toList).map D.str) := by
    have nl : ((ls.map fun z => z.cps.toList).map D.str).Nodup := by
      have h1 : ls.Nodup := (pl.trans pk).nodup_iff.mpr hnd
      rw [List.map_map]
      refine List.Pairwise.map _ (fun x y hne e => hne ?_) h1
      have e : x.cps.toList = y.cps.toList := by simpa using e
      rw [← sOf_of x, ← sOf_of y, e]
    refine (List.perm_ext_iff_of_nodup dn nl).mpr fun x => ?_
    rw [dm]
    simp only [List.not_mem_nil, false_or, List.mem_map, List.map_map, Function.comp]
    constructor
    · rintro ⟨z, hz, rfl⟩
      have : sOf z ∈ l := (hm _).mpr (List.mem_map.mpr ⟨z, hz, rfl⟩)
      exact ⟨sOf z, (pl.trans pk).mem_iff.mpr this, by simp [sOf]⟩
    · rintro ⟨z, hz, rfl⟩
      obtain ⟨y, hy, e⟩ := List.mem_map.mp ((hm z).mp ((pl.trans pk).mem_iff.mp hz))
      exact ⟨y, hy, by rw [← e]; simp [sOf]⟩
  simp only [sortD] at hs
  split at hs <;> cases hs
  rename_i hso
  have hso2 := sortable_perm pd hso
  have esort : ((ls.map fun z => z.cps.toList).map D.str).mergeSort (fun a b => !(D.lt b a)) = (dedup [] (ss.map D.str)).mergeSort (fun a b => !(D.lt b a)) := by
    have h1 : ∃ zs : List (List Nat), dedup [] (ss.map D.str) = zs.map D.str := by
      refine ⟨(dedup [] (ss.map D.str)).map fun d => match d with | .str z => z | _ => [], ?_⟩
      rw [List.map_map]
      conv => lhs; rw [← List.map_id (dedup [] (ss.map D.str))]
      refine List.map_congr_left fun d hd => ?_
      rcases (dm d).mp hd with q | q
      · cases q
      · obtain ⟨z, _, rfl⟩ := List.mem_map.mp q
        rfl
    obtain ⟨zs, ez⟩ := h1
    rw [ez] at pd ⊢
    rw [sort_strs, sort_strs]
    congr 1
    have hinj : ∀ a b : List (List Nat), (a.map D.str).Perm (b.map D.str) → a.Perm b := fun a b p => by
      have hf : ∀ l : List (List Nat), (l.map D.str).map (fun d => match d with | D.str z => z | _ => []) = l := fun l => by
        induction l with
        | nil => rfl
        | cons x l ih => rw [List.map_cons, List.map_cons, ih]
      have := p.map fun d => match d with | D.str z => z | _ => []
      rwa [hf, hf] at this
    exact (msort_perm (hinj _ _ pd)).symm
  refine sort_new (A := X.A.in1) I1 (by simp only [Around.in1_units]; omega) (vals_of_strs hls) rl hso2 fun ws p s' hp r2 I2 => ⟨.ref p, _, I2, rfl, ?_⟩
  rw [esort] at r2
  exact new_lst q sr r2 p hp
theorem r_sortSet {a : ME} {e : Expr} {p1 p2 q1 q2 : Pos} (hc : Γ.calm = true) (h1 : isGl Γ.sc ("sorted" : Str) = true) (h2 : Γ.G.lookup ("sorted" : Str) = some .free) (h3 : isGl Γ.sc ("set" : Str) = true) (h4 : Γ.G.lookup ("set" : Str) = some .free) (hs : isStar e = false) (ha : SE W k ways Γ a e) :
    SE W k ways Γ (.bi .sortedSet (.cons false a .nil)) (.Call (.Name "sorted" p1) [.Call (.Name "set" p2) [e] [] q1] [] q2) := fun X c E tk => by
  obtain ⟨g1, g2, g3⟩ := gl_of c.sc h1
  obtain ⟨g4, g5, g6⟩ := gl_of c.sc h3
  have hm1 : X.mg "sorted" = none := c.glob _ _ h2
  have hm2 : X.mg "set" = none := c.glob _ _ h4
  have hcalm := (c.calm hc).1
  have pe := pe_callTy (cr_setTx (W := W) hcalm c.un) g4 hm2 (show bootBuiltins "set" = some (.type "set") by decide +kernel) (pa_cons (ha X c E tk) pa_nil (star_no hs _ _)) (pos := q1) (p := p2) g6 g5 (star_no hs _ _) (star_any (by simp) _ _)
  refine PEw (pe_callB (cr_sortTx (W := W) hcalm c.un) g1 hm1 (show bootBuiltins "sorted" = some (.builtin "sorted") by decide +kernel) (pa_cons pe pa_nil (star_no rfl _ _)) g3 g2 (star_no rfl _ _) (star_any (by simp) _ _)) fun σ H Q ⟨m, S, ρ, sr, er, h⟩ => ?_
  simp only [evE, evEs, bindA, Res.bind_ok] at h
  refine ⟨m, S, ρ, sr, er, (KG.bind h).imp ?_⟩
  rintro x H1 ⟨m1, d, S1, le1, sr1, rx, q⟩
  obtain ⟨z, ez, q⟩ := q.opt
  simp only [List.map_cons, List.map_nil, biD] at ez
  split at ez
  · rename_i ys hys
    split at ez
    · rename_i hlen
      split at ez
      · rename_i ss hss
        obtain ⟨zs, hz, rfl⟩ := Option.map_eq_some_iff.mp ez
        have hys2 := strs_map hss
        refine ⟨m1, S1, d, x, ys, ss, rfl, sr1, rx, hys, hss, ?_, fun p hp => ?_⟩
        · rw [hys2, List.length_map] at hlen; exact hlen
        · refine ⟨E, m1, S1, p, ss, zs, rfl, upd_same, sr1.new hp, by rw [← hys2]; exact hz, ?_⟩
          intro v H' m' le sr' r
          exact q v H' m' ((le_new hp).trans le) sr' r
      · cases ez
    · cases ez
  · cases ez
end
end Py
end

section
set_option Elab.async false
set_option linter.all false
set_option maxRecDepth 100000
set_option autoImplicit false
namespace Py
open PySem PySem.Spec PyProof.Rows L2
/-! dict(..) of a list, a tuple of pairs -/
section
variable {W : Wd} {k : Nat} {ways : Nat → List Way} {Γ : Gam} {m m' : List Addr} {H H' : Hp} {S : Py.St} {E : XK}
def mergeG {κ : Type} [DecidableEq κ] (kvs more : List (κ × V)) : List (κ × V) := more.foldl (fun acc kv => putK acc kv.1 kv.2) kvs
theorem mergeG_len {κ : Type} [DecidableEq κ] : ∀ (more kvs : List (κ × V)), (mergeG kvs more).length ≤ kvs.length + more.length
  | [], kvs => by show kvs.length ≤ kvs.length + 0; omega
  | p :: r, kvs => by
    have h1 := mergeG_len r (putK kvs p.1 p.2)
    have h2 := length_putK kvs p.1 p.2
    show (mergeG (putK kvs p.1 p.2) r).length ≤ _
    rw [List.length_cons]; omega
theorem KT.merge {H : Hp} : ∀ {more : List (List Key × V)} {rs : List (List Key × Addr × Value)} {kvs : List (List Key × V)} {vs : List (List Key × Addr × Value)}, KT H more rs → KT H kvs vs → KT H (mergeG kvs more) (storedAllH vs rs) := by
  intro more rs kvs vs r
  unfold KT at r
  induction r generalizing kvs vs with
  | nil => intro q; exact q
  | @cons p q ps qs h t ih =>
    intro r0
    have e : KT H (putK kvs p.1 p.2) (storedH vs q.1 q.2.1 q.2.2) := by
      have := KT.put r0 p.1 h.2.1 h.2.2
      rw [← h.1]; exact this
    exact ih e
/-- told pairs -/
structure GF (X : Cx) (s : Shared) (W : Wd) (m : List Addr) (H : Hp) (xs : List D) (its : List Value) (acc kvs : List (D × D)) where
  Ts : List Addr
  ps : List (Value × Value)
  ks : List (Key × V)
  rs : List (Key × Value)
  its_eq : its = Ts.map .ref
  l1 : ps.length = xs.length
  l2 : rs.length = xs.length
  pair : ∀ (j : Nat) (u v : Value), ps[j]? = some (u, v) → ∃ (T : Addr) (q : Key), Ts[j]? = some T ∧ s.heap.IsTuple T #[u, v] ∧ rs[j]? = some (q, v) ∧ (mixKind X.prog X.w).is q u = true
  kv : KV ks rs
  out : ∀ ak : List (Key × V), acc.map (fun p => keyK p.1) = ak.map (fun p => some p.1) → RepV W m H acc (ak.map (·.2)) → kvs.map (fun p => keyK p.1) = (mergeG ak ks).map (fun p => some p.1) ∧ RepV W m H kvs ((mergeG ak ks).map (·.2))
theorem gatherF {X : Cx} {pins : List (Addr × Obj)} {σ : L2.St} {s : Shared} (I : Inv X pins σ H s) : ∀ {xs : List D} {vs : List V} {its : List Value} {acc kvs : List (D × D)}, pairsOf false xs acc = some kvs → RepL W m H xs vs → Vals vs its → Nonempty (GF X s W m H xs its acc kvs)
  | [], vs, its, acc, kvs, h, r, rv => by
    simp only [pairsOf] at h; cases h
    simp only [RepL] at r; subst r
    cases rv
    exact ⟨⟨[], [], [], [], rfl, rfl, rfl, fun j u v e => by simp at e, .nil, fun ak h1 h2 => ⟨h1, h2⟩⟩⟩
  | x :: xs, vs, its, acc, kvs, h, r, rv => by
    have hx : ∃ k v, x = .tup [k, v] ∧ kOk false k = true ∧ pairsOf false xs (dput acc k v) = some kvs := by
      unfold pairsOf at h
      split at h
      · rename_i h0; cases h0
      · rename_i k v r' acc' h0
        obtain ⟨rfl, rfl⟩ := List.cons.inj h0
        split at h
        · rename_i hk; exact ⟨_, _, rfl, hk, h⟩
        · cases h
      · cases h
    obtain ⟨k, v, rfl, hk, h⟩ := hx
    simp only [RepL] at r
    obtain ⟨y, vs', rfl, r1, r2⟩ := r
    cases rv with
    | @cons _ u _ us ru rus =>
    obtain ⟨a, zs, rfl, t1, t2⟩ := rep_tup r1
    obtain rfl : u = Value.ref a := ru
    simp only [RepL] at t2
    obtain ⟨z1, _, rfl, q1, z2, _, rfl, q2, rfl⟩ := t2
    obtain ⟨its2, rv2, ht, _⟩ := I.tuple (tp_sq t1)
    obtain ⟨u1, u2, rfl, ru1, ru2⟩ := vals2 rv2
    obtain ⟨q, e1, e2⟩ := keyK_of (k := k) (by simpa [kOk] using hk) q1
    subst e2
    obtain ⟨G⟩ := gatherF I h r2 rus
    refine ⟨⟨a :: G.Ts, (u1, u2) :: G.ps, (q, z2) :: G.ks, (q, u2) :: G.rs, by rw [List.map_cons, ← G.its_eq], by simp [G.l1], by simp [G.l2], fun j p w e => ?_, .cons ⟨rfl, ru2⟩ G.kv, fun ak h1 h2 => ?_⟩⟩
    · cases j with
      | zero => simp at e; obtain ⟨rfl, rfl⟩ := e; exact ⟨a, q, rfl, ht, rfl, kV_is ru1⟩
      | succ j =>
        obtain ⟨T, q', a1, a2, a3, a4⟩ := G.pair j p w (by simpa using e)
        exact ⟨T, q', by simpa using a1, a2, by simpa using a3, a4⟩
    · obtain ⟨p1, p2⟩ := putV (fun _ _ _ => keyK_inj) e1 q2 h1 h2
      exact G.out _ p1 p2
structure GT (X : Cx) (s : Shared) (W : Wd) (m : List Addr) (H : Hp) (xs : List D) (its : List Value) (acc kvs : List (D × D)) where
  Ts : List Addr
  ps : List (Value × Value)
  ks : List (List Key × V)
  rs : List (List Key × Addr × Value)
  its_eq : its = Ts.map .ref
  l1 : ps.length = xs.length
  l2 : rs.length = xs.length
  pair : ∀ (j : Nat) (u v : Value), ps[j]? = some (u, v) → ∃ (T : Addr) (q : List Key) (b : Addr), Ts[j]? = some T ∧ s.heap.IsTuple T #[u, v] ∧ rs[j]? = some (q, b, v) ∧ u = .ref b
  keys : ∀ x ∈ rs, H x.2.1 = some (.tup (x.1.map kV))
  kv : KT H ks rs
  out : ∀ ak : List (List Key × V), acc.map (fun p => keyKs p.1) = ak.map (fun p => some p.1) → RepV W m H acc (ak.map (·.2)) → kvs.map (fun p => keyKs p.1) = (mergeG ak ks).map (fun p => some p.1) ∧ RepV W m H kvs ((mergeG ak ks).map (·.2))
theorem gatherT {X : Cx} {pins : List (Addr × Obj)} {σ : L2.St} {s : Shared} (I : Inv X pins σ H s) : ∀ {xs : List D} {vs : List V} {its : List Value} {acc kvs : List (D × D)}, pairsOf true xs acc = some kvs → RepL W m H xs vs → Vals vs its → Nonempty (GT X s W m H xs its acc kvs)
  | [], vs, its, acc, kvs, h, r, rv => by
    simp only [pairsOf] at h; cases h
    simp only [RepL] at r; subst r
    cases rv
    exact ⟨⟨[], [], [], [], rfl, rfl, rfl, fun j u v e => by simp at e, fun _ hx => (nomatch hx), .nil, fun ak h1 h2 => ⟨h1, h2⟩⟩⟩
  | x :: xs, vs, its, acc, kvs, h, r, rv => by
    have hx : ∃ k v, x = .tup [k, v] ∧ kOk true k = true ∧ pairsOf true xs (dput acc k v) = some kvs := by
      unfold pairsOf at h
      split at h
      · rename_i h0; cases h0
      · rename_i k v r' acc' h0
        obtain ⟨rfl, rfl⟩ := List.cons.inj h0
        split at h
        · rename_i hk; exact ⟨_, _, rfl, hk, h⟩
        · cases h
      · cases h
    obtain ⟨k, v, rfl, hk, h⟩ := hx
    have hk : keyT k = true := by simpa [kOk] using hk
    obtain ⟨ky, rfl⟩ : ∃ ys, k = .tup ys := by
      cases k <;> simp only [keyT] at hk <;> first | exact ⟨_, rfl⟩ | cases hk
    simp only [RepL] at r
    obtain ⟨y, vs', rfl, r1, r2⟩ := r
    cases rv with
    | @cons _ u _ us ru rus =>
    obtain ⟨a, zs, rfl, t1, t2⟩ := rep_tup r1
    obtain rfl : u = Value.ref a := ru
    simp only [RepL] at t2
    obtain ⟨z1, _, rfl, q1, z2, _, rfl, q2, rfl⟩ := t2
    obtain ⟨its2, rv2, ht, _⟩ := I.tuple (tp_sq t1)
    obtain ⟨u1, u2, rfl, ru1, ru2⟩ := vals2 rv2
    obtain ⟨b, bs, rfl, hb, rb⟩ := rep_tup q1
    obtain rfl : u1 = Value.ref b := ru1
    have hb := hb.key (by rw [keyish_keyT]; exact hk)
    simp only [keyT, Bool.and_eq_true, Bool.not_eq_true'] at hk
    obtain ⟨q, e3, rfl⟩ := keyL_of hk.2 rb
    obtain ⟨G⟩ := gatherT I h r2 rus
    refine ⟨⟨a :: G.Ts, (.ref b, u2) :: G.ps, (q, z2) :: G.ks, (q, b, u2) :: G.rs, by rw [List.map_cons, ← G.its_eq], by simp [G.l1], by simp [G.l2], fun j p w e => ?_, fun x hx => ?_, .cons ⟨rfl, hb, ru2⟩ G.kv, fun ak h1 h2 => ?_⟩⟩
    · cases j with
      | zero => simp at e; obtain ⟨rfl, rfl⟩ := e; exact ⟨a, q, b, rfl, ht, rfl, rfl⟩
      | succ j =>
        obtain ⟨T, q', b', a1, a2, a3, a4⟩ := G.pair j p w (by simpa using e)
        exact ⟨T, q', b', by simpa using a1, a2, by simpa using a3, a4⟩
    · rcases List.mem_cons.mp hx with rfl | hx
      · exact hb
      · exact G.keys x hx
    · obtain ⟨p1, p2⟩ := putV (f := keyKs) (fun _ _ _ => keyKs_inj) (k := .tup ky) (keyKs_of e3 hk.1) q2 h1 h2
      exact G.out _ p1 p2
/-- a new dict with tuple keys, a place or not -/
theorem new_dtM {Q : VK} {kvs : List (D × D)} {ks : List (List Key × V)} {mu : Bool} (h : KG W E m H (Rep W) (mkO mu (.dct true kvs false) S) Q) (sr : SR W m H S) (e : kvs.map (fun p => keyKs p.1) = ks.map (fun p => some p.1)) (r : RepV W m H kvs (ks.map (·.2))) (p : Addr) (hp : H p = none) :
    Q (.ref p) (upd H p (.dT ks)) := by
  cases mu with
  | false =>
    refine h _ _ m (le_new hp) (sr.new hp) ?_
    simp only [Rep]
    exact ⟨p, ks, rfl, not_in sr hp, .inl upd_same, e, RepV.mono (le_new hp) _ _ r⟩
  | true =>
    refine h _ _ (m ++ [p]) (le_add hp) (sr.add hp ⟨ks, by simpa using upd_same, e, RepV.mono (le_add hp) _ _ r⟩) ?_
    simp only [Rep]
    exact ⟨p, by rw [← sr.len]; simp, rfl⟩
theorem pairArg_of {P : Program} {w : World} {T : String} (hT : T = "list" ∨ T = "tuple") (a : Addr) (items : Array Value) (Ts : Nat → Addr) (ps : List (Value × Value)) :
    PairArg P w T a (a :: (List.range ps.length).map Ts) [] ps.length (PairRel ps) (fun h => PlainSeq T h a items ∧ PairItems h items Ts ps) := by
  rcases hT with rfl | rfl
  · exact .list a items Ts ps
  · exact .tuple a items Ts ps
theorem dict_of {X : Cx} {pins : List (Addr × Obj)} {σ : L2.St} {s : Shared} {t mu : Bool} {T : String} {a : Addr} {xs : List D} {vs : List V} {its : List Value} {kvs : List (D × D)} {Q : VK} (hc : X.calm = true) (hu : X.A.units + 8 < cLine) (hT : T = "list" ∨ T = "tuple") (I : Inv X pins σ H s) (sr : SR W m H S)
    (pl : PlainSeq T s.heap a its.toArray) (rv : Vals vs its) (rl : RepL W m H xs vs) (hp : pairsOf t xs [] = some kvs) (hl : xs.length ≤ sizeLine) (h : KG W E m H (Rep W) (mkO mu (.dct t kvs false) S) Q) :
    wpAny (model X.prog X.w) X.A (call (.type "dict") [.ref a]) (EP X pins σ Q) X.xe s := by
  have hm : (s.heap.objs.size == sysModules) = false := beq_eq_false_iff_ne.mpr (Nat.ne_of_gt I.big)
  cases t with
  | false =>
    obtain ⟨G⟩ := gatherF I hp rl rv
    have hi : PairItems s.heap its.toArray (fun j => (G.Ts[j]?).getD 0) G.ps := ⟨by rw [List.size_toArray, G.l1, ← rv.length, ← rl.length], fun j u v e => by
      obtain ⟨T, q, a1, a2, a3, a4⟩ := G.pair j u v e
      refine ⟨?_, .inl (by simpa [a1] using a2)⟩
      have e2 : its[j]? = some (.ref T) := by
        have e3 : (G.Ts.map Value.ref)[j]? = some (.ref T) := by simp [a1]
        exact (congrArg (·[j]?) G.its_eq).trans e3
      simp [a1, e2]⟩
    refine PySem.call_dict_pairs (knd := mixKind X.prog X.w) (kvs := G.rs) (pairArg_of hT a its.toArray _ G.ps) (I.ok.hd hc) ⟨pl, hi⟩ ⟨by rw [G.l2, G.l1], fun i u v e => ?_⟩ (by rw [G.l1]; exact hl) fun h' tk hd' k => ?_
    · obtain ⟨T, q, _, _, a3, a4⟩ := G.pair i u v e
      exact ⟨q, a3, a4⟩
    · obtain ⟨o1, o2⟩ := G.out [] rfl (by simp [RepV])
      have hlen : (mergeG [] G.ks).length ≤ sizeLine := by
        refine Nat.le_trans (mergeG_len G.ks []) ?_
        rw [List.length_nil, Nat.zero_add, G.kv.length, G.l2]
        exact hl
      exact ⟨.ref s.heap.objs.size, upd H s.heap.objs.size (.dK (mergeG [] G.ks)), I.laid (t' := tk) (fun b o e => k b o (by simp) e) (Nat.le_refl _) (show ObjOk X.prog X.w _ _ _ (.dK (mergeG [] G.ks)) from ⟨hlen, hm, merged [] G.rs, KV.merge G.kv .nil, hd'⟩), rfl,
        new_dkM h sr o1 o2 _ (I.hok.fresh (Nat.le_refl _))⟩
  | true =>
    obtain ⟨G⟩ := gatherT I hp rl rv
    have hi : PairItems s.heap its.toArray (fun j => (G.Ts[j]?).getD 0) G.ps := ⟨by rw [List.size_toArray, G.l1, ← rv.length, ← rl.length], fun j u v e => by
      obtain ⟨T, q, b, a1, a2, a3, a4⟩ := G.pair j u v e
      refine ⟨?_, .inl (by simpa [a1] using a2)⟩
      have e2 : its[j]? = some (.ref T) := by
        have e3 : (G.Ts.map Value.ref)[j]? = some (.ref T) := by simp [a1]
        exact (congrArg (·[j]?) G.its_eq).trans e3
      simp [a1, e2]⟩
    refine PySem.call_dict_pairsH (knd := tupleKind (mixKind X.prog X.w)) (ps := G.rs) (pairArg_of hT a its.toArray _ G.ps) (I.ok.hd hc) (show X.A.in1.in1.units < cLine by show X.A.units + 1 + 1 < cLine; omega) ⟨pl, hi⟩ ⟨by rw [G.l2, G.l1], fun i u v e => ?_⟩ (fun h' hk x hx => ?_) (by rw [G.l1]; exact hl) fun h' tk hd' k => ?_
    · obtain ⟨T, q, b, _, _, a3, a4⟩ := G.pair i u v e
      exact ⟨q, b, a3, a4⟩
    · obtain ⟨o, its, n, h1, h2, h3, h4⟩ := key_of I.hok (G.keys x hx)
      exact ⟨o, its, n, hk _ _ (Nat.ne_of_lt (Heap.lt_size h1)) (by simp) h1, h2, h3, h4⟩
    · obtain ⟨o1, o2⟩ := G.out [] rfl (by simp [RepV])
      have hlen : (mergeG [] G.ks).length ≤ sizeLine := by
        refine Nat.le_trans (mergeG_len G.ks []) ?_
        rw [List.length_nil, Nat.zero_add, Paired.length G.kv, G.l2]
        exact hl
      have hn : H s.heap.objs.size = none := I.hok.fresh (Nat.le_refl _)
      obtain ⟨o, es, ep, d1, d2, d3, d4, d5, d6⟩ := hd'
      have kt : KT (upd H s.heap.objs.size (.dT (mergeG [] G.ks))) (mergeG [] G.ks) (storedAllH [] G.rs) := KT.keeps (KT.merge G.kv .nil) fun b ys e => by rw [upd_ne (ne_of_none e hn)]; exact e
      exact ⟨.ref s.heap.objs.size, upd H s.heap.objs.size (.dT (mergeG [] G.ks)), I.laid (t' := tk) (fun b o e => k b o (by simp) e) (Nat.le_refl _) (show ObjOk X.prog X.w _ _ _ (.dT (mergeG [] G.ks)) from ⟨hlen, hm, _, kt, o, es, ep, d1, d2, d3, d4, d6⟩), rfl,
        new_dtM h sr o1 o2 _ hn⟩
theorem it_dictL {X : Cx} {mu t : Bool} (hc : X.calm = true) (hu : X.A.units + 8 < cLine) : CallR X (.type "dict") (rIt W mu (.dictL t)) := by
  intro pins s σ H xs us Q I rv ⟨E, m, S, d, v, hxs, sr, r, h⟩
  subst hxs
  simp only [btD, btX, btD0] at h
  split at h
  · rename_i ys hx
    split at h
    · rename_i kvs hp
      split at h
      · rename_i hl
        obtain ⟨a, vs, rfl, t1, t2⟩ := rep_lst sr r hx
        obtain ⟨u, rfl, ru⟩ := vals1 rv
        obtain rfl : u = Value.ref a := ru
        obtain ⟨its, rv', pl, hz⟩ := I.list (.inl t1)
        obtain ⟨o, n, p1, p2, p3, p4⟩ := pl
        exact dict_of hc hu (.inl rfl) I sr ⟨o, n, p1, p2, p3, p4⟩ rv' t2 hp (by rw [← line_eq]; exact hl) h
      · exact h.elim
    · exact h.elim
  · exact h.elim
theorem it_dictT {X : Cx} {mu t : Bool} (hc : X.calm = true) (hu : X.A.units + 8 < cLine) : CallR X (.type "dict") (rIt W mu (.dictT t)) := by
  intro pins s σ H xs us Q I rv ⟨E, m, S, d, v, hxs, sr, r, h⟩
  subst hxs
  simp only [btD, btX, btD0] at h
  split at h
  · rename_i ys hx
    split at h
    · rename_i kvs hp
      split at h
      · rename_i hl
        cases vw_tup hx
        obtain ⟨a, vs, rfl, t1, t2⟩ := rep_tup r
        obtain ⟨u, rfl, ru⟩ := vals1 rv
        obtain rfl : u = Value.ref a := ru
        obtain ⟨its, rv', ⟨o', e', ec', n', ed'⟩, hz⟩ := I.tuple (tp_sq t1)
        have hpl : PlainSeq "tuple" s.heap a its.toArray := by
          by_cases hk : keyish ys = true
          · -- pairs are no keys
            exfalso
            cases ys with
            | nil => simp [keyish] at hk
            | cons y ys =>
              unfold pairsOf at hp
              split at hp
              · rename_i h0; cases h0
              · rename_i h0
                obtain ⟨rfl, rfl⟩ := List.cons.inj h0
                simp [keyish, keyK] at hk
              · cases hp
          · obtain ⟨o, q, h1⟩ := t1.frz (by simpa using hk)
            have h2 : ObjOk X.prog X.w H s.heap a (.frz o (.tup vs)) := I.hok a _ h1
            have h3 : s.heap.get? a = some o := h2.1
            rw [h3] at e'
            cases e'
            exact ⟨_, n', h3, ec', q, ed'⟩
        exact dict_of hc hu (.inr rfl) I sr hpl rv' t2 hp (by rw [← line_eq]; exact hl) h
      · exact h.elim
    · exact h.elim
  · exact h.elim
theorem it_listD {X : Cx} {mu : Bool} (hc : X.calm = true) : CallR X (.type "list") (rIt W mu .listD) := by
  intro pins s σ H xs us Q I rv ⟨E, m, S, d, v, hxs, sr, r, h⟩
  subst hxs
  simp only [btD, btX, btD0] at h
  split at h
  · rename_i kvs hx
    obtain ⟨a, rfl, ks, t1, t2, t3⟩ := rep_dct sr r hx
    refine call_listD hc pins s σ H _ us Q I rv ⟨a, ks, rfl, t1, fun p hp => ?_⟩
    exact new_lstM h sr (repK_of t2) p hp
  · exact h.elim
theorem it_X {X : Cx} {mu : Bool} {f : Value} {b : Bt} (h : ∀ x, CallR X f (rIt W mu (btX b x))) (hb : ∀ x, btX (btX b x) x = btX b x) : CallR X f (rIt W mu b) := by
  intro pins s σ H xs us Q I rv ⟨E, m, S, d, v, hxs, sr, r, hh⟩
  refine h (vw S d) pins s σ H xs us Q I rv ⟨E, m, S, d, v, hxs, sr, r, ?_⟩
  simp only [btD, hb] at hh ⊢
  exact hh
theorem it_tupleX {X : Cx} {mu : Bool} (hc : X.calm = true) : CallR X (.type "tuple") (rIt W mu .tupleX) :=
  it_X (fun x => by cases x <;> first | exact it_tupleD hc | exact it_tuple) fun x => by cases x <;> rfl
theorem it_listX {X : Cx} {mu : Bool} (hc : X.calm = true) : CallR X (.type "list") (rIt W mu .listX) :=
  it_X (fun x => by cases x <;> first | exact it_listD hc | exact it_list hc) fun x => by cases x <;> rfl
theorem it_dictX {X : Cx} {mu : Bool} (hc : X.calm = true) (hu : X.A.units + 8 < cLine) : CallR X (.type "dict") (rIt W mu (.dictX false)) :=
  it_X (fun x => by cases x <;> first | exact it_dictD | exact it_dictT hc hu | exact it_dictL hc hu) fun x => by cases x <;> rfl
/-! ### {} -/
theorem r_dct0 {t mu : Bool} {p : Pos} : SE W k ways Γ (.dct t mu .nil .nil) (.Dict [] [] p) := fun X c E tk => by
  cases t with
  | false =>
    refine PEw pe_dnewK fun σ H Q ⟨m, S, ρ, sr, er, h⟩ => ?_
    simp only [evE, evEs, Res.bind_ok, List.zip_nil_left, List.map_nil, pairsOf, List.length_nil] at h
    intro p hp
    exact new_dkM (kvs := []) (ks := []) (by simpa using h) sr rfl (by simp [RepV]) p hp
  | true =>
    refine PEw pe_dnewT fun σ H Q ⟨m, S, ρ, sr, er, h⟩ => ?_
    simp only [evE, evEs, Res.bind_ok, List.zip_nil_left, List.map_nil, pairsOf, List.length_nil] at h
    intro p hp
    exact new_dtM (kvs := []) (ks := []) (by simpa using h) sr rfl (by simp [RepV]) p hp
end
end Py
end

section
set_option Elab.async false
set_option linter.all false
set_option maxRecDepth 100000
namespace Py
open PySem PySem.Spec PyProof.Rows L2
/-! ### a def keeps its promise -/
section
variable {W : Wd} {ways : Nat → List Way}
theorem er_start {j : Sd} {m : List Addr} {H : Hp} {as : List (Option Ag)} {vs : List V} {N : List Str} (h : AL W j m H as vs) (hl : vs.length ≤ N.length) : ER W j m H (as ++ List.replicate (N.length - vs.length) Option.none) (L2.start N vs) := by
  refine ⟨?_, fun i a e => ?_⟩
  · unfold L2.start
    simp [h.length]
  · by_cases hi : i < as.length
    · rw [List.getElem?_append_left hi] at e
      obtain ⟨b, v, e1, e2, r⟩ := h.at hi
      rw [e] at e1; cases e1
      refine ⟨v, ?_, r⟩
      unfold L2.start
      rw [List.getElem?_append_left (by simpa [h.length] using hi), List.getElem?_map, e2]
      rfl
    · rw [List.getElem?_append_right (by omega), List.getElem?_replicate] at e
      split at e <;> cases e
theorem fnS_of {k : Nat} {P : Program} {w : World} {K : PySem.W.Frag} {mg : Str → Option Value} {base : Heap} {g : Nat} {F : Fun} {G : List (Str × GV)} {N : List Str} {x qual : Str} {params : Arguments} {body : List Stmt} {scope : Scope} {dvs : List V} {kws : List (Str × V)} {fd : FuncData}
    (hT : W.T g = some F) (hF : FunD K x qual params body scope dvs kws (W.fa g) fd) (hS : FnScope N (F.ps.map sOf) scope) (hn : F.nn = N.length) (hG : GOk W mg G) (hcls : ∀ c ci, W.ci c = some ci → ClsC W K c ci)
    (hcalls : ∀ g F, W.T g = some F → ∃ fd, FnS W P w K mg base (3 * k) (W.fa g) fd (F.ps.map sOf) (fun as S => run W.T k (.fn g) as S) ∧ PySem.W.keepIn K (.ref (W.fa g)) = true ∧ ∀ y ∈ ways g, WayOk K fd (F.ps.map sOf) y)
    (hB : SB W k ways ⟨N, scope, G, true, Option.none⟩ F.body body) : FnS W P w K mg base (3 * (k + 1)) (W.fa g) fd (F.ps.map sOf) (fun as S => run W.T (k + 1) (.fn g) as S) := by
  intro A outer s H args us vs Q E hr e0 hb rv hl ⟨m, S, as, sr, al, h⟩
  obtain ⟨oc, od, dV, kV, doc, pm, an, cdv, ct, osl, rfl, lk, hcd, _, _⟩ := hF.ex
  refine LamX.run_ofS (N := N) (ps := F.ps.map sOf) lk hcd hS (k := 3 * k + 2) hr e0 hb rv hl fun hr' => ?_
  have hct : CtS W k ways (cxOf (L2.CX P w) P w K mg base N qual scope (W.fa g) cdv A outer s H E) ⟨N, scope, G, true, Option.none⟩ := {
    N := rfl
    sc := rfl
    nd := hS.nd
    glob := hG
    un := by have := hr'.un; show (A.deeper _).units + 70 < _; omega
    calm := fun _ => ⟨rfl, hr'⟩
    calls := ⟨hcls, hcalls⟩
    fn := fun _ _ => rfl
    own := passes_of rfl }
  refine ⟨_, hB _ hct E (takes_of rfl rfl rfl rfl), m, S, as ++ List.replicate (N.length - vs.length) Option.none, sr, er_start al ?_, ?_⟩
  · have := congrArg List.length hS.pre
    rw [List.length_take] at this
    rw [hl]; omega
  · have hla : as.length = F.ps.length := by rw [al.length, hl]; simp
    have hrep : N.length - vs.length = F.nn - F.ps.length := by rw [hn, ← al.length, hla]
    rw [hrep]
    have h : KG W E m H (Rep W) (callFn (run W.T k) F as S) Q := by
      have h2 := h
      simp only [run, hT] at h2
      exact h2
    unfold callFn at h
    rw [if_pos hla] at h
    have h2 : KG W E m H (Rep W) (fin (exB (run W.T k) F.body (as ++ List.replicate (F.nn - F.ps.length) Option.none) S)) Q := by
      cases hk : F.keep with
      | true => rw [hk] at h; exact closeK_ok sr (by simpa using h)
      | false => rw [hk] at h; exact close_ok sr (by simpa using h)
    cases hx : exB (run W.T k) F.body (as ++ List.replicate (F.nn - F.ps.length) Option.none) S with
    | bad => rw [hx] at h2; exact h2
    | exc c fs S1 => rw [hx] at h2; exact h2
    | ok f S1 =>
      rw [hx] at h2
      cases f with
      | nx ρ => exact fun σ' H' m' le sr' er' => h2 .non H' m' le sr' .non
      | ret d => exact h2
      | brk ρ => exact h2.elim
      | ct ρ => exact h2.elim
/-- what is known of the text's defs -/
structure DI where
  name : Str
  qual : Str
  params : Arguments
  body : List Stmt
  scope : Scope
  N : List Str
structure Stat (W : Wd) (ways : Nat → List Way) (G : List (Str × GV)) (K : PySem.W.Frag) (mg : Str → Option Value) : Prop where
  glob : GOk W mg G
  cls : ∀ c ci, W.ci c = some ci → ClsC W K c ci
  fn : ∀ g F, W.T g = some F → ∃ (d : DI) (dvs : List V) (kws : List (Str × V)) (fd : FuncData), FunD K d.name d.qual d.params d.body d.scope dvs kws (W.fa g) fd ∧ (∀ y ∈ ways g, WayOk K fd (F.ps.map sOf) y) ∧
    FnScope d.N (F.ps.map sOf) d.scope ∧ F.nn = d.N.length ∧ ∀ k, SB W k ways ⟨d.N, d.scope, G, true, Option.none⟩ F.body d.body
/-- the function object that stands there -/
def FnAt (K : PySem.W.Frag) (a : Addr) (fd : FuncData) : Prop := ∃ oc od osl, K.lookup a = some ⟨oc, od, .func fd, osl⟩
theorem FnAt.eq {K : PySem.W.Frag} {a : Addr} {f g : FuncData} (h : FnAt K a f) (h' : FnAt K a g) : f = g := by
  obtain ⟨_, _, _, e⟩ := h
  obtain ⟨_, _, _, e'⟩ := h'
  rw [e] at e'
  cases e'
  rfl
theorem FnAt.of {K : PySem.W.Frag} {x qual : Str} {params : Arguments} {body : List Stmt} {scope : Scope} {dvs : List V} {kws : List (Str × V)} {a : Addr} {fd : FuncData} (F : FunD K x qual params body scope dvs kws a fd) : FnAt K a fd := by
  obtain ⟨oc, od, dV, kV, doc, pm, an, cdv, ct, osl, _, lk, _⟩ := F.ex
  exact ⟨_, _, _, lk⟩
theorem all_calls0 {G : List (Str × GV)} {P : Program} {w : World} {K : PySem.W.Frag} {mg : Str → Option Value} {base : Heap} (st : Stat W ways G K mg) : ∀ (k : Nat) g F, W.T g = some F → ∃ fd, FnS W P w K mg base (3 * k) (W.fa g) fd (F.ps.map sOf) (fun as S => run W.T k (.fn g) as S) ∧ PySem.W.keepIn K (.ref (W.fa g)) = true ∧ (∀ y ∈ ways g, WayOk K fd (F.ps.map sOf) y) ∧ FnAt K (W.fa g) fd := by
  have fds : ∀ g F, W.T g = some F → ∃ fd, (∀ (k : Nat), FnS W P w K mg base (3 * k) (W.fa g) fd (F.ps.map sOf) (fun as S => run W.T k (.fn g) as S)) ∧ PySem.W.keepIn K (.ref (W.fa g)) = true ∧ (∀ y ∈ ways g, WayOk K fd (F.ps.map sOf) y) ∧ FnAt K (W.fa g) fd := by
    have lev : ∀ k, ∀ g F, W.T g = some F → ∀ (d : DI) (dvs : List V) (kws : List (Str × V)) (fd : FuncData), FunD K d.name d.qual d.params d.body d.scope dvs kws (W.fa g) fd → FnScope d.N (F.ps.map sOf) d.scope → F.nn = d.N.length → (∀ k, SB W k ways ⟨d.N, d.scope, G, true, Option.none⟩ F.body d.body) →
        FnS W P w K mg base (3 * k) (W.fa g) fd (F.ps.map sOf) (fun as S => run W.T k (.fn g) as S) := by
      intro k
      induction k with
      | zero =>
        intro g F _ d dvs kws fd _ _ _ _ A outer s H args us vs Q E _ _ _ _ _ ⟨m, S, as, sr, al, h⟩
        exact h.elim
      | succ k ih =>
        intro g F hT d dvs kws fd hF hS hn hB
        refine fnS_of hT hF hS hn st.glob st.cls (fun g' F' hT' => ?_) (hB k)
        obtain ⟨d', dv', kw', fd', hF', hw', hS', hn', hB'⟩ := st.fn g' F' hT'
        exact ⟨fd', ih g' F' hT' d' dv' kw' fd' hF' hS' hn' hB', hF'.kp, hw'⟩
    intro g F hT
    obtain ⟨d, dv, kw, fd, hF, hw, hS, hn, hB⟩ := st.fn g F hT
    exact ⟨fd, fun k => lev k g F hT d dv kw fd hF hS hn hB, hF.kp, hw, .of hF⟩
  intro k g F hT
  obtain ⟨fd, h1, h2, h3, h4⟩ := fds g F hT
  exact ⟨fd, h1 k, h2, h3, h4⟩
end
end Py
end

section
set_option Elab.async false
set_option linter.all false
set_option maxRecDepth 100000
namespace Py
open PySem PySem.Spec PyProof.Rows L2
/-! ### views -/
def vConst : Expr → Option (Const)
  | .Constant c _ _ => some c
  | _ => none
theorem vConst_ok {e : Expr} {x : Const} (h : vConst e = some x) : ∃ n p, e = .Constant x n p := by
  cases e <;> simp only [vConst] at h <;> first | (cases h; done) | (cases h; exact ⟨_, _, rfl⟩) | (cases h; exact ⟨_, rfl⟩) | (cases h; rfl) | skip
  all_goals (split at h <;> cases h; exact ⟨_, rfl⟩)
def vBin : Expr → Option (Expr × Operator × Expr)
  | .BinOp a o b _ => some (a, o, b)
  | _ => none
theorem vBin_ok {e : Expr} {x : Expr × Operator × Expr} (h : vBin e = some x) : ∃ p, e = .BinOp x.1 x.2.1 x.2.2 p := by
  cases e <;> simp only [vBin] at h <;> first | (cases h; done) | (cases h; exact ⟨_, _, rfl⟩) | (cases h; exact ⟨_, rfl⟩) | (cases h; rfl) | skip
  all_goals (split at h <;> cases h; exact ⟨_, rfl⟩)
def vUn : Expr → Option (UnaryOp × Expr)
  | .UnaryOp o a _ => some (o, a)
  | _ => none
theorem vUn_ok {e : Expr} {x : UnaryOp × Expr} (h : vUn e = some x) : ∃ p, e = .UnaryOp x.1 x.2 p := by
  cases e <;> simp only [vUn] at h <;> first | (cases h; done) | (cases h; exact ⟨_, _, rfl⟩) | (cases h; exact ⟨_, rfl⟩) | (cases h; rfl) | skip
  all_goals (split at h <;> cases h; exact ⟨_, rfl⟩)
def vCmp : Expr → Option (Expr × List CmpOp × List Expr)
  | .Compare a os bs _ => some (a, os, bs)
  | _ => none
theorem vCmp_ok {e : Expr} {x : Expr × List CmpOp × List Expr} (h : vCmp e = some x) : ∃ p, e = .Compare x.1 x.2.1 x.2.2 p := by
  cases e <;> simp only [vCmp] at h <;> first | (cases h; done) | (cases h; exact ⟨_, _, rfl⟩) | (cases h; exact ⟨_, rfl⟩) | (cases h; rfl) | skip
  all_goals (split at h <;> cases h; exact ⟨_, rfl⟩)
def vBool : Expr → Option (BoolOp × List Expr × Pos)
  | .BoolOp o es p => some (o, es, p)
  | _ => none
theorem vBool_ok {e : Expr} {x : BoolOp × List Expr × Pos} (h : vBool e = some x) : e = .BoolOp x.1 x.2.1 x.2.2 := by
  cases e <;> simp only [vBool] at h <;> first | (cases h; done) | (cases h; exact ⟨_, _, rfl⟩) | (cases h; exact ⟨_, rfl⟩) | (cases h; rfl) | skip
  all_goals (split at h <;> cases h; exact ⟨_, rfl⟩)
def vIf : Expr → Option (Expr × Expr × Expr)
  | .IfExp c a b _ => some (c, a, b)
  | _ => none
theorem vIf_ok {e : Expr} {x : Expr × Expr × Expr} (h : vIf e = some x) : ∃ p, e = .IfExp x.1 x.2.1 x.2.2 p := by
  cases e <;> simp only [vIf] at h <;> first | (cases h; done) | (cases h; exact ⟨_, _, rfl⟩) | (cases h; exact ⟨_, rfl⟩) | (cases h; rfl) | skip
  all_goals (split at h <;> cases h; exact ⟨_, rfl⟩)
def vTup : Expr → Option (List Expr)
  | .Tuple es _ _ => some es
  | _ => none
theorem vTup_ok {e : Expr} {x : List Expr} (h : vTup e = some x) : ∃ n p, e = .Tuple x n p := by
  cases e <;> simp only [vTup] at h <;> first | (cases h; done) | (cases h; exact ⟨_, _, rfl⟩) | (cases h; exact ⟨_, rfl⟩) | (cases h; rfl) | skip
  all_goals (split at h <;> cases h; exact ⟨_, rfl⟩)
def vLst : Expr → Option (List Expr)
  | .List es _ => some es
  | _ => none
theorem vLst_ok {e : Expr} {x : List Expr} (h : vLst e = some x) : ∃ p, e = .List x p := by
  cases e <;> simp only [vLst] at h <;> first | (cases h; done) | (cases h; exact ⟨_, _, rfl⟩) | (cases h; exact ⟨_, rfl⟩) | (cases h; rfl) | skip
  all_goals (split at h <;> cases h; exact ⟨_, rfl⟩)
def vSub : Expr → Option (Expr × Expr)
  | .Subscript a b _ => some (a, b)
  | _ => none
theorem vSub_ok {e : Expr} {x : Expr × Expr} (h : vSub e = some x) : ∃ p, e = .Subscript x.1 x.2 p := by
  cases e <;> simp only [vSub] at h <;> first | (cases h; done) | (cases h; exact ⟨_, _, rfl⟩) | (cases h; exact ⟨_, rfl⟩) | (cases h; rfl) | skip
  all_goals (split at h <;> cases h; exact ⟨_, rfl⟩)
def vSlc : Expr → Option (Option Expr × Option Expr)
  | .Slice a b none _ => some (a, b)
  | _ => none
theorem vSlc_ok {e : Expr} {x : Option Expr × Option Expr} (h : vSlc e = some x) : ∃ p, e = .Slice x.1 x.2 none p := by
  cases e <;> simp only [vSlc] at h <;> try (cases h; done)
  rename_i a b st p
  cases st with
  | none => cases h; exact ⟨_, rfl⟩
  | some z => cases h
def vAttr : Expr → Option (Expr × Str)
  | .Attribute a f _ => some (a, f)
  | _ => none
theorem vAttr_ok {e : Expr} {x : Expr × Str} (h : vAttr e = some x) : ∃ p, e = .Attribute x.1 x.2 p := by
  cases e <;> simp only [vAttr] at h <;> first | (cases h; done) | (cases h; exact ⟨_, _, rfl⟩) | (cases h; exact ⟨_, rfl⟩) | (cases h; rfl) | skip
  all_goals (split at h <;> cases h; exact ⟨_, rfl⟩)
def vCall : Expr → Option (Expr × List Expr × List Keyword)
  | .Call f es ks _ => some (f, es, ks)
  | _ => none
theorem vCall_ok {e : Expr} {x : Expr × List Expr × List Keyword} (h : vCall e = some x) : ∃ p, e = .Call x.1 x.2.1 x.2.2 p := by
  cases e <;> simp only [vCall] at h <;> first | (cases h; done) | (cases h; exact ⟨_, _, rfl⟩) | (cases h; exact ⟨_, rfl⟩) | (cases h; rfl) | skip
  all_goals (split at h <;> cases h; exact ⟨_, rfl⟩)
def vLc : Expr → Option (Expr × List Comprehension × Scope × Pos)
  | .ListComp e gs sc p => some (e, gs, sc, p)
  | _ => none
theorem vLc_ok {e : Expr} {x : Expr × List Comprehension × Scope × Pos} (h : vLc e = some x) : e = .ListComp x.1 x.2.1 x.2.2.1 x.2.2.2 := by
  cases e <;> simp only [vLc] at h <;> first | (cases h; done) | (cases h; exact ⟨_, _, rfl⟩) | (cases h; exact ⟨_, rfl⟩) | (cases h; rfl) | skip
  all_goals (split at h <;> cases h; exact ⟨_, rfl⟩)
def vNameP : Expr → Option (Str × Pos)
  | .Name x p => some (x, p)
  | _ => none
theorem vNameP_ok {e : Expr} {x : Str × Pos} (h : vNameP e = some x) : e = .Name x.1 x.2 := by
  cases e <;> simp only [vNameP] at h <;> cases h
  rfl

def vRet : Stmt → Option (Expr)
  | .Return (some e) _ => some e
  | _ => none
theorem vRet_ok {e : Stmt} {x : Expr} (h : vRet e = some x) : ∃ p, e = .Return (some x) p := by
  unfold vRet at h
  split at h <;> cases h
  exact ⟨_, rfl⟩
def vEx : Stmt → Option (Expr)
  | .Expr e _ => some e
  | _ => none
theorem vEx_ok {e : Stmt} {x : Expr} (h : vEx e = some x) : ∃ p, e = .Expr x p := by
  unfold vEx at h
  split at h <;> cases h
  exact ⟨_, rfl⟩
def vIfS : Stmt → Option (Expr × List Stmt × List Stmt)
  | .If c a b _ => some (c, a, b)
  | _ => none
theorem vIfS_ok {e : Stmt} {x : Expr × List Stmt × List Stmt} (h : vIfS e = some x) : ∃ p, e = .If x.1 x.2.1 x.2.2 p := by
  unfold vIfS at h
  split at h <;> cases h
  exact ⟨_, rfl⟩
def vFor : Stmt → Option (Expr × Expr × List Stmt)
  | .For t i b [] _ => some (t, i, b)
  | _ => none
theorem vFor_ok {e : Stmt} {x : Expr × Expr × List Stmt} (h : vFor e = some x) : ∃ p, e = .For x.1 x.2.1 x.2.2 [] p := by
  unfold vFor at h
  split at h <;> cases h
  exact ⟨_, rfl⟩
def vWhl : Stmt → Option (Expr × List Stmt)
  | .While c b [] _ => some (c, b)
  | _ => none
theorem vWhl_ok {e : Stmt} {x : Expr × List Stmt} (h : vWhl e = some x) : ∃ p, e = .While x.1 x.2 [] p := by
  unfold vWhl at h
  split at h <;> cases h
  exact ⟨_, rfl⟩
def vAsg : Stmt → Option (Expr × Expr × Pos)
  | .Assign [t] e p => some (t, e, p)
  | _ => none
theorem vAsg_ok {e : Stmt} {x : Expr × Expr × Pos} (h : vAsg e = some x) : e = .Assign [x.1] x.2.1 x.2.2 := by
  unfold vAsg at h
  split at h <;> cases h
  rfl
/-! ### the check -/
structure Ck where
  ci : Nat → Option CI
  T : Tab
  ways : Nat → List Way
def altB (ci : Nat → Option CI) (f : Str) (p : Nat × (Nat ⊕ Nat)) : Bool := match ci p.1 with
  | none => false
  | some ci => match p.2 with
    | .inl i => decide (ci.fields[i]? = some f) && (decide (f ∈ ci.no) && decide (ci.fields.Nodup))
    | .inr g => decide (ci.props.lookup f = some g)
theorem altA_eq (W : Wd) (f : Str) (p : Nat × (Nat ⊕ Nat)) : altA W f p = altB W.ci f p := rfl
def nameB (Γ : Gam) (i : Nat) (e : Expr) : Bool := match vNameP e with
  | some (x, _) => decide (Γ.N[i]? = some x) && (visB Γ.sc x && plainN x)
  | none => false
mutual
def chkG : MT → Gam → Expr → Bool
  | .nm i, Γ, e => match vNameP e with
    | some (x, _) => decide (Γ.N[i]? = some x) && locB Γ x
    | none => false
  | .tup ts, Γ, e => match vTup e with
    | some es => Γ.calm && (!es.any isStar && (decide (ts.length = es.length) && chkGs ts Γ es))
    | none => false
def chkGs : List MT → Gam → List Expr → Bool
  | [], _, [] => true
  | t :: ts, Γ, e :: es => !isStar e && (chkG t Γ e && chkGs ts Γ es)
  | _, _, _ => false
end
def fnB (c : Ck) (Γ : Gam) (f : Expr) (v : GV) : Bool := match vNameP f with
  | some (x, _) => isGl Γ.sc x && decide (Γ.G.lookup x = some v)
  | none => false
def wayB (c : Ck) (g : Nat) (y : Way) : Bool := (c.T g).isSome && decide (y ∈ c.ways g)
def ownP (Γ : Gam) (own : List Nat) : List (Str × Nat) := own.filterMap fun i => (Γ.N[i]?).map fun x => (x, i)
def rangeN : Str := "range"
/-- names of built-in functions that are covered -/
def biN : Bi → Option Str
  | .len => some "len"
  | .int => some "int"
  | .abs => some "abs"
  | .max => some "max"
  | .min => some "min"
  | .divmod => some "divmod"
  | _ => none
def btN : Bt → Option Str
  | .tuple => some "tuple"
  | .tupleD => some "tuple"
  | .tupleX => some "tuple"
  | .listD => some "list"
  | .listX => some "list"
  | .dictX false => some "dict"
  | .list => some "list"
  | .dictD false => some "dict"
  | .dictL _ => some "dict"
  | .dictT _ => some "dict"
  | .sorted => some "sorted"
  | .all => some "all"
  | .any => some "any"
  | .sum => some "sum"
  | .max => some "max"
  | .min => some "min"
  | _ => none
/-- methods of texts, lists that are covered -/
def bmG : Bm → Option Str
  | .join => some "join"
  | _ => none
/-- what isinstance may ask for -/
def kdN : Kd → Option Str
  | .int => some "int"
  | .bool => some "bool"
  | .str => some "str"
  | .tuple => some "tuple"
  | .list => some "list"
  | .dict => some "dict"
  | .cls _ => none
/-- sorted(set(e)) -/
def vSortSet : Expr → Option (Expr × Expr × Expr)
  | .Call f [.Call g [e] [] _] [] _ => some (f, g, e)
  | _ => none
theorem vSortSet_ok {e : Expr} {x : Expr × Expr × Expr} (h : vSortSet e = some x) : ∃ p q, e = .Call x.1 [.Call x.2.1 [x.2.2] [] p] [] q := by
  unfold vSortSet at h
  split at h <;> cases h
  exact ⟨_, _, rfl⟩
def vDc : Expr → Option (Expr × Expr × List Comprehension × Scope × Pos)
  | .DictComp a b gs sc p => some (a, b, gs, sc, p)
  | _ => none
theorem vDc_ok {e : Expr} {x : Expr × Expr × List Comprehension × Scope × Pos} (h : vDc e = some x) : e = .DictComp x.1 x.2.1 x.2.2.1 x.2.2.2.1 x.2.2.2.2 := by
  cases e <;> simp only [vDc] at h <;> cases h
  rfl
def freeB (Γ : Gam) (f : Expr) (o : Option Str) : Bool := match vNameP f with
  | some (x, _) => decide (o = some x) && (isGl Γ.sc x && decide (Γ.G.lookup x = some .free))
  | none => false
def isBAnd : ME → Bool
  | .and _ _ => true
  | _ => false
def isBOr : ME → Bool
  | .or _ _ => true
  | _ => false
/-- an argument: a name, or what is checked so -/
def argB (a : ME) (r : Bool) (Γ : Gam) (e : Expr) : Bool := match a with
  | .var i => nameB Γ i e
  | .lam .. => false
  | _ => r
mutual
def chkE (c : Ck) : ME → Bool → Gam → Expr → Bool
  | .var i, tst, Γ, e => nameB Γ i e
  | .cst d, tst, Γ, e => match vConst e with
    | some k => decide (cD k = some d)
    | none => false
  | .glb d, tst, Γ, e => match vNameP e with
    | some (x, _) => isGl Γ.sc x && decide ((Γ.G.lookup x).bind gD = some d)
    | none => false
  | .bin o a b, tst, Γ, e => match vBin e with
    | some (ea, op, eb) => decide (op = opO o) && (chkE c a false Γ ea && chkE c b false Γ eb)
    | none => false
  | .neg a, tst, Γ, e => match vUn e with
    | some (op, ea) => decide (op = .USub) && chkE c a false Γ ea
    | none => false
  | .cmp o a b, tst, Γ, e => match vCmp e with
    | some (ea, [op], [eb]) => decide (op = opC o) && (!behindInMarks (opC o) eb && (chkE c a false Γ ea && chkE c b false Γ eb))
    | _ => false
  | .chn o1 o2 a b d, tst, Γ, e => match vCmp e with
    | some (ea, [p1, p2], [eb, ed]) => decide (p1 = opC o1) && (decide (p2 = opC o2) && (!lastMarks [opC o1, opC o2] [eb, ed] && (chkE c a false Γ ea && (chkE c b false Γ eb && chkE c d false Γ ed))))
    | _ => false
  | .eq neg alts a b, tst, Γ, e => match vCmp e with
    | some (ea, [op], [eb]) => decide (op = if neg then .NotEq else .Eq) && (Γ.calm && (alts.all (fun p => (match c.ci p.1 with
        | some ci => decide (ci.eq = some p.2)
        | none => false) && wayB c p.2 (2, [], [])) && (chkE c a false Γ ea && chkE c b false Γ eb)))
    | _ => false
  | .and a b, tst, Γ, e => match vBool e with
    | some (.And, ea :: eb :: r, p) => chkE c a tst Γ ea && (if r.isEmpty then chkE c b tst Γ eb else isBAnd b && chkE c b tst Γ (.BoolOp .And (eb :: r) p))
    | _ => false
  | .or a b, tst, Γ, e => match vBool e with
    | some (.Or, ea :: eb :: r, p) => chkE c a tst Γ ea && (if r.isEmpty then chkE c b tst Γ eb else isBOr b && chkE c b tst Γ (.BoolOp .Or (eb :: r) p))
    | _ => false
  | .not a, tst, Γ, e => match vUn e with
    | some (op, ea) => decide (op = .Not) && chkE c a tst Γ ea
    | none => false
  | .ite x a b, tst, Γ, e => match vIf e with
    | some (ex, ea, eb) => !tst && (chkE c x true Γ ex && (chkE c a false Γ ea && chkE c b false Γ eb))
    | none => false
  | .tup es, tst, Γ, e => match vTup e with
    | some xs => chkEs c es Γ xs
    | none => false
  | .lst _ es, tst, Γ, e => match vLst e with
    | some xs => chkEs c es Γ xs
    | none => false
  | .dct _ _ .nil .nil, tst, Γ, e => match e with
    | .Dict [] [] _ => true
    | _ => false
  | .idx a b, tst, Γ, e => match vSub e with
    | some (ea, eb) => noSlice eb && (chkE c a false Γ ea && chkE c b false Γ eb)
    | none => false
  | .slc a lo hi, tst, Γ, e => match vSub e with
    | some (ea, es) => match vSlc es with
      | some (ol, oh) => chkE c a false Γ ea && ((match ol with
        | none => isNo lo
        | some x => !isNo lo && chkE c lo false Γ x) && (match oh with
        | none => isNo hi
        | some x => !isNo hi && chkE c hi false Γ x))
      | none => false
    | none => false
  | .attr a alts, tst, Γ, e => match vAttr e with
    | some (ea, f) => Γ.calm && (plainB ea && (alts.all (altB c.ci f) && (alts.all (fun p => match p.2 with
        | .inr g => wayB c g (1, [], [])
        | .inl _ => true) && chkE c a false Γ ea)))
    | none => false
  | .call g _ es perm, tst, Γ, e => match vCall e with
    | some (f, xs, kws) => Γ.calm && (fnB c Γ f (.fn g) && (wayB c g (xs.length, kws.filterMap (·.arg), perm) && (!xs.any isStar && (decide (kwNames kws = (kws.filterMap (·.arg)).map some) && (perm.all (fun i => decide (i < es.len)) && chkAs c es Γ xs kws)))))
    | none => false
  | .lc _ own elt t i ifs, tst, Γ, e => match vLc e with
    | some (eE, [⟨tg, it, iE, 0⟩], scope, _) => Γ.calm && (notSet it && (decide ((ownP Γ own).map (·.2) = own) && (blkC Γ.N Γ.sc scope (ownP Γ own) && ((namesT t).all (fun i => decide (i ∈ own)) && (chkI c i Γ tg it && (chkG t (bGam Γ scope) tg && (chkF c ifs (bGam Γ scope) iE && chkE c elt false (bGam Γ scope) eE)))))))
    | _ => false
  | .bi b es, tst, Γ, e => (match vCall e with
    | some (f, x :: xs, []) => Γ.calm && (freeB Γ f (biN b) && (!(x :: xs).any isStar && chkEs c es Γ (x :: xs)))
    | _ => false) || (match vSortSet e with
    | some (f, g, x) => decide (b = .sortedSet) && (Γ.calm && (freeB Γ f (some "sorted") && (freeB Γ g (some "set") && (!isStar x && chkEs c es Γ [x]))))
    | none => false)
  | .it b _ (.val a), tst, Γ, e => match vCall e with
    | some (f, [x], []) => Γ.calm && (freeB Γ f (btN b) && (!isStar x && chkE c a false Γ x))
    | _ => false
  | .new d g _ es, tst, Γ, e => match vCall e with
    | some (f, xs, []) => Γ.calm && (fnB c Γ f (.cls d) && ((match c.ci d with
      | some ci => decide (ci.init = g)
      | none => false) && (wayB c g (xs.length + 1, [], []) && (!xs.any isStar && (decide (es.len = xs.length) && (noSt es && chkEs c es Γ xs))))))
    | _ => false
  | .bm b o es, tst, Γ, e => match vMeth e with
    | some (eo, n, xs) => (decide (bmN b = some n) && (bmSh b es && (plainB eo && (chkE c o false Γ eo && chkEs c es Γ xs)))) ||
      (decide (bmG b = some n) && (Γ.calm && (plainB eo && (!xs.any isStar && (decide (0 < xs.length ∧ xs.length < 27) && (chkE c o false Γ eo && chkEs c es Γ xs))))))
    | _ => false
  | .isi a kn [kd], tst, Γ, e => match vCall e with
    | some (f, [x, y], []) => Γ.calm && (freeB Γ f (some "isinstance") && (!isStar x && (!isStar y && (kn.all (fun d => (c.ci d).isSome) && ((match kd with
      | .cls cc => fnB c Γ y (.cls cc) && (c.ci cc).isSome
      | kd => freeB Γ y (kdN kd)) && chkE c a false Γ x)))))
    | _ => false
  | .callv i alts es, tst, Γ, e => match vCall e with
    | some (f, xs, kws) => Γ.calm && (nameB Γ i f && (alts.all (fun p => wayB c p.1 (xs.length, kws.filterMap (·.arg), p.2) && p.2.all (fun i => decide (i < es.len))) && (!xs.any isStar && (decide (kwNames kws = (kws.filterMap (·.arg)).map some) && chkAs c es Γ xs kws))))
    | _ => false
  | .dc false _ own key val t i ifs, tst, Γ, e => match vDc e with
    | some (eK, eV, [⟨tg, it, iE, 0⟩], scope, _) => Γ.calm && (notSet it && (decide ((ownP Γ own).map (·.2) = own) && (blkC Γ.N Γ.sc scope (ownP Γ own) && ((namesT t).all (fun i => decide (i ∈ own)) && (chkI c i Γ tg it && (chkG t (bGam Γ scope) tg && (chkF c ifs (bGam Γ scope) iE && (chkE c key false (bGam Γ scope) eK && chkE c val false (bGam Γ scope) eV))))))))
    | _ => false
  | _, _, _, _ => false
def chkEs (c : Ck) : MEs → Gam → List Expr → Bool
  | .nil, _, [] => true
  | .cons false a r, Γ, e :: es => !isStar e && (chkE c a false Γ e && chkEs c r Γ es)
  | _, _, _ => false
def chkAs (c : Ck) : MEs → Gam → List Expr → List Keyword → Bool
  | .nil, _, [], [] => true
  | .cons _ a r, Γ, e :: es, kws => !isStar e && (argB a (chkE c a false Γ e) Γ e && chkAs c r Γ es kws)
  | .cons _ a r, Γ, [], ⟨_, e, _⟩ :: kws => argB a (chkE c a false Γ e) Γ e && chkAs c r Γ [] kws
  | _, _, _, _ => false
def chkF (c : Ck) : MEs → Gam → List Expr → Bool
  | .nil, _, [] => true
  | .cons _ a .nil, Γ, [e] => chkE c a true Γ e
  | _, _, _ => false
def chkI (c : Ck) : MI → Gam → Expr → Expr → Bool
  | .val a, Γ, _, e => chkE c a false Γ e
  | .rng1 a, Γ, _, e => match vCall e with
    | some (f, [x], []) => (match vNameP f with
      | some (y, _) => decide (y = rangeN) && (isGl Γ.sc rangeN && decide (Γ.G.lookup rangeN = some .free))
      | none => false) && (!isStar x && chkE c a false Γ x)
    | _ => false
  | .rng2 a b, Γ, _, e => match vCall e with
    | some (f, [x, y], []) => (match vNameP f with
      | some (y, _) => decide (y = rangeN) && (isGl Γ.sc rangeN && decide (Γ.G.lookup rangeN = some .free))
      | none => false) && (!isStar x && (!isStar y && (chkE c a false Γ x && chkE c b false Γ y)))
    | _ => false
  | .enum a k0, Γ, tg, e => match vCall e with
    | some (f, x :: ys, []) => freeB Γ f (some "enumerate") && ((vTup tg).isSome && (!isStar x && (chkE c a false Γ x && (match ys with
      | [] => decide (k0 = 0)
      | [y] => decide (vConst y = some (.int k0)) && decide (0 ≤ k0 ∧ k0 < 1073741824)
      | _ => false))))
    | _ => false
  | .zip a b, Γ, tg, e => match vCall e with
    | some (f, [x, y], []) => freeB Γ f (some "zip") && ((vTup tg).isSome && (!isStar x && (!isStar y && (chkE c a false Γ x && chkE c b false Γ y))))
    | _ => false
  | _, _, _, _ => false
end
end Py
end

section
set_option Elab.async false
set_option linter.all false
set_option maxRecDepth 100000
namespace Py
open PySem PySem.Spec PyProof.Rows L2
section
variable {W : Wd} {k : Nat} {ways : Nat → List Way}
abbrev ckO (W : Wd) (ways : Nat → List Way) : Ck := ⟨W.ci, W.T, ways⟩
def Snd (W : Wd) (k : Nat) (ways : Nat → List Way) (me : ME) : Prop := ∀ Γ e, (chkE (ckO W ways) me false Γ e = true → SE W k ways Γ me e) ∧
  (chkE (ckO W ways) me true Γ e = true → ST W k ways Γ me e ∧ ∀ o es p, e = .BoolOp o es p → SW W k ways Γ me e)
theorem both {me : ME} (base : ∀ t Γ e, chkE (ckO W ways) me t Γ e = true → SE W k ways Γ me e ∧ plainE e = true) : Snd W k ways me := fun Γ e =>
  ⟨fun h => (base _ _ _ h).1, fun h => ⟨t_val (base _ _ _ h).2 (base _ _ _ h).1, fun o es p he => by
    have := (base _ _ _ h).2
    subst he
    cases this⟩⟩
theorem name_of {Γ : Gam} {i : Nat} {e : Expr} (h : nameB Γ i e = true) : ∃ x p, e = .Name x p ∧ Γ.N[i]? = some x ∧ visB Γ.sc x = true ∧ plainN x = true := by
  unfold nameB at h
  cases q : vNameP e with
  | none => rw [q] at h; cases h
  | some z =>
    rw [q] at h
    simp only [Bool.and_eq_true, decide_eq_true_eq] at h
    exact ⟨z.1, z.2, vNameP_ok q, h.1, h.2.1, h.2.2⟩
theorem way_of {g : Nat} {y : Way} (h : wayB (ckO W ways) g y = true) : (∃ F, W.T g = some F) ∧ y ∈ ways g := by
  simp only [wayB, Bool.and_eq_true, decide_eq_true_eq] at h
  exact ⟨Option.isSome_iff_exists.mp h.1, h.2⟩
theorem freeB_of {Γ : Gam} {f : Expr} {o : Option Str} (h : freeB Γ f o = true) : ∃ x p, f = .Name x p ∧ o = some x ∧ isGl Γ.sc x = true ∧ Γ.G.lookup x = some .free := by
  unfold freeB at h
  cases q : vNameP f with
  | none => rw [q] at h; cases h
  | some z =>
    rw [q] at h
    simp only [Bool.and_eq_true, decide_eq_true_eq] at h
    exact ⟨z.1, z.2, vNameP_ok q, h.1, h.2.1, h.2.2⟩
theorem bi_any {b : Bi} {x : Str} (h : biN b = some x) : (∃ id, bootBuiltins x = some (.builtin id) ∧ ∀ X : Cx, X.calm = true → CallR X (.builtin id) (rBi W (biD b))) ∨
    (∃ id, bootBuiltins x = some (.type id) ∧ ∀ X : Cx, X.calm = true → CallR X (.type id) (rBi W (biD b))) := by
  cases b <;> simp only [biN, Option.some.injEq] at h <;> first | (cases h; done) | subst h
  · exact .inl ⟨_, rfl, fun _ _ => bi_len⟩
  · exact .inr ⟨_, rfl, fun _ _ => bi_int⟩
  · exact .inl ⟨_, rfl, fun _ _ => bi_abs⟩
  · exact .inl ⟨_, rfl, fun _ h => bi_max h⟩
  · exact .inl ⟨_, rfl, fun _ h => bi_min h⟩
  · exact .inl ⟨_, rfl, fun _ _ => bi_divmod⟩
theorem bt_any {b : Bt} {mu : Bool} {x : Str} (h : btN b = some x) : (∃ id, bootBuiltins x = some (.builtin id) ∧ ∀ X : Cx, X.calm = true → X.A.units + 70 < cLine → CallR X (.builtin id) (rIt W mu b)) ∨
    (∃ id, bootBuiltins x = some (.type id) ∧ ∀ X : Cx, X.calm = true → X.A.units + 70 < cLine → CallR X (.type id) (rIt W mu b)) := by
  cases b
  case dictD t =>
    cases t <;> simp only [btN, Option.some.injEq] at h <;> first | (cases h; done) | subst h
    exact .inr ⟨_, rfl, fun _ _ _ => it_dictD⟩
  case dictX t =>
    cases t <;> simp only [btN, Option.some.injEq] at h <;> first | (cases h; done) | subst h
    exact .inr ⟨_, rfl, fun _ h u => it_dictX h (by omega)⟩
  all_goals simp only [btN, Option.some.injEq] at h <;> first | (cases h; done) | subst h
  case tuple => exact .inr ⟨_, rfl, fun _ _ _ => it_tuple⟩
  case tupleD => exact .inr ⟨_, rfl, fun _ h _ => it_tupleD h⟩
  case tupleX => exact .inr ⟨_, rfl, fun _ h _ => it_tupleX h⟩
  case listD => exact .inr ⟨_, rfl, fun _ h _ => it_listD h⟩
  case listX => exact .inr ⟨_, rfl, fun _ h _ => it_listX h⟩
  case list => exact .inr ⟨_, rfl, fun _ h _ => it_list h⟩
  case dictL t => exact .inr ⟨_, rfl, fun _ h u => it_dictL h (by omega)⟩
  case dictT t => exact .inr ⟨_, rfl, fun _ h u => it_dictT h (by omega)⟩
  case sorted => exact .inl ⟨_, rfl, fun _ h u => it_sorted h u⟩
  case all => exact .inl ⟨_, rfl, fun _ h _ => it_all h⟩
  case any => exact .inl ⟨_, rfl, fun _ h _ => it_any h⟩
  case sum => exact .inl ⟨_, rfl, fun _ h _ => it_sum h⟩
  case max => exact .inl ⟨_, rfl, fun _ h _ => it_max h⟩
  case min => exact .inl ⟨_, rfl, fun _ h _ => it_min h⟩
theorem fnB_of {Γ : Gam} {f : Expr} {v : GV} (h : fnB (ckO W ways) Γ f v = true) : ∃ x p, f = .Name x p ∧ isGl Γ.sc x = true ∧ Γ.G.lookup x = some v := by
  unfold fnB at h
  cases q : vNameP f with
  | none => rw [q] at h; cases h
  | some z =>
    rw [q] at h
    simp only [Bool.and_eq_true, decide_eq_true_eq] at h
    exact ⟨z.1, z.2, vNameP_ok q, h.1, h.2⟩
theorem alts_of {alts : List (Nat × Nat)} (h : alts.all (fun p => (match W.ci p.1 with
        | some ci => decide (ci.eq = some p.2)
        | none => false) && wayB (ckO W ways) p.2 (2, [], [])) = true) : ∀ d g, alts.lookup d = some g → (∃ ci, W.ci d = some ci ∧ ci.eq = some g) ∧ (∃ F, W.T g = some F) ∧ (2, [], []) ∈ ways g := fun d g hg => by
  have := lookup_all (p := fun p => (match W.ci p.1 with
        | some ci => decide (ci.eq = some p.2)
        | none => false) && wayB (ckO W ways) p.2 (2, [], [])) h hg
  simp only [Bool.and_eq_true] at this
  obtain ⟨h1, h2⟩ := this
  refine ⟨?_, way_of h2⟩
  cases q : W.ci d with
  | none => rw [q] at h1; cases h1
  | some ci => rw [q] at h1; exact ⟨ci, rfl, by simpa using h1⟩
theorem r_eq {Γ : Gam} {neg : Bool} {alts : List (Nat × Nat)} {a b : ME} {ea eb : Expr} {p : Pos} (hc : Γ.calm = true) (hal : ∀ d g, alts.lookup d = some g → (∃ ci, W.ci d = some ci ∧ ci.eq = some g) ∧ (∃ F, W.T g = some F) ∧ (2, [], []) ∈ ways g) (ha : SE W k ways Γ a ea) (hb : SE W k ways Γ b eb) :
    SE W k ways Γ (.eq neg alts a b) (.Compare ea [if neg then .NotEq else .Eq] [eb] p) := fun X c E tk => by
  refine PEw (pe_cmpR (op_eqI (neg := neg) (alts := alts) c hc tk hal) (ha X c E tk) (hb X c E tk) (nobehind _ (by cases neg <;> decide) (by cases neg <;> decide))) fun σ H Q ⟨m, S, ρ, sr, er, h⟩ => ?_
  simp only [evE] at h
  exact two sr er h fun m H S x y dx dy sr rx ry h => ⟨m, S, dx, dy, sr, rx, ry, h⟩
theorem t_eq {Γ : Gam} {neg : Bool} {alts : List (Nat × Nat)} {a b : ME} {ea eb : Expr} {p : Pos} (hc : Γ.calm = true) (hal : ∀ d g, alts.lookup d = some g → (∃ ci, W.ci d = some ci ∧ ci.eq = some g) ∧ (∃ F, W.T g = some F) ∧ (2, [], []) ∈ ways g) (ha : SE W k ways Γ a ea) (hb : SE W k ways Γ b eb) :
    ST W k ways Γ (.eq neg alts a b) (.Compare ea [if neg then .NotEq else .Eq] [eb] p) := fun X c E tk => by
  refine PTw (pt_cmpR (op_eqI (neg := neg) (alts := alts) c hc tk hal) (ha X c E tk) (hb X c E tk) (nobehind _ (by cases neg <;> decide) (by cases neg <;> decide))) fun σ H Q ⟨m, S, ρ, sr, er, h⟩ => ?_
  simp only [evE] at h
  exact two sr er h fun m H S x y dx dy sr rx ry h => ⟨m, S, dx, dy, sr, rx, ry, h⟩
mutual
theorem sndG : ∀ (t : MT) (Γ : Gam) (e : Expr), chkG t Γ e = true → ∀ (k : Nat) (X : Cx), Ctx W k ways X Γ → PG X e (tG W t)
  | .nm i, Γ, e, h, k, X, c => by
    simp only [chkG] at h
    cases q : vNameP e with
    | none => rw [q] at h; cases h
    | some z =>
      rw [q] at h
      simp only [Bool.and_eq_true, decide_eq_true_eq] at h
      rw [vNameP_ok q]
      exact g_nm c h.1 h.2
  | .tup ts, Γ, e, h, k, X, c => by
    simp only [chkG] at h
    cases q : vTup e with
    | none => rw [q] at h; cases h
    | some z =>
      rw [q] at h
      simp only [Bool.and_eq_true, decide_eq_true_eq, Bool.not_eq_true'] at h
      obtain ⟨n, p, rfl⟩ := vTup_ok q
      exact g_tup (c.calm h.1).1 h.2.1 h.2.2.1 (sndGs ts Γ z h.2.2.2 k X c)
theorem sndGs : ∀ (ts : List MT) (Γ : Gam) (es : List Expr), chkGs ts Γ es = true → ∀ (k : Nat) (X : Cx), Ctx W k ways X Γ → PGs X es (tGs W ts)
  | [], Γ, [], _, _, X, _ => gs_nil
  | [], Γ, _ :: _, h, _, _, _ => by simp [chkGs] at h
  | t :: ts, Γ, [], h, _, _, _ => by simp [chkGs] at h
  | t :: ts, Γ, e :: es, h, k, X, c => by
    simp only [chkGs, Bool.and_eq_true, Bool.not_eq_true'] at h
    exact gs_cons h.1 (sndG t Γ e h.2.1 k X c) (sndGs ts Γ es h.2.2 k X c)
end
theorem arg_val {a : ME} {Γ : Gam} {e : Expr} (h : argB a (chkE (ckO W ways) a false Γ e) Γ e = true) (ih : Snd W k ways a) : (valA a = true ∧ SE W k ways Γ a e) ∨ ∃ i x p, a = .var i ∧ e = .Name x p ∧ Γ.N[i]? = some x ∧ visB Γ.sc x = true ∧ plainN x = true := by
  cases a
  case var i =>
    obtain ⟨x, p, h1, h2, h3, h4⟩ := name_of (show nameB Γ i e = true from h)
    exact .inr ⟨i, x, p, rfl, h1, h2, h3, h4⟩
  case lam => cases (show false = true from h)
  all_goals exact .inl ⟨rfl, (ih Γ e).1 h⟩
theorem len_app (a b : MEs) : (a.app b).len = a.len + b.len := by
  induction a using MEs.rec (motive_1 := fun _ => True) (motive_3 := fun _ => True) with
  | nil => simp [MEs.app, MEs.len]
  | cons s e r _ ih => simp only [MEs.app, MEs.len, ih]; omega
  | _ => trivial
theorem isi_kd {Γ : Gam} {kd : Kd} {y : Expr} (h : (match kd with
      | .cls cc => fnB (ckO W ways) Γ y (.cls cc) && (W.ci cc).isSome
      | kd => freeB Γ y (kdN kd)) = true) :
    (∃ x p2 T b, y = .Name x p2 ∧ kdV kd = some (T, b) ∧ isGl Γ.sc x = true ∧ Γ.G.lookup x = some .free ∧ bootBuiltins x = some (.type b)) ∨ ∃ x p2 cc ci, y = .Name x p2 ∧ kd = .cls cc ∧ isGl Γ.sc x = true ∧ Γ.G.lookup x = some (.cls cc) ∧ W.ci cc = some ci := by
  cases kd
  case cls cc =>
    simp only [Bool.and_eq_true] at h
    obtain ⟨x, p, rfl, h1, h2⟩ := fnB_of h.1
    obtain ⟨ci, hci⟩ := Option.isSome_iff_exists.mp h.2
    exact .inr ⟨x, p, cc, ci, rfl, rfl, h1, h2, hci⟩
  all_goals
    obtain ⟨x, p, rfl, h1, h2, h3⟩ := freeB_of h
    cases h1
    exact .inl ⟨_, _, _, _, rfl, rfl, h2, h3, rfl⟩
theorem bmG_ok {b : Bm} {Γ : Gam} {o : ME} {es : MEs} {eo : Expr} {n : Str} {xs : List Expr} {ap cp : Pos} (hn : bmG b = some n) (hc : Γ.calm = true) (hb : plainB eo = true) (hs : xs.any isStar = false) (hz : 0 < xs.length ∧ xs.length < 27) (hl : (ap.endLine == cp.line) = true) (ho : SE W k ways Γ o eo) (ha : SEs W k ways Γ es xs) :
    SE W k ways Γ (.bm b o es) (.Call (.Attribute eo n ap) xs [] cp) := by
  cases xs with
  | nil => exact absurd hz.1 (by simp)
  | cons x xs =>
    cases b <;> simp only [bmG, Option.some.injEq] at hn <;> first | (cases hn; done) | subst hn
    exact r_bmG hc F.plainAttrs_str F.slot_str_join F.type_str_join (fun _ _ _ => bm_join) (kind_str fun d h => by cases d <;> simp only [kindB] at h <;> first | exact ⟨_, rfl⟩ | cases h) hb hs hl (by have := hz.2; simp at this; omega) ho ha
set_option maxHeartbeats 2000000
mutual
theorem sndE : ∀ me : ME, Snd W k ways me
  | .var i => both fun t Γ e h => by
    simp only [chkE] at h
    obtain ⟨x, p, rfl, h1, h2, h3⟩ := name_of h
    exact ⟨r_var h1 h2 h3, rfl⟩
  | .cst d => both fun t Γ e h => by
    simp only [chkE] at h
    cases q : vConst e with
    | none => rw [q] at h; cases h
    | some z =>
      rw [q] at h
      obtain ⟨n, p, rfl⟩ := vConst_ok q
      exact ⟨r_cst (by simpa using h), rfl⟩
  | .glb d => both fun t Γ e h => by
    simp only [chkE] at h
    cases q : vNameP e with
    | none => rw [q] at h; cases h
    | some z =>
      rw [q] at h
      simp only [Bool.and_eq_true, decide_eq_true_eq] at h
      rw [vNameP_ok q]
      obtain ⟨v, h1, h2⟩ := Option.bind_eq_some_iff.mp h.2
      exact ⟨r_glb h.1 h1 h2, rfl⟩
  | .bin o a b => both fun t Γ e h => by
    simp only [chkE] at h
    cases q : vBin e with
    | none => rw [q] at h; cases h
    | some z =>
      rw [q] at h
      simp only [Bool.and_eq_true, decide_eq_true_eq] at h
      obtain ⟨p, rfl⟩ := vBin_ok q
      rw [h.1]
      exact ⟨r_bin ((sndE a Γ _).1 h.2.1) ((sndE b Γ _).1 h.2.2), rfl⟩
  | .neg a => both fun t Γ e h => by
    simp only [chkE] at h
    cases q : vUn e with
    | none => rw [q] at h; cases h
    | some z =>
      rw [q] at h
      simp only [Bool.and_eq_true, decide_eq_true_eq] at h
      obtain ⟨p, rfl⟩ := vUn_ok q
      rw [h.1]
      exact ⟨r_neg ((sndE a Γ _).1 h.2), rfl⟩
  | .cmp o a b => fun Γ e => by
    have key : ∀ t, chkE (ckO W ways) (.cmp o a b) t Γ e = true → ∃ ea eb p, e = .Compare ea [opC o] [eb] p ∧ behindInMarks (opC o) eb = false ∧ SE W k ways Γ a ea ∧ SE W k ways Γ b eb := fun t h => by
      simp only [chkE] at h
      split at h
      · rename_i ea op eb q
        simp only [Bool.and_eq_true, decide_eq_true_eq, Bool.not_eq_true'] at h
        obtain ⟨p, rfl⟩ := vCmp_ok q
        exact ⟨ea, eb, p, by rw [h.1], h.2.1, (sndE a Γ _).1 h.2.2.1, (sndE b Γ _).1 h.2.2.2⟩
      · cases h
    refine ⟨fun h => ?_, fun h => ?_⟩
    · obtain ⟨ea, eb, p, rfl, h1, h2, h3⟩ := key _ h
      exact r_cmp h1 h2 h3
    · obtain ⟨ea, eb, p, rfl, h1, h2, h3⟩ := key _ h
      exact ⟨t_cmp h1 h2 h3, fun _ _ _ z => by cases z⟩
  | .chn o1 o2 a b d => fun Γ e => by
    have key : ∀ t, chkE (ckO W ways) (.chn o1 o2 a b d) t Γ e = true → ∃ ea eb ed p, e = .Compare ea [opC o1, opC o2] [eb, ed] p ∧ lastMarks [opC o1, opC o2] [eb, ed] = false ∧ SE W k ways Γ a ea ∧ SE W k ways Γ b eb ∧ SE W k ways Γ d ed := fun t h => by
      simp only [chkE] at h
      split at h
      · rename_i ea p1 p2 eb ed q
        simp only [Bool.and_eq_true, decide_eq_true_eq, Bool.not_eq_true'] at h
        obtain ⟨p, rfl⟩ := vCmp_ok q
        exact ⟨ea, eb, ed, p, by rw [h.1, h.2.1], h.2.2.1, (sndE a Γ _).1 h.2.2.2.1, (sndE b Γ _).1 h.2.2.2.2.1, (sndE d Γ _).1 h.2.2.2.2.2⟩
      · cases h
    refine ⟨fun h => ?_, fun h => ?_⟩
    · obtain ⟨ea, eb, ed, p, rfl, h1, h2, h3, h4⟩ := key _ h
      exact r_chn h1 h2 h3 h4
    · obtain ⟨ea, eb, ed, p, rfl, h1, h2, h3, h4⟩ := key _ h
      exact ⟨t_chn h1 h2 h3 h4, fun _ _ _ z => by cases z⟩
  | .eq neg alts a b => fun Γ e => by
    have key : ∀ t, chkE (ckO W ways) (.eq neg alts a b) t Γ e = true → ∃ ea eb p, e = .Compare ea [if neg then .NotEq else .Eq] [eb] p ∧ Γ.calm = true ∧ (∀ d g, alts.lookup d = some g → (∃ ci, W.ci d = some ci ∧ ci.eq = some g) ∧ (∃ F, W.T g = some F) ∧ (2, [], []) ∈ ways g) ∧ SE W k ways Γ a ea ∧ SE W k ways Γ b eb := fun t h => by
      simp only [chkE] at h
      split at h
      · rename_i ea op eb q
        rw [Bool.and_eq_true, Bool.and_eq_true, Bool.and_eq_true, Bool.and_eq_true] at h
        obtain ⟨h1, h2, h3, h4, h5⟩ := h
        obtain ⟨p, rfl⟩ := vCmp_ok q
        exact ⟨ea, eb, p, by rw [of_decide_eq_true h1], h2, alts_of h3, (sndE a Γ _).1 h4, (sndE b Γ _).1 h5⟩
      · cases h
    refine ⟨fun h => ?_, fun h => ?_⟩
    · obtain ⟨ea, eb, p, rfl, h1, h2, h3, h4⟩ := key _ h
      exact r_eq h1 h2 h3 h4
    · obtain ⟨ea, eb, p, rfl, h1, h2, h3, h4⟩ := key _ h
      exact ⟨t_eq h1 h2 h3 h4, fun _ _ _ z => by cases z⟩
  | .and a b => fun Γ e => by
    refine ⟨fun h => ?_, fun h => ?_⟩
    · simp only [chkE] at h
      split at h
      · rename_i ea eb r p q
        rw [Bool.and_eq_true] at h
        rw [vBool_ok q]
        refine r_and ((sndE a Γ _).1 h.1) ?_
        split at h
        · rename_i hr
          obtain rfl : r = [] := by simpa using hr
          exact r_one ((sndE b Γ _).1 h.2)
        · rw [Bool.and_eq_true] at h
          exact (sndE b Γ _).1 h.2.2
      · cases h
    · simp only [chkE] at h
      split at h
      · rename_i ea eb r p q
        rw [Bool.and_eq_true] at h
        rw [vBool_ok q]
        have sw : SW W k ways Γ (.and a b) (.BoolOp .And (ea :: eb :: r) p) := by
          refine w_and ((sndE a Γ _).2 h.1).1 ?_
          split at h
          · rename_i hr
            obtain rfl : r = [] := by simpa using hr
            exact w_one ((sndE b Γ _).2 h.2).1
          · rw [Bool.and_eq_true] at h
            exact ((sndE b Γ _).2 h.2.2).2 _ _ _ rfl
        exact ⟨sw.t, fun _ _ _ _ => sw⟩
      · cases h
  | .or a b => fun Γ e => by
    refine ⟨fun h => ?_, fun h => ?_⟩
    · simp only [chkE] at h
      split at h
      · rename_i ea eb r p q
        rw [Bool.and_eq_true] at h
        rw [vBool_ok q]
        refine r_or ((sndE a Γ _).1 h.1) ?_
        split at h
        · rename_i hr
          obtain rfl : r = [] := by simpa using hr
          exact r_one ((sndE b Γ _).1 h.2)
        · rw [Bool.and_eq_true] at h
          exact (sndE b Γ _).1 h.2.2
      · cases h
    · simp only [chkE] at h
      split at h
      · rename_i ea eb r p q
        rw [Bool.and_eq_true] at h
        rw [vBool_ok q]
        have sw : SW W k ways Γ (.or a b) (.BoolOp .Or (ea :: eb :: r) p) := by
          refine w_or ((sndE a Γ _).2 h.1).1 ?_
          split at h
          · rename_i hr
            obtain rfl : r = [] := by simpa using hr
            exact w_one ((sndE b Γ _).2 h.2).1
          · rw [Bool.and_eq_true] at h
            exact ((sndE b Γ _).2 h.2.2).2 _ _ _ rfl
        exact ⟨sw.t, fun _ _ _ _ => sw⟩
      · cases h
  | .not a => fun Γ e => by
    have key : ∀ t, chkE (ckO W ways) (.not a) t Γ e = true → ∃ ea p, e = .UnaryOp .Not ea p ∧ chkE (ckO W ways) a t Γ ea = true := fun t h => by
      simp only [chkE] at h
      cases q : vUn e with
      | none => rw [q] at h; cases h
      | some z =>
        rw [q] at h
        simp only [Bool.and_eq_true, decide_eq_true_eq] at h
        obtain ⟨p, rfl⟩ := vUn_ok q
        exact ⟨z.2, p, by rw [h.1], h.2⟩
    refine ⟨fun h => ?_, fun h => ?_⟩
    · obtain ⟨ea, p, rfl, h1⟩ := key _ h
      exact r_not ((sndE a Γ _).1 h1)
    · obtain ⟨ea, p, rfl, h1⟩ := key _ h
      exact ⟨t_not ((sndE a Γ _).2 h1).1, fun _ _ _ z => by cases z⟩
  | .ite x a b => fun Γ e => by
    have key : ∀ t, chkE (ckO W ways) (.ite x a b) t Γ e = true → t = false ∧ SE W k ways Γ (.ite x a b) e := fun t h => by
      simp only [chkE] at h
      cases q : vIf e with
      | none => rw [q] at h; cases h
      | some z =>
        rw [q] at h
        simp only [Bool.and_eq_true, Bool.not_eq_true'] at h
        obtain ⟨p, rfl⟩ := vIf_ok q
        exact ⟨h.1, r_ite ((sndE x Γ _).2 h.2.1).1 ((sndE a Γ _).1 h.2.2.1) ((sndE b Γ _).1 h.2.2.2)⟩
    exact ⟨fun h => (key _ h).2, fun h => by cases (key _ h).1⟩
  | .tup es => both fun t Γ e h => by
    simp only [chkE] at h
    cases q : vTup e with
    | none => rw [q] at h; cases h
    | some z =>
      rw [q] at h
      obtain ⟨n, p, rfl⟩ := vTup_ok q
      exact ⟨r_tup (sndEs es Γ z h), rfl⟩
  | .lst mu es => both fun t Γ e h => by
    simp only [chkE] at h
    cases q : vLst e with
    | none => rw [q] at h; cases h
    | some z =>
      rw [q] at h
      obtain ⟨p, rfl⟩ := vLst_ok q
      exact ⟨r_lst (sndEs es Γ z h), rfl⟩
  | .dct t mu .nil .nil => both fun tst Γ e h => by
    simp only [chkE] at h
    split at h
    · exact ⟨r_dct0, rfl⟩
    · cases h
  | .idx a b => both fun t Γ e h => by
    simp only [chkE] at h
    cases q : vSub e with
    | none => rw [q] at h; cases h
    | some z =>
      rw [q] at h
      simp only [Bool.and_eq_true] at h
      obtain ⟨p, rfl⟩ := vSub_ok q
      exact ⟨r_idx h.1 ((sndE a Γ _).1 h.2.1) ((sndE b Γ _).1 h.2.2), rfl⟩
  | .slc a lo hi => both fun t Γ e h => by
    simp only [chkE] at h
    cases q : vSub e with
    | none => rw [q] at h; cases h
    | some z =>
      rw [q] at h
      simp only at h
      cases q2 : vSlc z.2 with
      | none => rw [q2] at h; cases h
      | some w =>
        rw [q2] at h
        simp only [Bool.and_eq_true] at h
        obtain ⟨p, rfl⟩ := vSub_ok q
        obtain ⟨p2, e2⟩ := vSlc_ok q2
        obtain ⟨z1, z2⟩ := z
        obtain ⟨w1, w2⟩ := w
        simp only at e2
        subst e2
        obtain ⟨h1, h2, h3⟩ := h
        refine ⟨r_slc ((sndE a Γ _).1 h1) ?_ ?_, rfl⟩
        · cases w1 with
          | none => exact h2
          | some x =>
            simp only [Bool.and_eq_true, Bool.not_eq_true'] at h2
            exact ⟨h2.1, (sndE lo Γ _).1 h2.2⟩
        · cases w2 with
          | none => exact h3
          | some x =>
            simp only [Bool.and_eq_true, Bool.not_eq_true'] at h3
            exact ⟨h3.1, (sndE hi Γ _).1 h3.2⟩
  | .attr a alts => both fun t Γ e h => by
    simp only [chkE] at h
    cases q : vAttr e with
    | none => rw [q] at h; cases h
    | some z =>
      rw [q] at h
      rw [Bool.and_eq_true, Bool.and_eq_true, Bool.and_eq_true, Bool.and_eq_true] at h
      obtain ⟨h1, h2, h3, h4, h5⟩ := h
      obtain ⟨p, rfl⟩ := vAttr_ok q
      refine ⟨r_attr h1 h2 h3 (fun c g hg => ?_) ((sndE a Γ _).1 h5), rfl⟩
      have := lookup_all (p := fun p : Nat × (Nat ⊕ Nat) => match p.2 with
        | .inr g => wayB (ckO W ways) g (1, [], [])
        | .inl _ => true) h4 hg
      exact way_of this
  | .call g kp es perm => both fun t Γ e h => by
    simp only [chkE] at h
    cases q : vCall e with
    | none => rw [q] at h; cases h
    | some z =>
      rw [q] at h
      rw [Bool.and_eq_true, Bool.and_eq_true, Bool.and_eq_true, Bool.and_eq_true, Bool.and_eq_true, Bool.and_eq_true] at h
      obtain ⟨h1, h2, h3, h4, h5, h6, h7⟩ := h
      obtain ⟨p, rfl⟩ := vCall_ok q
      obtain ⟨x, px, ef, g1, g2⟩ := fnB_of h2
      obtain ⟨⟨F, hF⟩, hway⟩ := way_of h3
      obtain ⟨es1, es2, e1, l1, l2, s1, s2⟩ := sndAs es Γ z.2.1 z.2.2 h7
      obtain ⟨z1, z2, z3⟩ := z
      try simp only at ef
      subst ef e1
      refine ⟨r_call h1 g1 g2 hF hway (by simpa using h4) (of_decide_eq_true h5) ?_ l1 l2 s1 s2, rfl⟩
      have hl : ∀ a b : MEs, (a.app b).len = a.len + b.len := by
        intro a b
        induction a using MEs.rec (motive_1 := fun _ => True) (motive_3 := fun _ => True) with
        | nil => simp [MEs.app, MEs.len]
        | cons s e r _ ih => simp only [MEs.app, MEs.len, ih]; omega
        | _ => trivial
      rw [← hl]
      exact h6
  | .lc mu own elt t i ifs => both fun tst Γ e h => by
    simp only [chkE] at h
    split at h
    · rename_i eE tg it iE scope pp q
      rw [Bool.and_eq_true, Bool.and_eq_true, Bool.and_eq_true, Bool.and_eq_true, Bool.and_eq_true, Bool.and_eq_true, Bool.and_eq_true, Bool.and_eq_true] at h
      obtain ⟨h1, h2, h3, h4, h5, h6, h7, h8, h9⟩ := h
      rw [vLc_ok q]
      refine ⟨r_lc h1 h2 (of_decide_eq_true h3) h4 (fun i hi => by simpa using List.all_eq_true.mp h5 i hi) (sndI i Γ _ _ h6) (fun X c => sndG t _ _ h7 k X c) (sndF ifs _ _ h8) ((sndE elt _ _).1 h9), rfl⟩
    · cases h
  | .isi a kn [kd] => both fun tst Γ e h => by
    simp only [chkE] at h
    split at h
    · rename_i f x y q
      rw [Bool.and_eq_true, Bool.and_eq_true, Bool.and_eq_true, Bool.and_eq_true, Bool.and_eq_true, Bool.and_eq_true] at h
      obtain ⟨h1, h2, h3, h4, h5, h6, h7⟩ := h
      obtain ⟨p, rfl⟩ := vCall_ok q
      obtain ⟨z, pz, ef, g1, g2, g3⟩ := freeB_of h2
      cases g1
      try simp only at ef
      subst ef
      refine ⟨r_isi h1 g2 g3 (by simpa using h3) (by simpa using h4) (fun d hd => ?_) (isi_kd h6) ((sndE a Γ _).1 h7), rfl⟩
      exact Option.isSome_iff_exists.mp (List.all_eq_true.mp h5 d hd)
    · cases h
  | .callv i alts es => both fun tst Γ e h => by
    simp only [chkE] at h
    cases q : vCall e with
    | none => rw [q] at h; cases h
    | some z =>
      rw [q] at h
      rw [Bool.and_eq_true, Bool.and_eq_true, Bool.and_eq_true, Bool.and_eq_true, Bool.and_eq_true] at h
      obtain ⟨h1, h2, h3, h4, h5, h6⟩ := h
      obtain ⟨p, rfl⟩ := vCall_ok q
      obtain ⟨x, px, ef, n1, n2, n3⟩ := name_of h2
      obtain ⟨es1, es2, e1, l1, l2, s1, s2⟩ := sndAs es Γ z.2.1 z.2.2 h6
      obtain ⟨z1, z2, z3⟩ := z
      try simp only at ef
      subst ef e1
      refine ⟨r_callv h1 n1 n2 n3 (fun g perm hg => ?_) (by simpa using h4) (of_decide_eq_true h5) l1 l2 s1 s2 (fun X m H np body caps v q => q), rfl⟩
      have := lookup_all (p := fun p : Nat × List Nat => wayB (ckO W ways) p.1 (z2.length, z3.filterMap (·.arg), p.2) && p.2.all (fun i => decide (i < (es1.app es2).len))) h3 hg
      rw [Bool.and_eq_true] at this
      obtain ⟨w1, w2⟩ := this
      obtain ⟨v1, v2⟩ := way_of w1
      rw [len_app] at w2
      exact ⟨v1, v2, w2⟩
  | .dc false mu own key val t i ifs => both fun tst Γ e h => by
    simp only [chkE] at h
    split at h
    · rename_i eK eV tg it iE scope pp q
      rw [Bool.and_eq_true, Bool.and_eq_true, Bool.and_eq_true, Bool.and_eq_true, Bool.and_eq_true, Bool.and_eq_true, Bool.and_eq_true, Bool.and_eq_true, Bool.and_eq_true] at h
      obtain ⟨h1, h2, h3, h4, h5, h6, h7, h8, h9, h10⟩ := h
      rw [vDc_ok q]
      refine ⟨r_dc h1 h2 (of_decide_eq_true h3) h4 (fun i hi => by simpa using List.all_eq_true.mp h5 i hi) (sndI i Γ _ _ h6) (fun X c => sndG t _ _ h7 k X c) (sndF ifs _ _ h8) ((sndE key _ _).1 h9) ((sndE val _ _).1 h10), rfl⟩
    · cases h
  | .bi b es => both fun tst Γ e h => by
    simp only [chkE] at h
    rcases Bool.or_eq_true_iff.mp h with h | h
    · split at h
      · rename_i f x xs q
        rw [Bool.and_eq_true, Bool.and_eq_true, Bool.and_eq_true] at h
        obtain ⟨h1, h2, h3, h4⟩ := h
        obtain ⟨p, rfl⟩ := vCall_ok q
        obtain ⟨y, py, ef, g1, g2, g3⟩ := freeB_of h2
        subst ef
        rcases bi_any (W := W) g1 with ⟨id, b1, b2⟩ | ⟨id, b1, b2⟩
        · exact ⟨r_callB h1 g2 g3 b1 b2 (by simpa using h3) (sndEs es Γ (x :: xs) h4), rfl⟩
        · exact ⟨r_callT h1 g2 g3 b1 b2 (by simpa using h3) (sndEs es Γ (x :: xs) h4), rfl⟩
      · cases h
    · cases q : vSortSet e with
      | none => rw [q] at h; cases h
      | some z =>
      rw [q] at h
      obtain ⟨f, g, x⟩ := z
      rw [Bool.and_eq_true, Bool.and_eq_true, Bool.and_eq_true, Bool.and_eq_true, Bool.and_eq_true] at h
      obtain ⟨h0, h1, h2, h3, h4, h5⟩ := h
      obtain ⟨p1, p2, rfl⟩ := vSortSet_ok q
      obtain ⟨y, py, ef, g1, g2, g3⟩ := freeB_of h2
      obtain ⟨z, pz, eg, g4, g5, g6⟩ := freeB_of h3
      cases g1; cases g4
      cases of_decide_eq_true h0
      try simp only at ef eg
      subst ef eg
      have hl := sndEl es Γ [x] h5
      match es, hl with
      | .cons false a .nil, hl =>
        simp only [SEl] at hl
        exact ⟨r_sortSet h1 g2 g3 g5 g6 (by simpa using h4) hl.2.1, rfl⟩
  | .it b mu (.val a) => both fun tst Γ e h => by
    simp only [chkE] at h
    split at h
    · rename_i f x q
      rw [Bool.and_eq_true, Bool.and_eq_true, Bool.and_eq_true] at h
      obtain ⟨h1, h2, h3, h4⟩ := h
      obtain ⟨p, rfl⟩ := vCall_ok q
      obtain ⟨y, py, ef, g1, g2, g3⟩ := freeB_of h2
      subst ef
      rcases bt_any (W := W) (mu := mu) g1 with ⟨id, b1, b2⟩ | ⟨id, b1, b2⟩
      · exact ⟨r_itB h1 g2 g3 b1 b2 (by simpa using h3) ((sndE a Γ _).1 h4), rfl⟩
      · exact ⟨r_itT h1 g2 g3 b1 b2 (by simpa using h3) ((sndE a Γ _).1 h4), rfl⟩
    · cases h
  | .new d g mu es => both fun tst Γ e h => by
    simp only [chkE] at h
    split at h
    · rename_i f xs q
      rw [Bool.and_eq_true, Bool.and_eq_true, Bool.and_eq_true, Bool.and_eq_true, Bool.and_eq_true, Bool.and_eq_true, Bool.and_eq_true] at h
      obtain ⟨h1, h2, h3, h4, h5, h6, h7, h8⟩ := h
      obtain ⟨p, rfl⟩ := vCall_ok q
      obtain ⟨y, py, ef, g1, g2⟩ := fnB_of h2
      subst ef
      obtain ⟨⟨F, hF⟩, hway⟩ := way_of h4
      cases q2 : W.ci d with
      | none => rw [q2] at h3; cases h3
      | some ci =>
        rw [q2] at h3
        exact ⟨r_new h1 g1 g2 q2 (of_decide_eq_true h3) hF hway (by simpa using h5) (of_decide_eq_true h6) h7 (sndEs es Γ xs h8), rfl⟩
    · cases h
  | .bm b o es => both fun tst Γ e h => by
    simp only [chkE] at h
    split at h
    · rename_i eo n xs q
      rw [Bool.or_eq_true] at h
      obtain ⟨ap, cp, rfl, hl⟩ := vMeth_ok q
      rcases h with h | h
      · rw [Bool.and_eq_true, Bool.and_eq_true, Bool.and_eq_true, Bool.and_eq_true] at h
        obtain ⟨h1, h2, h3, h4, h5⟩ := h
        exact ⟨r_bm (of_decide_eq_true h1) h2 h3 hl ((sndE o Γ _).1 h4) (sndEl es Γ xs h5), rfl⟩
      · rw [Bool.and_eq_true, Bool.and_eq_true, Bool.and_eq_true, Bool.and_eq_true, Bool.and_eq_true, Bool.and_eq_true] at h
        obtain ⟨h1, h2, h3, h4, h5, h6, h7⟩ := h
        exact ⟨bmG_ok (of_decide_eq_true h1) h2 h3 (by simpa using h4) (of_decide_eq_true h5) hl ((sndE o Γ _).1 h6) (sndEs es Γ xs h7), rfl⟩
    · cases h
  | .no | .rev .. | .meth .. | .it _ _ (.rng1 _) | .it _ _ (.rng2 _ _) | .it _ _ (.enum _ _) | .it _ _ (.zip _ _) | .it _ _ (.zip3 _ _ _) | .it _ _ (.items _) | .it _ _ (.vals _) | .lc2 .. | .dct _ _ .nil (.cons _ _ _) | .dct _ _ (.cons _ _ _) _ | .dc true .. | .dc2 .. | .minKey .. | .lam .. | .fstr .. | .isi _ _ [] | .isi _ _ (_ :: _ :: _) | .isx .. | .xfld .. => both fun t Γ e h => by
    simp only [chkE] at h
    cases h
theorem sndEl : ∀ (es : MEs) (Γ : Gam) (xs : List Expr), chkEs (ckO W ways) es Γ xs = true → SEl W k ways Γ es xs
  | .nil, Γ, [], _ => trivial
  | .nil, Γ, _ :: _, h => by simp [chkEs] at h
  | .cons b a r, Γ, [], h => by cases b <;> simp [chkEs] at h
  | .cons true a r, Γ, x :: xs, h => by simp [chkEs] at h
  | .cons false a r, Γ, x :: xs, h => by
    simp only [chkEs, Bool.and_eq_true, Bool.not_eq_true'] at h
    simp only [SEl]
    exact ⟨h.1, (sndE a Γ x).1 h.2.1, sndEl r Γ xs h.2.2⟩
theorem sndEs : ∀ (es : MEs) (Γ : Gam) (xs : List Expr), chkEs (ckO W ways) es Γ xs = true → SEs W k ways Γ es xs
  | .nil, Γ, [], _ => s_nil
  | .nil, Γ, _ :: _, h => by simp [chkEs] at h
  | .cons b a r, Γ, [], h => by cases b <;> simp [chkEs] at h
  | .cons true a r, Γ, x :: xs, h => by simp [chkEs] at h
  | .cons false a r, Γ, x :: xs, h => by
    simp only [chkEs, Bool.and_eq_true, Bool.not_eq_true'] at h
    exact s_cons h.1 ((sndE a Γ x).1 h.2.1) (sndEs r Γ xs h.2.2)
theorem sndAs : ∀ (es : MEs) (Γ : Gam) (xs : List Expr) (kws : List Keyword), chkAs (ckO W ways) es Γ xs kws = true → ∃ es1 es2, es = MEs.app es1 es2 ∧ es1.len = xs.length ∧ es2.len = kws.length ∧ SAs W k ways Γ es1 xs ∧ SKs W k ways Γ es2 kws
  | .nil, Γ, [], [], _ => ⟨.nil, .nil, rfl, rfl, rfl, a_nil, k_nil⟩
  | .nil, Γ, _ :: _, _, h => by simp [chkAs] at h
  | .nil, Γ, [], _ :: _, h => by simp [chkAs] at h
  | .cons b a r, Γ, [], [], h => by simp [chkAs] at h
  | .cons b a r, Γ, x :: xs, kws, h => by
    simp only [chkAs] at h
    rw [Bool.and_eq_true, Bool.and_eq_true] at h
    obtain ⟨h1, h2, h3⟩ := h
    obtain ⟨e1, e2, rfl, l1, l2, s1, s2⟩ := sndAs r Γ xs kws h3
    have h1 : isStar x = false := by simpa using h1
    refine ⟨.cons b a e1, e2, rfl, by simp [MEs.len, l1], l2, ?_, s2⟩
    rcases arg_val h2 (sndE a) with ⟨hv, hs⟩ | ⟨i, y, p, rfl, rfl, n1, n2, n3⟩
    · exact a_cons h1 hv hs s1
    · exact a_var n1 n2 n3 s1
  | .cons b a r, Γ, [], ⟨nm, x, p⟩ :: kws, h => by
    simp only [chkAs] at h
    rw [Bool.and_eq_true] at h
    obtain ⟨h2, h3⟩ := h
    obtain ⟨e1, e2, rfl, l1, l2, s1, s2⟩ := sndAs r Γ [] kws h3
    have he : e1 = .nil := by
      cases e1 with
      | nil => rfl
      | cons _ _ _ => simp [MEs.len] at l1
    subst he
    refine ⟨.nil, .cons b a e2, rfl, rfl, by simp [MEs.len, l2], a_nil, ?_⟩
    rcases arg_val h2 (sndE a) with ⟨hv, hs⟩ | ⟨i, y, p, rfl, rfl, n1, n2, n3⟩
    · exact k_cons hv hs s2
    · exact k_var n1 n2 n3 s2
theorem sndF : ∀ (es : MEs) (Γ : Gam) (xs : List Expr), chkF (ckO W ways) es Γ xs = true → SF W k ways Γ es xs
  | .nil, Γ, [], _ => f_nil
  | .nil, Γ, _ :: _, h => by simp [chkF] at h
  | .cons b a .nil, Γ, [x], h => by
    simp only [chkF] at h
    exact f_one ((sndE a Γ x).2 h).1
  | .cons b a .nil, Γ, [], h => by simp [chkF] at h
  | .cons b a .nil, Γ, _ :: _ :: _, h => by simp [chkF] at h
  | .cons b a (.cons _ _ _), Γ, _, h => by simp [chkF] at h
theorem sndI : ∀ (i : MI) (Γ : Gam) (tg e : Expr), chkI (ckO W ways) i Γ tg e = true → SI W k ways Γ i tg e
  | .val a, Γ, tg, e, h => by
    simp only [chkI] at h
    exact i_val ((sndE a Γ e).1 h)
  | .rng1 a, Γ, tg, e, h => by
    simp only [chkI] at h
    split at h
    · rename_i f x q
      rw [Bool.and_eq_true, Bool.and_eq_true] at h
      obtain ⟨h1, h2, h3⟩ := h
      obtain ⟨p, rfl⟩ := vCall_ok q
      cases qn : vNameP f with
      | none => rw [qn] at h1; cases h1
      | some z =>
        rw [qn] at h1
        simp only [Bool.and_eq_true, decide_eq_true_eq] at h1
        have := vNameP_ok qn
        rw [h1.1] at this
        simp only
        rw [this]
        exact i_rng1 h1.2.1 h1.2.2 (by simpa using h2) ((sndE a Γ x).1 h3)
    · cases h
  | .rng2 a b, Γ, tg, e, h => by
    simp only [chkI] at h
    split at h
    · rename_i f x y q
      rw [Bool.and_eq_true, Bool.and_eq_true, Bool.and_eq_true, Bool.and_eq_true] at h
      obtain ⟨h1, h2, h3, h4, h5⟩ := h
      obtain ⟨p, rfl⟩ := vCall_ok q
      cases qn : vNameP f with
      | none => rw [qn] at h1; cases h1
      | some z =>
        rw [qn] at h1
        simp only [Bool.and_eq_true, decide_eq_true_eq] at h1
        have := vNameP_ok qn
        rw [h1.1] at this
        simp only
        rw [this]
        exact i_rng2 h1.2.1 h1.2.2 (by simpa using h2) (by simpa using h3) ((sndE a Γ x).1 h4) ((sndE b Γ y).1 h5)
    · cases h
  | .enum a k0, Γ, tg, e, h => by
    simp only [chkI] at h
    split at h
    · rename_i f x ys q
      rw [Bool.and_eq_true, Bool.and_eq_true, Bool.and_eq_true, Bool.and_eq_true] at h
      obtain ⟨h1, h2, h3, h4, h5⟩ := h
      obtain ⟨p, rfl⟩ := vCall_ok q
      obtain ⟨z, pz, ef, g1, g2, g3⟩ := freeB_of h1
      cases g1
      try simp only at ef
      subst ef
      obtain ⟨ts, qt⟩ := Option.isSome_iff_exists.mp h2
      obtain ⟨n, pt, rfl⟩ := vTup_ok qt
      split at h5
      · cases of_decide_eq_true h5
        exact i_enum1 g2 g3 (by simpa using h3) ((sndE a Γ _).1 h4)
      · rw [Bool.and_eq_true] at h5
        obtain ⟨n', p', rfl⟩ := vConst_ok (of_decide_eq_true h5.1)
        exact i_enum2 g2 g3 (by simpa using h3) (of_decide_eq_true h5.2) ((sndE a Γ _).1 h4)
      · cases h5
    · cases h
  | .zip a b, Γ, tg, e, h => by
    simp only [chkI] at h
    split at h
    · rename_i f x y q
      rw [Bool.and_eq_true, Bool.and_eq_true, Bool.and_eq_true, Bool.and_eq_true, Bool.and_eq_true] at h
      obtain ⟨h1, h2, h3, h4, h5, h6⟩ := h
      obtain ⟨p, rfl⟩ := vCall_ok q
      obtain ⟨z, pz, ef, g1, g2, g3⟩ := freeB_of h1
      cases g1
      try simp only at ef
      subst ef
      obtain ⟨ts, qt⟩ := Option.isSome_iff_exists.mp h2
      obtain ⟨n, pt, rfl⟩ := vTup_ok qt
      exact i_zip g2 g3 (by simpa using h3) (by simpa using h4) ((sndE a Γ _).1 h5) ((sndE b Γ _).1 h6)
    · cases h
  | .zip3 .., Γ, tg, e, h | .items .., Γ, tg, e, h | .vals .., Γ, tg, e, h => by
    simp [chkI] at h
end
end
end Py
end

section
set_option Elab.async false
set_option linter.all false
set_option maxRecDepth 100000
namespace Py
open PySem PySem.Spec PyProof.Rows L2
/-! ### statements, checked -/
def bothTup : Expr → Expr → Bool
  | .Tuple .., .Tuple .. => true
  | .List .., .Tuple .. => true
  | _, _ => false
theorem sw_none {tg e : Expr} (h : bothTup tg e = false) (env : PySem.Env) : swappedStores [tg] e env = pure none := by
  cases tg <;> cases e <;> first | rfl | cases h
/-- not all targets are local names (on one line) -/
def notLoc (sc : Scope) (ts : List Expr) : Bool := ts.any fun t => match t with
  | .Name x _ => !decide (sc.names.lookup x = some .local)
  | _ => true
theorem filter_lt {α β : Type} {f : α → Option β} : ∀ {l : List α}, (∃ a ∈ l, f a = none) → (l.filterMap f).length ≠ l.length
  | [], ⟨_, h, _⟩ => by cases h
  | x :: l, ⟨a, h, e⟩ => by
    have hle : ∀ l : List α, (l.filterMap f).length ≤ l.length := fun l => List.length_filterMap_le f l
    rcases List.mem_cons.mp h with rfl | h
    · rw [List.filterMap_cons, e]
      have := hle l
      simp only [List.length_cons]
      omega
    · have ih := filter_lt (f := f) (l := l) ⟨a, h, e⟩
      rw [List.filterMap_cons]
      cases q : f x with
      | none =>
        have := hle l
        simp only [List.length_cons]
        omega
      | some y =>
        simp only [List.length_cons]
        omega
theorem sw_tup {ts vs : List Expr} {n n2 : Nat} {p p2 : Pos} {env : PySem.Env} {sc : Scope} (he : env.scope = sc) (h : notLoc sc ts = true) : swappedStores [.Tuple ts n p] (.Tuple vs n2 p2) env = pure none := by
  unfold swappedStores
  simp only [pure_bind]
  split
  · rfl
  · split
    · rfl
    · rw [if_pos]
      simp only [bne_iff_ne, ne_eq, Bool.or_eq_true]
      left
      refine filter_lt ?_
      unfold notLoc at h
      obtain ⟨t, ht, hn⟩ := List.any_eq_true.mp h
      refine ⟨t, ht, ?_⟩
      cases t <;> try rfl
      rename_i x px
      simp only [Bool.not_eq_true', decide_eq_false_iff_not] at hn
      have : (env.kindOf x == some .local) = false := by
        unfold Env.kindOf
        rw [he]
        exact beq_eq_false_iff_ne.mpr hn
      simp only [this, Bool.false_and, Bool.false_eq_true, if_false]
theorem sw_par {x y : Str} {px py pt pt2 : Pos} {kt k2 : Nat} {ea eb : Expr} {env : PySem.Env} {sc : Scope} (he : env.scope = sc) (hk : sc.kind = .function) (hx : sc.names.lookup x = some .local) (hy : sc.names.lookup y = some .local) (hl : py.line = px.line) (hne : x ≠ y) (h1 : isStar ea = false) (h2 : isStar eb = false)
    (hf : ([ea, eb].all (foldedForSure 8)) = false) (hc : ([ea, eb].all (constantsAlone 8)) = false) : swappedStores [.Tuple [.Name x px, .Name y py] kt pt] (.Tuple [ea, eb] k2 pt2) env = pure (some [x, y]) := by
  have hb : env.blockKind = .function := by unfold Env.blockKind; rw [he, hk]; rfl
  have k1 : env.kindOf x = some .local := by unfold Env.kindOf; rw [he]; exact hx
  have k2 : env.kindOf y = some .local := by unfold Env.kindOf; rw [he]; exact hy
  have hst : ([ea, eb].any fun | .Starred .. => true | _ => false) = false := by
    have one : ∀ e : Expr, (match e with
      | .Starred .. => true
      | _ => false) = isStar e := fun e => by cases e <;> rfl
    rw [List.any_cons, List.any_cons, List.any_nil, one, one, h1, h2]
    rfl
  have hd : ([x, y] : List Str).eraseDups = [x, y] := by
    have : (y == x) = false := beq_eq_false_iff_ne.mpr (Ne.symm hne)
    simp [List.eraseDups_cons, this]
  unfold swappedStores
  simp only [pure_bind, List.length_cons, List.length_nil, hb]
  simp only [hst, k1, k2, Expr.pos, hl, List.filterMap_cons, List.filterMap_nil, List.head?_cons, Option.map_some, Option.getD_some, beq_self_eq_true, Bool.and_self, if_true, List.length_cons, List.length_nil, hd, hf, hc]
  have m1 : ∀ e : Expr, isStar e = false → ¬ ((match e with
      | .Starred .. => true
      | _ => false) = true) := fun e h q => by
    cases e <;> first | (cases (show true = false from h); done) | cases (show false = true from q)
  simp
  exact fun hq => (hq.elim (m1 ea h1) (m1 eb h2)).elim
def noLocalSw {elt : Expr} : True := trivial
theorem sw_cell {e : Expr} {t : Str} {p : Pos} {l : Nat} {env : PySem.Env} {sc : Scope} (he : env.scope = sc) (h : sc.names.lookup t ≠ some .local) : swapsWith e (some (.Name t p)) l env = pure false := by
  have hk : (env.kindOf t == some .local) = false := by
    unfold Env.kindOf
    rw [he]
    exact beq_eq_false_iff_ne.mpr h
  cases e <;> first | rfl | skip
  all_goals
    unfold swapsWith
    simp only [hk, Bool.and_false, Bool.false_and]
    try rfl
mutual
def chkM (c : Ck) : MG → Gam → Expr → Bool
  | .nm i, Γ, e => match vNameP e with
    | some (x, _) => decide (Γ.N[i]? = some x) && locB Γ x
    | none => false
  | .tup gs, Γ, e => match vTup e with
    | some es => Γ.calm && (!es.any isStar && (decide (gs.length = es.length) && chkMs c gs Γ es))
    | none => false
  | .sub a b, Γ, e => match vSub e with
    | some (ea, eb) => noSlice eb && (chkE c a false Γ ea && chkE c b false Γ eb)
    | none => false
  | .fld _ _, _, _ => false
def chkMs (c : Ck) : List MG → Gam → List Expr → Bool
  | [], _, [] => true
  | g :: gs, Γ, e :: es => !isStar e && (chkM c g Γ e && chkMs c gs Γ es)
  | _, _, _ => false
end
/-- target = value, plainly -/
def swB (Γ : Gam) (tg e : Expr) : Bool := !isStar tg && ((noComp e || (match vNameP tg with
    | some (x, _) => !decide (Γ.sc.names.lookup x = some .local)
    | none => false)) && (!bothTup tg e || (match vTup tg with
    | some ts => notLoc Γ.sc ts && (vTup e).isSome
    | none => false)))
def lcB (c : Ck) (Γ : Gam) (g : MG) (a : ME) (tg e : Expr) : Bool := match g, a, vNameP tg, vLc e with
  | .nm ix, .lc _ own elt t i ifs, some (y, py), some (eE, [⟨tg, it, iE, 0⟩], scope, pos) => decide (Γ.N[ix]? = some y) && (decide (Γ.sc.names.lookup y = some .local) && (decide (Γ.sc.kind = .function) && ((py.line == pos.line) && (!(scope.names.any fun (n, k) => n == y && (k == .local || k == .cell)) &&
      (Γ.calm && (notSet it && (decide ((ownP Γ own).map (·.2) = own) && (blkC Γ.N Γ.sc scope (ownP Γ own) && ((namesT t).all (fun i => decide (i ∈ own)) && (chkI c i Γ tg it && (chkG t (bGam Γ scope) tg && (chkF c ifs (bGam Γ scope) iE && chkE c elt false (bGam Γ scope) eE))))))))))))
  | _, _, _, _ => false
def parB (c : Ck) (Γ : Gam) (i j : Nat) (a b : ME) (tg e : Expr) : Bool := match vTup tg, vTup e with
  | some [t1, t2], some [ea, eb] => match vNameP t1, vNameP t2 with
    | some (x, px), some (y, py) => Γ.calm && (decide (Γ.N[i]? = some x) && (decide (Γ.N[j]? = some y) && (decide (i ≠ j) && (decide (Γ.sc.kind = .function) && (decide (Γ.sc.names.lookup x = some .local) && (decide (Γ.sc.names.lookup y = some .local) && (decide (py.line = px.line) && (decide (x ≠ y) && (!isStar ea && (!isStar eb &&
        (!([ea, eb].all (foldedForSure 8)) && (!([ea, eb].all (constantsAlone 8)) && (chkE c a false Γ ea && chkE c b false Γ eb)))))))))))))
    | _, _ => false
  | _, _ => false
mutual
def chkS (c : Ck) : MS → Gam → Stmt → Bool
  | .nev, _, _ => true
  | .pass, _, st => match st with
    | .Pass _ => true
    | _ => false
  | .brk, _, st => match st with
    | .Break _ => true
    | _ => false
  | .cont, _, st => match st with
    | .Continue _ => true
    | _ => false
  | .retN, _, st => match st with
    | .Return none _ => true
    | _ => false
  | .ret a, Γ, st => match vRet st with
    | some e => chkE c a false Γ e
    | none => false
  | .ex a, Γ, st => match vEx st with
    | some e => noComp e && chkE c a false Γ e
    | none => false
  | .ife a A B, Γ, st => match vIfS st with
    | some (e, as, bs) => chkE c a true Γ e && (chkB c A Γ as && chkB c B Γ bs)
    | none => false
  | .for_ t i b, Γ, st => match vFor st with
    | some (tg, it, sts) => Γ.calm && (notSet it && (chkI c i Γ tg it && (chkG t Γ tg && chkB c b Γ sts)))
    | none => false
  | .whl a b, Γ, st => match vWhl st with
    | some (e, sts) => chkE c a true Γ e && chkB c b Γ sts
    | none => false
  | .asg g a, Γ, st => match vAsg st with
    | some (tg, e, _) => match g with
      | .fld o cs => (match vAttr tg with
        | some (eo, f) => noComp e && (cs.all (fun p => altB c.ci f (p.1, .inl p.2)) && (chkE c o false Γ eo && chkE c a false Γ e))
        | none => false)
      | g => lcB c Γ g a tg e || (swB Γ tg e && (chkM c g Γ tg && chkE c a false Γ e))
    | none => false
  | .par i j a b, Γ, st => match vAsg st with
    | some (tg, e, _) => parB c Γ i j a b tg e
    | none => false
  | _, _, _ => false
def chkB (c : Ck) : MB → Gam → List Stmt → Bool
  | .nil, _, [] => true
  | .cons s r, Γ, st :: sts => chkS c s Γ st && chkB c r Γ sts
  | _, _, _ => false
end
section
variable {W : Wd} {k : Nat} {ways : Nat → List Way}
mutual
theorem sndM : ∀ (g : MG) (Γ : Gam) (e : Expr), chkM (ckO W ways) g Γ e = true → SG W k ways Γ g e
  | .nm i, Γ, e, h => by
    simp only [chkM] at h
    cases q : vNameP e with
    | none => rw [q] at h; cases h
    | some z =>
      rw [q] at h
      simp only [Bool.and_eq_true, decide_eq_true_eq] at h
      rw [vNameP_ok q]
      exact m_nm h.1 h.2
  | .tup gs, Γ, e, h => by
    simp only [chkM] at h
    cases q : vTup e with
    | none => rw [q] at h; cases h
    | some z =>
      rw [q] at h
      simp only [Bool.and_eq_true, decide_eq_true_eq, Bool.not_eq_true'] at h
      obtain ⟨n, p, rfl⟩ := vTup_ok q
      exact m_tup h.1 h.2.1 h.2.2.1 (sndMs gs Γ z h.2.2.2)
  | .sub a b, Γ, e, h => by
    simp only [chkM] at h
    cases q : vSub e with
    | none => rw [q] at h; cases h
    | some z =>
      rw [q] at h
      simp only [Bool.and_eq_true] at h
      obtain ⟨p, rfl⟩ := vSub_ok q
      exact m_sub h.1 ((sndE a Γ _).1 h.2.1) ((sndE b Γ _).1 h.2.2)
  | .fld _ _, Γ, e, h => by simp [chkM] at h
theorem sndMs : ∀ (gs : List MG) (Γ : Gam) (es : List Expr), chkMs (ckO W ways) gs Γ es = true → SGs W k ways Γ gs es
  | [], Γ, [], _ => ms_nil
  | [], Γ, _ :: _, h => by simp [chkMs] at h
  | g :: gs, Γ, [], h => by simp [chkMs] at h
  | g :: gs, Γ, e :: es, h => by
    simp only [chkMs, Bool.and_eq_true, Bool.not_eq_true'] at h
    exact ms_cons h.1 (sndM g Γ e h.2.1) (sndMs gs Γ es h.2.2)
end
theorem sw_of {Γ : Gam} {tg e : Expr} (h : swB Γ tg e = true) (l : Nat) : isStar tg = false ∧ (∀ X, Ctx W k ways X Γ → swapsWithSole [tg] e l X.env = pure false) ∧ ∀ X, Ctx W k ways X Γ → swappedStores [tg] e X.env = pure none := by
  unfold swB at h
  rw [Bool.and_eq_true, Bool.and_eq_true] at h
  obtain ⟨h1, h2, h3⟩ := h
  refine ⟨by simpa using h1, fun X c => ?_, fun X c => ?_⟩
  · show swapsWith e (some tg) l X.env = pure false
    rcases Bool.or_eq_true_iff.mp h2 with z | z
    · exact sw_no z _ _ _
    · cases q : vNameP tg with
      | none => rw [q] at z; cases z
      | some w =>
        rw [q] at z
        rw [vNameP_ok q]
        exact sw_cell c.sc (by simpa using z)
  · rcases Bool.or_eq_true_iff.mp h3 with z | z
    · exact sw_none (by simpa using z) _
    · cases q : vTup tg with
      | none => rw [q] at z; cases z
      | some ts =>
        rw [q] at z
        simp only [Bool.and_eq_true] at z
        obtain ⟨n, p, rfl⟩ := vTup_ok q
        obtain ⟨vs, qv⟩ := Option.isSome_iff_exists.mp z.2
        obtain ⟨n2, p2, rfl⟩ := vTup_ok qv
        exact sw_tup c.sc z.1
theorem asg_plain {Γ : Gam} {g : MG} {a : ME} {tg e : Expr} {p : Pos} (h : (lcB (ckO W ways) Γ g a tg e || (swB Γ tg e && (chkM (ckO W ways) g Γ tg && chkE (ckO W ways) a false Γ e))) = true) : SS W k ways Γ (.asg g a) (.Assign [tg] e p) := by
  rcases Bool.or_eq_true_iff.mp h with h | h
  · unfold lcB at h
    split at h
    · rename_i ix mu own elt t i ifs y py eE tg' it iE scope pos q1 q2 qx
      rw [Bool.and_eq_true, Bool.and_eq_true, Bool.and_eq_true, Bool.and_eq_true, Bool.and_eq_true, Bool.and_eq_true, Bool.and_eq_true, Bool.and_eq_true, Bool.and_eq_true, Bool.and_eq_true, Bool.and_eq_true, Bool.and_eq_true, Bool.and_eq_true] at h
      obtain ⟨h1, h2, h3, h4, h5, h6, h7, h8, h9, h10, h11, h12, h13, h14⟩ := h
      rw [vNameP_ok q1, vLc_ok q2]
      exact s_setLc h6 (of_decide_eq_true h1) (of_decide_eq_true h2) (of_decide_eq_true h3) h4 (by simpa only [Bool.not_eq_true'] using h5) h7 (of_decide_eq_true h8) h9 (fun i hi => by simpa using List.all_eq_true.mp h10 i hi) (sndI i Γ _ _ h11) (fun X c => sndG t _ _ h12 k X c) (sndF ifs _ _ h13) ((sndE elt _ _).1 h14)
    · cases h
  · simp only [Bool.and_eq_true] at h
    obtain ⟨s1, s2, s3⟩ := sw_of (W := W) (k := k) (ways := ways) h.1 p.line
    exact s_asg s1 s2 s3 (sndM g Γ tg h.2.1) ((sndE a Γ e).1 h.2.2)
mutual
theorem sndS : ∀ (s : MS) (Γ : Gam) (st : Stmt), chkS (ckO W ways) s Γ st = true → SS W k ways Γ s st
  | .nev, Γ, st, _ => s_nev
  | .pass, Γ, st, h => by
    simp only [chkS] at h
    split at h
    · exact s_pass
    · cases h
  | .brk, Γ, st, h => by
    simp only [chkS] at h
    split at h
    · exact s_brk
    · cases h
  | .cont, Γ, st, h => by
    simp only [chkS] at h
    split at h
    · exact s_cont
    · cases h
  | .retN, Γ, st, h => by
    simp only [chkS] at h
    split at h
    · exact s_retN
    · cases h
  | .ret a, Γ, st, h => by
    simp only [chkS] at h
    cases q : vRet st with
    | none => rw [q] at h; cases h
    | some z =>
      rw [q] at h
      obtain ⟨p, rfl⟩ := vRet_ok q
      exact s_ret ((sndE a Γ _).1 h)
  | .ex a, Γ, st, h => by
    simp only [chkS] at h
    cases q : vEx st with
    | none => rw [q] at h; cases h
    | some z =>
      rw [q] at h
      simp only [Bool.and_eq_true] at h
      obtain ⟨p, rfl⟩ := vEx_ok q
      exact s_ex h.1 ((sndE a Γ _).1 h.2)
  | .ife a A B, Γ, st, h => by
    simp only [chkS] at h
    cases q : vIfS st with
    | none => rw [q] at h; cases h
    | some z =>
      rw [q] at h
      simp only [Bool.and_eq_true] at h
      obtain ⟨p, rfl⟩ := vIfS_ok q
      exact s_ife ((sndE a Γ _).2 h.1).1 (sndB A Γ _ h.2.1) (sndB B Γ _ h.2.2)
  | .for_ t i b, Γ, st, h => by
    simp only [chkS] at h
    cases q : vFor st with
    | none => rw [q] at h; cases h
    | some z =>
      rw [q] at h
      simp only [Bool.and_eq_true] at h
      obtain ⟨p, rfl⟩ := vFor_ok q
      exact s_for h.1 h.2.1 (sndI i Γ _ _ h.2.2.1) (fun X c => sndG t _ _ h.2.2.2.1 k X c) (sndB b Γ _ h.2.2.2.2)
  | .whl a b, Γ, st, h => by
    simp only [chkS] at h
    cases q : vWhl st with
    | none => rw [q] at h; cases h
    | some z =>
      rw [q] at h
      simp only [Bool.and_eq_true] at h
      obtain ⟨p, rfl⟩ := vWhl_ok q
      exact s_whl ((sndE a Γ _).2 h.1).1 (sndB b Γ _ h.2)
  | .asg g a, Γ, st, h => by
    simp only [chkS] at h
    cases q : vAsg st with
    | none => rw [q] at h; cases h
    | some z =>
      rw [q] at h
      obtain ⟨tg, e, p⟩ := z
      have est := vAsg_ok q
      simp only at est h
      subst est
      have plain := asg_plain (W := W) (k := k) (ways := ways) (Γ := Γ) (g := g) (a := a) (tg := tg) (e := e) (p := p)
      cases g with
      | fld o cs =>
        simp only at h
        cases qa : vAttr tg with
        | none => rw [qa] at h; cases h
        | some w =>
          rw [qa] at h
          rw [Bool.and_eq_true, Bool.and_eq_true, Bool.and_eq_true] at h
          obtain ⟨h1, h2, h3, h4⟩ := h
          obtain ⟨p', rfl⟩ := vAttr_ok qa
          exact s_fld h1 h2 ((sndE o Γ _).1 h3) ((sndE a Γ _).1 h4)
      | _ => exact plain h
  | .par i j a b, Γ, st, h => by
    simp only [chkS] at h
    cases q : vAsg st with
    | none => rw [q] at h; cases h
    | some z =>
      rw [q] at h
      obtain ⟨tg, e, p⟩ := z
      have est := vAsg_ok q
      simp only at est h
      subst est
      unfold parB at h
      split at h
      · rename_i t1 t2 ea eb q1 q2
        split at h
        · rename_i x px y py q3 q4
          rw [Bool.and_eq_true, Bool.and_eq_true, Bool.and_eq_true, Bool.and_eq_true, Bool.and_eq_true, Bool.and_eq_true, Bool.and_eq_true, Bool.and_eq_true, Bool.and_eq_true, Bool.and_eq_true, Bool.and_eq_true, Bool.and_eq_true, Bool.and_eq_true, Bool.and_eq_true] at h
          obtain ⟨h1, h2, h3, h4, h5, h6, h7, h8, h9, h10, h11, h12, h13, h14, h15⟩ := h
          obtain ⟨n, pt, rfl⟩ := vTup_ok q1
          obtain ⟨n2, pt2, rfl⟩ := vTup_ok q2
          have e1 := vNameP_ok q3
          have e2 := vNameP_ok q4
          simp only at e1 e2
          subst e1 e2
          exact s_par h1 (of_decide_eq_true h2) (of_decide_eq_true h3) (of_decide_eq_true h4) (of_decide_eq_true h6) (of_decide_eq_true h7) (by simpa using h10) (by simpa using h11) (fun X c => sw_par c.sc (of_decide_eq_true h5) (of_decide_eq_true h6) (of_decide_eq_true h7) (of_decide_eq_true h8) (of_decide_eq_true h9) (by simpa using h10) (by simpa using h11) (by simpa only [Bool.not_eq_true'] using h12) (by simpa only [Bool.not_eq_true'] using h13)) ((sndE a Γ _).1 h14) ((sndE b Γ _).1 h15)
        · cases h
      · cases h
  | .rse .., Γ, st, h | .rse0 .., Γ, st, h | .tryE .., Γ, st, h => by simp [chkS] at h
theorem sndB : ∀ (b : MB) (Γ : Gam) (sts : List Stmt), chkB (ckO W ways) b Γ sts = true → SB W k ways Γ b sts
  | .nil, Γ, [], _ => b_nil
  | .nil, Γ, _ :: _, h => by simp [chkB] at h
  | .cons s r, Γ, [], h => by simp [chkB] at h
  | .cons s r, Γ, st :: sts, h => by
    simp only [chkB, Bool.and_eq_true] at h
    exact b_cons (sndS s Γ st h.1) (sndB r Γ sts h.2)
end
end
end Py
end

section
set_option Elab.async false
set_option linter.all false
set_option maxRecDepth 100000
set_option autoImplicit false
namespace Py
open PySem PySem.Spec PyProof.Rows L2
theorem lookup_mem {α β : Type} [BEq α] [LawfulBEq α] {a : α} {b : β} : ∀ {l : List (α × β)}, l.lookup a = some b → (a, b) ∈ l
  | [], h => by cases h
  | (x, y) :: r, h => by
    rw [List.lookup_cons] at h
    split at h
    · rename_i q
      cases h
      rw [eq_of_beq q]
      exact List.mem_cons_self
    · exact List.mem_cons_of_mem _ (lookup_mem h)
/-! ### where a def stands -/
inductive Pth where
  | glo (x : Str) | mth (C m : Str) | prp (C f : Str)
def getr (K : PySem.W.Frag) (p : Addr) : Addr := match PySem.W.recIn K p "property" with
  | some (.ref g :: _) => g
  | _ => 0
def Pth.adr (K : PySem.W.Frag) : Pth → Addr
  | .glo x => He.ga K x
  | .mth C m => He.ma K (He.ga K C) m
  | .prp C f => getr K (He.ma K (He.ga K C) f)
def clsB : Stmt → List Stmt
  | .ClassDef (body := b) .. => b
  | _ => []
structure FnI where
  path : Pth
  name : Str
  qual : Str
  params : Arguments
  body : List Stmt
  scope : Scope
/-- the text's tables -/
structure Txt where
  fns : List FnI
  cls : List (Str × CI)
  exs : List (Str × Str)
  G : List (Str × GV)
  T : Tab
def Txt.ci (t : Txt) (c : Nat) : Option CI := (t.cls[c]?).map (·.2)
def Txt.cn (t : Txt) (c : Nat) : Str := match t.cls[c]? with
  | some p => p.1
  | none => Str.empty
def Txt.pth (t : Txt) (g : Nat) : Pth := match t.fns[g]? with
  | some f => f.path
  | none => .glo Str.empty
def Txt.wd (t : Txt) (K : PySem.W.Frag) : Wd where
  K := K
  fa := fun g => (t.pth g).adr K
  ca := fun c => He.ga K (t.cn c)
  cf := fun c => match t.ci c with
    | some ci => ci.fields
    | none => []
  xa := fun c => match t.exs[c]? with
    | some p => He.ga K p.1
    | none => 0
  xf := fun c => match t.exs[c]? with
    | some p => p.2
    | none => Str.empty
  T := t.T
  ci := t.ci
/-! ### facts, checked -/
def gB (t : Txt) (K : PySem.W.Frag) (p : Str × GV) : Bool := match p.2 with
  | .fn g => (He.Fa.glo p.1).ok K && decide ((t.pth g).adr K = He.ga K p.1)
  | .cls c => (He.Fa.glo p.1).ok K && decide (t.cn c = p.1)
  | .exc c => (He.Fa.glo p.1).ok K && (match t.exs[c]? with
    | some q => decide (q.1 = p.1)
    | none => false)
  | .int i => (He.Fa.int p.1 i).ok K
  | .str s => (He.Fa.str p.1 (sOf s)).ok K
  | .con _ => false
  | .free => (He.Fa.free p.1).ok K
def prB (t : Txt) (K : PySem.W.Frag) (C : Str) (p : Str × Nat) : Bool :=
  let a := He.ma K (He.ga K C) p.1
  He.eqO (PySem.W.findIn K (.ref (He.ga K C)) p.1) (some (some (.ref a))) && (He.eqO (PySem.W.specialIn K (.ref a) "__get__") (some (some (.builtin "property.__get__"))) && (decide (PySem.W.takesIn K (.ref a) = some true) && (match PySem.W.recIn K a "property" with
    | some (.ref g :: _) => decide (g = (t.pth p.2).adr K)
    | _ => false)))
def seven : List String := ["int", "bool", "str", "tuple", "list", "dict", "NoneType"]
def cB (t : Txt) (K : PySem.W.Frag) (c : Nat) (p : Str × CI) : Bool :=
  let C := He.ga K p.1
  (He.Fa.cls p.1).ok K && (p.2.no.all (fun f => (He.Fa.noat p.1 f).ok K) && (p.2.props.all (prB t K p.1) && ((He.Fa.mkr p.1).ok K && (decide ((t.pth p.2.init).adr K = He.ma K C "__init__") &&
  (He.eqO (PySem.W.findIn K (.ref C) "__class__") (some (some (.builtin "object.__class__"))) && (He.eqO (PySem.W.specialIn K (.builtin "object.__class__") "__get__") (some (some (.builtin "getset_descriptor.__get__"))) &&
  (decide (PySem.W.takesIn K (.builtin "object.__class__") = some true) && (decide (PySem.W.mroIn K C (.type "object") = some true) &&
  (seven.all (fun T => decide (PySem.W.kitOne K (.ref C) (.type T) = some false) && decide (PySem.W.kitOne K (.type T) (.ref C) = some false)) &&
  ((List.range t.cls.length).all (fun d => decide (PySem.W.kitOne K (.ref C) (.ref (He.ga K (t.cn d))) = some (c == d))) &&
  (match p.2.eq with
    | some g => He.eqO (PySem.W.findIn K (.ref C) "__eq__") (some (some (.ref ((t.pth g).adr K)))) && (PySem.W.isFn K (.ref ((t.pth g).adr K)) && He.eqO (PySem.W.findIn K (.ref C) "__ne__") (some (some (.builtin "object.__ne__"))))
    | none => true)))))))))))
def fnB0 (K : PySem.W.Frag) (f : FnI) : Bool := PySem.W.keepIn K (.ref (f.path.adr K)) && (match K.lookup (f.path.adr K) with
  | some ⟨_, _, .func fd, _⟩ => PySem.W.codeIn K fd.code f.qual && (match fd.defaults with
    | .none => true
    | _ => false)
  | _ => false)
def allB {α : Type} (p : Nat → α → Bool) : Nat → List α → Bool
  | _, [] => true
  | i, x :: r => p i x && allB p (i + 1) r
theorem allB_at {α : Type} {p : Nat → α → Bool} : ∀ {xs : List α} {k i : Nat} {x : α}, allB p k xs = true → xs[i]? = some x → p (k + i) x = true
  | [], _, _, _, _, h => by simp at h
  | y :: ys, k, 0, x, h, e => by
    simp at e; subst e
    simp only [allB, Bool.and_eq_true] at h
    exact h.1
  | y :: ys, k, i + 1, x, h, e => by
    simp only [allB, Bool.and_eq_true] at h
    have := allB_at (k := k + 1) (i := i) h.2 (by simpa using e)
    rwa [show k + (i + 1) = k + 1 + i by omega]
def Txt.ok (t : Txt) (K : PySem.W.Frag) : Bool := t.G.all (gB t K) && (allB (cB t K) 0 t.cls && t.fns.all (fnB0 K))
abbrev FnW : Type := Option (Str × Str × Arguments × FuncBody × Scope × Addr × List (Str × Addr) × Addr)
def fnWt (K : PySem.W.Frag) (a : Addr) : FnW := match K.lookup a with
  | some ⟨_, _, .func fd, _⟩ => some (fd.name, fd.qualname, fd.params, fd.body, fd.scope, fd.globals, fd.closure, fd.builtins)
  | _ => none
def FnI.val (d : FnI) : FnW := some (d.name, d.qual, d.params, .stmts d.body, d.scope, mainGlobals, [], builtinsNs)
theorem FnI.funD {K : PySem.W.Frag} {d : FnI} (e : fnWt K (d.path.adr K) = d.val) (c : fnB0 K d = true) : ∃ fd, FunD K d.name d.qual d.params d.body d.scope [] [] (d.path.adr K) fd := by
  unfold fnB0 at c
  rw [Bool.and_eq_true] at c
  obtain ⟨kp, c2⟩ := c
  unfold fnWt at e
  generalize ha : d.path.adr K = a at *
  cases q : K.lookup a with
  | none => rw [q] at c2; cases c2
  | some o =>
    obtain ⟨oc, od, dt, osl⟩ := o
    rw [q] at c2 e
    cases dt with
    | func fd =>
      obtain ⟨n1, n2, n3, n4, n5, n6, n7, n8, n9, n10, n11, n12, n13, n14, n15⟩ := fd
      have e2 : (some (n1, n2, n3, n4, n5, n6, n7, n15) : FnW) = some (d.name, d.qual, d.params, .stmts d.body, d.scope, mainGlobals, [], builtinsNs) := e
      simp only [Option.some.injEq, Prod.mk.injEq] at e2
      obtain ⟨h1, h2, h3, h4, h5, h6, h7, h8⟩ := e2
      subst h1 h2 h3 h4 h5 h6 h7 h8
      simp only [Bool.and_eq_true] at c2
      obtain ⟨k1, k2⟩ := c2
      have k3 : n8 = .none := by
        cases n8 <;> first | rfl | cases k2
      subst k3
      exact ⟨_, ⟨oc, od, .none, n9, n10, n11, n12, n13, n14, osl, rfl, q, k1, .inl ⟨rfl, rfl⟩, .inl rfl⟩, kp⟩
    | _ => cases c2
section
variable {t : Txt} {K : PySem.W.Frag}
theorem gOk_of {h : Heap} {mg : Str → Option Value} (X : K.In h) (N : h.Ns mainGlobals mg) (c : t.G.all (gB t K) = true) : GOk (t.wd K) mg t.G := by
  intro x v hl
  have hm : (x, v) ∈ t.G := lookup_mem hl
  have := List.all_eq_true.mp c _ hm
  cases v <;> simp only [gB] at this
  case fn g =>
    rw [Bool.and_eq_true] at this
    have e := He.glo_ok X N this.1
    rw [← of_decide_eq_true this.2] at e
    exact e
  case cls d =>
    rw [Bool.and_eq_true] at this
    show mg x = some (.ref (He.ga K (t.cn d)))
    rw [show t.cn d = x from of_decide_eq_true this.2]
    exact He.glo_ok X N this.1
  case exc d =>
    rw [Bool.and_eq_true] at this
    have e := He.glo_ok X N this.1
    cases q : t.exs[d]? with
    | none => rw [q] at this; cases this.2
    | some z =>
      rw [q] at this
      simp only [Txt.wd, q]
      rw [show z.1 = x from of_decide_eq_true this.2]
      exact e
  case int i => exact He.int_ok X N this
  case str s => exact He.str_ok X N this
  case con d => cases this
  case free => exact He.free_ok X N this
theorem clsC_of (c : allB (cB t K) 0 t.cls = true) : ∀ d ci, (t.wd K).ci d = some ci → ClsC (t.wd K) K d ci := by
  intro d ci hci
  have hci : t.ci d = some ci := hci
  have hci2 := hci
  unfold Txt.ci at hci
  obtain ⟨p, hp, rfl⟩ := Option.map_eq_some_iff.mp hci
  have h := allB_at c hp
  rw [Nat.zero_add] at h
  unfold cB at h
  have hn : t.cn d = p.1 := by unfold Txt.cn; rw [hp]
  rw [Bool.and_eq_true, Bool.and_eq_true, Bool.and_eq_true, Bool.and_eq_true, Bool.and_eq_true, Bool.and_eq_true, Bool.and_eq_true, Bool.and_eq_true, Bool.and_eq_true, Bool.and_eq_true, Bool.and_eq_true] at h
  obtain ⟨h1, h2, h3, h4, h5, h6, h7, h8, h9, h10, h11, h12⟩ := h
  have hca : (t.wd K).ca d = He.ga K p.1 := by show He.ga K (t.cn d) = _; rw [hn]
  have hM := He.mkr_ok h4
  refine ⟨by rw [hca]; exact He.cls_ok h1, ?_, fun f hf => by rw [hca]; exact He.noat_ok (List.all_eq_true.mp h2 f hf), fun f g hg => ?_, ?_, by rw [hca]; exact He.eqO_ok h6, He.eqO_ok h7, of_decide_eq_true h8, by rw [hca]; exact of_decide_eq_true h9, fun T hT => ?_, fun e di he => ?_, fun g hg => ?_⟩
  · show (match t.ci d with
    | some ci => ci.fields
    | none => []) = _
    rw [hci2]
  · have := List.all_eq_true.mp h3 _ (lookup_mem hg)
    unfold prB at this
    simp only [Bool.and_eq_true] at this
    obtain ⟨a1, a2, a3, a4⟩ := this
    refine ⟨He.ma K (He.ga K p.1) f, by rw [hca]; exact He.eqO_ok a1, He.eqO_ok a2, of_decide_eq_true a3, ?_⟩
    split at a4
    · rename_i g' r q
      rw [of_decide_eq_true a4] at q
      exact ⟨r, q⟩
    · cases a4
  · rw [hca]
    have e : (t.wd K).fa p.2.init = He.ma K (He.ga K p.1) "__init__" := of_decide_eq_true h5
    rw [e]
    exact hM
  · have := List.all_eq_true.mp h10 T hT
    rw [Bool.and_eq_true] at this
    rw [hca]
    exact ⟨of_decide_eq_true this.1, of_decide_eq_true this.2⟩
  · have he : t.ci e = some di := he
    have hl : e < t.cls.length := by
      unfold Txt.ci at he
      obtain ⟨q, hq, _⟩ := Option.map_eq_some_iff.mp he
      exact (List.getElem?_eq_some_iff.mp hq).1
    have := List.all_eq_true.mp h11 e (List.mem_range.mpr hl)
    rw [hca]
    exact of_decide_eq_true this
  · rw [hg] at h12
    simp only [Bool.and_eq_true] at h12
    rw [hca]
    exact ⟨He.eqO_ok h12.1, h12.2.1, He.eqO_ok h12.2.2⟩
end
/-! ### the Hook -/
def isListO : Obj → Bool
  | ⟨.type c, _, _, _⟩ => decide (c = "list")
  | _ => false
def frL (g : Addr → Option Obj) (as : List Addr) : PySem.W.Frag := (He.frG g as).filter fun q => !isListO q.2
theorem frL_mem {g : Addr → Option Obj} {as : List Addr} {a : Addr} {o : Obj} (h : (frL g as).lookup a = some o) : g a = some o ∧ isListO o = false := by
  obtain ⟨h1, h2⟩ := List.mem_filter.mp (lookup_mem h)
  refine ⟨?_, by simpa using h2⟩
  unfold He.frG at h1
  obtain ⟨b, _, e⟩ := List.mem_filterMap.mp h1
  cases hb : g b with
  | none => rw [hb] at e; cases e
  | some u =>
    rw [hb] at e
    cases e
    exact hb
def NoList (K : PySem.W.Frag) : Prop := ∀ a o, K.lookup a = some o → isListO o = false
def obsY (t : Txt) (n : Nat) (g : Addr → Option Obj) : Bool × List FnW := (t.ok (frL g (He.asD g n)), t.fns.map fun f => fnWt (frL g (He.asD g n)) (f.path.adr (frL g (He.asD g n))))
def valY (t : Txt) : Bool × List FnW := (true, t.fns.map FnI.val)
structure SaysY (t : Txt) (K : PySem.W.Frag) : Prop where
  ok : t.ok K = true
  fns : (t.fns.map fun f => fnWt K (f.path.adr K)) = t.fns.map FnI.val
  nl : NoList K
def hookY (t : Txt) (n : Nat) : PySem.W.Hook where
  α := Bool × List FnW
  obs := fun s => obsY t n s.heap.get?
  val := fun _ => valY t
  says := fun _ h => ∃ K : PySem.W.Frag, K.In h ∧ SaysY t K
  of := fun _ s e => ⟨frL s.heap.get? (He.asD s.heap.get? n), fun _ _ e => (frL_mem e).1, ⟨congrArg (·.1) e, congrArg (·.2) e, fun _ _ e => (frL_mem e).2⟩⟩
  keeps := fun _ _ _ ⟨K, hK, c⟩ k => ⟨K, PySem.W.Frag.In.keeps hK k, c⟩
theorem obsY_eq {t : Txt} {n : Nat} {g : Addr → Option Obj} {s : Shared} (h : ∀ a, g a = s.heap.get? a) : obsY t n g = (hookY t n).obs s := by
  have e : g = s.heap.get? := funext h
  rw [e] <;> rfl
/-! ### the law's end -/
/-- what is told of each def by itself: its names, its check, its ways -/
structure FnT (t : Txt) (ways : Nat → List Way) (g : Nat) (f : FnI) (F : Fun) : Prop where
  at_ : t.fns[g]? = some f
  ex : ∃ N : List Str, FnScope N (F.ps.map sOf) f.scope ∧ F.nn = N.length ∧ chkB ⟨t.ci, t.T, ways⟩ F.body ⟨N, f.scope, t.G, true, Option.none⟩ f.body = true
  way : ∀ (K : PySem.W.Frag) (fd : FuncData) (a : Addr), FunD K f.name f.qual f.params f.body f.scope [] [] a fd → ∀ y ∈ ways g, WayOk K fd (F.ps.map sOf) y
theorem wy_of {K : PySem.W.Frag} {x qual : Str} {params : Arguments} {body : List Stmt} {scope : Scope} {a : Addr} {fd : FuncData} {ps : List Str} {y : Way} (F : FunD K x qual params body scope [] [] a fd)
    (h : ∀ (us ws : List Value) (kV doc pm : Value) (an : Option Addr) (cdv ct : Value), us.length = y.1 → ws.length = y.2.1.length → bindArgs (PySem.W.fnOf x qual params body scope .none kV doc pm an cdv ct) ⟨us, y.2.1.zip ws⟩ = pure (ps.zip (pick y.2.2 (us ++ ws))) ∧ (pick y.2.2 (us ++ ws)).length = ps.length) : WayOk K fd ps y := by
  intro s us ws _ hu hw
  obtain ⟨oc, od, dV, kV, doc, pm, an, cdv, ct, osl, rfl, lk, hcd, hD, hK⟩ := F.ex
  rcases hD with ⟨_, rfl⟩ | ⟨e, _⟩
  · obtain ⟨h1, h2⟩ := h us ws kV doc pm an cdv ct hu hw
    exact ⟨.of_eq h1, h2⟩
  · exact absurd rfl e
theorem stat_of {t : Txt} {ways : Nat → List Way} {K : PySem.W.Frag} {h : Heap} {mg : Str → Option Value} (X : K.In h) (N : h.Ns mainGlobals mg) (c : SaysY t K) (hF : ∀ g F, t.T g = some F → ∃ f, FnT t ways g f F) : Stat (t.wd K) ways t.G K mg := by
  have ok := c.ok
  unfold Txt.ok at ok
  rw [Bool.and_eq_true, Bool.and_eq_true] at ok
  obtain ⟨k1, k2, k3⟩ := ok
  refine ⟨gOk_of X N k1, clsC_of k2, fun g F hT => ?_⟩
  obtain ⟨f, ft⟩ := hF g F hT
  have hm := List.mem_of_getElem? ft.at_
  have e : fnWt K (f.path.adr K) = f.val := by
    have e2 : (t.fns.map fun f => fnWt K (f.path.adr K))[g]? = (t.fns.map FnI.val)[g]? := by rw [c.fns]
    rw [List.getElem?_map, List.getElem?_map, ft.at_] at e2
    exact Option.some.inj e2
  obtain ⟨fd, fD⟩ := FnI.funD e (List.all_eq_true.mp k3 f hm)
  obtain ⟨Ns, sc, nn, chk⟩ := ft.ex
  have hfa : (t.wd K).fa g = f.path.adr K := by
    show (t.pth g).adr K = _
    unfold Txt.pth
    rw [ft.at_]
  refine ⟨⟨f.name, f.qual, f.params, f.body, f.scope, Ns⟩, [], [], fd, by rw [hfa]; exact fD, ft.way K fd _ fD, sc, nn, fun k => sndB (W := t.wd K) (k := k) (ways := ways) F.body _ _ chk⟩
theorem sr_start {W : Wd} {H : Hp} (h1 : W.tb = []) (h2 : W.cons = []) : SR W [] H [] := by
  refine ⟨rfl, List.nodup_nil, fun n o e => by simp at e, fun p hp => ?_, fun p hp => ?_⟩
  · rw [h1] at hp; cases hp
  · rw [h2] at hp; cases hp
theorem rep_ints {W : Wd} {m : List Addr} {H : Hp} : ∀ ns : List Int, RepL W m H (ns.map D.int) (ns.map V.int)
  | [] => by simp only [List.map_nil, RepL]
  | n :: ns => by
    simp only [List.map_cons, RepL]
    exact ⟨_, _, rfl, .int n, rep_ints ns⟩
/-- THE END: where the plain machine says True of every script, the law holds -/
theorem law_end {l : PySem.W.OpenLaw} {t : Txt} {ways : Nat → List Way} {L D : Nat} {fL : FnI} {FL : Fun} {x : List Nat} {q : Program} {loose : List Str} {XP : (Str → Option Value) → Heap → Prop} {YP : World → Heap → Prop} {d : DefRec}
    (hn : l.most = some 63) (hdf : d.params.defaults = []) (hr : Room (3 * D) callerA)
    (hF : ∀ g F, t.T g = some F → ∃ f, FnT t ways g f F) (hL : t.T L = some FL) (hfL : FnT t ways L fL FL) (hp : FL.ps = [x]) (hG : t.G.lookup d.name = some (.fn L))
    (hbind : ∀ (K : PySem.W.Frag) (fd : FuncData) (a : Addr), FunD K fL.name fL.qual fL.params fL.body fL.scope [] [] a fd → ∀ (s : Shared) (u : Value), BindsTo s fd ⟨[u], []⟩ [(sOf x, u)])
    (hrun : ∀ ns : List Int, ns.length ≤ 63 → (∀ z ∈ ns, Builtin.Int.intBits z ≤ 1048576) → ∃ S, run t.T D (.fn L) [some (.d (.lst (ns.map .int)))] [] = .ok (.bl true) S)
    (hY : ∀ w h, YP w h → ∃ K : PySem.W.Frag, K.In h ∧ SaysY t K) :
    PySem.W.WalkO q loose XP YP l.row.toRowW d [] (fun f vs => PySem.call f vs) := by
  refine LamX.walk_ofTsE (l := l) (n := 63) (k := 3 * D) (x := sOf x) (CX := fun w => L2.CX l.prog w) hn (by decide) hdf hr ?_ ?_
  · intro w mg fa h Y G hmg
    obtain ⟨K, KX, c⟩ := hY w h Y
    have ok := c.ok
    unfold Txt.ok at ok
    rw [Bool.and_eq_true, Bool.and_eq_true] at ok
    obtain ⟨k1, k2, k3⟩ := ok
    have hfa : (t.wd K).fa L = fa := by
      have e := gOk_of KX G k1 d.name _ hG
      simp only at e
      rw [hmg] at e
      cases e
      rfl
    have e : fnWt K (fL.path.adr K) = fL.val := by
      have e2 : (t.fns.map fun f => fnWt K (f.path.adr K))[L]? = (t.fns.map FnI.val)[L]? := by rw [c.fns]
      rw [List.getElem?_map, List.getElem?_map, hfL.at_] at e2
      exact Option.some.inj e2
    obtain ⟨fd, fD⟩ := FnI.funD e (List.all_eq_true.mp k3 fL (List.mem_of_getElem? hfL.at_))
    have hfp : (t.wd K).fa L = fL.path.adr K := by
      show (t.pth L).adr K = _
      unfold Txt.pth
      rw [hfL.at_]
    have hps : FL.ps.map sOf = [sOf x] := by rw [hp]; rfl
    refine ⟨K, KX, fd, [], spD (t.wd K) [sOf x] (fun as S => run t.T D (.fn L) as S), fun p hp => (nomatch hp), fun p hp => (nomatch hp), fun p hp => (nomatch hp), fun s u => hbind K fd _ fD s u, fun H a ns hl hbits _ hS => ?_, fun base kb nb _ => ?_⟩
    · refine ⟨rfl, [], [], [.lst (ns.map .int)], sr_start rfl rfl, ?_, ?_⟩
      · refine .one (.lst (vs := ns.map V.int) ?_ (by simp) (rep_ints ns))
        rcases hS with hS | ⟨o, its, n, hk, hc, _⟩
        · exact hS
        · exfalso
          have := c.nl a o hk
          obtain ⟨oc, od, dt, osl⟩ := o
          simp only at hc
          subst hc
          simp [isListO] at this
      · obtain ⟨S, hS⟩ := hrun ns hl hbits
        simp only [List.map_cons, List.map_nil]
        rw [hS]
        exact fun v H' m' _ _ r => rep_bl r
    · obtain ⟨fd2, F1, _, _, fa2⟩ := all_calls0 (P := l.prog) (w := w) (base := base) (stat_of kb nb c hF) D L FL hL
      have : fd2 = fd := fa2.eq (by rw [hfp]; exact .of fD)
      subst this
      rw [hfa, hps] at F1
      exact FnS.ok F1
  · intro w H s e s' hx
    obtain ⟨_, _, _, _, _, _, _, _, _, _, _, _, z⟩ := hx
    exact z
end Py
end

section
set_option Elab.async false
set_option linter.all false
set_option maxRecDepth 100000
namespace Py
namespace K03
def t0 : Fun := { ps := [[118,97,108,117,101]], nn := 1, keep := false, body := (.cons (.ret (.and (.isi (.var 0) [0] [.int]) (.not (.isi (.var 0) [0] [.bool])))) .nil) }
def t1 : Fun := { ps := [[118,97,108,117,101], [108,101,97,115,116], [109,111,115,116]], nn := 3, keep := false, body := (.cons (.ret (.and (.call 0 false (.cons false (.var 0) .nil) []) (.chn .le .le (.var 1) (.var 0) (.var 2)))) .nil) }
def t2 : Fun := { ps := [[118,97,108,117,101], [109,111,115,116]], nn := 2, keep := false, body := (.cons (.ret (.call 1 false (.cons false (.var 0) (.cons false (.cst (.int 0)) (.cons false (.var 1) .nil))) [])) .nil) }
def t3 : Fun := { ps := [[118,97,108,117,101]], nn := 2, keep := false, body := (.cons (.ret (.and (.isi (.var 0) [0] [.str]) (.and (.eq true [(0, 13)] (.var 0) (.cst (.str []))) (.it .all false (.val (.lc false [1] (.cmp .inn (.var 1) (.glb (.str [97,98,99,100,101,102,103,104,105,106,107,108,109,110,111,112,113,114,115,116,117,118,119,120,121,122]))) (.nm 1) (.val (.var 0)) .nil)))))) .nil) }
def t4 : Fun := { ps := [[118,97,108,117,101]], nn := 1, keep := false, body := (.cons (.ret (.and (.call 3 false (.cons false (.var 0) .nil) []) (.chn .le .le (.glb (.int 2)) (.bi .len (.cons false (.var 0) .nil)) (.glb (.int 8))))) .nil) }
def t5 : Fun := { ps := [[118,97,108,117,101], [109,97,110,121]], nn := 2, keep := false, body := (.cons (.ret (.and (.isi (.var 0) [0] [.tuple]) (.eq false [(0, 13)] (.bi .len (.cons false (.var 0) .nil)) (.var 1)))) .nil) }
def t6 : Fun := { ps := [[118,97,108,117,101]], nn := 1, keep := false, body := (.cons (.ret (.call 5 false (.cons false (.var 0) (.cons false (.cst (.int 2)) .nil)) [])) .nil) }
def t7 : Fun := { ps := [[118,97,108,117,101], [108,101,97,115,116], [109,111,115,116], [105,115,95,114,105,103,104,116]], nn := 6, keep := false, body := (.cons (.ife (.or (.not (.isi (.var 0) [0] [.tuple])) (.cmp .lt (.bi .len (.cons false (.var 0) .nil)) (.var 1))) (.cons (.ret (.lst false (.cons false (.cst .non) .nil))) .nil) .nil) (.cons (.for_ (.tup [.nm 4, .nm 5]) (.enum (.var 0) (0)) (.cons (.ife (.or (.eq false [(0, 13)] (.var 4) (.var 2)) (.not (.callv 3 [(8, [])] (.cons false (.slc (.var 0) .no (.var 4)) (.cons false (.var 5) .nil))))) (.cons (.ret (.lst false (.cons false (.var 4) .nil))) .nil) .nil) .nil)) (.cons (.ret (.lst false .nil)) .nil))) }
def t8 : Fun := { ps := [[97,104,101,97,100], [118,97,108,117,101]], nn := 2, keep := false, body := (.cons (.ife (.or (.not (.call 6 false (.cons false (.var 1) .nil) [])) (.or (.not (.call 4 false (.cons false (.idx (.var 1) (.cst (.int 0))) .nil) [])) (.not (.call 2 false (.cons false (.idx (.var 1) (.cst (.int 1))) (.cons false (.glb (.int 9)) .nil)) [])))) (.cons (.ret (.cst (.bl false))) .nil) .nil) (.cons (.ret (.or (.eq false [(0, 13)] (.var 0) (.tup .nil)) (.cmp .lt (.idx (.idx (.var 0) (.neg (.cst (.int 1)))) (.cst (.int 0))) (.idx (.var 1) (.cst (.int 0)))))) .nil)) }
def t9 : Fun := { ps := [[118,97,108,117,101]], nn := 1, keep := false, body := (.cons (.ret (.call 7 false (.cons false (.var 0) (.cons false (.cst (.int 0)) (.cons false (.glb (.int 60)) (.cons false (.glb (.fn 8)) .nil)))) [])) .nil) }
def t10 : Fun := { ps := [[115,101,108,102], [112,97,105,114,115]], nn := 3, keep := false, body := (.cons (.for_ (.nm 2) (.val (.call 9 false (.cons false (.var 1) .nil) [])) (.cons (.nev) .nil)) (.cons (.asg (.fld (.var 0) [(0, 0)]) (.var 1)) (.cons (.asg (.fld (.var 0) [(0, 1)]) (.it (.dictX false) false (.val (.var 1)))) .nil))) }
def t11 : Fun := { ps := [[115,101,108,102]], nn := 1, keep := false, body := (.cons (.ret (.attr (.var 0) [(0, .inl 0)])) .nil) }
def t12 : Fun := { ps := [[115,101,108,102]], nn := 1, keep := false, body := (.cons (.ret (.attr (.var 0) [(0, .inl 0)])) .nil) }
def t13 : Fun := { ps := [[115,101,108,102], [111,116,104,101,114]], nn := 2, keep := false, body := (.cons (.ret (.and (.isi (.var 1) [0] [.cls 0]) (.eq false [(0, 13)] (.attr (.var 0) [(0, .inr 12)]) (.attr (.var 1) [(0, .inr 12)])))) .nil) }
def t14 : Fun := { ps := [[119,111,114,100,115]], nn := 1, keep := false, body := (.cons (.ife (.not (.isi (.var 0) [0] [.cls 0])) (.cons (.nev) .nil) .nil) .nil) }
def t15 : Fun := { ps := [[119,111,114,100,115]], nn := 1, keep := false, body := (.cons (.ex (.call 14 false (.cons false (.var 0) .nil) [])) (.cons (.ret (.it .tupleX false (.val (.attr (.var 0) [(0, .inl 1)])))) .nil)) }
def t16 : Fun := { ps := [[118,97,108,117,101]], nn := 2, keep := false, body := (.cons (.ife (.or (.not (.isi (.var 0) [0] [.str])) (.not (.chn .le .le (.glb (.int 2)) (.bi .len (.cons false (.var 0) .nil)) (.glb (.int 8))))) (.cons (.ret (.cst (.bl false))) .nil) .nil) (.cons (.ret (.it .all false (.val (.lc false [1] (.or (.eq false [(0, 13)] (.var 1) (.glb (.str [46]))) (.cmp .inn (.var 1) (.glb (.str [97,98,99,100,101,102,103,104,105,106,107,108,109,110,111,112,113,114,115,116,117,118,119,120,121,122])))) (.nm 1) (.val (.var 0)) .nil)))) .nil)) }
def t17 : Fun := { ps := [[119,111,114,100], [112,97,116,116,101,114,110]], nn := 4, keep := false, body := (.cons (.ret (.and (.eq false [(0, 13)] (.bi .len (.cons false (.var 0) .nil)) (.bi .len (.cons false (.var 1) .nil))) (.it .all false (.val (.lc false [2, 3] (.cmp .inn (.var 3) (.tup (.cons false (.glb (.str [46])) (.cons false (.var 2) .nil)))) (.tup [.nm 2, .nm 3]) (.zip (.var 0) (.var 1)) .nil))))) .nil) }
def t18 : Fun := { ps := [[119,111,114,100,115], [112,97,116,116,101,114,110]], nn := 3, keep := false, body := (.cons (.ret (.lc false [2] (.var 2) (.nm 2) (.val (.attr (.var 0) [(0, .inl 1)])) (.cons false (.call 17 false (.cons false (.var 2) (.cons false (.var 1) .nil)) []) .nil))) .nil) }
def t19 : Fun := { ps := [[119,111,114,100,115], [112,97,116,116,101,114,110]], nn := 5, keep := false, body := (.cons (.asg (.nm 2) (.call 18 false (.cons false (.var 0) (.cons false (.var 1) .nil)) [])) (.cons (.ret (.lc false [4] (.bm .join (.cst (.str [])) (.cons false (.bi .sortedSet (.cons false (.lc false [3] (.idx (.var 3) (.var 4)) (.nm 3) (.val (.var 2)) .nil) .nil)) .nil)) (.nm 4) (.rng1 (.bi .len (.cons false (.var 1) .nil))) .nil)) .nil)) }
def t20 : Fun := { ps := [[119,111,114,100]], nn := 1, keep := false, body := (.cons (.ife (.not (.call 4 false (.cons false (.var 0) .nil) [])) (.cons (.nev) .nil) .nil) .nil) }
def t21 : Fun := { ps := [[112,97,116,116,101,114,110]], nn := 1, keep := false, body := (.cons (.ife (.not (.call 16 false (.cons false (.var 0) .nil) [])) (.cons (.nev) .nil) .nil) .nil) }
def t22 : Fun := { ps := [[119,111,114,100], [112,97,116,116,101,114,110]], nn := 2, keep := false, body := (.cons (.ex (.call 20 false (.cons false (.var 0) .nil) [])) (.cons (.ex (.call 21 false (.cons false (.var 1) .nil) [])) (.cons (.ret (.call 17 false (.cons false (.var 0) (.cons false (.var 1) .nil)) [])) .nil))) }
def t23 : Fun := { ps := [[119,111,114,100,115], [112,97,116,116,101,114,110]], nn := 2, keep := false, body := (.cons (.ex (.call 14 false (.cons false (.var 0) .nil) [])) (.cons (.ex (.call 21 false (.cons false (.var 1) .nil) [])) (.cons (.ret (.it .tupleX false (.val (.call 18 false (.cons false (.var 0) (.cons false (.var 1) .nil)) [])))) .nil))) }
def t24 : Fun := { ps := [[119,111,114,100,115], [112,97,116,116,101,114,110]], nn := 2, keep := false, body := (.cons (.ex (.call 14 false (.cons false (.var 0) .nil) [])) (.cons (.ex (.call 21 false (.cons false (.var 1) .nil) [])) (.cons (.ret (.it .tupleX false (.val (.call 19 false (.cons false (.var 0) (.cons false (.var 1) .nil)) [])))) .nil))) }
def t25 : Fun := { ps := [[119,111,114,100,115], [111,116,104,101,114]], nn := 2, keep := false, body := (.cons (.ex (.call 14 false (.cons false (.var 0) .nil) [])) (.cons (.ex (.call 14 false (.cons false (.var 1) .nil) [])) .nil)) }
def t26 : Fun := { ps := [[119,101,105,103,104,116,115]], nn := 2, keep := false, body := (.cons (.ret (.new 0 10 false (.cons false (.it .tupleX false (.val (.lc false [1] (.tup (.cons false (.var 1) (.cons false (.idx (.var 0) (.var 1)) .nil))) (.nm 1) (.val (.it .sorted false (.val (.var 0)))) .nil))) .nil))) .nil) }
def t27 : Fun := { ps := [[119,111,114,100,115], [111,116,104,101,114]], nn := 5, keep := false, body := (.cons (.ex (.call 25 false (.cons false (.var 0) (.cons false (.var 1) .nil)) [])) (.cons (.asg (.nm 2) (.it (.dictX false) true (.val (.attr (.var 0) [(0, .inl 1)])))) (.cons (.for_ (.tup [.nm 3, .nm 4]) (.val (.attr (.var 1) [(0, .inr 11)])) (.cons (.asg (.sub (.var 2) (.var 3)) (.bi .max (.cons false (.var 4) (.cons false (.bm .get (.var 2) (.cons false (.var 3) (.cons false (.var 4) .nil))) .nil)))) .nil)) (.cons (.ife (.cmp .gt (.bi .len (.cons false (.var 2) .nil)) (.glb (.int 60))) (.cons (.nev) .nil) .nil) (.cons (.ret (.call 26 false (.cons false (.var 2) .nil) [])) .nil))))) }
def t28 : Fun := { ps := [[119,111,114,100,115], [111,116,104,101,114]], nn := 4, keep := false, body := (.cons (.ex (.call 25 false (.cons false (.var 0) (.cons false (.var 1) .nil)) [])) (.cons (.ret (.call 26 false (.cons false (.dc false false [2, 3] (.var 2) (.var 3) (.tup [.nm 2, .nm 3]) (.val (.attr (.var 0) [(0, .inr 11)])) (.cons false (.cmp .notin (.var 2) (.attr (.var 1) [(0, .inl 1)])) .nil)) .nil) [])) .nil)) }
def t29 : Fun := { ps := [[115,99,114,105,112,116], [108,97,112]], nn := 6, keep := true, body := (.cons (.par 2 3 (.ite (.cmp .lt (.var 1) (.bi .len (.cons false (.var 0) .nil))) (.bi .int (.cons false (.idx (.var 0) (.var 1)) .nil)) (.cst (.int 0))) (.bin .add (.cst (.int 360007)) (.bin .mul (.cst (.int 911)) (.var 1)))) (.cons (.for_ (.nm 4) (.val (.slc (.var 0) .no (.cst (.int 16)))) (.cons (.asg (.nm 3) (.bin .mod (.bi .int (.cons false (.bin .add (.bin .add (.bin .mul (.var 3) (.cst (.int 62089))) (.bin .mul (.bin .mod (.bi .int (.cons false (.var 4) .nil)) (.cst (.int 2147483579))) (.cst (.int 3)))) (.cst (.int 29))) .nil)) (.cst (.int 2147483629)))) .nil)) (.cons (.asg (.nm 5) (.ite (.or (.cmp .lt (.var 2) (.cst (.int 0))) (.cmp .ge (.var 2) (.bin .pow (.cst (.int 10)) (.cst (.int 16))))) (.bin .mod (.bi .abs (.cons false (.var 2) .nil)) (.bin .pow (.cst (.int 10)) (.cst (.int 60)))) (.cst (.int 0)))) (.cons (.ret (.lst true (.cons false (.var 5) (.cons false (.bin .mod (.bi .int (.cons false (.bin .add (.bin .add (.bin .mul (.var 3) (.cst (.int 17))) (.bin .mod (.bi .int (.cons false (.var 2) .nil)) (.cst (.int 2147483579)))) (.cst (.int 101))) .nil)) (.cst (.int 2147483629))) .nil)))) .nil)))) }
def t30 : Fun := { ps := [[98,111,119,108], [109,97,110,121]], nn := 3, keep := false, body := (.cons (.ife (.cmp .gt (.idx (.var 0) (.cst (.int 0))) (.cst (.int 0))) (.cons (.asg (.tup [.sub (.var 0) (.cst (.int 0)), .nm 2]) (.bi .divmod (.cons false (.idx (.var 0) (.cst (.int 0))) (.cons false (.var 1) .nil)))) (.cons (.ret (.var 2)) .nil)) .nil) (.cons (.asg (.sub (.var 0) (.cst (.int 1))) (.bin .mod (.bi .int (.cons false (.bin .add (.bin .mul (.idx (.var 0) (.cst (.int 1))) (.cst (.int 62089))) (.cst (.int 7))) .nil)) (.cst (.int 2147483629)))) (.cons (.asg (.sub (.var 0) (.cst (.int 1))) (.bin .mod (.bi .int (.cons false (.bin .add (.bin .mul (.idx (.var 0) (.cst (.int 1))) (.cst (.int 39373))) (.bin .fdiv (.idx (.var 0) (.cst (.int 1))) (.cst (.int 8191)))) .nil)) (.cst (.int 2147483629)))) (.cons (.ret (.bin .mod (.bi .int (.cons false (.bin .fdiv (.idx (.var 0) (.cst (.int 1))) (.cst (.int 577))) .nil)) (.var 1))) .nil)))) }
def t31 : Fun := { ps := [[98,111,119,108], [115,111,109,101]], nn := 2, keep := false, body := (.cons (.ret (.idx (.var 1) (.call 30 false (.cons false (.var 0) (.cons false (.bi .len (.cons false (.var 1) .nil)) .nil)) []))) .nil) }
def t32 : Fun := { ps := [[116,111,108,100], [100,117,101]], nn := 3, keep := false, body := (.cons (.ife (.isi (.var 1) [0] [.tuple]) (.cons (.ret (.and (.isi (.var 0) [0] [.tuple]) (.and (.eq false [(0, 13)] (.bi .len (.cons false (.var 0) .nil)) (.bi .len (.cons false (.var 1) .nil))) (.eq false [(0, 13)] (.lc false [2] (.var 2) (.nm 2) (.rng1 (.bi .len (.cons false (.var 1) .nil))) (.cons false (.not (.call 32 false (.cons false (.idx (.var 0) (.var 2)) (.cons false (.idx (.var 1) (.var 2)) .nil)) [])) .nil)) (.lst false .nil))))) .nil) .nil) (.cons (.ife (.or (.cmp .isN (.var 1) (.cst .non)) (.cmp .isN (.var 0) (.cst .non))) (.cons (.ret (.and (.cmp .isN (.var 1) (.cst .non)) (.cmp .isN (.var 0) (.cst .non)))) .nil) .nil) (.cons (.ife (.or (.eq true [(0, 13)] (.isi (.var 1) [0] [.bool]) (.isi (.var 0) [0] [.bool])) (.or (.eq true [(0, 13)] (.isi (.var 1) [0] [.int]) (.isi (.var 0) [0] [.int])) (.eq true [(0, 13)] (.isi (.var 1) [0] [.str]) (.isi (.var 0) [0] [.str])))) (.cons (.ret (.cst (.bl false))) .nil) .nil) (.cons (.ret (.eq false [(0, 13)] (.var 0) (.var 1))) .nil)))) }
def t33 : Fun := { ps := [[98,111,119,108], [108,101,116,116,101,114,115], [109,111,115,116]], nn := 4, keep := false, body := (.cons (.ret (.bm .join (.cst (.str [])) (.cons false (.lc false [3] (.call 31 false (.cons false (.var 0) (.cons false (.var 1) .nil)) []) (.nm 3) (.rng1 (.bin .add (.cst (.int 2)) (.call 30 false (.cons false (.var 0) (.cons false (.bin .sub (.var 2) (.cst (.int 1))) .nil)) []))) .nil) .nil))) .nil) }
def t34 : Fun := { ps := [[98,111,119,108], [109,97,110,121], [109,111,115,116]], nn := 7, keep := false, body := (.cons (.asg (.tup [.nm 3, .nm 4]) (.tup (.cons false (.dct false true .nil .nil) (.cons false (.call 31 false (.cons false (.var 0) (.cons false (.tup (.cons false (.cst (.str [97,98])) (.cons false (.cst (.str [97,98,99])) (.cons false (.cst (.str [97,115,116])) (.cons false (.cst (.str [97,101,105,111,110,114,115,116])) (.cons false (.cst (.str [97,98,99,100,101,102,103,104,105,106,107,108,109,110,111,112,113,114,115,116,117,118,119,120,121,122])) .nil)))))) .nil)) []) .nil)))) (.cons (.for_ (.nm 5) (.rng1 (.call 30 false (.cons false (.var 0) (.cons false (.bin .add (.var 1) (.cst (.int 1))) .nil)) [])) (.cons (.asg (.sub (.var 3) (.call 33 false (.cons false (.var 0) (.cons false (.var 4) (.cons false (.var 2) .nil))) [])) (.call 30 false (.cons false (.var 0) (.cons false (.cst (.int 10)) .nil)) [])) .nil)) (.cons (.ret (.it .tupleX false (.val (.it .sorted false (.val (.lc false [6] (.tup (.cons false (.var 6) (.cons false (.idx (.var 3) (.var 6)) .nil))) (.nm 6) (.val (.var 3)) .nil)))))) .nil))) }
def t35 : Fun := { ps := [[119,111,114,100], [112,97,116,116,101,114,110]], nn := 3, keep := false, body := (.cons (.ret (.and (.eq false [(0, 13)] (.bi .len (.cons false (.var 0) .nil)) (.bi .len (.cons false (.var 1) .nil))) (.eq false [(0, 13)] (.lc false [2] (.var 2) (.nm 2) (.rng1 (.bi .len (.cons false (.var 0) .nil))) (.cons false (.cmp .notin (.idx (.var 1) (.var 2)) (.tup (.cons false (.cst (.str [46])) (.cons false (.idx (.var 0) (.var 2)) .nil)))) .nil)) (.lst false .nil)))) .nil) }
def t36 : Fun := { ps := [[112,97,105,114,115], [112,97,116,116,101,114,110]], nn := 4, keep := false, body := (.cons (.ret (.it .tupleX false (.val (.lc false [2, 3] (.var 2) (.tup [.nm 2, .nm 3]) (.val (.var 0)) (.cons false (.call 35 false (.cons false (.var 2) (.cons false (.var 1) .nil)) []) .nil))))) .nil) }
def t37 : Fun := { ps := [[112,97,105,114,115], [112,97,116,116,101,114,110]], nn := 5, keep := false, body := (.cons (.asg (.nm 2) (.call 36 false (.cons false (.var 0) (.cons false (.var 1) .nil)) [])) (.cons (.ret (.it .tupleX false (.val (.lc false [4] (.bm .join (.cst (.str [])) (.cons false (.bi .sortedSet (.cons false (.lc false [3] (.idx (.var 3) (.var 4)) (.nm 3) (.val (.var 2)) .nil) .nil)) .nil)) (.nm 4) (.rng1 (.bi .len (.cons false (.var 1) .nil))) .nil)))) .nil)) }
def t38 : Fun := { ps := [[98,111,119,108], [112,97,105,114,115]], nn := 6, keep := false, body := (.cons (.asg (.nm 2) (.bin .add (.lc false [3, 4] (.var 3) (.tup [.nm 3, .nm 4]) (.val (.var 1)) .nil) (.lst false (.cons false (.call 33 false (.cons false (.var 0) (.cons false (.cst (.str [97,98,115,116])) (.cons false (.cst (.int 4)) .nil))) []) .nil)))) (.cons (.ret (.bm .join (.cst (.str [])) (.cons false (.lc false [5] (.call 31 false (.cons false (.var 0) (.cons false (.tup (.cons false (.var 5) (.cons false (.var 5) (.cons false (.cst (.str [46])) (.cons false (.cst (.str [46])) (.cons false (.cst (.str [97])) .nil)))))) .nil)) []) (.nm 5) (.val (.call 31 false (.cons false (.var 0) (.cons false (.var 2) .nil)) [])) .nil) .nil))) .nil)) }
def t39 : Fun := { ps := [[98,111,119,108]], nn := 15, keep := false, body := (.cons (.for_ (.nm 1) (.rng1 (.cst (.int 3))) (.cons (.asg (.nm 2) (.call 34 false (.cons false (.var 0) (.cons false (.cst (.int 14)) (.cons false (.cst (.int 5)) .nil))) [])) (.cons (.asg (.nm 3) (.new 0 10 false (.cons false (.var 2) .nil))) (.cons (.for_ (.nm 4) (.rng1 (.cst (.int 5))) (.cons (.asg (.nm 5) (.call 38 false (.cons false (.var 0) (.cons false (.var 2) .nil)) [])) (.cons (.asg (.tup [.nm 6, .nm 7]) (.tup (.cons false (.call 36 false (.cons false (.var 2) (.cons false (.var 5) .nil)) []) (.cons false (.call 37 false (.cons false (.var 2) (.cons false (.var 5) .nil)) []) .nil)))) (.cons (.ife (.not (.call 32 false (.cons false (.tup (.cons false (.call 23 false (.cons false (.var 3) (.cons false (.var 5) .nil)) []) (.cons false (.call 23 false (.cons false (.var 5) (.cons false (.var 3) .nil)) [1, 0]) (.cons false (.call 24 false (.cons false (.var 3) (.cons false (.var 5) .nil)) []) (.cons false (.call 24 false (.cons false (.var 5) (.cons false (.var 3) .nil)) [1, 0]) .nil))))) (.cons false (.tup (.cons false (.var 6) (.cons false (.var 6) (.cons false (.var 7) (.cons false (.var 7) .nil))))) .nil)) [])) (.cons (.ret (.cst (.bl false))) .nil) .nil) (.cons (.for_ (.tup [.nm 8, .nm 9]) (.val (.slc (.var 2) .no (.cst (.int 8)))) (.cons (.ife (.not (.call 32 false (.cons false (.tup (.cons false (.call 22 false (.cons false (.var 8) (.cons false (.var 5) .nil)) []) (.cons false (.call 22 false (.cons false (.var 5) (.cons false (.var 8) .nil)) [1, 0]) .nil))) (.cons false (.bin .mul (.tup (.cons false (.call 35 false (.cons false (.var 8) (.cons false (.var 5) .nil)) []) .nil)) (.cst (.int 2))) .nil)) [])) (.cons (.ret (.cst (.bl false))) .nil) .nil) .nil)) (.cons (.asg (.nm 10) (.call 30 false (.cons false (.var 0) (.cons false (.bi .len (.cons false (.var 5) .nil)) .nil)) [])) (.cons (.asg (.nm 11) (.bin .add (.bin .add (.slc (.var 5) .no (.var 10)) (.cst (.str [46]))) (.slc (.var 5) (.bin .add (.var 10) (.cst (.int 1))) .no))) (.cons (.ife (.or (.eq true [(0, 13)] (.lc false [8] (.var 8) (.nm 8) (.val (.var 6)) (.cons false (.cmp .notin (.var 8) (.call 23 false (.cons false (.var 3) (.cons false (.var 11) .nil)) [])) .nil)) (.lst false .nil)) (.eq true [(0, 13)] (.call 23 false (.cons false (.var 3) (.cons false (.bin .mul (.cst (.str [46])) (.bi .len (.cons false (.var 5) .nil))) .nil)) []) (.it .tupleX false (.val (.lc false [8] (.var 8) (.nm 8) (.val (.call 15 false (.cons false (.var 3) .nil) [])) (.cons false (.eq false [(0, 13)] (.bi .len (.cons false (.var 8) .nil)) (.bi .len (.cons false (.var 5) .nil))) .nil)))))) (.cons (.ret (.cst (.bl false))) .nil) .nil) (.cons (.asg (.nm 12) (.call 28 false (.cons false (.var 3) (.cons false (.new 0 10 false (.cons false (.it .tupleX false (.val (.lc false [13] (.var 13) (.nm 13) (.val (.var 2)) (.cons false (.cmp .inn (.idx (.var 13) (.cst (.int 0))) (.var 6)) .nil)))) .nil)) .nil)) [])) (.cons (.ife (.or (.eq true [(0, 13)] (.call 23 false (.cons false (.var 12) (.cons false (.var 5) .nil)) []) (.tup .nil)) (.or (.eq true [(0, 13)] (.call 24 false (.cons false (.var 12) (.cons false (.var 5) .nil)) []) (.bin .mul (.tup (.cons false (.cst (.str [])) .nil)) (.bi .len (.cons false (.var 5) .nil)))) (.eq true [(0, 13)] (.call 27 false (.cons false (.var 12) (.cons false (.new 0 10 false (.cons false (.it .tupleX false (.val (.lc false [13] (.var 13) (.nm 13) (.val (.var 2)) (.cons false (.cmp .inn (.idx (.var 13) (.cst (.int 0))) (.var 6)) .nil)))) .nil)) .nil)) []) (.var 3)))) (.cons (.ret (.cst (.bl false))) .nil) .nil) (.cons (.ife (.and (.eq true [(0, 13)] (.var 6) (.tup .nil)) (.eq true [(0, 13)] (.lc false [14] (.var 14) (.nm 14) (.rng1 (.bi .len (.cons false (.var 7) .nil))) (.cons false (.and (.eq true [(0, 13)] (.idx (.var 5) (.var 14)) (.cst (.str [46]))) (.eq true [(0, 13)] (.idx (.var 7) (.var 14)) (.idx (.var 5) (.var 14)))) .nil)) (.lst false .nil))) (.cons (.ret (.cst (.bl false))) .nil) .nil) .nil))))))))))) .nil)))) (.cons (.ret (.cst (.bl true))) .nil)) }
def t40 : Fun := { ps := [[115,99,114,105,112,116]], nn := 2, keep := false, body := (.cons (.ret (.it .all false (.val (.lc false [1] (.call 39 false (.cons false (.call 29 true (.cons false (.var 0) (.cons false (.var 1) .nil)) []) .nil) []) (.nm 1) (.rng1 (.bi .max (.cons false (.cst (.int 1)) (.cons false (.bi .min (.cons false (.bi .len (.cons false (.var 0) .nil)) (.cons false (.cst (.int 3)) .nil))) .nil)))) .nil)))) .nil) }
def tbT : Tab := fun k => match k with
  | 0 => some t0
  | 1 => some t1
  | 2 => some t2
  | 3 => some t3
  | 4 => some t4
  | 5 => some t5
  | 6 => some t6
  | 7 => some t7
  | 8 => some t8
  | 9 => some t9
  | 10 => some t10
  | 11 => some t11
  | 12 => some t12
  | 13 => some t13
  | 14 => some t14
  | 15 => some t15
  | 16 => some t16
  | 17 => some t17
  | 18 => some t18
  | 19 => some t19
  | 20 => some t20
  | 21 => some t21
  | 22 => some t22
  | 23 => some t23
  | 24 => some t24
  | 25 => some t25
  | 26 => some t26
  | 27 => some t27
  | 28 => some t28
  | 29 => some t29
  | 30 => some t30
  | 31 => some t31
  | 32 => some t32
  | 33 => some t33
  | 34 => some t34
  | 35 => some t35
  | 36 => some t36
  | 37 => some t37
  | 38 => some t38
  | 39 => some t39
  | 40 => some t40
  | _ => none
end K03
end Py
end

section
set_option Elab.async false
set_option linter.all false
set_option maxRecDepth 100000
set_option autoImplicit false
namespace Py
namespace Q
/-! the plain law: what the compact text computes -/
section
variable {T : Tab} {S : St} {cl : Cl} {ρ : Env}
theorem run_fn {g : Nat} {F : Fun} {k : Nat} (hT : T g = some F) (hk : 1 ≤ k) (as : List (Option Ag)) (S : St) : run T k (.fn g) as S = callFn (run T (k - 1)) F as S := by
  obtain ⟨j, rfl⟩ : ∃ j, k = j + 1 := ⟨k - 1, by omega⟩
  simp only [run, hT]
  rfl
theorem closeC_same (S : St) (d : D) : closeC S (.ok d S) = .ok d S := by simp [closeC]
theorem closeC_len {S S' : St} {d : D} (h : S'.length = S.length) : closeC S (.ok d S') = .ok d S' := by simp [closeC, h]
theorem callFn_ok {F : Fun} {as : List (Option Ag)} {S S' : St} {v : D} (hl : as.length = F.ps.length) (hk : F.keep = false) (hS : S'.length = S.length) (h : fin (exB cl F.body (as ++ List.replicate (F.nn - F.ps.length) none) S) = .ok v S') : callFn cl F as S = .ok v S' := by
  unfold callFn
  rw [if_pos hl, hk, h]
  simp [closeC, hS]
/-- a call of a def that leaves the state as it was -/
theorem fn_ok {g : Nat} {F : Fun} {k : Nat} (hT : T g = some F) (hk : 1 ≤ k) {as : List (Option Ag)} {S S' : St} {v : D} (hl : as.length = F.ps.length) (hp : F.keep = false) (hS : S'.length = S.length)
    (h : fin (exB (run T (k - 1)) F.body (as ++ List.replicate (F.nn - F.ps.length) none) S) = .ok v S') : run T k (.fn g) as S = .ok v S' := by
  rw [run_fn hT hk]
  exact callFn_ok hl hp hS h
/-! ### expressions -/
@[simp] theorem e_var (i : Nat) : evE cl (.var i) ρ S = match slot ρ i with
    | some (.d d) => .ok d S
    | _ => .bad := by simp only [evE] <;> rfl
@[simp] theorem e_cst (d : D) : evE cl (.cst d) ρ S = .ok d S := by simp only [evE] <;> rfl
@[simp] theorem e_glb (d : D) : evE cl (.glb d) ρ S = .ok d S := by simp only [evE] <;> rfl
@[simp] theorem e_bin (op : BinO) (a b : ME) : evE cl (.bin op a b) ρ S = (evE cl a ρ S).bind fun x S => (evE cl b ρ S).bind fun y S => opt (binD op (vw S x) (vw S y)) S := by simp only [evE] <;> rfl
@[simp] theorem e_neg (a : ME) : evE cl (.neg a) ρ S = (evE cl a ρ S).bind fun x S => match x with
    | .int i => .ok (.int (-i)) S
    | _ => .bad := by simp only [evE] <;> rfl
@[simp] theorem e_cmp (op : CmpO) (a b : ME) : evE cl (.cmp op a b) ρ S = (evE cl a ρ S).bind fun x S => (evE cl b ρ S).bind fun y S => (opt (cmpD op (vw S x) (vw S y)) S).bind fun r S => .ok (.bl r) S := by simp only [evE] <;> rfl
@[simp] theorem e_chn (o1 o2 : CmpO) (a b c : ME) : evE cl (.chn o1 o2 a b c) ρ S = (evE cl a ρ S).bind fun x S => (evE cl b ρ S).bind fun y S => (opt (cmpD o1 (vw S x) (vw S y)) S).bind fun r S =>
    if r then (evE cl c ρ S).bind fun z S => (opt (cmpD o2 (vw S y) (vw S z)) S).bind fun r S => .ok (.bl r) S else .ok (.bl false) S := by simp only [evE] <;> rfl
@[simp] theorem e_eq (neg : Bool) (alts : List (Nat × Nat)) (a b : ME) : evE cl (.eq neg alts a b) ρ S = (evE cl a ρ S).bind fun x S => (evE cl b ρ S).bind fun y S => eqR cl neg alts x y S := by simp only [evE] <;> rfl
@[simp] theorem e_and (a b : ME) : evE cl (.and a b) ρ S = (evE cl a ρ S).bind fun x S => match x with
    | .bl true => evE cl b ρ S
    | .bl false => .ok (.bl false) S
    | _ => .bad := by simp only [evE] <;> rfl
@[simp] theorem e_or (a b : ME) : evE cl (.or a b) ρ S = (evE cl a ρ S).bind fun x S => match x with
    | .bl false => evE cl b ρ S
    | .bl true => .ok (.bl true) S
    | _ => .bad := by simp only [evE] <;> rfl
@[simp] theorem e_not (a : ME) : evE cl (.not a) ρ S = (evE cl a ρ S).bind fun x S => match x with
    | .bl b => .ok (.bl (!b)) S
    | _ => .bad := by simp only [evE] <;> rfl
@[simp] theorem e_ite (c a b : ME) : evE cl (.ite c a b) ρ S = (evE cl c ρ S).bind fun x S => match x with
    | .bl true => evE cl a ρ S
    | .bl false => evE cl b ρ S
    | _ => .bad := by simp only [evE] <;> rfl
@[simp] theorem e_tup (es : MEs) : evE cl (.tup es) ρ S = (evEs cl es ρ S).bind fun xs S => if xs.length ≤ line then .ok (.tup xs) S else .bad := by simp only [evE] <;> rfl
@[simp] theorem e_lst (mu : Bool) (es : MEs) : evE cl (.lst mu es) ρ S = (evEs cl es ρ S).bind fun xs S => if xs.length ≤ line then mkO mu (.lst xs) S else .bad := by simp only [evE] <;> rfl
@[simp] theorem e_dct0 (t mu : Bool) : evE cl (.dct t mu .nil .nil) ρ S = mkO mu (.dct t [] false) S := by simp [evE, evEs, pairsOf]
@[simp] theorem e_idx (a b : ME) : evE cl (.idx a b) ρ S = (evE cl a ρ S).bind fun x S => (evE cl b ρ S).bind fun y S => opt (idxD (vw S x) y) S := by simp only [evE] <;> rfl
theorem slc_hi {a hi : ME} {x d : D} {i : Int} {S1 S2 : St} (h1 : evE cl a ρ S = .ok x S1) (hn : isNo hi = false) (h2 : evE cl hi ρ S1 = .ok (.int i) S2) (h3 : slcV (vw S2 x) none (some i) = some d) : evE cl (.slc a .no hi) ρ S = .ok d S2 := by
  have hz : isNo ME.no = true := rfl
  simp only [evE, h1, Res.bind_ok, hz, if_true, hn, Bool.false_eq_true, if_false, h2, h3, opt]
theorem slc_lo {a lo : ME} {x d : D} {i : Int} {S1 S2 : St} (h1 : evE cl a ρ S = .ok x S1) (hn : isNo lo = false) (h2 : evE cl lo ρ S1 = .ok (.int i) S2) (h3 : slcV (vw S2 x) (some i) none = some d) : evE cl (.slc a lo .no) ρ S = .ok d S2 := by
  have hz : isNo ME.no = true := rfl
  simp only [evE, h1, Res.bind_ok, hz, if_true, hn, Bool.false_eq_true, if_false, h2, h3, opt]
@[simp] theorem e_attr (a : ME) (alts : List (Nat × (Nat ⊕ Nat))) : evE cl (.attr a alts) ρ S = (evE cl a ρ S).bind fun x S => match vw S x with
    | .ins c fs => match alts.lookup c with
      | some (.inl i) => opt fs[i]? S
      | some (.inr g) => (cl (.fn g) [some (.d x)] S).noX
      | none => .bad
    | _ => .bad := by simp only [evE] <;> rfl
@[simp] theorem e_call (g : Nat) (kp : Bool) (es : MEs) (perm : List Nat) : evE cl (.call g kp es perm) ρ S = (evAs cl es ρ S).bind fun as S => cl (.fn g) (permute perm as) S := by simp only [evE] <;> rfl
@[simp] theorem e_callv (i : Nat) (alts : List (Nat × List Nat)) (es : MEs) : evE cl (.callv i alts es) ρ S = match slot ρ i with
    | some (.d (.fn g)) => match alts.lookup g with
      | some perm => (evAs cl es ρ S).bind fun as S => cl (.fn g) (permute perm as) S
      | none => .bad
    | some (.clo np body caps) => (evAs cl es ρ S).bind fun as S => if as.length = np then cl (.lam body) (as ++ caps) S else .bad
    | _ => .bad := by simp only [evE] <;> rfl
@[simp] theorem e_bi (b : Bi) (es : MEs) : evE cl (.bi b es) ρ S = (evEs cl es ρ S).bind fun xs S => opt (biD b (xs.map (vw S))) S := by simp only [evE] <;> rfl
@[simp] theorem e_bm (b : Bm) (o : ME) (es : MEs) : evE cl (.bm b o es) ρ S = (evE cl o ρ S).bind fun x S0 => if kindB b (vw S0 x) then (evEs cl es ρ S0).bind fun ys S => (match isMut b with
    | true => match x with
      | .loc n => bmS b n ys S
      | _ => .bad
    | false => opt (bmD b (vw S x) (if rawA b then ys else ys.map (vw S))) S) else .bad := by simp only [evE] <;> rfl
@[simp] theorem e_itV (b : Bt) (mu : Bool) (a : ME) : evE cl (.it b mu (.val a)) ρ S = (evE cl a ρ S).bind fun x S => match items (vw S x) with
    | some _ => btD mu b (vw S x) S
    | none => .bad := by
  simp only [evE, evI]
  cases evE cl a ρ S with
  | ok x S1 => simp only [Res.bind_ok]; cases items (vw S1 x) <;> rfl
  | exc _ _ _ => rfl
  | bad => rfl
@[simp] theorem e_isi (a : ME) (kn : List Nat) (ks : List Kd) : evE cl (.isi a kn ks) ρ S = (evE cl a ρ S).bind fun x S => if notFn x && knC kn (vw S x) then .ok (.bl (ks.any (isK S x))) S else .bad := by simp only [evE] <;> rfl
@[simp] theorem es_nil : evEs cl .nil ρ S = .ok [] S := by simp only [evEs] <;> rfl
@[simp] theorem es_cons (e : ME) (r : MEs) : evEs cl (.cons false e r) ρ S = (evE cl e ρ S).bind fun x S => (evEs cl r ρ S).bind fun xs S => .ok (x :: xs) S := by simp only [evEs] <;> rfl
@[simp] theorem as_nil : evAs cl .nil ρ S = .ok [] S := by simp only [evAs] <;> rfl
@[simp] theorem as_var (b : Bool) (i : Nat) (r : MEs) : evAs cl (.cons b (.var i) r) ρ S = match slot ρ i with
    | some a => (evAs cl r ρ S).bind fun xs S => .ok (some a :: xs) S
    | none => .bad := by simp only [evAs] <;> rfl
theorem as_cons (b : Bool) (e : ME) (r : MEs) (h1 : ∀ i, e ≠ .var i) (h2 : ∀ n c y, e ≠ .lam n c y) : evAs cl (.cons b e r) ρ S = (evE cl e ρ S).bind fun x S => (evAs cl r ρ S).bind fun xs S => .ok (some (.d x) :: xs) S := by
  cases e <;> first | (exact absurd rfl (h1 _)) | (exact absurd rfl (h2 _ _ _)) | rfl | (simp only [evAs])
@[simp] theorem f_nil : evIfs cl .nil ρ S = .ok true S := by simp only [evIfs] <;> rfl
@[simp] theorem f_cons (b : Bool) (e : ME) (r : MEs) : evIfs cl (.cons b e r) ρ S = (evE cl e ρ S).bind fun x S => match x with
    | .bl true => evIfs cl r ρ S
    | .bl false => .ok false S
    | _ => .bad := by simp only [evIfs] <;> rfl
@[simp] theorem i_val (e : ME) : evI cl (.val e) ρ S = (evE cl e ρ S).bind fun x S => match items (vw S x) with
    | some xs => .ok (x, xs) S
    | none => .bad := by simp only [evI] <;> rfl
@[simp] theorem i_rng1 (e : ME) : evI cl (.rng1 e) ρ S = (evE cl e ρ S).bind fun x S => match x with
    | .int j => if small62 j then .ok (.non, rngL 0 j) S else .bad
    | _ => .bad := by simp only [evI] <;> rfl
@[simp] theorem i_enum (e : ME) (k : Int) : evI cl (.enum e k) ρ S = (evE cl e ρ S).bind fun x S => match srcI x with
    | some xs => if 0 ≤ k ∧ k < 1073741824 then .ok (.non, enumL xs k) S else .bad
    | none => .bad := by simp only [evI] <;> rfl
@[simp] theorem i_zip (a b : ME) : evI cl (.zip a b) ρ S = (evE cl a ρ S).bind fun x S => (evE cl b ρ S).bind fun y S => match srcI x, srcI y with
    | some xs, some ys => .ok (.non, zipL xs ys) S
    | _, _ => .bad := by simp only [evI] <;> rfl
/-! ### statements -/
@[simp] theorem b_nil : exB cl .nil ρ S = .ok (.nx ρ) S := by simp only [exB] <;> rfl
theorem b_cons (s : MS) (r : MB) : exB cl (.cons s r) ρ S = (exS cl s ρ S).bind fun f S => match f with
    | .nx ρ => exB cl r ρ S
    | f => .ok f S := by simp only [exB] <;> rfl
theorem b_nx {s : MS} {r : MB} {ρ' : Env} {S' : St} (h : exS cl s ρ S = .ok (.nx ρ') S') : exB cl (.cons s r) ρ S = exB cl r ρ' S' := by rw [b_cons, h]; rfl
theorem b_ret {s : MS} {r : MB} {d : D} {S' : St} (h : exS cl s ρ S = .ok (.ret d) S') : exB cl (.cons s r) ρ S = .ok (.ret d) S' := by rw [b_cons, h]; rfl
theorem s_ret {e : ME} {d : D} {S' : St} (h : evE cl e ρ S = .ok d S') : exS cl (.ret e) ρ S = .ok (.ret d) S' := by simp only [exS, h, Res.bind_ok]
theorem s_ex {e : ME} {d : D} {S' : St} (h : evE cl e ρ S = .ok d S') : exS cl (.ex e) ρ S = .ok (.nx ρ) S' := by simp only [exS, h, Res.bind_ok]
theorem s_if {c : ME} {A B : MB} {S' : St} {b : Bool} (h : evE cl c ρ S = .ok (.bl b) S') : exS cl (.ife c A B) ρ S = exB cl (if b then A else B) ρ S' := by
  simp only [exS, h, Res.bind_ok]
  cases b <;> rfl
theorem s_nm {i : Nat} {e : ME} {d : D} {S' : St} (h : evE cl e ρ S = .ok d S') (hi : i < ρ.length) : exS cl (.asg (.nm i) e) ρ S = .ok (.nx (ρ.set i (some (.d d)))) S' := by
  simp only [exS, h, Res.bind_ok, asgG, if_pos hi]
theorem s_par {i j : Nat} {a b : ME} {x y : D} {S1 S2 : St} (h1 : evE cl a ρ S = .ok x S1) (h2 : evE cl b ρ S1 = .ok y S2) : exS cl (.par i j a b) ρ S = .ok (.nx ((ρ.set i (some (.d x))).set j (some (.d y)))) S2 := by
  simp only [exS, h1, h2, Res.bind_ok]
theorem fin_ret {r : Res Fl} {d : D} {S' : St} (h : r = .ok (.ret d) S') : fin r = .ok d S' := by rw [h]; rfl
theorem fin_nx {r : Res Fl} {S' : St} (h : r = .ok (.nx ρ) S') : fin r = .ok .non S' := by rw [h]; rfl
theorem mapO_frz {n : Nat} {S : St} {f : Nat} : ∀ {ys : List D}, (∀ y ∈ ys, y.wf n = true) → mapO (frz n S (f + 1)) ys = some ys
  | [], _ => rfl
  | y :: ys, h => by
    have h1 : frz n S (f + 1) y = some y := by unfold frz; rw [if_pos (h y List.mem_cons_self)]
    simp only [mapO, h1, mapO_frz fun z hz => h z (List.mem_cons_of_mem _ hz)]
/-- what a comprehension has filled is let go -/
theorem done_lst {S0 S' : St} {ys : List D} (hl : S'.length = S0.length) (hs : S' = S0 ∨ S'.all (O.wf S0.length) = true) (hw : ∀ y ∈ ys, y.wf S0.length = true) : doneS false S0 (S' ++ [.lst ys]) = .ok (.lst ys) S' := by
  unfold doneS closeC
  have h1 : ¬ (S' ++ [O.lst ys]).length ≤ S0.length := by simp [hl]
  have h2 : (S' ++ [O.lst ys]).take S0.length = S' := by rw [← hl]; simp
  have h3 : frz S0.length (S' ++ [O.lst ys]) 100 (.loc S0.length) = some (.lst ys) := by
    unfold frz
    have : D.wf S0.length (.loc S0.length) = false := by simp [D.wf]
    rw [this]
    have h4 : (S' ++ [O.lst ys])[S0.length]? = some (.lst ys) := by rw [← hl]; simp
    simp only [Bool.false_eq_true, if_false, h4]
    rw [mapO_frz (f := 98) hw]
    rfl
  simp only [Bool.false_eq_true, if_false, h1, h2, h3, opt]
  rw [if_pos hs]
/-- a comprehension, stateful: I is kept -/
theorem lc_st {own : List Nat} {elt : ME} {t : MT} {i : MI} {ifs : MEs} {w : D} {xs : List D} {S1 : St} (I : St → Prop) (P : D → D → Prop) (hi : evI cl i ρ S = .ok (w, xs) S1) (hw : ∀ n, w ≠ .loc n) (hl : xs.length ≤ line) (h0 : I S1)
    (hI : ∀ S', I S' → S'.length = S1.length → S' = S1 ∨ S'.all (O.wf S1.length) = true)
    (h : ∀ x ∈ xs, ∀ (S' : St) (acc : List D), (∀ y ∈ acc, y.wf S1.length = true) → I S' → S'.length = S1.length → ∃ ρ1 y S'', bindT t x (wipe (dropA ρ) own) = some ρ1 ∧ evIfs cl ifs ρ1 (S' ++ [.lst acc]) = .ok true (S' ++ [.lst acc]) ∧ evE cl elt ρ1 (S' ++ [.lst acc]) = .ok y (S'' ++ [.lst acc]) ∧ I S'' ∧ S''.length = S1.length ∧ y.wf S1.length = true ∧ P x y) :
    ∃ ys S', evE cl (.lc false own elt t i ifs) ρ S = .ok (.lst ys) S' ∧ I S' ∧ S'.length = S1.length ∧ ys.length = xs.length ∧ ∀ (j : Nat) (x y : D), xs[j]? = some x → ys[j]? = some y → P x y := by
  have hlk : lockS w S1 = S1 := by cases w <;> first | rfl | exact absurd rfl (hw _)
  have hlo : ∀ S, lockOf w S = none := fun S => by cases w <;> first | rfl | exact absurd rfl (hw _)
  let F : D → St → Res Unit := fun x S' => match bindT t x (wipe (dropA ρ) own) with
      | none => .bad
      | some ρ1 => (evIfs cl ifs ρ1 S').bind fun b S' => if b then (evE cl elt ρ1 S').bind fun y S' => pushS S1.length y S' else .ok () S'
  have key : ∀ (zs : List D), (∀ x ∈ zs, x ∈ xs) → ∀ (S' : St) (acc : List D), I S' → S'.length = S1.length → acc.length + zs.length ≤ line → (∀ y ∈ acc, y.wf S1.length = true) →
      ∃ ys S'', goesL none F zs (S' ++ [.lst acc]) = .ok () (S'' ++ [.lst (acc ++ ys)]) ∧ I S'' ∧ S''.length = S1.length ∧ ys.length = zs.length ∧ (∀ y ∈ acc ++ ys, y.wf S1.length = true) ∧ ∀ (j : Nat) (x y : D), zs[j]? = some x → ys[j]? = some y → P x y := by
    intro zs
    induction zs with
    | nil => exact fun _ S' acc hS hS' _ ha => ⟨[], S', by simp [goesL, still], hS, hS', rfl, by simpa using ha, fun j x y e => by simp at e⟩
    | cons z zs ih =>
      intro hz S' acc hS hS' hacc ha
      obtain ⟨ρ1, y, S'', a1, a2, a3, a4, a5, a6, a7⟩ := h z (hz z List.mem_cons_self) S' acc ha hS hS'
      have hn : (S'' ++ [O.lst acc])[S1.length]? = some (.lst acc) := by rw [← a5]; simp
      have hs : (S'' ++ [O.lst acc]).set S1.length (.lst (acc ++ [y])) = S'' ++ [.lst (acc ++ [y])] := by rw [← a5]; simp
      have hF : F z (S' ++ [.lst acc]) = .ok () (S'' ++ [.lst (acc ++ [y])]) := by
        show (match bindT t z (wipe (dropA ρ) own) with
          | none => Res.bad
          | some ρ1 => (evIfs cl ifs ρ1 (S' ++ [O.lst acc])).bind fun b S' => if b then (evE cl elt ρ1 S').bind fun y S' => pushS S1.length y S' else .ok () S') = _
        simp only [a1, a2, a3, Res.bind_ok, if_true, pushS, hn, hs]
        rw [if_pos (by simp at hacc; omega)]
      obtain ⟨ys, S3, b1, b2, b3, b4, b5, b6⟩ := ih (fun x hx => hz x (List.mem_cons_of_mem _ hx)) S'' (acc ++ [y]) a4 a5 (by simp at hacc ⊢; omega) (fun q hq => by
        rcases List.mem_append.mp hq with hq | hq
        · exact ha q hq
        · rw [List.mem_singleton.mp hq]; exact a6)
      refine ⟨y :: ys, S3, ?_, b2, b3, by simp [b4], by simpa using b5, fun j x q e1 e2 => ?_⟩
      · simp only [goesL, still, if_true, hF, Res.bind_ok]
        rw [b1]; simp
      · cases j with
        | zero => simp at e1 e2; subst e1 e2; exact a7
        | succ j => exact b6 j x q (by simpa using e1) (by simpa using e2)
  obtain ⟨ys, S', c1, c2, c3, c4, c5, c6⟩ := key xs (fun _ h => h) S1 [] h0 rfl (by simpa using hl) (by simp)
  refine ⟨ys, S', ?_, c2, c3, c4, c6⟩
  simp only [evE, hi, Res.bind_ok, hlk, compS, walk, hlo]
  have c1' : goesL none F xs (S1 ++ [O.lst []]) = .ok () (S' ++ [.lst ys]) := by simpa using c1
  show ((goesL none F xs (S1 ++ [O.lst []])).noX.bind fun _ S'_1 => doneS false S1 S'_1) = _
  rw [c1']
  simp only [Res.noX_ok, Res.bind_ok]
  exact done_lst c3 (hI _ c2 c3) (by simpa using c5)
/-- a comprehension that changes nothing -/
theorem lc_ok {own : List Nat} {elt : ME} {t : MT} {i : MI} {ifs : MEs} (w : D) (xs : List D) (p : D → Bool) (f : D → D) {S1 : St} (hi : evI cl i ρ S = .ok (w, xs) S1) (hw : ∀ n, w ≠ .loc n) (hl : xs.length ≤ line)
    (h : ∀ x ∈ xs, ∀ acc : List D, ∃ ρ1, bindT t x (wipe (dropA ρ) own) = some ρ1 ∧ evIfs cl ifs ρ1 (S1 ++ [.lst acc]) = .ok (p x) (S1 ++ [.lst acc]) ∧ (p x = true → evE cl elt ρ1 (S1 ++ [.lst acc]) = .ok (f x) (S1 ++ [.lst acc]) ∧ (f x).wf S1.length = true)) :
    evE cl (.lc false own elt t i ifs) ρ S = .ok (.lst ((xs.filter p).map f)) S1 := by
  have hlk : lockS w S1 = S1 := by cases w <;> first | rfl | exact absurd rfl (hw _)
  have hlo : ∀ S, lockOf w S = none := fun S => by cases w <;> first | rfl | exact absurd rfl (hw _)
  let F : D → St → Res Unit := fun x S' => match bindT t x (wipe (dropA ρ) own) with
      | none => .bad
      | some ρ1 => (evIfs cl ifs ρ1 S').bind fun b S' => if b then (evE cl elt ρ1 S').bind fun y S' => pushS S1.length y S' else .ok () S'
  have key : ∀ (zs : List D), (∀ x ∈ zs, x ∈ xs) → ∀ (acc : List D), acc.length + zs.length ≤ line → (∀ y ∈ acc, y.wf S1.length = true) →
      goesL none F zs (S1 ++ [.lst acc]) = .ok () (S1 ++ [.lst (acc ++ (zs.filter p).map f)]) ∧ ∀ y ∈ acc ++ (zs.filter p).map f, y.wf S1.length = true := by
    intro zs
    induction zs with
    | nil => exact fun _ acc _ ha => ⟨by simp [goesL, still], by simpa using ha⟩
    | cons z zs ih =>
      intro hz acc hacc ha
      obtain ⟨ρ1, a1, a2, a3⟩ := h z (hz z List.mem_cons_self) acc
      have hn : (S1 ++ [O.lst acc])[S1.length]? = some (.lst acc) := by simp
      simp only [goesL, still, if_true]
      cases hp : p z with
      | false =>
        have hF : F z (S1 ++ [.lst acc]) = .ok () (S1 ++ [.lst acc]) := by
          show (match bindT t z (wipe (dropA ρ) own) with
            | none => Res.bad
            | some ρ1 => (evIfs cl ifs ρ1 (S1 ++ [O.lst acc])).bind fun b S' => if b then (evE cl elt ρ1 S').bind fun y S' => pushS S1.length y S' else .ok () S') = _
          simp only [a1, a2, hp, Res.bind_ok, Bool.false_eq_true, if_false]
        rw [hF]
        simp only [Res.bind_ok, List.filter_cons, hp, Bool.false_eq_true, if_false]
        exact ih (fun x hx => hz x (List.mem_cons_of_mem _ hx)) acc (by simp at hacc; omega) ha
      | true =>
        obtain ⟨a4, a5⟩ := a3 hp
        have hs : (S1 ++ [O.lst acc]).set S1.length (.lst (acc ++ [f z])) = S1 ++ [.lst (acc ++ [f z])] := by simp
        have hF : F z (S1 ++ [.lst acc]) = .ok () (S1 ++ [.lst (acc ++ [f z])]) := by
          show (match bindT t z (wipe (dropA ρ) own) with
            | none => Res.bad
            | some ρ1 => (evIfs cl ifs ρ1 (S1 ++ [O.lst acc])).bind fun b S' => if b then (evE cl elt ρ1 S').bind fun y S' => pushS S1.length y S' else .ok () S') = _
          simp only [a1, a2, a4, hp, Res.bind_ok, if_true, pushS, hn, hs]
          rw [if_pos (by simp at hacc; omega)]
        rw [hF]
        simp only [Res.bind_ok, List.filter_cons, hp, if_true, List.map_cons]
        have := ih (fun x hx => hz x (List.mem_cons_of_mem _ hx)) (acc ++ [f z]) (by simp at hacc ⊢; omega) (fun q hq => by
          rcases List.mem_append.mp hq with hq | hq
          · exact ha q hq
          · rw [List.mem_singleton.mp hq]; exact a5)
        simpa using this
  obtain ⟨c1, c2⟩ := key xs (fun _ h => h) [] (by simpa using hl) (by simp)
  simp only [evE, hi, Res.bind_ok, hlk, compS, walk, hlo]
  have c1' : goesL none F xs (S1 ++ [O.lst []]) = .ok () (S1 ++ [.lst ((xs.filter p).map f)]) := by simpa using c1
  show ((goesL none F xs (S1 ++ [O.lst []])).noX.bind fun _ S'_1 => doneS false S1 S'_1) = _
  rw [c1']
  simp only [Res.noX_ok, Res.bind_ok]
  exact done_lst rfl (.inl rfl) (by simpa using c2)
/-- a for, no early end: Inv by the place -/
theorem for_ok {t : MT} {i : MI} {body : MB} {w : D} {xs : List D} {S1 : St} (Inv : Nat → Env → St → Prop) (hi : evI cl i ρ S = .ok (w, xs) S1) (hw : ∀ n, w ≠ .loc n) (h0 : Inv 0 ρ S1)
    (h : ∀ j x, xs[j]? = some x → ∀ ρ S, Inv j ρ S → ∃ ρ1 ρ' S', bindT t x ρ = some ρ1 ∧ (exB cl body ρ1 S = .ok (.nx ρ') S' ∨ exB cl body ρ1 S = .ok (.ct ρ') S') ∧ Inv (j + 1) ρ' S') :
    ∃ ρ' S', exS cl (.for_ t i body) ρ S = .ok (.nx ρ') S' ∧ Inv xs.length ρ' S' := by
  have hlk : lockS w S1 = S1 := by cases w <;> first | rfl | exact absurd rfl (hw _)
  have hlo : ∀ S, lockOf w S = none := fun S => by cases w <;> first | rfl | exact absurd rfl (hw _)
  have key : ∀ (zs : List D) (j : Nat), j ≤ xs.length → xs.drop j = zs → ∀ ρ S, Inv j ρ S → ∃ ρ' S', forL none (fun x ρ S => match bindT t x ρ with
      | none => .bad
      | some ρ => exB cl body ρ S) zs ρ S = .ok (.nx ρ') S' ∧ Inv xs.length ρ' S' := by
    intro zs
    induction zs with
    | nil =>
      intro j hjl hj ρ S hI
      have : j = xs.length := by
        have := congrArg List.length hj
        simp at this; omega
      subst this
      exact ⟨ρ, S, by simp [forL, still], hI⟩
    | cons z zs ih =>
      intro j hjl hj ρ S hI
      have hx : xs[j]? = some z := by
        have := congrArg (·[0]?) hj
        simpa using this
      have hd : xs.drop (j + 1) = zs := by
        have := congrArg List.tail hj
        simpa using this
      obtain ⟨ρ1, ρ', S', a1, a2, a3⟩ := h j z hx ρ S hI
      obtain ⟨ρ2, S2, b1, b2⟩ := ih (j + 1) ((List.getElem?_eq_some_iff.mp hx).1) hd ρ' S' a3
      refine ⟨ρ2, S2, ?_, b2⟩
      rcases a2 with a2 | a2 <;> simp only [forL, still, if_true, a1, a2, Res.bind_ok] <;> exact b1
  simp only [exS, hi, Res.bind_ok, hlk, hlo]
  exact key xs 0 (Nat.zero_le _) (by simp) ρ S1 h0
end
end Q
end Py
end

section
set_option Elab.async false
set_option linter.all false
set_option maxRecDepth 100000
set_option autoImplicit false
namespace Py
namespace Q
/-! steps -/
section
variable {T : Tab} {S : St} {cl : Cl} {ρ : Env}
theorem le_line {n : Nat} (h : n ≤ 16777216) : n ≤ line := h
theorem fn_at {g : Nat} {F : Fun} {k : Nat} (hT : T g = some F) (hk : 1 ≤ k) {as : List (Option Ag)} {S S' : St} {v : D} (ρ0 : Env) (hρ : as ++ List.replicate (F.nn - F.ps.length) none = ρ0) (hl : as.length = F.ps.length) (hp : F.keep = false) (hS : S'.length = S.length)
    (h : fin (exB (run T (k - 1)) F.body ρ0 S) = .ok v S') : run T k (.fn g) as S = .ok v S' := by
  subst hρ
  exact fn_ok hT hk hl hp hS h
theorem nx {s : MS} {r : MB} {ρ' : Env} {S' : St} {R : Res Fl} (h : exS cl s ρ S = .ok (.nx ρ') S') (h2 : exB cl r ρ' S' = R) : exB cl (.cons s r) ρ S = R := by rw [b_nx h, h2]
theorem ifF {c : ME} {A B : MB} {S' : St} {R : Res Fl} (h : evE cl c ρ S = .ok (.bl false) S') (h2 : exB cl B ρ S' = R) : exS cl (.ife c A B) ρ S = R := by rw [s_if h]; simpa using h2
theorem ifT {c : ME} {A B : MB} {S' : St} {R : Res Fl} (h : evE cl c ρ S = .ok (.bl true) S') (h2 : exB cl A ρ S' = R) : exS cl (.ife c A B) ρ S = R := by rw [s_if h]; simpa using h2
theorem ret {e : ME} {r : MB} {d : D} {S' : St} (h : evE cl e ρ S = .ok d S') : exB cl (.cons (.ret e) r) ρ S = .ok (.ret d) S' := b_ret (s_ret h)
theorem asg {i : Nat} {e : ME} {d : D} {S' : St} {ρ' : Env} (h : evE cl e ρ S = .ok d S') (hi : i < ρ.length) (hρ : ρ.set i (some (.d d)) = ρ') : exS cl (.asg (.nm i) e) ρ S = .ok (.nx ρ') S' := by rw [s_nm h hi, hρ]
/-- self.f = e, a new field -/
theorem fld {o e : ME} {cs : List (Nat × Nat)} {v : D} {n c i : Nat} {fs : List D} {S1 S2 : St} (h1 : evE cl e ρ S = .ok v S1) (h2 : evE cl o ρ S1 = .ok (.loc n) S1) (h3 : S1[n]? = some (.ins c fs)) (h4 : cs.lookup c = some i) (h5 : i = fs.length) (h6 : fs.length < 900) (h7 : S1.set n (.ins c (fs ++ [v])) = S2) :
    exS cl (.asg (.fld o cs) e) ρ S = .ok (.nx ρ) S2 := by
  subst h5 h7
  simp only [exS, h1, Res.bind_ok, asgG, h2, setF, h3, h4]
  rw [if_neg (by omega), if_neg (by omega)]
  simp
theorem for_nil {t : MT} {i : MI} {body : MB} {w : D} {S1 : St} (hi : evI cl i ρ S = .ok (w, []) S1) (hw : ∀ n, w ≠ .loc n) : exS cl (.for_ t i body) ρ S = .ok (.nx ρ) S1 := by
  have hlk : lockS w S1 = S1 := by cases w <;> first | rfl | exact absurd rfl (hw _)
  have hlo : ∀ S, lockOf w S = none := fun S => by cases w <;> first | rfl | exact absurd rfl (hw _)
  simp [exS, hi, hlk, hlo, forL, still]
/-- C(e, ..) -/
theorem new_ok {c g : Nat} {es : MEs} {ds fs : List D} {S1 : St} (he : evEs cl es ρ S = .ok ds S1) (hr : cl (.fn g) (some (.d (.loc S1.length)) :: ds.map fun d => some (.d d)) (S1 ++ [.ins c []]) = .ok .non (S1 ++ [.ins c fs])) (hw : ∀ f ∈ fs, f.wf S1.length = true) :
    evE cl (.new c g false es) ρ S = .ok (.ins c fs) S1 := by
  simp only [evE, he, Res.bind_ok, hr]
  unfold closeC
  have h1 : ¬ (S1 ++ [O.ins c fs]).length ≤ S1.length := by simp
  have h2 : (S1 ++ [O.ins c fs]).take S1.length = S1 := by simp
  have h3 : frz S1.length (S1 ++ [O.ins c fs]) 100 (.loc S1.length) = some (.ins c fs) := by
    unfold frz
    have : D.wf S1.length (.loc S1.length) = false := by simp [D.wf]
    rw [this]
    have h4 : (S1 ++ [O.ins c fs])[S1.length]? = some (.ins c fs) := by simp
    simp only [Bool.false_eq_true, if_false, h4]
    rw [mapO_frz (f := 98) hw]
    rfl
  simp only [h1, if_false, h2, h3, opt, true_or, if_true]
end
@[simp] theorem v_non (S : St) : vw S .non = .non := rfl
@[simp] theorem v_bl (S : St) (b : Bool) : vw S (.bl b) = .bl b := rfl
@[simp] theorem v_int (S : St) (i : Int) : vw S (.int i) = .int i := rfl
@[simp] theorem v_str (S : St) (s : List Nat) : vw S (.str s) = .str s := rfl
@[simp] theorem v_tup (S : St) (s : List D) : vw S (.tup s) = .tup s := rfl
@[simp] theorem v_lst (S : St) (s : List D) : vw S (.lst s) = .lst s := rfl
@[simp] theorem v_dct (S : St) (t : Bool) (s : List (D × D)) : vw S (.dct t s) = .dct t s := rfl
@[simp] theorem v_ins (S : St) (c : Nat) (s : List D) : vw S (.ins c s) = .ins c s := rfl
@[simp] theorem v_fn (S : St) (c : Nat) : vw S (.fn c) = .fn c := rfl
theorem in_tup {x : D} {xs : List D} (h : x.shp = true) (h2 : (D.tup xs).shp = true) : inD x (.tup xs) = some (xs.any fun z => D.eqv z x) := by simp [inD, h, h2]
@[simp] theorem eqv_str (a b : List Nat) : D.eqv (.str a) (.str b) = (a == b) := by simp [D.eqv]
@[simp] theorem eqv_int (a b : Int) : D.eqv (.int a) (.int b) = (a == b) := by simp [D.eqv]
theorem small_nat (n : Nat) (h : n ≤ 1000000) : small62 (n : Int) = true := by
  unfold small62
  rw [Bool.and_eq_true]
  exact ⟨decide_eq_true (by omega), decide_eq_true (by omega)⟩
theorem len_val (p : List Nat) (h : p.length ≤ line) : biD .len [.str p] = some (.int p.length) := by simp only [biD, if_pos h]
/-! data -/
abbrev A (d : D) : Option Ag := some (.d d)
mutual
theorem eqv_refl : ∀ d : D, d.data = true → D.eqv d d = true
  | .non, _ => rfl
  | .bl b, _ => by simp [D.eqv]
  | .int i, _ => by simp [D.eqv]
  | .str s, _ => by simp [D.eqv]
  | .tup xs, h => by simp only [D.eqv]; exact eqvL_refl xs (by simpa only [D.data] using h)
  | .lst xs, h => by simp only [D.eqv]; exact eqvL_refl xs (by simpa only [D.data] using h)
  | .dct _ _, h | .ins _ _, h | .fn _, h | .loc _, h => by simp [D.data] at h
theorem eqvL_refl : ∀ xs : List D, D.dataL xs = true → D.eqvL xs xs = true
  | [], _ => rfl
  | x :: xs, h => by
    simp only [D.dataL, Bool.and_eq_true] at h
    simp only [D.eqvL, eqv_refl x h.1, eqvL_refl xs h.2, Bool.and_self]
end
theorem eqD_refl {d : D} (h : d.shp = true) : eqD d d = some true := by
  have h1 : d.data = true := by simp only [D.shp, Bool.and_eq_true] at h; exact h.1
  simp [eqD, h, eqv_refl d h1]
mutual
theorem wf_mono {n m : Nat} (hm : n ≤ m) : ∀ d : D, d.wf n = true → d.wf m = true
  | .non, _ | .bl _, _ | .int _, _ | .str _, _ | .fn _, _ => by simp [D.wf]
  | .tup xs, h | .lst xs, h => by simp only [D.wf] at h ⊢; exact wfL_mono hm xs h
  | .dct _ kvs, h => by simp only [D.wf] at h ⊢; exact wfK_mono hm kvs h
  | .ins _ fs, h => by simp only [D.wf] at h ⊢; exact wfL_mono hm fs h
  | .loc k, h => by simp only [D.wf, decide_eq_true_eq] at h ⊢; omega
theorem wfL_mono {n m : Nat} (hm : n ≤ m) : ∀ xs : List D, D.wfL n xs = true → D.wfL m xs = true
  | [], _ => rfl
  | x :: xs, h => by
    simp only [D.wfL, Bool.and_eq_true] at h ⊢
    exact ⟨wf_mono hm x h.1, wfL_mono hm xs h.2⟩
theorem wfK_mono {n m : Nat} (hm : n ≤ m) : ∀ xs : List (D × D), D.wfK n xs = true → D.wfK m xs = true
  | [], _ => rfl
  | (k, v) :: xs, h => by
    simp only [D.wfK, Bool.and_eq_true] at h ⊢
    exact ⟨⟨wf_mono hm k h.1.1, wf_mono hm v h.1.2⟩, wfK_mono hm xs h.2⟩
end
theorem owf_mono {n m : Nat} (hm : n ≤ m) (o : O) (h : o.wf n = true) : o.wf m = true := by
  cases o with
  | lst xs => exact wfL_mono hm xs h
  | dct t kvs lk => exact wfK_mono hm kvs h
  | ins c fs => exact wfL_mono hm fs h
theorem wfL_all {n : Nat} {xs : List D} : D.wfL n xs = xs.all (D.wf n) := by
  induction xs with
  | nil => rfl
  | cons x xs ih => simp only [D.wfL, ih, List.all_cons]
def WF (S : St) : Prop := ∀ o ∈ S, o.wf S.length = true
theorem WF.app {S : St} (h : WF S) {o : O} (ho : o.wf (S.length + 1) = true) : WF (S ++ [o]) := by
  intro q hq
  have hl : (S ++ [o]).length = S.length + 1 := by simp
  rw [hl]
  rcases List.mem_append.mp hq with hq | hq
  · exact owf_mono (Nat.le_succ _) q (h q hq)
  · rw [List.mem_singleton.mp hq]; exact ho
theorem enum_at : ∀ {xs : List D} {k0 : Int} {i : Nat} {d : D}, (enumL xs k0)[i]? = some d → ∃ x, xs[i]? = some x ∧ d = .tup [.int (k0 + (i : Nat)), x]
  | [], _, i, _, h => by simp [enumL] at h
  | x :: xs, k0, 0, d, h => by
    simp [enumL] at h
    exact ⟨x, rfl, by rw [← h]; simp⟩
  | x :: xs, k0, i + 1, d, h => by
    obtain ⟨y, h1, h2⟩ := enum_at (xs := xs) (k0 := k0 + 1) (i := i) (by simpa [enumL] using h)
    refine ⟨y, by simpa using h1, ?_⟩
    rw [h2]
    have : k0 + 1 + (i : Int) = k0 + ((i + 1 : Nat) : Int) := by omega
    rw [this]
/-! texts as data -/
def txt (s : List Nat) : Prop := ∀ c ∈ s, c < 1114112
theorem data_str {s : List Nat} (h : txt s) : (D.str s).data = true := by
  simp only [D.data, List.all_eq_true, decide_eq_true_eq]
  exact h
theorem shp_str {s : List Nat} (h : txt s) : (D.str s).shp = true := by simp [D.shp, data_str h, D.depth]
theorem eqD_str {a b : List Nat} (ha : txt a) (hb : txt b) : eqD (.str a) (.str b) = some (a == b) := by
  simp [eqD, shp_str ha, shp_str hb, D.eqv]
theorem eqD_int (a b : Int) : eqD (.int a) (.int b) = some (a == b) := by simp [eqD, D.shp, D.data, D.depth, D.eqv]
theorem eqD_bl (a b : Bool) : eqD (.bl a) (.bl b) = some (a == b) := by simp [eqD, D.shp, D.data, D.depth, D.eqv]
/-- == of what is no place and no instance -/
theorem eqR_of {cl : Cl} {neg : Bool} {alts : List (Nat × Nat)} {x y : D} {S : St} {r : Bool} (hx : vw S x = x) (hy : vw S y = y) (h : eqD x y = some r) : eqR cl neg alts x y S = .ok (.bl (if neg then !r else r)) S := by
  unfold eqR
  rw [hx, hy]
  have h0 := h
  cases x <;> cases y <;> first | (exfalso; simp [eqD, D.shp, D.data] at h0; done) | (simp only [h, opt_some, Res.bind_ok])
theorem depthL_le {n : Nat} : ∀ {xs : List D}, (∀ x ∈ xs, x.depth ≤ n) → D.depthL xs ≤ n
  | [], _ => by simp [D.depthL]
  | x :: xs, h => by
    simp only [D.depthL]
    exact Nat.max_le.mpr ⟨h x List.mem_cons_self, depthL_le fun y hy => h y (List.mem_cons_of_mem _ hy)⟩
theorem dataL_all {xs : List D} : D.dataL xs = xs.all D.data := by
  induction xs with
  | nil => rfl
  | cons x xs ih => simp only [D.dataL, ih, List.all_cons]
/-- a tuple, a list of flat things -/
theorem shp_tup {n : Nat} {xs : List D} (hd : ∀ x ∈ xs, x.data = true) (hn : ∀ x ∈ xs, x.depth ≤ n) (h : n < 64) : (D.tup xs).shp = true := by
  simp only [D.shp, D.data, D.depth, Bool.and_eq_true, decide_eq_true_eq, dataL_all, List.all_eq_true]
  have hh : D.depthL xs ≤ n := depthL_le hn
  exact ⟨hd, decide_eq_true (by omega)⟩
theorem shp_lst {n : Nat} {xs : List D} (hd : ∀ x ∈ xs, x.data = true) (hn : ∀ x ∈ xs, x.depth ≤ n) (h : n < 64) : (D.lst xs).shp = true := by
  simp only [D.shp, D.data, D.depth, Bool.and_eq_true, decide_eq_true_eq, dataL_all, List.all_eq_true]
  have hh : D.depthL xs ≤ n := depthL_le hn
  exact ⟨hd, decide_eq_true (by omega)⟩
/-! the bowl -/
def Bowl (n : Nat) (S : St) : Prop := ∃ a b : Int, S[n]? = some (.lst [.int a, .int b]) ∧ 0 ≤ a ∧ 0 ≤ b
def Dr (n : Nat) (S S' : St) : Prop := ∃ a b : Int, S' = S.set n (.lst [.int a, .int b]) ∧ 0 ≤ a ∧ 0 ≤ b
theorem Bowl.lt {n : Nat} {S : St} (h : Bowl n S) : n < S.length := by
  obtain ⟨a, b, h, _⟩ := h
  exact (List.getElem?_eq_some_iff.mp h).1
theorem Bowl.dr0 {n : Nat} {S : St} (h : Bowl n S) : Dr n S S := by
  obtain ⟨a, b, h1, h2, h3⟩ := h
  refine ⟨a, b, ?_, h2, h3⟩
  obtain ⟨hl, e⟩ := List.getElem?_eq_some_iff.mp h1
  rw [← e, List.set_getElem_self]
theorem Dr.len {n : Nat} {S S' : St} (h : Dr n S S') : S'.length = S.length := by
  obtain ⟨a, b, rfl, _⟩ := h
  simp
theorem Dr.bowl {n : Nat} {S S' : St} (h : Dr n S S') (hn : n < S.length) : Bowl n S' := by
  obtain ⟨a, b, rfl, h2, h3⟩ := h
  exact ⟨a, b, by rw [List.getElem?_set_self hn], h2, h3⟩
theorem Dr.trans {n : Nat} {S S' S'' : St} (h : Dr n S S') (h' : Dr n S' S'') : Dr n S S'' := by
  obtain ⟨a, b, rfl, _⟩ := h
  obtain ⟨a', b', rfl, h2, h3⟩ := h'
  exact ⟨a', b', by simp, h2, h3⟩
theorem Dr.app {n : Nat} {S T : St} {o : O} (hn : n < S.length) (h : Dr n (S ++ [o]) T) : ∃ S', T = S' ++ [o] ∧ Dr n S S' := by
  obtain ⟨a, b, rfl, h2, h3⟩ := h
  exact ⟨S.set n (.lst [.int a, .int b]), by rw [List.set_append_left _ _ hn], a, b, rfl, h2, h3⟩
theorem Bowl.app {n : Nat} {S : St} {o : O} (h : Bowl n S) : Bowl n (S ++ [o]) := by
  obtain ⟨a, b, h1, h2, h3⟩ := h
  exact ⟨a, b, by rw [List.getElem?_append_left (List.getElem?_eq_some_iff.mp h1).1]; exact h1, h2, h3⟩
theorem Dr.wf {n : Nat} {S S' : St} (h : Dr n S S') (w : WF S) : WF S' := by
  have hl := h.len
  obtain ⟨a, b, rfl, _⟩ := h
  intro o ho
  rw [hl]
  rcases List.mem_or_eq_of_mem_set ho with ho | rfl
  · exact w o ho
  · rfl
/-- a comprehension whose items are drawn -/
theorem lc_dr {cl : Cl} {ρ : Env} {S : St} {n : Nat} {own : List Nat} {elt : ME} {t : MT} {i : MI} {w : D} {xs : List D} {S1 : St} (P : D → D → Prop) (hi : evI cl i ρ S = .ok (w, xs) S1) (hw : ∀ n, w ≠ .loc n) (hl : xs.length ≤ line) (hb : Bowl n S1) (wf : WF S1)
    (h : ∀ x ∈ xs, ∀ (S' : St) (acc : List D), Bowl n S' → WF S' → S'.length = S1.length + 1 → ∃ ρ1 y S'', bindT t x (wipe (dropA ρ) own) = some ρ1 ∧ evE cl elt ρ1 S' = .ok y S'' ∧ Dr n S' S'' ∧ y.wf S1.length = true ∧ P x y) :
    ∃ ys S', evE cl (.lc false own elt t i .nil) ρ S = .ok (.lst ys) S' ∧ Dr n S1 S' ∧ ys.length = xs.length ∧ ∀ (j : Nat) (x y : D), xs[j]? = some x → ys[j]? = some y → P x y := by
  have hn := hb.lt
  obtain ⟨ys, S', h1, h2, h3, h4, h5⟩ := lc_st (ifs := .nil) (fun S' => Dr n S1 S') P hi hw hl hb.dr0 (fun S' hS hl => .inr (by
      have := hS.wf wf
      rw [List.all_eq_true]
      intro o ho
      rw [← hl]; exact this o ho)) (fun x hx S' acc ha hS hl => by
    have hb' : Bowl n S' := hS.bowl hn
    have wf' : WF S' := hS.wf wf
    obtain ⟨ρ1, y, S'', a1, a2, a3, a4, a5⟩ := h x hx (S' ++ [.lst acc]) acc hb'.app (wf'.app (by
      show D.wfL _ acc = true
      rw [wfL_all, List.all_eq_true]
      intro y hy
      exact wf_mono (by omega) y (ha y hy))) (by simp [hl])
    obtain ⟨T, rfl, a6⟩ := a3.app (by omega)
    exact ⟨ρ1, y, T, a1, by simp, a2, hS.trans a6, by rw [a6.len, hl], a4, a5⟩)
  exact ⟨ys, S', h1, h2, h4, h5⟩
/-- a call whose own places are let go -/
theorem fn_cut {T : Tab} {S S1 X : St} {g : Nat} {F : Fun} {k : Nat} (hT : T g = some F) (hk : 1 ≤ k) {as : List (Option Ag)} {v : D} (ρ0 : Env) (hρ : as ++ List.replicate (F.nn - F.ps.length) none = ρ0) (hl : as.length = F.ps.length) (hp : F.keep = false) (hS : S1.length = S.length) (hw : S1 = S ∨ WF S1) (hv : v.wf S.length = true)
    (h : fin (exB (run T (k - 1)) F.body ρ0 S) = .ok v (S1 ++ X)) : run T k (.fn g) as S = .ok v S1 := by
  subst hρ
  rw [run_fn hT hk]
  unfold callFn
  rw [if_pos hl, hp, h]
  simp only [Bool.false_eq_true, if_false]
  unfold closeC
  by_cases hx : (S1 ++ X).length ≤ S.length
  · have : X = [] := by
      simp only [List.length_append, hS] at hx
      exact List.eq_nil_of_length_eq_zero (by omega)
    subst this
    simp [hS]
  · have h2 : (S1 ++ X).take S.length = S1 := by rw [← hS]; simp
    have h3 : frz S.length (S1 ++ X) 100 v = some v := by unfold frz; rw [if_pos hv]
    simp only [hx, if_false, h2, h3, opt]
    rw [if_pos]
    rcases hw with hw | hw
    · exact .inl hw
    · right
      rw [List.all_eq_true]
      intro o ho
      rw [← hS]
      exact hw o ho
/-- a new key -/
theorem dput_new {kvs : List (D × D)} {k v : D} (h : ∀ p ∈ kvs, p.1 ≠ k) : dput kvs k v = kvs ++ [(k, v)] := by
  unfold dput
  rw [if_neg]
  intro hc
  obtain ⟨p, hp, e⟩ := List.any_eq_true.mp hc
  exact h p hp (by simpa using e)
theorem done_dct {S0 S' : St} {ys : List (D × D)} {t b : Bool} (hl : S'.length = S0.length) (hs : S' = S0 ∨ S'.all (O.wf S0.length) = true) (hw : ∀ y ∈ ys, y.1.wf S0.length = true ∧ y.2.wf S0.length = true) : doneS false S0 (S' ++ [.dct t ys b]) = .ok (.dct t ys) S' := by
  unfold doneS closeC
  have h1 : ¬ (S' ++ [O.dct t ys b]).length ≤ S0.length := by simp [hl]
  have h2 : (S' ++ [O.dct t ys b]).take S0.length = S' := by rw [← hl]; simp
  have hm : ∀ (ys : List (D × D)), (∀ y ∈ ys, y.1.wf S0.length = true ∧ y.2.wf S0.length = true) → mapO (fun p => match frz S0.length (S' ++ [O.dct t ys b]) 99 p.1, frz S0.length (S' ++ [O.dct t ys b]) 99 p.2 with
        | some a, some b => some (a, b)
        | _, _ => none) ys = some ys := by
    intro ys hw
    generalize S' ++ [O.dct t ys b] = Z
    induction ys with
    | nil => rfl
    | cons y ys ih =>
      obtain ⟨a1, a2⟩ := hw y List.mem_cons_self
      have b1 : frz S0.length Z 99 y.1 = some y.1 := by unfold frz; rw [if_pos a1]
      have b2 : frz S0.length Z 99 y.2 = some y.2 := by unfold frz; rw [if_pos a2]
      simp only [mapO, b1, b2, ih fun z hz => hw z (List.mem_cons_of_mem _ hz)]
  have h3 : frz S0.length (S' ++ [O.dct t ys b]) 100 (.loc S0.length) = some (.dct t ys) := by
    unfold frz
    have : D.wf S0.length (.loc S0.length) = false := by simp [D.wf]
    rw [this]
    have h4 : (S' ++ [O.dct t ys b])[S0.length]? = some (.dct t ys b) := by rw [← hl]; simp
    simp only [Bool.false_eq_true, if_false, h4]
    exact congrArg (Option.map (D.dct t)) (hm ys hw)
  simp only [Bool.false_eq_true, if_false, h1, h2, h3, opt]
  rw [if_pos hs]
/-- a dict comprehension that changes nothing, all keys new -/
theorem dc_ok {cl : Cl} {ρ : Env} {S : St} {tk : Bool} {own : List Nat} {key val : ME} {t : MT} {i : MI} {ifs : MEs} (w : D) (xs : List D) (p : D → Bool) (f : D → D × D) {S1 : St} (hi : evI cl i ρ S = .ok (w, xs) S1) (hw : ∀ n, w ≠ .loc n) (hl : xs.length ≤ line)
    (h : ∀ x ∈ xs, ∀ acc : List (D × D), ∃ ρ1, bindT t x (wipe (dropA ρ) own) = some ρ1 ∧ evIfs cl ifs ρ1 (S1 ++ [.dct tk acc false]) = .ok (p x) (S1 ++ [.dct tk acc false]) ∧ (p x = true → evE cl key ρ1 (S1 ++ [.dct tk acc false]) = .ok (f x).1 (S1 ++ [.dct tk acc false]) ∧ evE cl val ρ1 (S1 ++ [.dct tk acc false]) = .ok (f x).2 (S1 ++ [.dct tk acc false]) ∧ kOk tk (f x).1 = true ∧ (f x).1.wf S1.length = true ∧ (f x).2.wf S1.length = true))
    (hn : (((xs.filter p).map f).map (·.1)).Nodup) : evE cl (.dc tk false own key val t i ifs) ρ S = .ok (.dct tk ((xs.filter p).map f)) S1 := by
  have hlk : lockS w S1 = S1 := by cases w <;> first | rfl | exact absurd rfl (hw _)
  have hlo : ∀ S, lockOf w S = none := fun S => by cases w <;> first | rfl | exact absurd rfl (hw _)
  let F : D → St → Res Unit := fun x S' => match bindT t x (wipe (dropA ρ) own) with
      | none => .bad
      | some ρ1 => (evIfs cl ifs ρ1 S').bind fun b S' => if b then (evE cl key ρ1 S').bind fun k S' => (evE cl val ρ1 S').bind fun v S' => entS tk S1.length k v S' else .ok () S'
  have key' : ∀ (zs : List D), (∀ x ∈ zs, x ∈ xs) → ∀ (acc : List (D × D)), acc.length + zs.length ≤ line → (∀ y ∈ acc, y.1.wf S1.length = true ∧ y.2.wf S1.length = true) → ((acc ++ (zs.filter p).map f).map (·.1)).Nodup →
      goesL none F zs (S1 ++ [.dct tk acc false]) = .ok () (S1 ++ [.dct tk (acc ++ (zs.filter p).map f) false]) ∧ ∀ y ∈ acc ++ (zs.filter p).map f, y.1.wf S1.length = true ∧ y.2.wf S1.length = true := by
    intro zs
    induction zs with
    | nil => exact fun _ acc _ ha _ => ⟨by simp [goesL, still], by simpa using ha⟩
    | cons z zs ih =>
      intro hz acc hacc ha hnd
      obtain ⟨ρ1, a1, a2, a3⟩ := h z (hz z List.mem_cons_self) acc
      have hn : (S1 ++ [O.dct tk acc false])[S1.length]? = some (.dct tk acc false) := by simp
      simp only [goesL, still, if_true]
      cases hp : p z with
      | false =>
        have hF : F z (S1 ++ [.dct tk acc false]) = .ok () (S1 ++ [.dct tk acc false]) := by
          show (match bindT t z (wipe (dropA ρ) own) with
            | none => Res.bad
            | some ρ1 => (evIfs cl ifs ρ1 (S1 ++ [O.dct tk acc false])).bind fun b S' => if b then (evE cl key ρ1 S').bind fun k S' => (evE cl val ρ1 S').bind fun v S' => entS tk S1.length k v S' else .ok () S') = _
          simp only [a1, a2, hp, Res.bind_ok, Bool.false_eq_true, if_false]
        rw [hF]
        simp only [Res.bind_ok, List.filter_cons, hp, Bool.false_eq_true, if_false] at hnd ⊢
        exact ih (fun x hx => hz x (List.mem_cons_of_mem _ hx)) acc (by simp at hacc; omega) ha hnd
      | true =>
        obtain ⟨a4, a5, a6, a7, a8⟩ := a3 hp
        simp only [List.filter_cons, hp, if_true, List.map_cons] at hnd
        have hd : dput acc (f z).1 (f z).2 = acc ++ [f z] := dput_new fun q hq e => by
          rw [List.map_append, List.nodup_append] at hnd
          exact hnd.2.2 q.1 (List.mem_map.mpr ⟨q, hq, rfl⟩) (f z).1 (by simp) e
        have hs : (S1 ++ [O.dct tk acc false]).set S1.length (.dct tk (acc ++ [f z]) false) = S1 ++ [.dct tk (acc ++ [f z]) false] := by simp
        have hF : F z (S1 ++ [.dct tk acc false]) = .ok () (S1 ++ [.dct tk (acc ++ [f z]) false]) := by
          show (match bindT t z (wipe (dropA ρ) own) with
            | none => Res.bad
            | some ρ1 => (evIfs cl ifs ρ1 (S1 ++ [O.dct tk acc false])).bind fun b S' => if b then (evE cl key ρ1 S').bind fun k S' => (evE cl val ρ1 S').bind fun v S' => entS tk S1.length k v S' else .ok () S') = _
          simp only [a1, a2, a4, a5, hp, Res.bind_ok, if_true, entS, hn, hd, hs]
          rw [if_pos ⟨trivial, a6, by simp at hacc; omega⟩]
        rw [hF]
        simp only [Res.bind_ok, List.filter_cons, hp, if_true, List.map_cons]
        have := ih (fun x hx => hz x (List.mem_cons_of_mem _ hx)) (acc ++ [f z]) (by simp at hacc ⊢; omega) (fun q hq => by
          rcases List.mem_append.mp hq with hq | hq
          · exact ha q hq
          · rw [List.mem_singleton.mp hq]; exact ⟨a7, a8⟩) (by simpa using hnd)
        simpa using this
  obtain ⟨c1, c2⟩ := key' xs (fun _ h => h) [] (by simpa using hl) (by simp) (by simpa using hn)
  simp only [evE, hi, Res.bind_ok, hlk, compS, walk, hlo]
  have c1' : goesL none F xs (S1 ++ [O.dct tk [] false]) = .ok () (S1 ++ [.dct tk ((xs.filter p).map f) false]) := by simpa using c1
  show ((goesL none F xs (S1 ++ [O.dct tk [] false])).noX.bind fun _ S'_1 => doneS false S1 S'_1) = _
  rw [c1']
  simp only [Res.noX_ok, Res.bind_ok]
  exact done_dct rfl (.inl rfl) (by simpa using c2)
/-! sorting -/
theorem perm_sorted {α : Type} {le : α → α → Bool} (anti : ∀ a b, le a b = true → le b a = true → a = b) : ∀ {l1 l2 : List α}, l1.Perm l2 → l1.Pairwise (fun a b => le a b = true) → l2.Pairwise (fun a b => le a b = true) → l1 = l2
  | [], l2, p, _, _ => (List.Perm.nil_eq p)
  | a :: l1, [], p, _, _ => by have := p.length_eq; simp at this
  | a :: l1, b :: l2, p, h1, h2 => by
    obtain ⟨a1, a2⟩ := List.pairwise_cons.mp h1
    obtain ⟨b1, b2⟩ := List.pairwise_cons.mp h2
    have hab : a = b := by
      have m1 : a ∈ b :: l2 := p.mem_iff.mp (List.mem_cons_self ..)
      have m2 : b ∈ a :: l1 := p.mem_iff.mpr (List.mem_cons_self ..)
      rcases List.mem_cons.mp m1 with q | q
      · exact q
      · rcases List.mem_cons.mp m2 with r | r
        · exact r.symm
        · exact anti a b (a1 b r) (b1 a q)
    subst hab
    rw [perm_sorted anti ((List.perm_cons a).mp p) a2 b2]
abbrev leS (x y : List Nat) : Bool := !decide (y < x)
theorem leS_iff {x y : List Nat} : leS x y = true ↔ x ≤ y := by
  simp [leS, List.not_lt]
theorem leS_trans (a b c : List Nat) : leS a b = true → leS b c = true → leS a c = true := by
  rw [leS_iff, leS_iff, leS_iff]
  exact List.le_trans
theorem leS_total (a b : List Nat) : (leS a b || leS b a) = true := by
  rw [Bool.or_eq_true, leS_iff, leS_iff]
  exact List.le_total a b
theorem leS_anti (a b : List Nat) : leS a b = true → leS b a = true → a = b := by
  rw [leS_iff, leS_iff]
  exact List.le_antisymm
theorem msort_perm {a b : List (List Nat)} (p : a.Perm b) : a.mergeSort leS = b.mergeSort leS :=
  perm_sorted leS_anti ((List.mergeSort_perm a leS).trans (p.trans (List.mergeSort_perm b leS).symm)) (List.pairwise_mergeSort leS_trans leS_total a) (List.pairwise_mergeSort leS_trans leS_total b)
theorem sort_strs (ss : List (List Nat)) : (ss.map D.str).mergeSort (fun a b => !(D.lt b a)) = (ss.mergeSort leS).map D.str :=
  (List.map_mergeSort (fun a _ b _ => by simp [leS, D.lt])).symm
section
variable {S : St} {cl : Cl} {ρ : Env}
/-- a comprehension over a dict's place, which is locked then, that changes nothing else -/
theorem lc_loc {own : List Nat} {elt : ME} {t : MT} {i : MI} {ifs : MEs} (n0 : Nat) (tk lk : Bool) (kvs : List (D × D)) (xs : List D) (p : D → Bool) (f : D → D) {S0 S1 : St} (hi : evI cl i ρ S = .ok (.loc n0, xs) S0) (h0 : S0[n0]? = some (.dct tk kvs lk)) (h1 : S0.set n0 (.dct tk kvs true) = S1) (hl : xs.length ≤ line)
    (h : ∀ x ∈ xs, ∀ acc : List D, ∃ ρ1, bindT t x (wipe (dropA ρ) own) = some ρ1 ∧ evIfs cl ifs ρ1 (S1 ++ [.lst acc]) = .ok (p x) (S1 ++ [.lst acc]) ∧ (p x = true → evE cl elt ρ1 (S1 ++ [.lst acc]) = .ok (f x) (S1 ++ [.lst acc]) ∧ (f x).wf S1.length = true)) :
    evE cl (.lc false own elt t i ifs) ρ S = .ok (.lst ((xs.filter p).map f)) S1 := by
  have hn0 : n0 < S0.length := (List.getElem?_eq_some_iff.mp h0).1
  have hlk : lockS (.loc n0) S0 = S1 := by simp only [lockS, h0]; exact h1
  have hat : S1[n0]? = some (.dct tk kvs true) := by rw [← h1]; exact List.getElem?_set_self hn0
  have hn1 : n0 < S1.length := by rw [← h1]; simpa using hn0
  have hlo : lockOf (.loc n0) S1 = some (n0, .dct tk kvs true) := by simp [lockOf, hat]
  have hst : ∀ acc, still (some (n0, O.dct tk kvs true)) (S1 ++ [O.lst acc]) = true := fun acc => by
    simp only [still, decide_eq_true_eq]
    rw [List.getElem?_append_left hn1]
    exact hat
  let F : D → St → Res Unit := fun x S' => match bindT t x (wipe (dropA ρ) own) with
      | none => .bad
      | some ρ1 => (evIfs cl ifs ρ1 S').bind fun b S' => if b then (evE cl elt ρ1 S').bind fun y S' => pushS S1.length y S' else .ok () S'
  have key : ∀ (zs : List D), (∀ x ∈ zs, x ∈ xs) → ∀ (acc : List D), acc.length + zs.length ≤ line → (∀ y ∈ acc, y.wf S1.length = true) →
      goesL (some (n0, O.dct tk kvs true)) F zs (S1 ++ [.lst acc]) = .ok () (S1 ++ [.lst (acc ++ (zs.filter p).map f)]) ∧ ∀ y ∈ acc ++ (zs.filter p).map f, y.wf S1.length = true := by
    intro zs
    induction zs with
    | nil => exact fun _ acc _ ha => ⟨by simp [goesL, hst], by simpa using ha⟩
    | cons z zs ih =>
      intro hz acc hacc ha
      obtain ⟨ρ1, a1, a2, a3⟩ := h z (hz z List.mem_cons_self) acc
      have hn : (S1 ++ [O.lst acc])[S1.length]? = some (.lst acc) := by simp
      simp only [goesL, hst, if_true]
      cases hp : p z with
      | false =>
        have hF : F z (S1 ++ [.lst acc]) = .ok () (S1 ++ [.lst acc]) := by
          show (match bindT t z (wipe (dropA ρ) own) with
            | none => Res.bad
            | some ρ1 => (evIfs cl ifs ρ1 (S1 ++ [O.lst acc])).bind fun b S' => if b then (evE cl elt ρ1 S').bind fun y S' => pushS S1.length y S' else .ok () S') = _
          simp only [a1, a2, hp, Res.bind_ok, Bool.false_eq_true, if_false]
        rw [hF]
        simp only [Res.bind_ok, List.filter_cons, hp, Bool.false_eq_true, if_false]
        exact ih (fun x hx => hz x (List.mem_cons_of_mem _ hx)) acc (by simp at hacc; omega) ha
      | true =>
        obtain ⟨a4, a5⟩ := a3 hp
        have hs : (S1 ++ [O.lst acc]).set S1.length (.lst (acc ++ [f z])) = S1 ++ [.lst (acc ++ [f z])] := by simp
        have hF : F z (S1 ++ [.lst acc]) = .ok () (S1 ++ [.lst (acc ++ [f z])]) := by
          show (match bindT t z (wipe (dropA ρ) own) with
            | none => Res.bad
            | some ρ1 => (evIfs cl ifs ρ1 (S1 ++ [O.lst acc])).bind fun b S' => if b then (evE cl elt ρ1 S').bind fun y S' => pushS S1.length y S' else .ok () S') = _
          simp only [a1, a2, a4, hp, Res.bind_ok, if_true, pushS, hn, hs]
          rw [if_pos (by simp at hacc; omega)]
        rw [hF]
        simp only [Res.bind_ok, List.filter_cons, hp, if_true, List.map_cons]
        have := ih (fun x hx => hz x (List.mem_cons_of_mem _ hx)) (acc ++ [f z]) (by simp at hacc ⊢; omega) (fun q hq => by
          rcases List.mem_append.mp hq with hq | hq
          · exact ha q hq
          · rw [List.mem_singleton.mp hq]; exact a5)
        simpa using this
  obtain ⟨c1, c2⟩ := key xs (fun _ h => h) [] (by simpa using hl) (by simp)
  simp only [evE, hi, Res.bind_ok, hlk, compS, walk, hlo]
  have c1' : goesL (some (n0, O.dct tk kvs true)) F xs (S1 ++ [O.lst []]) = .ok () (S1 ++ [.lst ((xs.filter p).map f)]) := by simpa using c1
  show ((goesL (some (n0, O.dct tk kvs true)) F xs (S1 ++ [O.lst []])).noX.bind fun _ S'_1 => doneS false S1 S'_1) = _
  rw [c1']
  simp only [Res.noX_ok, Res.bind_ok]
  exact done_lst rfl (.inl rfl) (by simpa using c2)
end
end Q
end Py
end

section
set_option Elab.async false
set_option linter.all false
set_option maxRecDepth 100000
set_option autoImplicit false
namespace Py
namespace Q
namespace P03
open Py.K03
/-! texts, words -/
def ltr (c : Nat) : Bool := decide (97 ≤ c) && decide (c ≤ 122)
def LET : List Nat := [97,98,99,100,101,102,103,104,105,106,107,108,109,110,111,112,113,114,115,116,117,118,119,120,121,122]
theorem let_any (c : Nat) : (LET.any fun z => decide (z = c)) = ltr c := by
  unfold ltr LET
  by_cases h1 : 97 ≤ c
  · by_cases h2 : c ≤ 122
    · have : c = 97 ∨ c = 98 ∨ c = 99 ∨ c = 100 ∨ c = 101 ∨ c = 102 ∨ c = 103 ∨ c = 104 ∨ c = 105 ∨ c = 106 ∨ c = 107 ∨ c = 108 ∨ c = 109 ∨ c = 110 ∨ c = 111 ∨ c = 112 ∨ c = 113 ∨ c = 114 ∨ c = 115 ∨ c = 116 ∨ c = 117 ∨ c = 118 ∨ c = 119 ∨ c = 120 ∨ c = 121 ∨ c = 122 := by omega
      rcases this with rfl | rfl | rfl | rfl | rfl | rfl | rfl | rfl | rfl | rfl | rfl | rfl | rfl | rfl | rfl | rfl | rfl | rfl | rfl | rfl | rfl | rfl | rfl | rfl | rfl | rfl <;> rfl
    · simp [h2]; omega
  · simp [h1]; omega
theorem let_any' (c : Nat) : ([97,98,99,100,101,102,103,104,105,106,107,108,109,110,111,112,113,114,115,116,117,118,119,120,121,122].any fun z => decide (z = c)) = ltr c := let_any c
def Lts (w : List Nat) : Prop := ∀ c ∈ w, ltr c = true
def Wd (w : List Nat) : Prop := 2 ≤ w.length ∧ w.length ≤ 8 ∧ Lts w
theorem Lts.txt {w : List Nat} (h : Lts w) : txt w := fun c hc => by
  have := h c hc
  simp [ltr] at this
  omega
theorem or_let (c : Nat) (h : ltr c = true) : 97 = c ∨ 98 = c ∨ 99 = c ∨ 100 = c ∨ 101 = c ∨ 102 = c ∨ 103 = c ∨ 104 = c ∨ 105 = c ∨ 106 = c ∨ 107 = c ∨ 108 = c ∨ 109 = c ∨ 110 = c ∨ 111 = c ∨ 112 = c ∨ 113 = c ∨ 114 = c ∨ 115 = c ∨ 116 = c ∨ 117 = c ∨ 118 = c ∨ 119 = c ∨ 120 = c ∨ 121 = c ∨ 122 = c := by
  simp [ltr] at h
  omega
variable {k : Nat} {S : St}
theorem s0_int (hk : 1 ≤ k) (n : Int) : run tbT k (.fn 0) [A (.int n)] S = .ok (.bl true) S :=
  fn_ok (F := t0) rfl hk rfl rfl rfl rfl
theorem s1_int (hk : 2 ≤ k) (n a b : Int) : run tbT k (.fn 1) [A (.int n), A (.int a), A (.int b)] S = .ok (.bl (decide (a ≤ n) && decide (n ≤ b))) S := by
  refine fn_ok (F := t1) rfl (by omega) rfl rfl rfl (fin_ret (b_ret (s_ret ?_)))
  have h0 : ∀ (n : Int) S, run tbT (k-1) (.fn 0) [A (.int n)] S = .ok (.bl true) S := fun n S => s0_int (by omega) n
  simp [t1, h0, slot, permute, cmpD, vw]
  by_cases h : a ≤ n <;> simp [h]
theorem s2_int (hk : 3 ≤ k) (n b : Int) : run tbT k (.fn 2) [A (.int n), A (.int b)] S = .ok (.bl (decide (0 ≤ n) && decide (n ≤ b))) S := by
  refine fn_ok (F := t2) rfl (by omega) rfl rfl rfl (fin_ret (b_ret (s_ret ?_)))
  have h0 : ∀ (n a b : Int) S, run tbT (k-1) (.fn 1) [A (.int n), A (.int a), A (.int b)] S = .ok (.bl (decide (a ≤ n) && decide (n ≤ b))) S := fun n a b S => s1_int (by omega) n a b
  simp [t2, as_cons, h0, slot, permute]
theorem bools_true {α : Type} (xs : List α) : bools (xs.map fun _ => D.bl true) = some (xs.map fun _ => true) := by
  unfold bools
  induction xs with
  | nil => rfl
  | cons x xs ih => simp only [List.map_cons, mapO, ih]
/-- all([.. for x in xs]), all True -/
theorem all_true {α : Type} (xs : List α) (S : St) : btD false .all (.lst (xs.map fun _ => D.bl true)) S = .ok (.bl true) S := by
  simp only [btD, btX, btD0, bools_true]
  simp
theorem filt_true {α : Type} (xs : List α) : xs.filter (fun _ => true) = xs := by simp
/-- is_small -/
theorem s3_w (hk : 1 ≤ k) (w : List Nat) (h1 : w ≠ []) (h2 : Lts w) (hl : w.length ≤ 1000) : run tbT k (.fn 3) [A (.str w)] S = .ok (.bl true) S := by
  refine fn_ok (F := t3) rfl (by omega) rfl rfl rfl (fin_ret (b_ret (s_ret ?_)))
  have hlc : ∀ ρ : Env, ρ = [A (.str w), none] → evE (run tbT (k-1)) (.lc false [1] (.cmp .inn (.var 1) (.glb (.str [97,98,99,100,101,102,103,104,105,106,107,108,109,110,111,112,113,114,115,116,117,118,119,120,121,122]))) (.nm 1) (.val (.var 0)) .nil) ρ S = .ok (.lst ((w.map fun c => D.str [c]).map fun _ => .bl true)) S := by
    intro ρ hρ
    subst hρ
    rw [lc_ok (.str w) (w.map fun c => D.str [c]) (fun _ => true) (fun _ => .bl true) (S1 := S) (by simp [slot, vw, items]) (by simp) (by simp [line]; omega) fun x hx acc => ?_, filt_true]
    obtain ⟨c, hc, rfl⟩ := List.mem_map.mp hx
    have hc' := h2 c hc
    refine ⟨_, rfl, by simp, fun _ => ⟨?_, rfl⟩⟩
    simp [slot, cmpD, inD, vw, wipe, dropA]
    exact or_let c hc'
  have he : ∀ S : St, eqR (run tbT (k-1)) true [(0, 13)] (.str w) (.str []) S = .ok (.bl true) S := fun S => by
    rw [eqR_of (r := false) rfl rfl (by rw [eqD_str h2.txt (by intro c hc; cases hc)]; cases w with | nil => exact absurd rfl h1 | cons a b => rfl)]
    rfl
  have h3 := hlc [A (.str w), none] rfl
  simp only [t3, List.cons_append, List.nil_append, List.length_cons, List.length_nil, List.replicate] at h3 ⊢
  simp [slot, notFn, knC, isK, vw, he, h3, items]
  exact all_true _ _
theorem s4_w (hk : 2 ≤ k) (w : List Nat) (h : Wd w) : run tbT k (.fn 4) [A (.str w)] S = .ok (.bl true) S := by
  obtain ⟨h1, h2, h3⟩ := h
  refine fn_at (F := t4) rfl (by omega) [A (.str w)] rfl rfl rfl rfl (fin_ret (ret ?_))
  have h0 : ∀ S, run tbT (k-1) (.fn 3) [A (.str w)] S = .ok (.bl true) S := fun S => s3_w (by omega) w (by intro e; rw [e] at h1; simp at h1) h3 (by omega)
  have hl : w.length ≤ line := le_line (by omega)
  simp [h0, slot, permute, cmpD, vw, biD, hl]
  rw [if_pos (by omega)]
  simp
  omega
theorem s5_t (hk : 1 ≤ k) (xs : List D) (m : Int) : run tbT k (.fn 5) [A (.tup xs), A (.int m)] S = .ok (.bl ((xs.length : Int) == m)) S := by
  refine fn_at (F := t5) rfl (by omega) [A (.tup xs), A (.int m)] rfl rfl rfl rfl (fin_ret (ret ?_))
  have he : ∀ S : St, eqR (run tbT (k-1)) false [(0, 13)] (.int xs.length) (.int m) S = .ok (.bl ((xs.length : Int) == m)) S := fun S => by
    rw [eqR_of rfl rfl (eqD_int _ _)]; rfl
  simp [slot, notFn, knC, isK, vw, biD, he]
theorem s6_p (hk : 2 ≤ k) (a b : D) : run tbT k (.fn 6) [A (.tup [a, b])] S = .ok (.bl true) S := by
  refine fn_at (F := t6) rfl (by omega) [A (.tup [a, b])] rfl rfl rfl rfl (fin_ret (ret ?_))
  have h0 : ∀ S, run tbT (k-1) (.fn 5) [A (.tup [a, b]), A (.int 2)] S = .ok (.bl true) S := fun S => by rw [s5_t (by omega)]; rfl
  simp [as_cons, h0, slot, permute]
/-- a pair of a list -/
def pr (p : List Nat × Int) : D := .tup [.str p.1, .int p.2]
def Pr (p : List Nat × Int) : Prop := Wd p.1 ∧ 0 ≤ p.2 ∧ p.2 ≤ 9
/-- ascending -/
def Asc : List (List Nat × Int) → Prop
  | [] => True
  | [_] => True
  | p :: q :: r => p.1 < q.1 ∧ Asc (q :: r)
theorem vw_of {S : St} {d : D} (h : ∀ n, d ≠ .loc n) : vw S d = d := by cases d <;> first | rfl | exact absurd rfl (h _)
theorem shp_prs {ps : List (List Nat × Int)} (h : ∀ q ∈ ps, Pr q) : (D.tup (ps.map pr)).shp = true := shp_tup (n := 1) (fun x hx => by
    obtain ⟨q, hq, rfl⟩ := List.mem_map.mp hx
    have := data_str (h q hq).1.2.2.txt
    simp only [pr, D.data, D.dataL, Bool.and_true] at this ⊢
    exact this) (fun x hx => by
    obtain ⟨q, hq, rfl⟩ := List.mem_map.mp hx
    simp [pr, D.depth, D.depthL]) (by omega)
theorem s8_e (hk : 4 ≤ k) (ahead : List (List Nat × Int)) (p : List Nat × Int) (hp : Pr p) (ha : ∀ q ∈ ahead, Pr q) (h : ∀ q, ahead.getLast? = some q → q.1 < p.1) : run tbT k (.fn 8) [A (.tup (ahead.map pr)), A (pr p)] S = .ok (.bl true) S := by
  obtain ⟨w, n⟩ := p
  obtain ⟨h1, h2, h3⟩ := hp
  simp only at h1 h2 h3 h
  have g6 : ∀ S, run tbT (k-1) (.fn 6) [A (.tup [.str w, .int n])] S = .ok (.bl true) S := fun S => s6_p (by omega) _ _
  have g4 : ∀ S, run tbT (k-1) (.fn 4) [A (.str w)] S = .ok (.bl true) S := fun S => s4_w (by omega) w h1
  have g2 : ∀ S, run tbT (k-1) (.fn 2) [A (.int n), A (.int 9)] S = .ok (.bl true) S := fun S => by rw [s2_int (by omega)]; simp [h2, h3]
  refine fn_at (F := t8) rfl (by omega) [A (.tup (ahead.map pr)), A (pr (w, n))] rfl rfl rfl rfl (fin_ret (nx (S' := S) (ifF (S' := S) ?_ b_nil) (ret ?_)))
  · simp [as_cons, slot, permute, g6, g4, g2, pr, vw, idxD, at_, ix]
  · cases he : ahead.getLast? with
    | none =>
      have : ahead = [] := by simpa using he
      subst this
      have e : ∀ S, eqR (run tbT (k-1)) false [(0, 13)] (.tup []) (.tup []) S = .ok (.bl true) S := fun S => by
        rw [eqR_of (r := true) rfl rfl (by decide)]; rfl
      simp [slot, e]
    | some q =>
      have hne : ahead ≠ [] := by intro e; rw [e] at he; cases he
      have hq := h q he
      have e : ∀ S, eqR (run tbT (k-1)) false [(0, 13)] (.tup (ahead.map pr)) (.tup []) S = .ok (.bl false) S := fun S => by
        rw [eqR_of (r := false) rfl rfl ?_]; rfl
        have s1 : (D.tup (ahead.map pr)).shp = true := shp_prs ha
        have s2 : (D.tup ([] : List D)).shp = true := rfl
        cases ahead with
        | nil => exact absurd rfl hne
        | cons a b =>
          unfold eqD
          rw [s1, s2]
          rfl
      have hl : idxD (.tup (ahead.map pr)) (.int (-1)) = some (pr q) := by
        simp only [idxD, at_, ix, List.length_map]
        have hpos : 0 < ahead.length := List.length_pos_iff.mpr hne
        rw [if_neg (by omega), if_pos (by omega)]
        simp only [Option.bind_some, List.getElem?_map]
        have : ((-1 : Int) + (ahead.length : Nat)).toNat = ahead.length - 1 := by omega
        rw [this, ← List.getLast?_eq_getElem?, he]
        rfl
      have hl2 : idxD (pr q) (.int 0) = some (.str q.1) := rfl
      have hl3 : idxD (pr (w, n)) (.int 0) = some (.str w) := rfl
      have v1 : ∀ S, vw S (pr q) = pr q := fun _ => rfl
      have v2 : ∀ S, vw S (pr (w, n)) = pr (w, n) := fun _ => rfl
      have v3 : ∀ S, vw S (.tup (ahead.map pr)) = .tup (ahead.map pr) := fun _ => rfl
      have v4 : ∀ S z, vw S (.str z) = .str z := fun _ _ => rfl
      simp [slot, e, v1, v2, v3, v4, hl, hl2, hl3, cmpD, ltD, hq]
theorem asc_last : ∀ {ps : List (List Nat × Int)} {j : Nat} {p : List Nat × Int}, Asc ps → ps[j]? = some p → ∀ q, (ps.take j).getLast? = some q → q.1 < p.1 := by
  intro ps j p h hp q hq
  cases j with
  | zero => simp at hq
  | succ j =>
    have hl : j + 1 < ps.length := (List.getElem?_eq_some_iff.mp hp).1
    have hq2 : ps[j]? = some q := by
      rw [List.getLast?_eq_getElem?, List.length_take, Nat.min_eq_left (by omega)] at hq
      simpa [List.getElem?_take] using hq
    clear hq
    induction ps generalizing j with
    | nil => simp at hp
    | cons a b ih =>
      cases b with
      | nil => simp at hp
      | cons c d =>
        cases j with
        | zero => simp at hq2 hp; subst hq2 hp; exact h.1
        | succ j => exact ih h.2 j (by simpa using hp) (by simpa using hl) (by simpa using hq2)
/-- the list's pairs, right -/
def Ps (ps : List (List Nat × Int)) : Prop := (∀ p ∈ ps, Pr p) ∧ Asc ps ∧ ps.length ≤ 60
theorem s7_w (hk : 5 ≤ k) (ps : List (List Nat × Int)) (h : Ps ps) : run tbT k (.fn 7) [A (.tup (ps.map pr)), A (.int 0), A (.int 60), A (.fn 8)] S = .ok (.lst []) S := by
  obtain ⟨h1, h2, h3⟩ := h
  have hv : ∀ S, vw S (.tup (ps.map pr)) = .tup (ps.map pr) := fun _ => rfl
  have g8 : ∀ (ahead : List (List Nat × Int)) (p : List Nat × Int), Pr p → (∀ q ∈ ahead, Pr q) → (∀ q, ahead.getLast? = some q → q.1 < p.1) → ∀ S, run tbT (k-1) (.fn 8) [A (.tup (ahead.map pr)), A (pr p)] S = .ok (.bl true) S := fun ahead p a b c S => s8_e (by omega) ahead p a b c
  refine fn_at (F := t7) rfl (by omega) [A (.tup (ps.map pr)), A (.int 0), A (.int 60), A (.fn 8), none, none] rfl rfl rfl rfl (fin_ret (nx (S' := S) (ifF (S' := S) ?_ b_nil) ?_))
  · simp [slot, notFn, knC, isK, vw, biD, cmpD, ltD]
  obtain ⟨ρ', S', f1, f2, f3, f4⟩ := for_ok (cl := run tbT (k-1)) (S := S) (ρ := [A (.tup (ps.map pr)), A (.int 0), A (.int 60), A (.fn 8), none, none]) (t := .tup [.nm 4, .nm 5]) (i := .enum (.var 0) 0)
    (body := (.cons (.ife (.or (.eq false [(0, 13)] (.var 4) (.var 2)) (.not (.callv 3 [(8, [])] (.cons false (.slc (.var 0) .no (.var 4)) (.cons false (.var 5) .nil))))) (.cons (.ret (.lst false (.cons false (.var 4) .nil))) .nil) .nil) .nil)) (w := .non) (xs := enumL (ps.map pr) 0) (S1 := S)
    (fun j ρ S' => S' = S ∧ ∃ e4 e5, ρ = [A (.tup (ps.map pr)), A (.int 0), A (.int 60), A (.fn 8), e4, e5]) (by simp [slot, srcI]) (by simp) ⟨rfl, _, _, rfl⟩ fun j x hx ρ S' ⟨hS, e4, e5, hρ⟩ => by
      subst hS hρ
      obtain ⟨y, hy, ex⟩ := enum_at hx
      rw [Int.zero_add] at ex
      subst ex
      rw [List.getElem?_map, Option.map_eq_some_iff] at hy
      obtain ⟨p, hp, rfl⟩ := hy
      have hj : j < ps.length := (List.getElem?_eq_some_iff.mp hp).1
      refine ⟨[A (.tup (ps.map pr)), A (.int 0), A (.int 60), A (.fn 8), A (.int (j : Nat)), A (pr p)], _, S', rfl, .inl (nx (S' := S') (ifF (S' := S') ?_ b_nil) b_nil), rfl, _, _, rfl⟩
      have e1 : ∀ S, eqR (run tbT (k-1)) false [(0, 13)] (.int (j : Nat)) (.int 60) S = .ok (.bl false) S := fun S => by
        rw [eqR_of (r := false) rfl rfl (by rw [eqD_int]; simp; omega)]; rfl
      have e2 : evE (run tbT (k-1)) (.slc (.var 0) .no (.var 4)) [A (.tup (ps.map pr)), A (.int 0), A (.int 60), A (.fn 8), A (.int (j : Nat)), A (pr p)] S' = .ok (.tup ((ps.take j).map pr)) S' := by
        refine slc_hi (x := .tup (ps.map pr)) (i := (j : Nat)) (S1 := S') (by simp [slot]) rfl (by simp [slot]) ?_
        simp only [vw, slcV, cut, sIx]
        rw [if_neg (by omega)]
        simp only [Int.toNat_natCast, List.length_map, List.drop_zero, Nat.sub_zero, ← List.map_take]
        rw [Nat.min_eq_left (by omega)]
      have e3 := g8 (ps.take j) p (h1 p (List.mem_of_getElem? hp)) (fun q hq => h1 q (List.mem_of_mem_take hq)) (asc_last h2 hp)
      simp [slot, e1, as_cons, e2, permute, e3, -List.map_take]
  subst f2
  refine nx (f1) (ret ?_)
  simp [line, mkO]
theorem s9_w (hk : 6 ≤ k) (ps : List (List Nat × Int)) (h : Ps ps) : run tbT k (.fn 9) [A (.tup (ps.map pr))] S = .ok (.lst []) S := by
  refine fn_at (F := t9) rfl (by omega) [A (.tup (ps.map pr))] rfl rfl rfl rfl (fin_ret (ret ?_))
  have g7 : ∀ S, run tbT (k-1) (.fn 7) [A (.tup (ps.map pr)), A (.int 0), A (.int 60), A (.fn 8)] S = .ok (.lst []) S := fun S => s7_w (by omega) ps h
  simp [slot, as_cons, permute, g7]
/-- a list as it stands -/
def kv (p : List Nat × Int) : D × D := (.str p.1, .int p.2)
def WLf (ps : List (List Nat × Int)) : List D := [.tup (ps.map pr), .dct false (ps.map kv)]
def WL (ps : List (List Nat × Int)) : D := .ins 0 (WLf ps)
theorem lt_irr (a : List Nat) : ¬ a < a := List.lt_irrefl a
theorem lt_tr {a b c : List Nat} (h : a < b) (h' : b < c) : a < c := List.lt_trans h h'
theorem asc_head : ∀ {ps : List (List Nat × Int)} {p : List Nat × Int}, Asc (p :: ps) → ∀ q ∈ ps, p.1 < q.1
  | [], _, _, q, hq => by cases hq
  | r :: ps, p, h, q, hq => by
    rcases List.mem_cons.mp hq with rfl | hq
    · exact h.1
    · exact lt_tr h.1 (asc_head h.2 q hq)
theorem asc_tail {ps : List (List Nat × Int)} {p : List Nat × Int} (h : Asc (p :: ps)) : Asc ps := by
  cases ps with
  | nil => trivial
  | cons q r => exact h.2
theorem asc_mem : ∀ {qs ps : List (List Nat × Int)} {p : List Nat × Int}, Asc (qs ++ p :: ps) → ∀ q ∈ qs, q.1 < p.1
  | [], _, _, _, q, hq => by cases hq
  | r :: qs, ps, p, h, q, hq => by
    rcases List.mem_cons.mp hq with rfl | hq
    · exact asc_head h p (by simp)
    · exact asc_mem (asc_tail h) q hq
theorem wfK_kv (n : Nat) : ∀ ps : List (List Nat × Int), D.wfK n (ps.map kv) = true
  | [] => rfl
  | p :: ps => by simp [kv, D.wfK, D.wf, wfK_kv n ps]
theorem pairs_asc : ∀ (ps qs : List (List Nat × Int)), Asc (qs ++ ps) → pairsOf false (ps.map pr) (qs.map kv) = some ((qs ++ ps).map kv)
  | [], qs, _ => by simp [pairsOf]
  | p :: ps, qs, h => by
    simp only [List.map_cons, pr, pairsOf, kOk, keyF, Bool.false_eq_true, if_false, if_true]
    have hn : ∀ q ∈ qs, q.1 < p.1 := asc_mem h
    rw [dput_new (fun z hz => by
      obtain ⟨q, hq, rfl⟩ := List.mem_map.mp hz
      intro e
      have e2 : q.1 = p.1 := by simpa [kv] using e
      exact lt_irr _ (by have := hn q hq; rwa [e2] at this))]
    have := pairs_asc ps (qs ++ [p]) (by simpa using h)
    simpa [kv, pr] using this
theorem s10 (hk : 7 ≤ k) (ps : List (List Nat × Int)) (h : Ps ps) : run tbT k (.fn 10) [A (.loc S.length), A (.tup (ps.map pr))] (S ++ [.ins 0 []]) = .ok .non (S ++ [.ins 0 (WLf ps)]) := by
  have g9 : ∀ S, run tbT (k-1) (.fn 9) [A (.tup (ps.map pr))] S = .ok (.lst []) S := fun S => s9_w (by omega) ps h
  have hp : pairsOf false (ps.map pr) [] = some (ps.map kv) := by simpa using pairs_asc ps [] h.2.1
  have hl : (ps.map pr).length ≤ line := le_line (by have := h.2.2; simp; omega)
  have i0 : (S ++ [O.ins 0 []])[S.length]? = some (.ins 0 []) := by simp
  have i1 : (S ++ [O.ins 0 [.tup (ps.map pr)]])[S.length]? = some (.ins 0 [.tup (ps.map pr)]) := by simp
  have s0 : (S ++ [O.ins 0 []]).set S.length (.ins 0 ([] ++ [.tup (ps.map pr)])) = S ++ [.ins 0 [.tup (ps.map pr)]] := by simp
  have s1 : (S ++ [O.ins 0 [.tup (ps.map pr)]]).set S.length (.ins 0 ([.tup (ps.map pr)] ++ [.dct false (ps.map kv)])) = S ++ [.ins 0 (WLf ps)] := by simp [WLf]
  refine fn_at (F := t10) rfl (by omega) [A (.loc S.length), A (.tup (ps.map pr)), none] rfl rfl rfl (by simp) (fin_nx (ρ := [A (.loc S.length), A (.tup (ps.map pr)), none]) ?_)
  refine nx (S' := S ++ [.ins 0 []]) (ρ' := [A (.loc S.length), A (.tup (ps.map pr)), none]) ?_ (nx (S' := S ++ [.ins 0 [.tup (ps.map pr)]]) (fld (v := .tup (ps.map pr)) (n := S.length) (S1 := S ++ [.ins 0 []]) (c := 0) (fs := []) (i := 0) ?_ ?_ i0 rfl rfl (by simp) s0) (nx (S' := S ++ [.ins 0 (WLf ps)]) (fld (v := .dct false (ps.map kv)) (n := S.length) (S1 := S ++ [.ins 0 [.tup (ps.map pr)]]) (c := 0) (fs := [.tup (ps.map pr)]) (i := 1) ?_ ?_ i1 rfl rfl (by simp) s1) b_nil))
  · refine for_nil (w := .lst []) (S1 := S ++ [.ins 0 []]) ?_ (fun n h => by cases h)
    simp [slot, permute, g9, vw, items]
  · simp [slot]
  · simp [slot]
  · simp [slot, vw, items, btD, btX, btD0, hp, mkO, -List.length_map]
    exact hl
  · simp [slot]
theorem new_wl {ρ : Env} {es : MEs} {S1 : St} (hk : 7 ≤ k) (ps : List (List Nat × Int)) (h : Ps ps) (he : evEs (run tbT k) es ρ S = .ok [.tup (ps.map pr)] S1) : evE (run tbT k) (.new 0 10 false es) ρ S = .ok (WL ps) S1 := by
  refine new_ok he (s10 hk ps h) ?_
  intro f hf
  rcases List.mem_cons.mp hf with rfl | hf
  · simp only [D.wf, wfL_all, List.all_eq_true]
    intro x hx
    obtain ⟨p, hp, rfl⟩ := List.mem_map.mp hx
    rfl
  · rw [List.mem_singleton.mp hf]
    simp only [D.wf, wfK_kv]
theorem s11 (hk : 1 ≤ k) (ps : List (List Nat × Int)) : run tbT k (.fn 11) [A (WL ps)] S = .ok (.tup (ps.map pr)) S := by
  refine fn_at (F := t11) rfl (by omega) [A (WL ps)] rfl rfl rfl rfl (fin_ret (ret ?_))
  simp [slot, vw, WL, WLf]
theorem s12 (hk : 1 ≤ k) (ps : List (List Nat × Int)) : run tbT k (.fn 12) [A (WL ps)] S = .ok (.tup (ps.map pr)) S := by
  refine fn_at (F := t12) rfl (by omega) [A (WL ps)] rfl rfl rfl rfl (fin_ret (ret ?_))
  simp [slot, vw, WL, WLf]
theorem s13 (hk : 2 ≤ k) (ps : List (List Nat × Int)) (h : Ps ps) : run tbT k (.fn 13) [A (WL ps), A (WL ps)] S = .ok (.bl true) S := by
  have g12 : ∀ S, run tbT (k-1) (.fn 12) [A (WL ps)] S = .ok (.tup (ps.map pr)) S := fun S => s12 (by omega) ps
  have e : ∀ S, eqR (run tbT (k-1)) false [(0, 13)] (.tup (ps.map pr)) (.tup (ps.map pr)) S = .ok (.bl true) S := fun S => by
    rw [eqR_of (r := true) rfl rfl (eqD_refl (shp_prs h.1))]; rfl
  have v : ∀ S, vw S (WL ps) = .ins 0 (WLf ps) := fun _ => rfl
  have i : ∀ S, isK S (WL ps) (.cls 0) = true := fun _ => rfl
  refine fn_at (F := t13) rfl (by omega) [A (WL ps), A (WL ps)] rfl rfl rfl rfl (fin_ret (ret ?_))
  have n : notFn (WL ps) = true := rfl
  simp [slot, v, knC, i, n, g12, e]
theorem s14 (hk : 1 ≤ k) (ps : List (List Nat × Int)) : run tbT k (.fn 14) [A (WL ps)] S = .ok .non S := by
  refine fn_at (F := t14) rfl (by omega) [A (WL ps)] rfl rfl rfl rfl (fin_nx (ρ := [A (WL ps)]) (nx (S' := S) (ifF (S' := S) ?_ b_nil) b_nil))
  have v : ∀ S, vw S (WL ps) = .ins 0 (WLf ps) := fun _ => rfl
  have i : ∀ S, isK S (WL ps) (.cls 0) = true := fun _ => rfl
  have n : notFn (WL ps) = true := rfl
  simp [slot, v, knC, i, n]
theorem dict_of (ps : List (List Nat × Int)) (S : St) (a : List (Nat × (Nat ⊕ Nat))) (ρ : Env) (cl : Cl) (i : Nat) (h : slot ρ i = A (WL ps)) : evE cl (.attr (.var i) [(0, .inl 1)]) ρ S = .ok (.dct false (ps.map kv)) S := by
  simp [h, vw, WL, WLf]
theorem s15 (hk : 2 ≤ k) (ps : List (List Nat × Int)) : run tbT k (.fn 15) [A (WL ps)] S = .ok (.tup (ps.map fun p => .str p.1)) S := by
  have g14 : ∀ S, run tbT (k-1) (.fn 14) [A (WL ps)] S = .ok .non S := fun S => s14 (by omega) ps
  refine fn_at (F := t15) rfl (by omega) [A (WL ps)] rfl rfl rfl rfl (fin_ret (nx (S' := S) (s_ex (d := .non) ?_) (ret ?_)))
  · simp [slot, permute, g14]
  · simp [slot, vw, WL, WLf, items, btD, btX, btD0, kv]
/-- a pattern -/
def Pt (p : List Nat) : Prop := 2 ≤ p.length ∧ p.length ≤ 8 ∧ ∀ c ∈ p, c = 46 ∨ ltr c = true
theorem Pt.txt {p : List Nat} (h : Pt p) : txt p := fun c hc => by
  rcases h.2.2 c hc with h | h
  · omega
  · simp [ltr] at h; omega
theorem s16 (hk : 1 ≤ k) (p : List Nat) (h : Pt p) : run tbT k (.fn 16) [A (.str p)] S = .ok (.bl true) S := by
  obtain ⟨h1, h2, h3⟩ := h
  have hl : p.length ≤ line := le_line (by omega)
  refine fn_at (F := t16) rfl (by omega) [A (.str p), none] rfl rfl rfl rfl (fin_ret (nx (S' := S) (ifF (S' := S) ?_ b_nil) (ret ?_)))
  · simp [slot, notFn, knC, isK, vw, biD, hl, cmpD]
    rw [if_pos (by omega)]
    simp
    omega
  · have hlc : evE (run tbT (k-1)) (.lc false [1] (.or (.eq false [(0, 13)] (.var 1) (.glb (.str [46]))) (.cmp .inn (.var 1) (.glb (.str [97,98,99,100,101,102,103,104,105,106,107,108,109,110,111,112,113,114,115,116,117,118,119,120,121,122])))) (.nm 1) (.val (.var 0)) .nil) [A (.str p), none] S = .ok (.lst ((p.map fun c => D.str [c]).map fun _ => .bl true)) S := by
      rw [lc_ok (.str p) (p.map fun c => D.str [c]) (fun _ => true) (fun _ => .bl true) (S1 := S) (by simp [slot, vw, items]) (by simp) (le_line (by simp; omega)) fun x hx acc => ?_, filt_true]
      obtain ⟨c, hc, rfl⟩ := List.mem_map.mp hx
      have hc' := h3 c hc
      have hx1 : c < 1114112 := Pt.txt ⟨h1, h2, h3⟩ c hc
      have e : ∀ S, eqR (run tbT (k-1)) false [(0, 13)] (.str [c]) (.str [46]) S = .ok (.bl ([c] == [46])) S := fun S => by
        rw [eqR_of rfl rfl (eqD_str (by intro z hz; rw [List.mem_singleton.mp hz]; exact hx1) (by intro z hz; rw [List.mem_singleton.mp hz]; omega))]; rfl
      refine ⟨_, rfl, by simp, fun _ => ⟨?_, rfl⟩⟩
      rcases hc' with rfl | hc'
      · simp [slot, e, wipe, dropA]
      · have : ([c] == [46]) = false := by
          simp [ltr] at hc'
          simp
          omega
        simp [slot, e, this, wipe, dropA, cmpD, inD, vw]
        exact or_let c hc'
    simp [hlc, vw, items]
    have := all_true (p.map fun c => D.str [c]) S
    simpa using this
/-- does the word fit -/
def fit (w p : List Nat) : Bool := w.length == p.length && (w.zip p).all fun z => z.2 == 46 || z.2 == z.1
theorem bools_map {α : Type} (f : α → Bool) (xs : List α) : bools (xs.map fun x => D.bl (f x)) = some (xs.map f) := by
  unfold bools
  induction xs with
  | nil => rfl
  | cons x xs ih => simp only [List.map_cons, mapO, ih]
theorem zipL_map (w p : List Nat) : zipL (w.map fun c => D.str [c]) (p.map fun c => D.str [c]) = (w.zip p).map fun z => .tup [.str [z.1], .str [z.2]] := by
  induction w generalizing p with
  | nil => cases p <;> simp [zipL]
  | cons a w ih =>
    cases p with
    | nil => simp [zipL]
    | cons b p => simp [zipL, ih]
theorem s17 (hk : 1 ≤ k) (w p : List Nat) (hw : Wd w) (hp : Pt p) : run tbT k (.fn 17) [A (.str w), A (.str p)] S = .ok (.bl (fit w p)) S := by
  have hlw : w.length ≤ line := le_line (by have := hw.2.1; omega)
  have hlp : p.length ≤ line := le_line (by have := hp.2.1; omega)
  refine fn_at (F := t17) rfl (by omega) [A (.str w), A (.str p), none, none] rfl rfl rfl rfl (fin_ret (ret ?_))
  have e : ∀ S, eqR (run tbT (k-1)) false [(0, 13)] (.int w.length) (.int p.length) S = .ok (.bl (w.length == p.length)) S := fun S => by
    rw [eqR_of rfl rfl (eqD_int _ _)]
    have : ((w.length : Int) == (p.length : Int)) = (w.length == p.length) := by
      rw [Bool.eq_iff_iff]
      simp only [beq_iff_eq]
      omega
    rw [this]
    rfl
  have hlc : evE (run tbT (k-1)) (.lc false [2, 3] (.cmp .inn (.var 3) (.tup (.cons false (.glb (.str [46])) (.cons false (.var 2) .nil)))) (.tup [.nm 2, .nm 3]) (.zip (.var 0) (.var 1)) .nil) [A (.str w), A (.str p), none, none] S = .ok (.lst ((w.zip p).map fun z => .bl (z.2 == 46 || z.2 == z.1))) S := by
    rw [lc_ok .non ((w.zip p).map fun z => .tup [.str [z.1], .str [z.2]]) (fun _ => true) (fun x => match x with
      | .tup [.str [a], .str [b]] => .bl (b == 46 || b == a)
      | _ => .non) (S1 := S) (by simp [slot, srcI, zipL_map]) (by simp) (le_line (by have := hw.2.1; simp; omega)) fun x hx acc => ?_, filt_true, List.map_map]
    · rfl
    obtain ⟨⟨a, b⟩, hz, rfl⟩ := List.mem_map.mp hx
    have ha : a < 1114112 := hw.2.2.txt a (List.of_mem_zip hz).1
    have hb : b < 1114112 := hp.txt b (List.of_mem_zip hz).2
    refine ⟨_, rfl, by simp, fun _ => ⟨?_, rfl⟩⟩
    have s1 : ∀ c, c < 1114112 → (D.str [c]).shp = true := fun c hc => shp_str (by intro z hz; rw [List.mem_singleton.mp hz]; exact hc)
    have s2 : (D.tup [.str [46], .str [a]]).shp = true := shp_tup (n := 0) (fun x hx => by
      simp at hx
      rcases hx with rfl | rfl
      · rfl
      · exact data_str (by intro z hz; rw [List.mem_singleton.mp hz]; exact ha)) (fun x hx => by
      simp at hx
      rcases hx with rfl | rfl <;> simp [D.depth]) (by omega)
    have hline : 2 ≤ line := le_line (by omega)
    have hin := in_tup (s1 b hb) s2
    simp [slot, wipe, dropA, hline, cmpD, hin]
    have c1 : (46 == b) = (b == 46) := by rw [Bool.eq_iff_iff]; simp only [beq_iff_eq]; omega
    have c2 : (a == b) = (b == a) := by rw [Bool.eq_iff_iff]; simp only [beq_iff_eq]; omega
    rw [c1, c2]
  simp [slot, biD, hlw, hlp, e, hlc, items]
  unfold fit
  cases hq : (w.length == p.length) with
  | false => rfl
  | true =>
    show btD false .all (.lst ((w.zip p).map fun z => D.bl (z.2 == 46 || z.2 == z.1))) S = _
    simp only [btD, btX, btD0, bools_map]
    rw [List.all_map]
    rfl
/-- the words that fit -/
def fits (ps : List (List Nat × Int)) (p : List Nat) : List (List Nat) := (ps.filter fun q => fit q.1 p).map (·.1)
theorem s18 (hk : 2 ≤ k) (ps : List (List Nat × Int)) (p : List Nat) (h : Ps ps) (hp : Pt p) : run tbT k (.fn 18) [A (WL ps), A (.str p)] S = .ok (.lst ((fits ps p).map .str)) S := by
  have g17 : ∀ w, Wd w → ∀ S, run tbT (k-1) (.fn 17) [A (.str w), A (.str p)] S = .ok (.bl (fit w p)) S := fun w hw S => s17 (by omega) w p hw hp
  refine fn_at (F := t18) rfl (by omega) [A (WL ps), A (.str p), none] rfl rfl rfl rfl (fin_ret (ret ?_))
  rw [lc_ok (.dct false (ps.map kv)) ((ps.map kv).map (·.1)) (fun x => match x with
    | .str w => fit w p
    | _ => false) (fun x => x) (S1 := S) (by simp [slot, WL, WLf, items]) (by simp) (le_line (by have := h.2.2; simp; omega)) fun x hx acc => ?_]
  · congr 2
    unfold fits
    simp only [List.map_id', List.map_map]
    clear h
    induction ps with
    | nil => rfl
    | cons q ps ih =>
      simp only [List.map_cons, List.filter_cons, Function.comp, kv] at ih ⊢
      split <;> simp_all [kv]
  · simp only [List.map_map, List.mem_map, Function.comp] at hx
    obtain ⟨q, hq, rfl⟩ := hx
    have g := g17 q.1 (h.1 q hq).1
    refine ⟨_, rfl, ?_, fun _ => ⟨by simp [slot, wipe, dropA, kv], rfl⟩⟩
    simp [slot, wipe, dropA, kv, g, permute]
    cases fit q.1 p <;> rfl
/-! the letters at a place -/
theorem mem_dedup : ∀ (r acc : List D) (x : D), x ∈ dedup acc r → x ∈ acc ∨ x ∈ r
  | [], acc, x, h => by simp [dedup] at h; exact .inl h
  | y :: r, acc, x, h => by
    simp only [dedup] at h
    split at h
    · rcases mem_dedup r acc x h with h | h
      · exact .inl h
      · exact .inr (List.mem_cons_of_mem _ h)
    · rcases mem_dedup r (y :: acc) x h with h | h
      · rcases List.mem_cons.mp h with rfl | h
        · exact .inr List.mem_cons_self
        · exact .inl h
      · exact .inr (List.mem_cons_of_mem _ h)
theorem len_dedup : ∀ (r acc : List D), (dedup acc r).length ≤ acc.length + r.length
  | [], acc => by simp [dedup]
  | y :: r, acc => by
    simp only [dedup]
    split
    · have := len_dedup r acc; simp only [List.length_cons]; omega
    · have := len_dedup r (y :: acc); simp only [List.length_cons] at this ⊢; omega
theorem strs_of (ss : List (List Nat)) : strZ (ss.map D.str) = some ss := by
  unfold strZ
  induction ss with
  | nil => rfl
  | cons s ss ih => simp only [List.map_cons, mapO, ih]
theorem un_str {P : List Nat → Prop} : ∀ {xs : List D}, (∀ x ∈ xs, ∃ z, x = .str z ∧ P z) → ∃ zs : List (List Nat), xs = zs.map .str ∧ ∀ z ∈ zs, P z
  | [], _ => ⟨[], rfl, by simp⟩
  | x :: xs, h => by
    obtain ⟨z, rfl, hz⟩ := h x List.mem_cons_self
    obtain ⟨zs, rfl, h2⟩ := un_str (xs := xs) fun y hy => h y (List.mem_cons_of_mem _ hy)
    exact ⟨z :: zs, rfl, fun y hy => by
      rcases List.mem_cons.mp hy with rfl | hy
      · exact hz
      · exact h2 y hy⟩
/-- sorted(set(texts)) -/
theorem sortSet (zs : List (List Nat)) (hz : ∀ z ∈ zs, txt z) (hl : zs.length < 4000) : ∃ ys : List (List Nat), biD .sortedSet [.lst (zs.map .str)] = some (.lst (ys.map .str)) ∧ ys.length ≤ zs.length ∧ ∀ y ∈ ys, y ∈ zs := by
  have hd : ∀ x ∈ dedup [] (zs.map D.str), ∃ z, x = .str z ∧ z ∈ zs := fun x hx => by
    rcases mem_dedup _ _ _ hx with h | h
    · cases h
    · obtain ⟨z, h2, rfl⟩ := List.mem_map.mp h
      exact ⟨z, rfl, h2⟩
  have hdl : (dedup [] (zs.map D.str)).length ≤ zs.length := by simpa using len_dedup (zs.map D.str) []
  obtain ⟨us, hus, hu⟩ := un_str hd
  have hso : sortable (us.map D.str) = true := by
    unfold sortable
    have hle : (us.map D.str).length ≤ line := le_line (by rw [hus] at hdl; simp at hdl ⊢; omega)
    simp only [Bool.and_eq_true, Bool.or_eq_true, List.all_eq_true, decide_eq_true_eq]
    refine ⟨.inr fun x hx => ?_, fun x hx => ⟨?_, fun y hy => ?_⟩, hle⟩
    · obtain ⟨z, _, rfl⟩ := List.mem_map.mp hx; rfl
    · obtain ⟨z, h, rfl⟩ := List.mem_map.mp hx; exact shp_str (hz z (hu z h))
    · obtain ⟨z, _, rfl⟩ := List.mem_map.mp hx
      obtain ⟨z', _, rfl⟩ := List.mem_map.mp hy
      rfl
  obtain ⟨ys, hys, hy⟩ := un_str (xs := (us.map D.str).mergeSort fun a b => !(D.lt b a)) (P := fun z => z ∈ zs) fun x hx => by
    rw [List.mem_mergeSort] at hx
    obtain ⟨z, h, rfl⟩ := List.mem_map.mp hx
    exact ⟨z, rfl, hu z h⟩
  refine ⟨ys, ?_, ?_, hy⟩
  · simp only [biD, seqI, List.length_map, if_pos hl, strs_of, sortD, hus, hso, if_true, Option.map_some, hys]
  · have := congrArg List.length hys
    simp at this
    rw [hus] at hdl
    simp at hdl
    omega
def colD (ws : List (List Nat)) (i : Nat) : List D := ws.map fun w => .str [w.getD i 0]
def cho (ws : List (List Nat)) (i : Nat) : List Nat := match biD .sortedSet [.lst (colD ws i)] with
  | some (.lst ys) => match strZ ys with
    | some ss => joinS [] ss
    | none => []
  | _ => []
theorem joinS_nil : ∀ ss : List (List Nat), joinS [] ss = ss.flatten
  | [] => rfl
  | [x] => by simp [joinS]
  | x :: y :: r => by
    have := joinS_nil (y :: r)
    simp only [joinS, this]
    simp
theorem cho_ok (ws : List (List Nat)) (i : Nat) (h : ∀ w ∈ ws, Lts w ∧ i < w.length) (hl : ws.length < 4000) : ∃ ys : List (List Nat), biD .sortedSet [.lst (colD ws i)] = some (.lst (ys.map .str)) ∧ cho ws i = joinS [] ys ∧ (ys.map (·.length)).sum ≤ line ∧ (∀ y ∈ ys, ∃ w ∈ ws, y = [w.getD i 0]) ∧ ys.length ≤ ws.length := by
  obtain ⟨ys, h1, h2, h3⟩ := sortSet (ws.map fun w => [w.getD i 0]) (fun z hz => by
    obtain ⟨w, hw, rfl⟩ := List.mem_map.mp hz
    intro c hc
    rw [List.mem_singleton.mp hc]
    have := (h w hw).1.txt (w.getD i 0) (by
      rw [List.getD_eq_getElem?_getD, List.getElem?_eq_getElem (h w hw).2]
      simp)
    exact this) (by simpa using hl)
  have e : (ws.map fun w => [w.getD i 0]).map D.str = colD ws i := by simp [colD]
  rw [e] at h1
  have hy : ∀ y ∈ ys, ∃ w ∈ ws, y = [w.getD i 0] := fun y hy => by
    obtain ⟨w, hw, rfl⟩ := List.mem_map.mp (h3 y hy)
    exact ⟨w, hw, rfl⟩
  have hs : ∀ ys : List (List Nat), (∀ y ∈ ys, ∃ w ∈ ws, y = [w.getD i 0]) → (ys.map (·.length)).sum = ys.length := by
    intro ys hy
    induction ys with
    | nil => rfl
    | cons y ys ih =>
      obtain ⟨w, _, rfl⟩ := hy y List.mem_cons_self
      simp only [List.map_cons, List.sum_cons, ih fun z hz => hy z (List.mem_cons_of_mem _ hz), List.length_cons, List.length_nil]
      omega
  refine ⟨ys, h1, ?_, ?_, hy, by simpa using h2⟩
  · unfold cho
    rw [h1]
    simp only [strs_of]
  · rw [hs ys hy]
    simp at h2
    exact le_line (by omega)
theorem rng_eq (n : Nat) : rngL 0 (n : Int) = (List.range n).map fun k : Nat => D.int (k : Nat) := by
  unfold rngL
  simp
theorem at_nat {α : Type} (xs : List α) (j : Nat) (h : j < xs.length) : at_ xs (j : Nat) = xs[j]? := by
  unfold at_ ix
  rw [if_pos (by omega), if_pos (by omega)]
  simp
/-- choices_by, _law_choices: the same letters at each place -/
theorem choI {cl : Cl} (d0 coll : D) (p : List Nat) (i : Nat) (ws : List (List Nat)) (hc : coll = .lst (ws.map .str) ∨ coll = .tup (ws.map .str)) (h : ∀ w ∈ ws, Lts w ∧ p.length ≤ w.length ∧ w.length ≤ 100) (hl : ws.length ≤ 100) (hi : i < p.length) :
    evE cl (.lc false [3] (.idx (.var 3) (.var 4)) (.nm 3) (.val (.var 2)) .nil) [A d0, A (.str p), A coll, none, A (.int (i : Nat))] S = .ok (.lst (colD ws i)) S := by
  rw [lc_ok coll (ws.map .str) (fun _ => true) (fun x => match x with
    | .str w => .str [w.getD i 0]
    | _ => .non) (S1 := S) (by rcases hc with rfl | rfl <;> simp [slot, items]) (by rcases hc with rfl | rfl <;> simp) (le_line (by simp; omega)) fun x hx acc => ?_, filt_true, List.map_map]
  · rfl
  · obtain ⟨w, hw, rfl⟩ := List.mem_map.mp hx
    obtain ⟨q1, q2, q3⟩ := h w hw
    have hwl : w.length ≤ line := le_line (by omega)
    refine ⟨_, rfl, by simp, fun _ => ⟨?_, rfl⟩⟩
    simp [slot, wipe, dropA, idxD, hwl]
    rw [at_nat w i (by omega), List.getElem?_eq_getElem (by omega)]
    simp
theorem len_str (cl : Cl) (ρ : Env) (i : Nat) (p : List Nat) (h : slot ρ i = A (.str p)) (hn : p.length ≤ 1000) : evI cl (.rng1 (.bi .len (.cons false (.var i) .nil))) ρ S = .ok (.non, (List.range p.length).map fun k : Nat => D.int (k : Nat)) S := by
  have hpl : p.length ≤ line := le_line (by omega)
  have sm : small62 (p.length : Int) = true := small_nat _ (by omega)
  have e : biD .len [.str p] = some (.int p.length) := len_val p hpl
  have h1 : evE cl (.bi .len (.cons false (.var i) .nil)) ρ S = .ok (.int p.length) S := by
    rw [e_bi, es_cons, e_var, h]
    simp only [es_nil, Res.bind_ok, List.map_cons, List.map_nil, v_str, e, opt_some]
  rw [i_rng1, h1, Res.bind_ok, ← rng_eq]
  simp only [sm, if_true]
theorem choE {cl : Cl} (d0 coll : D) (p : List Nat) (i : Nat) (ws : List (List Nat)) (hc : coll = .lst (ws.map .str) ∨ coll = .tup (ws.map .str)) (h : ∀ w ∈ ws, Lts w ∧ p.length ≤ w.length ∧ w.length ≤ 100) (hl : ws.length ≤ 100) (hi : i < p.length) :
    evE cl (.bm .join (.cst (.str [])) (.cons false (.bi .sortedSet (.cons false (.lc false [3] (.idx (.var 3) (.var 4)) (.nm 3) (.val (.var 2)) .nil) .nil)) .nil)) [A d0, A (.str p), A coll, none, A (.int (i : Nat))] S = .ok (.str (cho ws i)) S := by
  obtain ⟨ys, c1, c2, c3, c4, c5⟩ := cho_ok ws i (fun w hw => ⟨(h w hw).1, by have := (h w hw).2.1; omega⟩) (by omega)
  have e : bmD .join (.str []) [.lst (ys.map .str)] = some (.str (cho ws i)) := by
    simp only [bmD, items, strs_of]
    rw [if_pos (by simpa using c3), c2]
  simp only [e_bm, e_cst, Res.bind_ok, v_str, kindB, if_true, es_cons, e_bi, choI d0 coll p i ws hc h hl hi, es_nil, List.map_cons, List.map_nil, v_lst, c1, opt_some, isMut, rawA, Bool.false_eq_true, if_false, e]
theorem choL {cl : Cl} (d0 coll : D) (p : List Nat) (ws : List (List Nat)) (hc : coll = .lst (ws.map .str) ∨ coll = .tup (ws.map .str)) (h : ∀ w ∈ ws, Lts w ∧ p.length ≤ w.length ∧ w.length ≤ 100) (hl : ws.length ≤ 100) (hn : p.length ≤ 100) :
    evE cl (.lc false [4] (.bm .join (.cst (.str [])) (.cons false (.bi .sortedSet (.cons false (.lc false [3] (.idx (.var 3) (.var 4)) (.nm 3) (.val (.var 2)) .nil) .nil)) .nil)) (.nm 4) (.rng1 (.bi .len (.cons false (.var 1) .nil))) .nil) [A d0, A (.str p), A coll, none, none] S = .ok (.lst ((List.range p.length).map fun i => .str (cho ws i))) S := by
  rw [lc_ok .non ((List.range p.length).map fun k : Nat => D.int (k : Nat)) (fun _ => true) (fun x => match x with
    | .int i => .str (cho ws i.toNat)
    | _ => .non) (S1 := S) (len_str cl _ 1 p rfl (by omega)) (fun n h => by cases h) (le_line (by rw [List.length_map, List.length_range]; omega)) fun x hx acc => ?_, filt_true, List.map_map]
  · rfl
  · obtain ⟨i, hi, rfl⟩ := List.mem_map.mp hx
    have hi := List.mem_range.mp hi
    refine ⟨[A d0, A (.str p), A coll, none, A (.int (i : Nat))], rfl, f_nil, fun _ => ⟨?_, rfl⟩⟩
    exact choE d0 coll p i ws hc h hl hi
theorem fits_len {ps : List (List Nat × Int)} {p : List Nat} (h : Ps ps) : (∀ w ∈ fits ps p, Lts w ∧ p.length ≤ w.length ∧ w.length ≤ 100) ∧ (fits ps p).length ≤ 60 := by
  refine ⟨fun w hw => ?_, ?_⟩
  · obtain ⟨q, hq, rfl⟩ := List.mem_map.mp hw
    obtain ⟨h1, h2⟩ := List.mem_filter.mp hq
    have h3 := (h.1 q h1).1
    have h4 : q.1.length = p.length := by
      unfold fit at h2
      simp at h2
      exact h2.1
    exact ⟨h3.2.2, by omega, by have := h3.2.1; omega⟩
  · have := h.2.2
    have h2 := List.length_filter_le (fun q : List Nat × Int => fit q.1 p) ps
    simp only [fits, List.length_map]
    omega
theorem s19 (hk : 3 ≤ k) (ps : List (List Nat × Int)) (p : List Nat) (h : Ps ps) (hp : Pt p) : run tbT k (.fn 19) [A (WL ps), A (.str p)] S = .ok (.lst ((List.range p.length).map fun i => .str (cho (fits ps p) i))) S := by
  have g18 : ∀ S, run tbT (k-1) (.fn 18) [A (WL ps), A (.str p)] S = .ok (.lst ((fits ps p).map .str)) S := fun S => s18 (by omega) ps p h hp
  obtain ⟨f1, f2⟩ := fits_len (p := p) h
  refine fn_at (F := t19) rfl (by omega) [A (WL ps), A (.str p), none, none, none] rfl rfl rfl rfl (fin_ret (nx (S' := S) (asg (d := .lst ((fits ps p).map .str)) ?_ (by simp) rfl) (ret ?_)))
  · simp [slot, permute, g18]
  · exact choL _ _ p (fits ps p) (.inl rfl) f1 (by omega) (by have := hp.2.1; omega)
theorem s20 (hk : 3 ≤ k) (w : List Nat) (h : Wd w) : run tbT k (.fn 20) [A (.str w)] S = .ok .non S := by
  have g4 : ∀ S, run tbT (k-1) (.fn 4) [A (.str w)] S = .ok (.bl true) S := fun S => s4_w (by omega) w h
  refine fn_at (F := t20) rfl (by omega) [A (.str w)] rfl rfl rfl rfl (fin_nx (ρ := [A (.str w)]) (nx (S' := S) (ifF (S' := S) ?_ b_nil) b_nil))
  simp [slot, permute, g4]
theorem s21 (hk : 2 ≤ k) (p : List Nat) (h : Pt p) : run tbT k (.fn 21) [A (.str p)] S = .ok .non S := by
  have g : ∀ S, run tbT (k-1) (.fn 16) [A (.str p)] S = .ok (.bl true) S := fun S => s16 (by omega) p h
  refine fn_at (F := t21) rfl (by omega) [A (.str p)] rfl rfl rfl rfl (fin_nx (ρ := [A (.str p)]) (nx (S' := S) (ifF (S' := S) ?_ b_nil) b_nil))
  simp [slot, permute, g]
theorem s22 (hk : 4 ≤ k) (w p : List Nat) (hw : Wd w) (hp : Pt p) : run tbT k (.fn 22) [A (.str w), A (.str p)] S = .ok (.bl (fit w p)) S := by
  have g1 : ∀ S, run tbT (k-1) (.fn 20) [A (.str w)] S = .ok .non S := fun S => s20 (by omega) w hw
  have g2 : ∀ S, run tbT (k-1) (.fn 21) [A (.str p)] S = .ok .non S := fun S => s21 (by omega) p hp
  have g3 : ∀ S, run tbT (k-1) (.fn 17) [A (.str w), A (.str p)] S = .ok (.bl (fit w p)) S := fun S => s17 (by omega) w p hw hp
  refine fn_at (F := t22) rfl (by omega) [A (.str w), A (.str p)] rfl rfl rfl rfl (fin_ret (nx (S' := S) (s_ex (d := .non) ?_) (nx (S' := S) (s_ex (d := .non) ?_) (ret ?_))))
  · simp [slot, permute, g1]
  · simp [slot, permute, g2]
  · simp [slot, permute, g3]
theorem s23 (hk : 4 ≤ k) (ps : List (List Nat × Int)) (p : List Nat) (h : Ps ps) (hp : Pt p) : run tbT k (.fn 23) [A (WL ps), A (.str p)] S = .ok (.tup ((fits ps p).map .str)) S := by
  have g1 : ∀ S, run tbT (k-1) (.fn 14) [A (WL ps)] S = .ok .non S := fun S => s14 (by omega) ps
  have g2 : ∀ S, run tbT (k-1) (.fn 21) [A (.str p)] S = .ok .non S := fun S => s21 (by omega) p hp
  have g3 : ∀ S, run tbT (k-1) (.fn 18) [A (WL ps), A (.str p)] S = .ok (.lst ((fits ps p).map .str)) S := fun S => s18 (by omega) ps p h hp
  refine fn_at (F := t23) rfl (by omega) [A (WL ps), A (.str p)] rfl rfl rfl rfl (fin_ret (nx (S' := S) (s_ex (d := .non) ?_) (nx (S' := S) (s_ex (d := .non) ?_) (ret ?_))))
  · simp [slot, permute, g1]
  · simp [slot, permute, g2]
  · simp [slot, permute, g3, items, btD, btX, btD0]
theorem s24 (hk : 4 ≤ k) (ps : List (List Nat × Int)) (p : List Nat) (h : Ps ps) (hp : Pt p) : run tbT k (.fn 24) [A (WL ps), A (.str p)] S = .ok (.tup ((List.range p.length).map fun i => .str (cho (fits ps p) i))) S := by
  have g1 : ∀ S, run tbT (k-1) (.fn 14) [A (WL ps)] S = .ok .non S := fun S => s14 (by omega) ps
  have g2 : ∀ S, run tbT (k-1) (.fn 21) [A (.str p)] S = .ok .non S := fun S => s21 (by omega) p hp
  have g3 : ∀ S, run tbT (k-1) (.fn 19) [A (WL ps), A (.str p)] S = .ok (.lst ((List.range p.length).map fun i => .str (cho (fits ps p) i))) S := fun S => s19 (by omega) ps p h hp
  refine fn_at (F := t24) rfl (by omega) [A (WL ps), A (.str p)] rfl rfl rfl rfl (fin_ret (nx (S' := S) (s_ex (d := .non) ?_) (nx (S' := S) (s_ex (d := .non) ?_) (ret ?_))))
  · simp [slot, permute, g1]
  · simp [slot, permute, g2]
  · simp [slot, permute, g3, items, btD, btX, btD0]
theorem s25 (hk : 2 ≤ k) (ps qs : List (List Nat × Int)) : run tbT k (.fn 25) [A (WL ps), A (WL qs)] S = .ok .non S := by
  have g1 : ∀ ps S, run tbT (k-1) (.fn 14) [A (WL ps)] S = .ok .non S := fun ps S => s14 (by omega) ps
  refine fn_at (F := t25) rfl (by omega) [A (WL ps), A (WL qs)] rfl rfl rfl rfl (fin_nx (ρ := [A (WL ps), A (WL qs)]) (nx (S' := S) (s_ex (d := .non) ?_) (nx (S' := S) (s_ex (d := .non) ?_) b_nil)))
  · simp [slot, permute, g1]
  · simp [slot, permute, g1]
/-! lists by dicts -/
theorem asc_lt : ∀ {ps : List (List Nat × Int)}, Asc ps → (ps.map (·.1)).Pairwise (fun a b => a < b)
  | [], _ => List.Pairwise.nil
  | p :: ps, h => by
    rw [List.map_cons, List.pairwise_cons]
    exact ⟨fun x hx => by
      obtain ⟨q, hq, rfl⟩ := List.mem_map.mp hx
      exact asc_head h q hq, asc_lt (asc_tail h)⟩
theorem asc_nd {ps : List (List Nat × Int)} (h : Asc ps) : (ps.map (·.1)).Nodup :=
  (asc_lt h).imp fun hab e => by rw [e] at hab; exact lt_irr _ hab
theorem sort_keys {ps : List (List Nat × Int)} (h : Ps ps) {ks : List (List Nat)} (hp : ks.Perm (ps.map (·.1))) : sortD (ks.map D.str) = some ((ps.map (·.1)).map D.str) := by
  have hm : ∀ z ∈ ks, txt z := fun z hz => by
    obtain ⟨p, hp', rfl⟩ := List.mem_map.mp (hp.mem_iff.mp hz)
    exact (h.1 p hp').1.2.2.txt
  have hle : (ks.map D.str).length ≤ line := le_line (by have := hp.length_eq; have := h.2.2; simp at *; omega)
  have hso : sortable (ks.map D.str) = true := by
    unfold sortable
    simp only [Bool.and_eq_true, Bool.or_eq_true, List.all_eq_true, decide_eq_true_eq]
    refine ⟨.inr fun x hx => ?_, fun x hx => ⟨?_, fun y hy => ?_⟩, hle⟩
    · obtain ⟨z, _, rfl⟩ := List.mem_map.mp hx; rfl
    · obtain ⟨z, h, rfl⟩ := List.mem_map.mp hx; exact shp_str (hm z h)
    · obtain ⟨z, _, rfl⟩ := List.mem_map.mp hx
      obtain ⟨z', _, rfl⟩ := List.mem_map.mp hy
      rfl
  have hsrt : (ps.map (·.1)).mergeSort leS = ps.map (·.1) := perm_sorted leS_anti (List.mergeSort_perm _ leS) (List.pairwise_mergeSort leS_trans leS_total _) ((asc_lt h.2.1).imp fun hab => by
    rw [leS_iff]; exact List.le_of_lt hab)
  unfold sortD
  rw [hso, if_pos rfl, sort_strs, msort_perm hp, hsrt]
theorem dget_kv {qs : List (List Nat × Int)} (hn : (qs.map (·.1)).Nodup) {p : List Nat × Int} (hp : p ∈ qs) : dget (qs.map kv) (.str p.1) = some (.int p.2) := by
  unfold dget
  induction qs with
  | nil => cases hp
  | cons q qs ih =>
    simp only [List.map_cons, List.find?_cons]
    by_cases e : q.1 = p.1
    · have : q = p := by
        rcases List.mem_cons.mp hp with h | h
        · exact h.symm
        · exfalso
          rw [List.map_cons, List.nodup_cons] at hn
          exact hn.1 (List.mem_map.mpr ⟨p, h, e.symm⟩)
      subst this
      simp [kv]
    · have h2 : decide ((kv q).1 = .str p.1) = false := by simp [kv, e]
      rw [h2]
      rcases List.mem_cons.mp hp with h | h
      · exact absurd (by rw [h]) e
      · exact ih (by rw [List.map_cons, List.nodup_cons] at hn; exact hn.2) h
theorem s26 (hk : 8 ≤ k) (d : D) (ps qs : List (List Nat × Int)) (h : Ps ps) (hq : qs.Perm ps) (hd : vw S d = .dct false (qs.map kv)) (hd2 : ∀ acc, vw (S ++ [.lst acc]) d = .dct false (qs.map kv)) : run tbT k (.fn 26) [A d] S = .ok (WL ps) S := by
  have hn : (qs.map (·.1)).Nodup := (hq.map (·.1)).nodup_iff.mpr (asc_nd h.2.1)
  refine fn_at (F := t26) rfl (by omega) [A d, none] rfl rfl rfl rfl (fin_ret (ret ?_))
  have h1 : evE (run tbT (k-1)) (.it .sorted false (.val (.var 0))) [A d, none] S = .ok (.lst ((ps.map (·.1)).map D.str)) S := by
    have hs := sort_keys h (hq.map (·.1))
    have hi : (qs.map kv).map (·.1) = (qs.map (·.1)).map D.str := by simp [kv, Function.comp_def]
    rw [e_itV]
    simp only [e_var, slot, List.getElem?_cons_zero, Res.bind_ok, hd, items, btD, btX, btD0, hi, hs, mkO]
  have h2 : evE (run tbT (k-1)) (.lc false [1] (.tup (.cons false (.var 1) (.cons false (.idx (.var 0) (.var 1)) .nil))) (.nm 1) (.val (.it .sorted false (.val (.var 0)))) .nil) [A d, none] S = .ok (.lst (ps.map pr)) S := by
    rw [lc_ok (.lst ((ps.map (·.1)).map D.str)) ((ps.map (·.1)).map D.str) (fun _ => true) (fun x => .tup [x, (dget (qs.map kv) x).getD .non]) (S1 := S) (by rw [i_val, h1]; rfl) (fun n h => by cases h) (le_line (by have := h.2.2; simp; omega)) fun x hx acc => ?_, filt_true]
    · congr 2
      rw [List.map_map, List.map_map]
      apply List.map_congr_left
      intro p hp
      simp only [Function.comp, pr, dget_kv hn (hq.mem_iff.mpr hp), Option.getD_some]
    · obtain ⟨w, hw, rfl⟩ := List.mem_map.mp hx
      obtain ⟨p, hp, rfl⟩ := List.mem_map.mp hw
      have g := dget_kv hn (hq.mem_iff.mpr hp)
      have hline : 2 ≤ line := le_line (by omega)
      refine ⟨[A d, A (.str p.1)], rfl, f_nil, fun _ => ⟨?_, by rw [g]; rfl⟩⟩
      have hi : idxD (.dct false (qs.map kv)) (.str p.1) = some (.int p.2) := by simp [idxD, g, kOk, keyF]
      simp only [e_tup, es_cons, e_var, slot, List.getElem?_cons_zero, List.getElem?_cons_succ, Res.bind_ok, e_idx, hd2, hi, opt_some, es_nil, g, Option.getD_some]
      rw [if_pos (show ([D.str p.1, D.int p.2] : List D).length ≤ line from hline)]
  refine new_wl (k := k - 1) (by omega) ps h ?_
  rw [es_cons, e_itV, h2]
  simp only [Res.bind_ok, v_lst, items, btD, btX, btD0, es_nil]
/-- is the word among these -/
def has (qs : List (List Nat × Int)) (w : List Nat) : Bool := (qs.map kv).any fun p => decide (p.1 = .str w)
theorem has_iff {qs : List (List Nat × Int)} {w : List Nat} : has qs w = true ↔ w ∈ qs.map (·.1) := by
  unfold has
  simp [kv, List.any_eq_true, List.mem_map]
theorem ps_filter {ps : List (List Nat × Int)} (h : Ps ps) (f : List Nat × Int → Bool) : Ps (ps.filter f) := by
  refine ⟨fun p hp => h.1 p (List.mem_filter.mp hp).1, ?_, Nat.le_trans (List.length_filter_le f ps) h.2.2⟩
  have h2 := h.2.1
  clear h
  have pw : ∀ {l : List (List Nat × Int)}, (l.map (·.1)).Pairwise (fun a b => a < b) → Asc l := by
    intro l
    induction l with
    | nil => exact fun _ => trivial
    | cons a l ih =>
      intro hl
      rw [List.map_cons, List.pairwise_cons] at hl
      cases l with
      | nil => trivial
      | cons b l => exact ⟨hl.1 b.1 (by simp), ih hl.2⟩
  apply pw
  have := asc_lt h2
  rw [List.pairwise_map] at this ⊢
  exact this.filter f
theorem nd_str {ws : List (List Nat)} (h : ws.Nodup) : (ws.map D.str).Nodup := by
  unfold List.Nodup at h ⊢
  rw [List.pairwise_map]
  exact h.imp fun hab e => hab (by simpa using e)
def selB (qs : List (List Nat × Int)) (x : D) : Bool := match x with
  | .tup [.str w, _] => !has qs w
  | _ => false
def prD (x : D) : D × D := match x with
  | .tup [a, b] => (a, b)
  | _ => (.non, .non)
theorem s28 (hk : 9 ≤ k) (ps qs : List (List Nat × Int)) (h : Ps ps) : run tbT k (.fn 28) [A (WL ps), A (WL qs)] S = .ok (WL (ps.filter fun p => !has qs p.1)) S := by
  have g25 : ∀ S, run tbT (k-1) (.fn 25) [A (WL ps), A (WL qs)] S = .ok .non S := fun S => s25 (by omega) ps qs
  have g11 : ∀ S, run tbT (k-1) (.fn 11) [A (WL ps)] S = .ok (.tup (ps.map pr)) S := fun S => s11 (by omega) ps
  have hf := ps_filter h fun p => !has qs p.1
  have g26 : ∀ S, run tbT (k-1) (.fn 26) [A (.dct false ((ps.filter fun p => !has qs p.1).map kv))] S = .ok (WL (ps.filter fun p => !has qs p.1)) S := fun S => s26 (by omega) _ _ _ hf (List.Perm.refl _) rfl fun _ => rfl
  refine fn_at (F := t28) rfl (by omega) [A (WL ps), A (WL qs), none, none] rfl rfl rfl rfl (fin_ret (nx (S' := S) (s_ex (d := .non) ?_) (ret ?_)))
  · simp [slot, permute, g25]
  have hv : ∀ S, vw S (WL ps) = .ins 0 (WLf ps) := fun _ => rfl
  have hv2 : ∀ S, vw S (WL qs) = .ins 0 (WLf qs) := fun _ => rfl
  have h1 : evE (run tbT (k-1)) (.dc false false [2, 3] (.var 2) (.var 3) (.tup [.nm 2, .nm 3]) (.val (.attr (.var 0) [(0, .inr 11)])) (.cons false (.cmp .notin (.var 2) (.attr (.var 1) [(0, .inl 1)])) .nil)) [A (WL ps), A (WL qs), none, none] S = .ok (.dct false ((ps.filter fun p => !has qs p.1).map kv)) S := by
    have e : ((ps.map pr).filter (selB qs)).map prD = (ps.filter fun p => !has qs p.1).map kv := by
      rw [List.filter_map, List.map_map]
      rfl
    rw [← e]
    refine dc_ok (.tup (ps.map pr)) (ps.map pr) (selB qs) prD ?_ (fun n h => by cases h) (le_line (by have := h.2.2; simp; omega)) (fun x hx acc => ?_) ?_
    · rw [i_val]
      simp only [e_attr, e_var, slot, List.getElem?_cons_zero, Res.bind_ok, hv]
      simp [g11, Res.noX, items]
    · obtain ⟨p, hp, rfl⟩ := List.mem_map.mp hx
      refine ⟨[A (WL ps), A (WL qs), A (.str p.1), A (.int p.2)], rfl, ?_, fun _ => ⟨by simp [slot, pr, prD], by simp [slot, pr, prD], rfl, rfl, rfl⟩⟩
      have hin : cmpD .notin (.str p.1) (.dct false (qs.map kv)) = some (!has qs p.1) := by
        simp [cmpD, inD, kOk, keyF, has]
      rw [f_cons, e_cmp, e_var]
      simp only [slot, List.getElem?_cons_zero, List.getElem?_cons_succ, Res.bind_ok, e_attr, e_var, hv2, v_str]
      have hsel : selB qs (.tup [.str p.1, .int p.2]) = !has qs p.1 := rfl
      simp [WLf, hin, pr, hsel]
      cases has qs p.1 <;> rfl
    · rw [e]
      have : ((ps.filter fun p => !has qs p.1).map kv).map (·.1) = ((ps.filter fun p => !has qs p.1).map (·.1)).map D.str := by simp [kv, Function.comp_def]
      rw [this]
      exact nd_str (asc_nd hf.2.1)
  simp [as_cons, h1, permute, g26]
/-! draws -/
theorem vw_at {S : St} {n : Nat} {xs : List D} (h : S[n]? = some (.lst xs)) : vw S (.loc n) = .lst xs := by simp [vw, h]
theorem put1 {cl : Cl} {S S2 : St} {ρ : Env} {n : Nat} {x y : D} {v : D} {i : Nat} {ce : ME} (hρ : slot ρ i = A (.loc n)) (h : S[n]? = some (.lst [x, y])) (he : evE cl ce ρ S = .ok v S) (h2 : S.set n (.lst [x, v]) = S2) : exS cl (.asg (.sub (.var i) (.cst (.int 1))) ce) ρ S = .ok (.nx ρ) S2 := by
  subst h2
  simp [exS, he, asgG, hρ, putS, h, ix]
theorem b_mul (a c : Int) (h : fit64 c = true) : binD .mul (.int a) (.int c) = some (.int (a * c)) := by simp [binD, h]
theorem b_mod (a c : Int) (h : 0 < c) : binD .mod (.int a) (.int c) = some (.int (a % c)) := by simp [binD, h]
theorem b_fdiv (a c : Int) (h : 0 < c) (h2 : c < 1073741824) : binD .fdiv (.int a) (.int c) = some (.int (a / c)) := by simp only [binD]; rw [if_pos ⟨h, h2⟩]
theorem b_add (a c : Int) : binD .add (.int a) (.int c) = some (.int (a + c)) := rfl
theorem b_sub (a c : Int) : binD .sub (.int a) (.int c) = some (.int (a - c)) := rfl
theorem i_int (a : Int) : biD .int [.int a] = some (.int a) := rfl
theorem s30 (hk : 1 ≤ k) (n : Nat) (m : Int) (hb : Bowl n S) (hm : 1 ≤ m) (hm2 : m ≤ 1000000) : ∃ (r : Int) (S' : St), run tbT k (.fn 30) [A (.loc n), A (.int m)] S = .ok (.int r) S' ∧ Dr n S S' ∧ 0 ≤ r ∧ r < m := by
  obtain ⟨a, b, h1, h2, h3⟩ := hb
  have hn : n < S.length := (List.getElem?_eq_some_iff.mp h1).1
  have hv := vw_at h1
  have hi0 : idxD (.lst [.int a, .int b]) (.int 0) = some (.int a) := rfl
  have hi1 : ∀ x y, idxD (.lst [x, y]) (.int 1) = some y := fun _ _ => rfl
  by_cases ha : 0 < a
  · refine ⟨a % m, S.set n (.lst [.int (a / m), .int b]), fn_at (F := t30) rfl (by omega) [A (.loc n), A (.int m), none] rfl rfl rfl (by simp) (fin_ret (b_ret (ifT (S' := S) ?_ (nx (S' := S.set n (.lst [.int (a / m), .int b])) (ρ' := [A (.loc n), A (.int m), A (.int (a % m))]) ?_ (ret ?_))))), ⟨a / m, b, rfl, Int.ediv_nonneg h2 (by omega), h3⟩, Int.emod_nonneg _ (by omega), Int.emod_lt_of_pos _ (by omega)⟩
    · simp [slot, hv, hi0, cmpD, ltD, ha]
    · have hd : biD .divmod [.int a, .int m] = some (.tup [.int (a / m), .int (a % m)]) := by
        simp only [biD]
        rw [if_pos]
        rw [Bool.and_eq_true]
        exact ⟨decide_eq_true (by omega), decide_eq_true (by omega)⟩
      simp [exS, slot, hv, hi0, hd, asgG, asgGs, putS, h1, ix]
    · simp [slot]
  · have ha0 : a = 0 := by omega
    subst ha0
    let c1 : Int := (b * 62089 + 7) % 2147483629
    let c2 : Int := (c1 * 39373 + c1 / 8191) % 2147483629
    have q1 : 0 ≤ c1 := Int.emod_nonneg _ (by omega)
    have q2 : 0 ≤ c2 := Int.emod_nonneg _ (by omega)
    let S1 : St := S.set n (.lst [.int 0, .int c1])
    let S2 : St := S.set n (.lst [.int 0, .int c2])
    have k1 : S1[n]? = some (.lst [.int 0, .int c1]) := List.getElem?_set_self hn
    have k2 : S2[n]? = some (.lst [.int 0, .int c2]) := List.getElem?_set_self hn
    have e12 : S1.set n (.lst [.int 0, .int c2]) = S2 := by simp [S1, S2]
    have v1 := vw_at k1
    have v2 := vw_at k2
    have m1 := b_mul b 62089 (by decide)
    have m2 := b_mul c1 39373 (by decide)
    have m3 := b_fdiv c1 8191 (by omega) (by omega)
    have m4 := b_fdiv c2 577 (by omega) (by omega)
    refine ⟨(c2 / 577) % m, S2, fn_at (F := t30) rfl (by omega) [A (.loc n), A (.int m), none] rfl rfl rfl (by simp [S2]) (fin_ret (nx (S' := S) (ifF (S' := S) ?_ b_nil) (nx (S' := S1) (put1 (v := .int c1) (n := n) rfl h1 ?_ rfl) (nx (S' := S2) (put1 (v := .int c2) (n := n) rfl k1 ?_ e12) (ret ?_))))), ⟨0, c2, rfl, by omega, q2⟩, Int.emod_nonneg _ (by omega), Int.emod_lt_of_pos _ (by omega)⟩
    · simp [slot, hv, hi0, cmpD, ltD]
    · have m5 := b_mod (b * 62089 + 7) 2147483629 (by omega)
      simp only [e_bin, e_bi, es_cons, e_idx, e_var, slot, List.getElem?_cons_zero, Res.bind_ok, hv, e_cst, hi1, opt_some, v_int, m1, b_add, es_nil, List.map_cons, List.map_nil, i_int, m5]
      rfl
    · have m5 := b_mod (c1 * 39373 + c1 / 8191) 2147483629 (by omega)
      simp only [e_bin, e_bi, es_cons, e_idx, e_var, slot, List.getElem?_cons_zero, Res.bind_ok, v1, e_cst, hi1, opt_some, v_int, m2, m3, b_add, es_nil, List.map_cons, List.map_nil, i_int, m5]
      rfl
    · have m5 := b_mod (c2 / 577) m (by omega)
      simp only [e_bin, e_bi, es_cons, e_idx, e_var, slot, List.getElem?_cons_zero, List.getElem?_cons_succ, Res.bind_ok, v2, e_cst, hi1, opt_some, v_int, m4, es_nil, List.map_cons, List.map_nil, i_int, m5]
theorem s31_str (hk : 2 ≤ k) (n : Nat) (hb : Bowl n S) (z : List Nat) (hz : z ≠ []) (hl : z.length ≤ 1000) : ∃ c S', run tbT k (.fn 31) [A (.loc n), A (.str z)] S = .ok (.str [c]) S' ∧ Dr n S S' ∧ c ∈ z := by
  have hpos : 0 < z.length := List.length_pos_iff.mpr hz
  obtain ⟨r, S', h1, h2, h3, h4⟩ := s30 (S := S) (k := k - 1) (by omega) n z.length hb (by omega) (by omega)
  have hzl : z.length ≤ line := le_line (by omega)
  obtain ⟨j, rfl⟩ : ∃ j : Nat, r = j := ⟨r.toNat, by omega⟩
  have hj : j < z.length := by omega
  refine ⟨z[j], S', fn_at (F := t31) rfl (by omega) [A (.loc n), A (.str z)] rfl rfl rfl h2.len (fin_ret (ret ?_)), h2, List.getElem_mem hj⟩
  have hlen : evE (run tbT (k-1)) (.bi .len (.cons false (.var 1) .nil)) [A (.loc n), A (.str z)] S = .ok (.int z.length) S := by
    rw [e_bi, es_cons, e_var]
    simp only [slot, List.getElem?_cons_zero, List.getElem?_cons_succ, es_nil, Res.bind_ok, List.map_cons, List.map_nil, v_str, len_val z hzl, opt_some]
  have hix : idxD (.str z) (.int (j : Nat)) = some (.str [z[j]]) := by
    simp only [idxD]
    rw [if_pos hzl, at_nat z j hj, List.getElem?_eq_getElem hj]
    rfl
  simp [-e_bi, slot, as_cons, hlen, permute, h1, hix]
theorem s31_seq (hk : 2 ≤ k) (n : Nat) (hb : Bowl n S) (d : D) (xs : List D) (hd : d = .tup xs ∨ d = .lst xs) (hz : xs ≠ []) (hl : xs.length ≤ 1000) : ∃ x S', run tbT k (.fn 31) [A (.loc n), A d] S = .ok x S' ∧ Dr n S S' ∧ x ∈ xs := by
  have hpos : 0 < xs.length := List.length_pos_iff.mpr hz
  obtain ⟨r, S', h1, h2, h3, h4⟩ := s30 (S := S) (k := k - 1) (by omega) n xs.length hb (by omega) (by omega)
  obtain ⟨j, rfl⟩ : ∃ j : Nat, r = j := ⟨r.toNat, by omega⟩
  have hj : j < xs.length := by omega
  refine ⟨xs[j], S', fn_at (F := t31) rfl (by omega) [A (.loc n), A d] rfl rfl rfl h2.len (fin_ret (ret ?_)), h2, List.getElem_mem hj⟩
  have hv : ∀ S, vw S d = d := fun S => by rcases hd with rfl | rfl <;> rfl
  have hlen : evE (run tbT (k-1)) (.bi .len (.cons false (.var 1) .nil)) [A (.loc n), A d] S = .ok (.int xs.length) S := by
    have e : biD .len [d] = some (.int xs.length) := by rcases hd with rfl | rfl <;> rfl
    rw [e_bi, es_cons, e_var]
    simp only [slot, List.getElem?_cons_zero, List.getElem?_cons_succ, es_nil, Res.bind_ok, List.map_cons, List.map_nil, hv, e, opt_some]
  have hix : idxD d (.int (j : Nat)) = some xs[j] := by
    have : at_ xs (j : Nat) = some xs[j] := by rw [at_nat xs j hj, List.getElem?_eq_getElem hj]
    rcases hd with rfl | rfl <;> exact this
  simp [-e_bi, slot, as_cons, hlen, permute, h1, hix, hv]
/-- _law_word -/
theorem s33 (hk : 3 ≤ k) (n : Nat) (hb : Bowl n S) (wf : WF S) (z : List Nat) (hz : z ≠ []) (hl : z.length ≤ 1000) (m : Int) (hm : 2 ≤ m) (hm2 : m ≤ 100) : ∃ w S', run tbT k (.fn 33) [A (.loc n), A (.str z), A (.int m)] S = .ok (.str w) S' ∧ Dr n S S' ∧ 2 ≤ w.length ∧ (w.length : Int) ≤ m ∧ ∀ c ∈ w, c ∈ z := by
  obtain ⟨r, S1, h1, h2, h3, h4⟩ := s30 (S := S) (k := k - 1) (by omega) n (m - 1) hb (by omega) (by omega)
  obtain ⟨j, rfl⟩ : ∃ j : Nat, r = j := ⟨r.toNat, by omega⟩
  have hn := hb.lt
  have hr : evI (run tbT (k-1)) (.rng1 (.bin .add (.cst (.int 2)) (.call 30 false (.cons false (.var 0) (.cons false (.bin .sub (.var 2) (.cst (.int 1))) .nil)) []))) [A (.loc n), A (.str z), A (.int m), none] S = .ok (.non, rngL 0 (2 + (j : Nat))) S1 := by
    have sm : small62 (2 + (j : Int)) = true := by
      have := small_nat (2 + j) (by omega)
      simpa using this
    have e : evE (run tbT (k-1)) (.bin .add (.cst (.int 2)) (.call 30 false (.cons false (.var 0) (.cons false (.bin .sub (.var 2) (.cst (.int 1))) .nil)) [])) [A (.loc n), A (.str z), A (.int m), none] S = .ok (.int (2 + (j : Nat))) S1 := by
      simp [slot, as_cons, permute, b_sub, h1, b_add]
    rw [i_rng1, e, Res.bind_ok]
    simp only [sm, if_true]
  obtain ⟨ys, S2, g1, g2, g3, g4⟩ := lc_dr (cl := run tbT (k-1)) (ρ := [A (.loc n), A (.str z), A (.int m), none]) (S := S) (n := n) (own := [3]) (elt := (.call 31 false (.cons false (.var 0) (.cons false (.var 1) .nil)) [])) (t := .nm 3) (fun _ y => ∃ c ∈ z, y = .str [c]) hr (fun n h => by cases h)
    (le_line (by unfold rngL; simp; omega)) (h2.bowl hn) (h2.wf wf) (fun x hx S' acc hb' wf' hl' => by
      obtain ⟨c, S'', q1, q2, q3⟩ := s31_str (S := S') (k := k - 1) (by omega) n hb' z hz hl
      refine ⟨[A (.loc n), A (.str z), A (.int m), A x], .str [c], S'', rfl, ?_, q2, rfl, c, q3, rfl⟩
      simp [slot, permute, q1])
  have hys : ∃ w : List Nat, ys = w.map (fun c => D.str [c]) ∧ ∀ c ∈ w, c ∈ z := by
    have : ∀ y ∈ ys, ∃ c ∈ z, y = .str [c] := fun y hy => by
      obtain ⟨i, hi, e⟩ := List.mem_iff_getElem.mp hy
      exact g4 i (rngL 0 (2 + (j : Nat)))[i] y (List.getElem?_eq_getElem (by rw [← g3]; exact hi)) (by rw [List.getElem?_eq_getElem hi, e])
    clear g1 g3 g4
    induction ys with
    | nil => exact ⟨[], rfl, by simp⟩
    | cons y ys ih =>
      obtain ⟨c, hc, rfl⟩ := this y List.mem_cons_self
      obtain ⟨w, rfl, hw⟩ := ih fun y hy => this y (List.mem_cons_of_mem _ hy)
      exact ⟨c :: w, rfl, by simpa using ⟨hc, hw⟩⟩
  obtain ⟨w, rfl, hw⟩ := hys
  have hwl : w.length = 2 + j := by
    rw [List.length_map] at g3
    rw [g3]
    unfold rngL
    simp
    omega
  refine ⟨w, S2, fn_at (F := t33) rfl (by omega) [A (.loc n), A (.str z), A (.int m), none] rfl rfl rfl (by rw [g2.len, h2.len]) (fin_ret (ret ?_)), h2.trans g2, by omega, by omega, hw⟩
  have e : bmD .join (.str []) [.lst (w.map fun c => D.str [c])] = some (.str w) := by
    have hs : strZ (w.map fun c => D.str [c]) = some (w.map fun c => [c]) := by
      have := strs_of (w.map fun c => [c])
      rwa [List.map_map] at this
    have hlen : ((w.map fun c => [c]).map (·.length)).sum = w.length := by
      clear g1 g3 g4 hw hwl hs
      induction w with
      | nil => rfl
      | cons c w ih => simp only [List.map_cons, List.sum_cons, ih, List.length_cons, List.length_nil]; omega
    have hfl : joinS [] (w.map fun c => [c]) = w := by
      rw [joinS_nil]
      clear g1 g3 g4 hw hwl hs hlen
      induction w with
      | nil => rfl
      | cons c w ih => simp only [List.map_cons, List.flatten_cons, ih]; rfl
    simp only [bmD, items, hs]
    rw [if_pos (by rw [hlen]; exact le_line (by simp only [List.length_nil, Nat.mul_zero, Nat.add_zero]; omega)), hfl]
  simp only [e_bm, e_cst, Res.bind_ok, v_str, kindB, if_true, es_cons, g1, es_nil, isMut, rawA, Bool.false_eq_true, if_false, List.map_cons, List.map_nil, v_lst, e, opt_some]
/-! the law's own telling -/
theorem zip_range (w p : List Nat) (h : w.length = p.length) : ((List.range w.length).filter fun i => !(p.getD i 0 == 46 || p.getD i 0 == w.getD i 0)) = [] ↔ ((w.zip p).all fun z => z.2 == 46 || z.2 == z.1) = true := by
  rw [List.filter_eq_nil_iff, List.all_eq_true]
  constructor
  · intro hh z hz
    obtain ⟨i, hi, e⟩ := List.mem_iff_getElem.mp hz
    have hi1 : i < w.length := by simp at hi; omega
    have hi2 : i < p.length := by omega
    have := hh i (List.mem_range.mpr hi1)
    rw [List.getD_eq_getElem?_getD, List.getD_eq_getElem?_getD, List.getElem?_eq_getElem hi1, List.getElem?_eq_getElem hi2] at this
    subst e
    simp at this ⊢
    exact Decidable.or_iff_not_imp_left.mpr this
  · intro hh i hi
    have hi1 := List.mem_range.mp hi
    have hi2 : i < p.length := by omega
    have := hh (w[i], p[i]) (List.mem_iff_getElem.mpr ⟨i, by simp; omega, by simp⟩)
    rw [List.getD_eq_getElem?_getD, List.getD_eq_getElem?_getD, List.getElem?_eq_getElem hi1, List.getElem?_eq_getElem hi2]
    simp at this ⊢
    exact Decidable.or_iff_not_imp_left.mp this
theorem s35 (hk : 1 ≤ k) (w p : List Nat) (hw : Wd w) (hp : Pt p) : run tbT k (.fn 35) [A (.str w), A (.str p)] S = .ok (.bl (fit w p)) S := by
  have hlw : w.length ≤ line := le_line (by have := hw.2.1; omega)
  have hlp : p.length ≤ line := le_line (by have := hp.2.1; omega)
  refine fn_at (F := t35) rfl (by omega) [A (.str w), A (.str p), none] rfl rfl rfl rfl (fin_ret (ret ?_))
  have e : ∀ S, eqR (run tbT (k-1)) false [(0, 13)] (.int w.length) (.int p.length) S = .ok (.bl (w.length == p.length)) S := fun S => by
    rw [eqR_of rfl rfl (eqD_int _ _)]
    have : ((w.length : Int) == (p.length : Int)) = (w.length == p.length) := by
      rw [Bool.eq_iff_iff]
      simp only [beq_iff_eq]
      omega
    rw [this]
    rfl
  have e0 : evE (run tbT (k-1)) (.eq false [(0, 13)] (.bi .len (.cons false (.var 0) .nil)) (.bi .len (.cons false (.var 1) .nil))) [A (.str w), A (.str p), none] S = .ok (.bl (w.length == p.length)) S := by
    simp only [e_eq, e_bi, es_cons, e_var, slot, List.getElem?_cons_zero, List.getElem?_cons_succ, es_nil, Res.bind_ok, List.map_cons, List.map_nil, v_str, len_val w hlw, len_val p hlp, opt_some, e]
  rw [e_and, e0, Res.bind_ok]
  cases hq : (w.length == p.length) with
  | false => simp [fit, hq]
  | true =>
    have hle : w.length = p.length := by simpa using hq
    have hlc : evE (run tbT (k-1)) (.lc false [2] (.var 2) (.nm 2) (.rng1 (.bi .len (.cons false (.var 0) .nil))) (.cons false (.cmp .notin (.idx (.var 1) (.var 2)) (.tup (.cons false (.cst (.str [46])) (.cons false (.idx (.var 0) (.var 2)) .nil)))) .nil)) [A (.str w), A (.str p), none] S = .ok (.lst (((List.range w.length).filter fun i => !(p.getD i 0 == 46 || p.getD i 0 == w.getD i 0)).map fun i : Nat => D.int (i : Nat))) S := by
      rw [lc_ok .non ((List.range w.length).map fun k : Nat => D.int (k : Nat)) (fun x => match x with
        | .int i => !(p.getD i.toNat 0 == 46 || p.getD i.toNat 0 == w.getD i.toNat 0)
        | _ => false) (fun x => x) (S1 := S) (len_str _ _ 0 w rfl (by have := hw.2.1; omega)) (fun n h => by cases h) (le_line (by have := hw.2.1; simp; omega)) fun x hx acc => ?_]
      · rw [List.map_id', List.filter_map]
        rfl
      · obtain ⟨i, hi, rfl⟩ := List.mem_map.mp hx
        have hi1 := List.mem_range.mp hi
        have hi2 : i < p.length := by omega
        have d1 : idxD (.str w) (.int (i : Nat)) = some (.str [w.getD i 0]) := by
          simp only [idxD]
          rw [if_pos hlw, at_nat w i hi1, List.getElem?_eq_getElem hi1, List.getD_eq_getElem?_getD, List.getElem?_eq_getElem hi1]
          rfl
        have d2 : idxD (.str p) (.int (i : Nat)) = some (.str [p.getD i 0]) := by
          simp only [idxD]
          rw [if_pos hlp, at_nat p i hi2, List.getElem?_eq_getElem hi2, List.getD_eq_getElem?_getD, List.getElem?_eq_getElem hi2]
          rfl
        have ha : w.getD i 0 < 1114112 := hw.2.2.txt _ (by rw [List.getD_eq_getElem?_getD, List.getElem?_eq_getElem hi1]; simp)
        have hb : p.getD i 0 < 1114112 := hp.txt _ (by rw [List.getD_eq_getElem?_getD, List.getElem?_eq_getElem hi2]; simp)
        simp only [Int.toNat_natCast]
        generalize w.getD i 0 = a at *
        generalize p.getD i 0 = b at *
        have s1 : ∀ c, c < 1114112 → (D.str [c]).shp = true := fun c hc => shp_str (by intro z hz; rw [List.mem_singleton.mp hz]; exact hc)
        have s2 : (D.tup [.str [46], .str [a]]).shp = true := shp_tup (n := 0) (fun x hx => by
          simp at hx
          rcases hx with rfl | rfl
          · rfl
          · exact data_str (by intro z hz; rw [List.mem_singleton.mp hz]; exact ha)) (fun x hx => by
          simp at hx
          rcases hx with rfl | rfl <;> simp [D.depth]) (by omega)
        have hin := in_tup (s1 b hb) s2
        have hc : cmpD .notin (.str [b]) (.tup [.str [46], .str [a]]) = some (!(b == 46 || b == a)) := by
          simp only [cmpD, hin, Option.map_some]
          congr 2
          have c1 : (46 == b) = (b == 46) := by rw [Bool.eq_iff_iff]; simp only [beq_iff_eq]; omega
          have c2 : (a == b) = (b == a) := by rw [Bool.eq_iff_iff]; simp only [beq_iff_eq]; omega
          simp [c1, c2]
        have hline : ([D.str [46], D.str [a]] : List D).length ≤ line := le_line (by simp)
        refine ⟨[A (.str w), A (.str p), A (.int (i : Nat))], rfl, ?_, fun _ => ⟨by simp [slot], rfl⟩⟩
        rw [f_cons, e_cmp]
        simp only [e_idx, e_var, e_tup, es_cons, e_cst, es_nil, slot, List.getElem?_cons_zero, List.getElem?_cons_succ, Res.bind_ok, v_str, d1, d2, opt_some, hline, if_true, v_tup, hc, f_nil]
        cases hz : (b == 46 || b == a) <;> simp [hz]
    have hs : ∀ xs : List Nat, xs.length ≤ 100 → (D.lst (xs.map fun i : Nat => D.int (i : Nat))).shp = true := fun xs hx => shp_lst (n := 0) (fun x hx => by
      obtain ⟨i, _, rfl⟩ := List.mem_map.mp hx; rfl) (fun x hx => by
      obtain ⟨i, _, rfl⟩ := List.mem_map.mp hx; simp [D.depth]) (by omega)
    simp only [e_eq, hlc, Res.bind_ok, e_lst, es_nil, List.length_nil, Nat.zero_le, if_true, mkO]
    have hz := zip_range w p hle
    generalize hf : ((List.range w.length).filter fun i => !(p.getD i 0 == 46 || p.getD i 0 == w.getD i 0)) = fs at hz
    have hfl : fs.length ≤ 100 := by
      rw [← hf]
      have := List.length_filter_le (fun i => !(p.getD i 0 == 46 || p.getD i 0 == w.getD i 0)) (List.range w.length)
      have h8 := hw.2.1
      rw [List.length_range] at this
      omega
    have hr : eqD (.lst (fs.map fun i : Nat => D.int (i : Nat))) (.lst []) = some fs.isEmpty := by
      have h0 : (D.lst ([] : List D)).shp = true := rfl
      unfold eqD
      rw [hs fs hfl, h0]
      cases fs <;> rfl
    rw [eqR_of rfl rfl hr]
    have : fs.isEmpty = ((w.zip p).all fun z => z.2 == 46 || z.2 == z.1) := by
      rw [Bool.eq_iff_iff, ← hz]
      cases fs <;> simp
    simp [this, fit, hq]
def fitB (p : List Nat) (x : D) : Bool := match x with
  | .tup [.str w, _] => fit w p
  | _ => false
def wordD (x : D) : D := match x with
  | .tup [a, _] => a
  | _ => .non
theorem fits_map (ps : List (List Nat × Int)) (p : List Nat) : ((ps.map pr).filter (fitB p)).map wordD = (fits ps p).map .str := by
  rw [List.filter_map, List.map_map]
  unfold fits
  rw [List.map_map]
  rfl
theorem s36 (hk : 2 ≤ k) (ps : List (List Nat × Int)) (p : List Nat) (h : Ps ps) (hp : Pt p) : run tbT k (.fn 36) [A (.tup (ps.map pr)), A (.str p)] S = .ok (.tup ((fits ps p).map .str)) S := by
  have g : ∀ w, Wd w → ∀ S, run tbT (k-1) (.fn 35) [A (.str w), A (.str p)] S = .ok (.bl (fit w p)) S := fun w hw S => s35 (by omega) w p hw hp
  refine fn_at (F := t36) rfl (by omega) [A (.tup (ps.map pr)), A (.str p), none, none] rfl rfl rfl rfl (fin_ret (ret ?_))
  have hlc : evE (run tbT (k-1)) (.lc false [2, 3] (.var 2) (.tup [.nm 2, .nm 3]) (.val (.var 0)) (.cons false (.call 35 false (.cons false (.var 2) (.cons false (.var 1) .nil)) []) .nil)) [A (.tup (ps.map pr)), A (.str p), none, none] S = .ok (.lst ((fits ps p).map .str)) S := by
    rw [← fits_map]
    refine lc_ok (.tup (ps.map pr)) (ps.map pr) (fitB p) wordD (S1 := S) (by rw [i_val]; rfl) (fun n h => by cases h) (le_line (by have := h.2.2; simp; omega)) fun x hx acc => ?_
    obtain ⟨q, hq, rfl⟩ := List.mem_map.mp hx
    have gq := g q.1 (h.1 q hq).1
    refine ⟨[A (.tup (ps.map pr)), A (.str p), A (.str q.1), A (.int q.2)], rfl, ?_, fun _ => ⟨by simp [slot, pr, wordD], rfl⟩⟩
    have hb : fitB p (pr q) = fit q.1 p := rfl
    rw [hb, f_cons, e_call, as_var, as_var]
    simp only [slot, List.getElem?_cons_zero, List.getElem?_cons_succ, as_nil, Res.bind_ok, permute, gq, f_nil]
    cases fit q.1 p <;> rfl
  rw [e_itV, hlc]
  simp only [Res.bind_ok, v_lst, items, btD, btX, btD0]
theorem s37 (hk : 3 ≤ k) (ps : List (List Nat × Int)) (p : List Nat) (h : Ps ps) (hp : Pt p) : run tbT k (.fn 37) [A (.tup (ps.map pr)), A (.str p)] S = .ok (.tup ((List.range p.length).map fun i => .str (cho (fits ps p) i))) S := by
  have g : ∀ S, run tbT (k-1) (.fn 36) [A (.tup (ps.map pr)), A (.str p)] S = .ok (.tup ((fits ps p).map .str)) S := fun S => s36 (by omega) ps p h hp
  obtain ⟨f1, f2⟩ := fits_len (p := p) h
  refine fn_at (F := t37) rfl (by omega) [A (.tup (ps.map pr)), A (.str p), none, none, none] rfl rfl rfl rfl (fin_ret (nx (S' := S) (asg (d := .tup ((fits ps p).map .str)) ?_ (by simp) rfl) (ret ?_)))
  · simp [slot, permute, g]
  · have := choL (cl := run tbT (k-1)) (S := S) (.tup (ps.map pr)) (.tup ((fits ps p).map .str)) p (fits ps p) (.inr rfl) f1 (by omega) (by have := hp.2.1; omega)
    rw [e_itV]
    refine (congrArg (fun r => Res.bind r _) this).trans ?_
    simp only [Res.bind_ok, v_lst, items, btD, btX, btD0]
/-- _law_same: texts -/
theorem s32_str (hk : 1 ≤ k) (z : List Nat) (hz : txt z) : run tbT k (.fn 32) [A (.str z), A (.str z)] S = .ok (.bl true) S := by
  have e : ∀ S, eqR (run tbT (k-1)) false [(0, 13)] (.str z) (.str z) S = .ok (.bl true) S := fun S => by
    rw [eqR_of (r := true) rfl rfl (eqD_refl (shp_str hz))]; rfl
  have eb : ∀ (b : Bool) S, eqR (run tbT (k-1)) true [(0, 13)] (.bl b) (.bl b) S = .ok (.bl false) S := fun b S => by
    rw [eqR_of (r := true) rfl rfl (by rw [eqD_bl]; simp)]; rfl
  refine fn_at (F := t32) rfl (by omega) [A (.str z), A (.str z), none] rfl rfl rfl rfl (fin_ret (nx (S' := S) (ifF (S' := S) ?_ b_nil) (nx (S' := S) (ifF (S' := S) ?_ b_nil) (nx (S' := S) (ifF (S' := S) ?_ b_nil) (ret ?_)))))
  · simp [slot, notFn, knC, isK]
  · simp [slot, cmpD]
  · simp [slot, notFn, knC, isK, eb]
  · simp [slot, e]
theorem s32_bl (hk : 1 ≤ k) (z : Bool) : run tbT k (.fn 32) [A (.bl z), A (.bl z)] S = .ok (.bl true) S := by
  have eb : ∀ (b : Bool) S, eqR (run tbT (k-1)) true [(0, 13)] (.bl b) (.bl b) S = .ok (.bl false) S := fun b S => by
    rw [eqR_of (r := true) rfl rfl (by rw [eqD_bl]; simp)]; rfl
  have e : ∀ (b : Bool) S, eqR (run tbT (k-1)) false [(0, 13)] (.bl b) (.bl b) S = .ok (.bl true) S := fun b S => by
    rw [eqR_of (r := true) rfl rfl (by rw [eqD_bl]; simp)]; rfl
  refine fn_at (F := t32) rfl (by omega) [A (.bl z), A (.bl z), none] rfl rfl rfl rfl (fin_ret (nx (S' := S) (ifF (S' := S) ?_ b_nil) (nx (S' := S) (ifF (S' := S) ?_ b_nil) (nx (S' := S) (ifF (S' := S) ?_ b_nil) (ret ?_)))))
  · simp [slot, notFn, knC, isK]
  · simp [slot, cmpD]
  · simp [slot, notFn, knC, isK, eb]
  · simp [slot, e]
theorem s32_tup (hk : 1 ≤ k) (xs : List D) (hl : xs.length ≤ 1000) (h : ∀ x ∈ xs, ∀ S, run tbT (k-1) (.fn 32) [A x, A x] S = .ok (.bl true) S) : run tbT k (.fn 32) [A (.tup xs), A (.tup xs)] S = .ok (.bl true) S := by
  have e : ∀ S, eqR (run tbT (k-1)) false [(0, 13)] (.int xs.length) (.int xs.length) S = .ok (.bl true) S := fun S => by
    rw [eqR_of (r := true) rfl rfl (by rw [eqD_int]; simp)]; rfl
  have e2 : ∀ S, eqR (run tbT (k-1)) false [(0, 13)] (.lst []) (.lst []) S = .ok (.bl true) S := fun S => by
    rw [eqR_of (r := true) rfl rfl rfl]; rfl
  have hlen : biD .len [.tup xs] = some (.int xs.length) := rfl
  have sm : small62 (xs.length : Int) = true := small_nat _ (by omega)
  have hi : evI (run tbT (k-1)) (.rng1 (.bi .len (.cons false (.var 1) .nil))) [A (.tup xs), A (.tup xs), none] S = .ok (.non, (List.range xs.length).map fun k : Nat => D.int (k : Nat)) S := by
    have h1 : evE (run tbT (k-1)) (.bi .len (.cons false (.var 1) .nil)) [A (.tup xs), A (.tup xs), none] S = .ok (.int xs.length) S := by
      rw [e_bi, es_cons, e_var]
      simp only [slot, List.getElem?_cons_zero, List.getElem?_cons_succ, es_nil, Res.bind_ok, List.map_cons, List.map_nil, v_tup, hlen, opt_some]
    rw [i_rng1, h1, Res.bind_ok, ← rng_eq]
    simp only [sm, if_true]
  have hlc : evE (run tbT (k-1)) (.lc false [2] (.var 2) (.nm 2) (.rng1 (.bi .len (.cons false (.var 1) .nil))) (.cons false (.not (.call 32 false (.cons false (.idx (.var 0) (.var 2)) (.cons false (.idx (.var 1) (.var 2)) .nil)) [])) .nil)) [A (.tup xs), A (.tup xs), none] S = .ok (.lst []) S := by
    rw [lc_ok .non ((List.range xs.length).map fun k : Nat => D.int (k : Nat)) (fun _ => false) (fun x => x) (S1 := S) hi (fun n h => by cases h) (le_line (by simp; omega)) fun x hx acc => ?_]
    · simp
    · obtain ⟨i, hi, rfl⟩ := List.mem_map.mp hx
      have hi1 := List.mem_range.mp hi
      have hix : idxD (.tup xs) (.int (i : Nat)) = some xs[i] := by
        simp only [idxD]
        rw [at_nat xs i hi1, List.getElem?_eq_getElem hi1]
      have g := h xs[i] (List.getElem_mem hi1)
      refine ⟨[A (.tup xs), A (.tup xs), A (.int (i : Nat))], rfl, ?_, fun q => by cases q⟩
      simp [slot, as_cons, hix, permute, g]
  refine fn_at (F := t32) rfl (by omega) [A (.tup xs), A (.tup xs), none] rfl rfl rfl rfl (fin_ret (b_ret (ifT (S' := S) ?_ (ret ?_))))
  · simp [slot, notFn, knC, isK]
  · have c1 : evE (run tbT (k-1)) (.isi (.var 0) [0] [.tuple]) [A (.tup xs), A (.tup xs), none] S = .ok (.bl true) S := by simp [slot, notFn, knC, isK]
    have c2 : evE (run tbT (k-1)) (.eq false [(0, 13)] (.bi .len (.cons false (.var 0) .nil)) (.bi .len (.cons false (.var 1) .nil))) [A (.tup xs), A (.tup xs), none] S = .ok (.bl true) S := by
      simp only [e_eq, e_bi, es_cons, e_var, slot, List.getElem?_cons_zero, List.getElem?_cons_succ, es_nil, Res.bind_ok, List.map_cons, List.map_nil, v_tup, hlen, opt_some, e]
    have c3 : evE (run tbT (k-1)) (.eq false [(0, 13)] (.lc false [2] (.var 2) (.nm 2) (.rng1 (.bi .len (.cons false (.var 1) .nil))) (.cons false (.not (.call 32 false (.cons false (.idx (.var 0) (.var 2)) (.cons false (.idx (.var 1) (.var 2)) .nil)) [])) .nil)) (.lst false .nil)) [A (.tup xs), A (.tup xs), none] S = .ok (.bl true) S := by
      rw [e_eq, hlc]
      simp only [Res.bind_ok, e_lst, es_nil, List.length_nil, Nat.zero_le, if_true, mkO, e2]
    rw [e_and, c1, Res.bind_ok]
    show evE (run tbT (k-1)) (.and _ _) _ S = _
    rw [e_and, c2, Res.bind_ok]
    exact c3
/-- texts of one sign each, joined -/
theorem join_signs (w : List Nat) (hl : w.length ≤ 1000) : bmD .join (.str []) [.lst (w.map fun c => D.str [c])] = some (.str w) := by
  have hs : strZ (w.map fun c => D.str [c]) = some (w.map fun c => [c]) := by
    have := strs_of (w.map fun c => [c])
    rwa [List.map_map] at this
  have hlen : ∀ w : List Nat, ((w.map fun c => [c]).map (·.length)).sum = w.length := by
    intro w
    induction w with
    | nil => rfl
    | cons c w ih => simp only [List.map_cons, List.sum_cons, ih, List.length_cons, List.length_nil]; omega
  have hfl : ∀ w : List Nat, (w.map fun c => [c]).flatten = w := by
    intro w
    induction w with
    | nil => rfl
    | cons c w ih => simp only [List.map_cons, List.flatten_cons, ih]; rfl
  simp only [bmD, items, hs]
  rw [if_pos (by rw [hlen w]; exact le_line (by simp only [List.length_nil, Nat.mul_zero, Nat.add_zero]; omega)), joinS_nil, hfl w]
theorem s38 (hk : 5 ≤ k) (n : Nat) (hb : Bowl n S) (wf : WF S) (ps : List (List Nat × Int)) (h : Ps ps) : ∃ p S', run tbT k (.fn 38) [A (.loc n), A (.tup (ps.map pr))] S = .ok (.str p) S' ∧ Dr n S S' ∧ Pt p := by
  have hn := hb.lt
  -- the words
  have hlc : evE (run tbT (k-1)) (.lc false [3, 4] (.var 3) (.tup [.nm 3, .nm 4]) (.val (.var 1)) .nil) [A (.loc n), A (.tup (ps.map pr)), none, none, none, none] S = .ok (.lst ((ps.map pr).map wordD)) S := by
    rw [lc_ok (.tup (ps.map pr)) (ps.map pr) (fun _ => true) wordD (S1 := S) (by rw [i_val]; rfl) (fun n h => by cases h) (le_line (by have := h.2.2; simp; omega)) fun x hx acc => ?_, filt_true]
    obtain ⟨q, hq, rfl⟩ := List.mem_map.mp hx
    exact ⟨[A (.loc n), A (.tup (ps.map pr)), none, A (.str q.1), A (.int q.2), none], rfl, f_nil, fun _ => ⟨by simp [slot, pr, wordD], rfl⟩⟩
  obtain ⟨w, S1, g1, g2, g3, g4, g5⟩ := s33 (S := S) (k := k - 1) (by omega) n hb wf [97,98,115,116] (by simp) (by simp) 4 (by omega) (by omega)
  have hw : Wd w := ⟨g3, by omega, fun c hc => by
    have := g5 c hc
    simp at this
    rcases this with rfl | rfl | rfl | rfl <;> rfl⟩
  let words : List D := (ps.map pr).map wordD ++ [.str w]
  have hwords : ∀ x ∈ words, ∃ z, x = .str z ∧ Wd z := fun x hx => by
    rcases List.mem_append.mp hx with hx | hx
    · obtain ⟨y, hy, rfl⟩ := List.mem_map.mp hx
      obtain ⟨q, hq, rfl⟩ := List.mem_map.mp hy
      exact ⟨q.1, rfl, (h.1 q hq).1⟩
    · rw [List.mem_singleton.mp hx]
      exact ⟨w, rfl, hw⟩
  have hwl : words.length ≤ 61 := by
    have := h.2.2
    simp [words]
    omega
  have e1 : evE (run tbT (k-1)) (.bin .add (.lc false [3, 4] (.var 3) (.tup [.nm 3, .nm 4]) (.val (.var 1)) .nil) (.lst false (.cons false (.call 33 false (.cons false (.var 0) (.cons false (.cst (.str [97,98,115,116])) (.cons false (.cst (.int 4)) .nil))) []) .nil))) [A (.loc n), A (.tup (ps.map pr)), none, none, none, none] S = .ok (.lst words) S1 := by
    have h1l : (1 : Nat) ≤ line := le_line (by omega)
    have hadd : binD .add (.lst ((ps.map pr).map wordD)) (.lst [.str w]) = some (.lst words) := by
      simp only [binD]
      rw [if_pos (le_line (by have := h.2.2; simp; omega))]
    rw [e_bin, hlc, Res.bind_ok]
    rw [List.map_map] at hadd
    simp [slot, as_cons, permute, g1, h1l, mkO, hadd]
  have hb1 := g2.bowl hn
  obtain ⟨x, S2, f1, f2, f3⟩ := s31_seq (S := S1) (k := k - 1) (by omega) n hb1 (.lst words) words (.inr rfl) (by simp [words]) (by omega)
  obtain ⟨z, rfl, hz⟩ := hwords x f3
  have hn1 : n < S1.length := hb1.lt
  have hb2 := f2.bowl hn1
  have wf2 : WF S2 := f2.wf (g2.wf wf)
  have hi : evI (run tbT (k-1)) (.val (.call 31 false (.cons false (.var 0) (.cons false (.var 2) .nil)) [])) [A (.loc n), A (.tup (ps.map pr)), A (.lst words), none, none, none] S1 = .ok (.str z, z.map fun c => D.str [c]) S2 := by
    rw [i_val, e_call]
    simp only [as_var, slot, List.getElem?_cons_zero, List.getElem?_cons_succ, as_nil, Res.bind_ok, permute, f1, v_str, items]
  obtain ⟨ys, S3, d1, d2, d3, d4⟩ := lc_dr (cl := run tbT (k-1)) (ρ := [A (.loc n), A (.tup (ps.map pr)), A (.lst words), none, none, none]) (S := S1) (n := n) (own := [5]) (elt := (.call 31 false (.cons false (.var 0) (.cons false (.tup (.cons false (.var 5) (.cons false (.var 5) (.cons false (.cst (.str [46])) (.cons false (.cst (.str [46])) (.cons false (.cst (.str [97])) .nil)))))) .nil)) [])) (t := .nm 5) (fun _ y => ∃ c, (c = 46 ∨ ltr c = true) ∧ y = .str [c]) hi (fun n h => by cases h)
    (le_line (by have := hz.2.1; simp; omega)) hb2 wf2 (fun x hx S' acc hb' wf' hl' => by
      obtain ⟨c, hc, rfl⟩ := List.mem_map.mp hx
      have hc' := hz.2.2 c hc
      obtain ⟨y, S'', q1, q2, q3⟩ := s31_seq (S := S') (k := k - 1) (by omega) n hb' (.tup [.str [c], .str [c], .str [46], .str [46], .str [97]]) _ (.inl rfl) (by simp) (by simp)
      have hy : ∃ b, (b = 46 ∨ ltr b = true) ∧ y = .str [b] := by
        simp at q3
        rcases q3 with rfl | rfl | rfl
        · exact ⟨c, .inr hc', rfl⟩
        · exact ⟨46, .inl rfl, rfl⟩
        · exact ⟨97, .inr rfl, rfl⟩
      have h5 : ([D.str [c], .str [c], .str [46], .str [46], .str [97]] : List D).length ≤ line := le_line (by simp)
      refine ⟨[A (.loc n), A (.tup (ps.map pr)), A (.lst words), none, none, A (.str [c])], y, S'', rfl, ?_, q2, ?_, hy⟩
      · rw [e_call, as_var]
        simp only [slot, List.getElem?_cons_zero, as_cons false _ _ (fun i (q : ME.tup _ = ME.var i) => by cases q) (fun n c y (q : ME.tup _ = ME.lam n c y) => by cases q), e_tup, es_cons, e_var, e_cst, es_nil, List.getElem?_cons_succ, Res.bind_ok, as_nil, permute, q1, h5, if_true]
      · obtain ⟨b, _, rfl⟩ := hy; rfl)
  have hys : ∃ p : List Nat, ys = p.map (fun c => D.str [c]) ∧ ∀ c ∈ p, c = 46 ∨ ltr c = true := by
    have : ∀ y ∈ ys, ∃ c, (c = 46 ∨ ltr c = true) ∧ y = .str [c] := fun y hy => by
      obtain ⟨i, hi, e⟩ := List.mem_iff_getElem.mp hy
      exact d4 i (z.map fun c => D.str [c])[i] y (List.getElem?_eq_getElem (by rw [← d3]; exact hi)) (by rw [List.getElem?_eq_getElem hi, e])
    clear d1 d3 d4
    induction ys with
    | nil => exact ⟨[], rfl, by simp⟩
    | cons y ys ih =>
      obtain ⟨c, hc, rfl⟩ := this y List.mem_cons_self
      obtain ⟨w, rfl, hw⟩ := ih fun y hy => this y (List.mem_cons_of_mem _ hy)
      exact ⟨c :: w, rfl, by simpa using ⟨hc, hw⟩⟩
  obtain ⟨p, rfl, hp⟩ := hys
  have hpl : p.length = z.length := by simpa using d3
  have hP : Pt p := ⟨by rw [hpl]; exact hz.1, by rw [hpl]; exact hz.2.1, hp⟩
  refine ⟨p, S3, fn_at (F := t38) rfl (by omega) [A (.loc n), A (.tup (ps.map pr)), none, none, none, none] rfl rfl rfl (by rw [d2.len, f2.len, g2.len]) (fin_ret (nx (S' := S1) (asg e1 (by simp) rfl) (ret ?_))), g2.trans (f2.trans d2), hP⟩
  have e := join_signs p (by have := hP.2.1; omega)
  rw [e_bm, e_cst, Res.bind_ok, v_str]
  simp only [kindB, if_true, es_cons]
  show ((evE (run tbT (k-1)) _ [A (.loc n), A (.tup (ps.map pr)), A (.lst words), none, none, none] S1).bind _).bind _ = _
  rw [d1]
  simp only [Res.bind_ok, es_nil, isMut, rawA, Bool.false_eq_true, if_false, List.map_cons, List.map_nil, v_lst, v_str, e, opt_some]
/-! joined -/
theorem s27 (hk : 9 ≤ k) (rs ss ps : List (List Nat × Int)) (h : Ps ps) (hq : (rs ++ ss).Perm ps) : run tbT k (.fn 27) [A (WL rs), A (WL ss)] S = .ok (WL ps) S := by
  have hnd : ((rs ++ ss).map (·.1)).Nodup := (hq.map (·.1)).nodup_iff.mpr (asc_nd h.2.1)
  have hlen : (rs ++ ss).length ≤ 60 := by rw [hq.length_eq]; exact h.2.2
  have g25 : ∀ S, run tbT (k-1) (.fn 25) [A (WL rs), A (WL ss)] S = .ok .non S := fun S => s25 (by omega) rs ss
  have g11 : ∀ S, run tbT (k-1) (.fn 11) [A (WL ss)] S = .ok (.tup (ss.map pr)) S := fun S => s11 (by omega) ss
  have vr : ∀ S, vw S (WL rs) = .ins 0 (WLf rs) := fun _ => rfl
  have vs : ∀ S, vw S (WL ss) = .ins 0 (WLf ss) := fun _ => rfl
  let Z (j : Nat) : St := S ++ [.dct false ((rs ++ ss.take j).map kv) false]
  have zat : ∀ j, (Z j)[S.length]? = some (.dct false ((rs ++ ss.take j).map kv) false) := fun j => by simp [Z]
  have zvw : ∀ j, vw (Z j) (.loc S.length) = .dct false ((rs ++ ss.take j).map kv) := fun j => by simp [vw, zat]
  have g26 : run tbT (k-1) (.fn 26) [A (.loc S.length)] (Z ss.length) = .ok (WL ps) (Z ss.length) := by
    refine s26 (S := Z ss.length) (by omega) (.loc S.length) ps (rs ++ ss) h hq ?_ fun acc => ?_
    · rw [zvw]; simp
    · have : (Z ss.length ++ [O.lst acc])[S.length]? = some (.dct false ((rs ++ ss.take ss.length).map kv) false) := by
        rw [List.getElem?_append_left (by simp [Z])]
        exact zat _
      simp only [vw, this]
      simp
  refine fn_cut (F := t27) (S1 := S) (X := [.dct false ((rs ++ ss.take ss.length).map kv) false]) rfl (by omega) [A (WL rs), A (WL ss), none, none, none] rfl rfl rfl rfl (.inl rfl) ?_ (fin_ret (nx (S' := S) (s_ex (d := .non) ?_) (nx (S' := Z 0) (asg (d := .loc S.length) ?_ (by simp) rfl) ?_)))
  · simp only [WL, WLf, D.wf, D.wfL, wfK_kv, Bool.and_true, wfL_all, List.all_eq_true]
    intro x hx
    obtain ⟨p, hp, rfl⟩ := List.mem_map.mp hx
    rfl
  · simp [slot, permute, g25]
  · rw [e_itV, e_attr, e_var]
    simp only [slot, List.getElem?_cons_zero, Res.bind_ok, vr]
    simp [WLf, items, btD, btX, btD0, mkO, Z]
  obtain ⟨ρ', S', f1, f2, e3, e4, f3⟩ := for_ok (cl := run tbT (k-1)) (S := Z 0) (ρ := [A (WL rs), A (WL ss), A (.loc S.length), none, none]) (t := .tup [.nm 3, .nm 4]) (i := .val (.attr (.var 1) [(0, .inr 11)]))
    (body := (.cons (.asg (.sub (.var 2) (.var 3)) (.bi .max (.cons false (.var 4) (.cons false (.bm .get (.var 2) (.cons false (.var 3) (.cons false (.var 4) .nil))) .nil)))) .nil)) (w := .tup (ss.map pr)) (xs := ss.map pr) (S1 := Z 0)
    (fun j ρ S' => S' = Z j ∧ ∃ e3 e4, ρ = [A (WL rs), A (WL ss), A (.loc S.length), e3, e4]) (by
      rw [i_val, e_attr, e_var]
      simp only [slot, List.getElem?_cons_zero, List.getElem?_cons_succ, Res.bind_ok, vs]
      simp [g11, Res.noX, items]) (fun n h => by cases h) ⟨rfl, _, _, rfl⟩ fun j x hx ρ S' ⟨hS, e3, e4, hρ⟩ => by
      subst hS hρ
      rw [List.getElem?_map, Option.map_eq_some_iff] at hx
      obtain ⟨q, hq', rfl⟩ := hx
      have hj : j < ss.length := (List.getElem?_eq_some_iff.mp hq').1
      have htk : ss.take (j + 1) = ss.take j ++ [q] := by rw [List.take_add_one, hq']; rfl
      have hnew : ∀ p ∈ (rs ++ ss.take j).map kv, p.1 ≠ .str q.1 := by
        intro p hp e
        obtain ⟨z, hz, rfl⟩ := List.mem_map.mp hp
        have e2 : z.1 = q.1 := by simpa [kv] using e
        have hsp : rs ++ ss = (rs ++ ss.take j) ++ (q :: ss.drop (j + 1)) := by
          have : ss = ss.take j ++ (q :: ss.drop (j + 1)) := by
            conv => lhs; rw [← List.take_append_drop j ss, List.drop_eq_getElem_cons hj]
            congr 2
            have := List.getElem?_eq_some_iff.mp hq'
            exact this.2
          rw [List.append_assoc, ← this]
        have hnd2 := hnd
        rw [hsp, List.map_append, List.nodup_append] at hnd2
        exact hnd2.2.2 z.1 (List.mem_map.mpr ⟨z, hz, rfl⟩) q.1 (by simp) e2
      have hget : dget ((rs ++ ss.take j).map kv) (.str q.1) = none := by
        unfold dget
        rw [List.find?_eq_none.mpr]
        · rfl
        · intro p hp
          simpa using hnew p hp
      have hput : dput ((rs ++ ss.take j).map kv) (.str q.1) (.int q.2) = (rs ++ ss.take (j + 1)).map kv := by
        rw [dput_new hnew, htk]
        simp [kv]
      refine ⟨[A (WL rs), A (WL ss), A (.loc S.length), A (.str q.1), A (.int q.2)], _, Z (j + 1), rfl, .inl (nx (S' := Z (j + 1)) (ρ' := [A (WL rs), A (WL ss), A (.loc S.length), A (.str q.1), A (.int q.2)]) ?_ b_nil), rfl, _, _, rfl⟩
      have hzl : ((rs ++ ss.take j).map kv).length < line := Nat.lt_of_lt_of_le (by
        rw [List.length_map]
        have : (rs ++ ss.take j).length ≤ (rs ++ ss).length := by simp; omega
        show _ < 1000
        omega) (le_line (by omega))
      have hmx : biD .max [.int q.2, .int q.2] = some (.int q.2) := by simp [biD]
      have hgt : bmD .get (.dct false ((rs ++ ss.take j).map kv)) [.str q.1, .int q.2] = some (.int q.2) := by
        simp only [bmD, kOk, keyF, Bool.false_eq_true, if_false, if_true, hget, Option.getD_none]
      have hev : evE (run tbT (k-1)) (.bi .max (.cons false (.var 4) (.cons false (.bm .get (.var 2) (.cons false (.var 3) (.cons false (.var 4) .nil))) .nil))) [A (WL rs), A (WL ss), A (.loc S.length), A (.str q.1), A (.int q.2)] (Z j) = .ok (.int q.2) (Z j) := by
        simp only [e_bi, es_cons, e_var, e_bm, slot, List.getElem?_cons_zero, List.getElem?_cons_succ, Res.bind_ok, zvw, kindB, if_true, es_nil, isMut, rawA, hgt, opt_some, List.map_cons, List.map_nil, v_int, hmx]
      have hset : (Z j).set S.length (.dct false ((rs ++ ss.take (j + 1)).map kv) false) = Z (j + 1) := by simp [Z]
      have hps : putS (.loc S.length) (.str q.1) (.int q.2) (Z j) = .ok () (Z (j + 1)) := by
        simp only [putS, zat, kOk, keyF, Bool.false_eq_true, if_false, true_and, hput, hset]
        rw [if_pos hzl]
      simp only [exS, hev, Res.bind_ok, asgG, e_var, slot, List.getElem?_cons_zero, List.getElem?_cons_succ, hps]
  subst f2 f3
  have hsl : (ss.map pr).length = ss.length := by simp
  rw [hsl] at f1
  refine nx f1 (nx (S' := Z ss.length) (ifF (S' := Z ss.length) ?_ b_nil) (ret ?_))
  · have hl : biD .len [.dct false ((rs ++ ss.take ss.length).map kv)] = some (.int ((rs ++ ss.take ss.length).map kv).length) := rfl
    have hc : cmpD .gt (.int ((rs ++ ss.take ss.length).map kv).length) (.int 60) = some false := by
      simp [cmpD, ltD]
      simp at hlen
      omega
    simp only [e_cmp, e_bi, es_cons, e_var, slot, List.getElem?_cons_zero, List.getElem?_cons_succ, Res.bind_ok, es_nil, List.map_cons, List.map_nil, zvw, hl, opt_some, e_glb, v_int, hc]
  · rw [e_call, as_var]
    simp only [slot, List.getElem?_cons_zero, List.getElem?_cons_succ, as_nil, Res.bind_ok, permute]
    exact g26
/-! pairs in order -/
theorem lt_ne {a b : List Nat} (h : a ≤ b) (hn : a ≠ b) : a < b := by
  by_cases q : a < b
  · exact q
  · exact absurd (List.le_antisymm h (List.not_lt.mp q)) hn
def le2 (a b : List Nat × Int) : Bool := !(D.lt (pr b) (pr a))
theorem le2_iff (a b : List Nat × Int) : le2 a b = true ↔ a.1 < b.1 ∨ (a.1 = b.1 ∧ a.2 ≤ b.2) := by
  unfold le2 pr
  simp only [D.lt, D.ltL, eqv_str, eqv_int]
  by_cases h : b.1 = a.1
  · simp [h]
    constructor
    · intro hh
      by_cases h2 : b.2 = a.2
      · exact .inr (by omega)
      · exact .inr (by simpa [h2] using hh)
    · rintro (hh | hh)
      · exact absurd hh (List.lt_irrefl _)
      · exact .inr hh
  · have h3 : ¬ a.1 = b.1 := fun e => h e.symm
    simp [h, h3]
    constructor
    · exact fun hh => lt_ne hh h3
    · exact List.le_of_lt
theorem le2_trans (a b c : List Nat × Int) : le2 a b = true → le2 b c = true → le2 a c = true := by
  rw [le2_iff, le2_iff, le2_iff]
  rintro (h1 | ⟨h1, h2⟩) (h3 | ⟨h3, h4⟩)
  · exact .inl (List.lt_trans h1 h3)
  · exact .inl (by rw [← h3]; exact h1)
  · exact .inl (by rw [h1]; exact h3)
  · exact .inr ⟨h1.trans h3, by omega⟩
theorem le2_total (a b : List Nat × Int) : (le2 a b || le2 b a) = true := by
  rw [Bool.or_eq_true, le2_iff, le2_iff]
  by_cases h : a.1 = b.1
  · by_cases h2 : a.2 ≤ b.2
    · exact .inl (.inr ⟨h, h2⟩)
    · exact .inr (.inr ⟨h.symm, by omega⟩)
  · rcases List.le_total a.1 b.1 with q | q
    · exact .inl (.inl (lt_ne q h))
    · exact .inr (.inl (lt_ne q fun e => h e.symm))
theorem asc_of : ∀ {l : List (List Nat × Int)}, (l.map (·.1)).Pairwise (fun a b => a < b) → Asc l
  | [], _ => trivial
  | [_], _ => trivial
  | a :: b :: l, hl => by
    rw [List.map_cons, List.pairwise_cons] at hl
    exact ⟨hl.1 b.1 (by simp), asc_of hl.2⟩
theorem sort_pairs {qs : List (List Nat × Int)} (hp : ∀ q ∈ qs, Pr q) (hn : (qs.map (·.1)).Nodup) (hl : qs.length ≤ 60) : ∃ ps, sortD (qs.map pr) = some (ps.map pr) ∧ ps.Perm qs ∧ Ps ps := by
  have hso : sortable (qs.map pr) = true := by
    unfold sortable
    simp only [Bool.and_eq_true, Bool.or_eq_true, List.all_eq_true, decide_eq_true_eq]
    refine ⟨.inl fun x hx => ?_, fun x hx => ⟨?_, fun y hy => ?_⟩, le_line (by simp; omega)⟩
    · obtain ⟨z, _, rfl⟩ := List.mem_map.mp hx; rfl
    · obtain ⟨z, hz, rfl⟩ := List.mem_map.mp hx
      have := data_str (hp z hz).1.2.2.txt
      exact shp_tup (n := 0) (fun x hx => by
        simp at hx
        rcases hx with rfl | rfl
        · exact this
        · rfl) (fun x hx => by
        simp at hx
        rcases hx with rfl | rfl <;> simp [D.depth]) (by omega)
    · obtain ⟨z, _, rfl⟩ := List.mem_map.mp hx
      obtain ⟨z', _, rfl⟩ := List.mem_map.mp hy
      rfl
  have hperm := List.mergeSort_perm qs le2
  refine ⟨qs.mergeSort le2, ?_, hperm, fun p h => hp p (hperm.mem_iff.mp h), ?_, by rw [hperm.length_eq]; exact hl⟩
  · unfold sortD
    rw [hso, if_pos rfl]
    congr 1
    exact (List.map_mergeSort (f := pr) (r := le2) (s := fun a b => !(D.lt b a)) (fun a _ b _ => rfl)).symm
  · apply asc_of
    have hs := List.pairwise_mergeSort le2_trans le2_total qs
    have hnd : ((qs.mergeSort le2).map (·.1)).Nodup := (hperm.map (·.1)).nodup_iff.mpr hn
    unfold List.Nodup at hnd
    rw [List.pairwise_map] at hnd ⊢
    refine (hs.and hnd).imp fun {a b} h => ?_
    obtain ⟨h1, h2⟩ := h
    rcases (le2_iff a b).mp h1 with q | q
    · exact q
    · exact absurd q.1 h2
/-! the bowl is made -/
theorem s29 (hk : 1 ≤ k) (ns : List Int) (hl : ns.length ≤ 63) (l : Int) (h0 : 0 ≤ l) : ∃ a b : Int, run tbT k (.fn 29) [A (.lst (ns.map .int)), A (.int l)] S = .ok (.loc S.length) (S ++ [.lst [.int a, .int b]]) ∧ 0 ≤ a ∧ 0 ≤ b := by
  let sc : D := .lst (ns.map .int)
  have hll : biD .len [sc] = some (.int ns.length) := by simp [sc, biD]
  have hw : ∀ S, vw S sc = sc := fun _ => rfl
  -- own, stir
  obtain ⟨own, hown⟩ : ∃ own : Int, evE (run tbT (k-1)) (.ite (.cmp .lt (.var 1) (.bi .len (.cons false (.var 0) .nil))) (.bi .int (.cons false (.idx (.var 0) (.var 1)) .nil)) (.cst (.int 0))) [A sc, A (.int l), none, none, none, none] S = .ok (.int own) S := by
    have hc : evE (run tbT (k-1)) (.cmp .lt (.var 1) (.bi .len (.cons false (.var 0) .nil))) [A sc, A (.int l), none, none, none, none] S = .ok (.bl (decide (l < ns.length))) S := by
      simp only [e_cmp, e_var, e_bi, es_cons, slot, List.getElem?_cons_zero, List.getElem?_cons_succ, Res.bind_ok, es_nil, List.map_cons, List.map_nil, hw, hll, opt_some, v_int, cmpD, ltD]
    rw [e_ite, hc, Res.bind_ok]
    by_cases hlt : l < ns.length
    · obtain ⟨j, rfl⟩ : ∃ j : Nat, l = j := ⟨l.toNat, by omega⟩
      have hj : j < ns.length := by omega
      refine ⟨ns[j], ?_⟩
      have hix : idxD sc (.int (j : Nat)) = some (.int ns[j]) := by
        show at_ (ns.map D.int) (j : Nat) = _
        rw [at_nat _ _ (by simpa using hj), List.getElem?_map, List.getElem?_eq_getElem hj]
        rfl
      rw [decide_eq_true hlt]
      simp only [e_bi, es_cons, e_idx, e_var, slot, List.getElem?_cons_zero, List.getElem?_cons_succ, Res.bind_ok, hw, hix, opt_some, es_nil, List.map_cons, List.map_nil, v_int, i_int]
    · refine ⟨0, ?_⟩
      rw [decide_eq_false hlt]
      simp only [e_cst]
  have hst : evE (run tbT (k-1)) (.bin .add (.cst (.int 360007)) (.bin .mul (.cst (.int 911)) (.var 1))) [A sc, A (.int l), none, none, none, none] S = .ok (.int (360007 + 911 * l)) S := by
    have hm : binD .mul (.int 911) (.int l) = some (.int (911 * l)) := by
      have : fit64 911 = true := by decide
      simp [binD, this]
    simp only [e_bin, e_cst, e_var, slot, List.getElem?_cons_zero, List.getElem?_cons_succ, Res.bind_ok, v_int, hm, opt_some, b_add]
  have hsl : evE (run tbT (k-1)) (.slc (.var 0) .no (.cst (.int 16))) [A sc, A (.int l), A (.int own), A (.int (360007 + 911 * l)), none, none] S = .ok (.lst (cut (ns.map D.int) none (some 16))) S :=
    slc_hi (x := sc) (i := 16) (S1 := S) (by simp [slot]) rfl (by simp) rfl
  have hmem : ∀ x ∈ cut (ns.map D.int) none (some 16), ∃ i : Int, x = .int i := fun x hx => by
    have := List.mem_of_mem_drop (List.mem_of_mem_take hx)
    obtain ⟨i, _, rfl⟩ := List.mem_map.mp this
    exact ⟨i, rfl⟩
  have hil : (cut (ns.map D.int) none (some 16)).length ≤ 1000 := by
    unfold cut
    simp
    omega
  obtain ⟨ρ', S', f1, f2, st, e4, f3, f4⟩ := for_ok (cl := run tbT (k-1)) (S := S) (ρ := [A sc, A (.int l), A (.int own), A (.int (360007 + 911 * l)), none, none]) (t := .nm 4) (i := .val (.slc (.var 0) .no (.cst (.int 16))))
    (body := (.cons (.asg (.nm 3) (.bin .mod (.bi .int (.cons false (.bin .add (.bin .add (.bin .mul (.var 3) (.cst (.int 62089))) (.bin .mul (.bin .mod (.bi .int (.cons false (.var 4) .nil)) (.cst (.int 2147483579))) (.cst (.int 3)))) (.cst (.int 29))) .nil)) (.cst (.int 2147483629)))) .nil)) (w := .lst (cut (ns.map D.int) none (some 16))) (xs := cut (ns.map D.int) none (some 16)) (S1 := S)
    (fun j ρ S' => S' = S ∧ ∃ (st : Int) (e4 : Option Ag), 0 ≤ st ∧ ρ = [A sc, A (.int l), A (.int own), A (.int st), e4, none]) (by rw [i_val, hsl]; rfl) (fun n h => by cases h) ⟨rfl, _, _, by omega, rfl⟩ fun j x hx ρ S' ⟨hS, st, e4, h1, hρ⟩ => by
      subst hS hρ
      obtain ⟨i, rfl⟩ := hmem x (List.mem_of_getElem? hx)
      let v : Int := (st * 62089 + i % 2147483579 * 3 + 29) % 2147483629
      refine ⟨[A sc, A (.int l), A (.int own), A (.int st), A (.int i), none], [A sc, A (.int l), A (.int own), A (.int v), A (.int i), none], S', rfl, .inl (nx (S' := S') (asg (d := .int v) ?_ (by simp) rfl) b_nil), rfl, v, _, Int.emod_nonneg _ (by omega), rfl⟩
      have m1 := b_mul st 62089 (by decide)
      have m2 := b_mod i 2147483579 (by omega)
      have m3 := b_mul (i % 2147483579) 3 (by decide)
      have m4 := b_mod (st * 62089 + i % 2147483579 * 3 + 29) 2147483629 (by omega)
      simp only [e_bin, e_bi, es_cons, e_var, slot, List.getElem?_cons_zero, List.getElem?_cons_succ, Res.bind_ok, e_cst, v_int, m1, opt_some, es_nil, List.map_cons, List.map_nil, i_int, m2, m3, b_add, m4]
      rfl
  rw [f2, f4] at f1
  let ρ5 : Env := [A sc, A (.int l), A (.int own), A (.int st), e4, none]
  have p16 : binD .pow (.int 10) (.int 16) = some (.int (10 ^ 16)) := by simp only [binD]; rw [if_pos (by decide)]; rfl
  have p60 : binD .pow (.int 10) (.int 60) = some (.int (10 ^ 60)) := by simp only [binD]; rw [if_pos (by decide)]; rfl
  obtain ⟨far, hfar, hfp⟩ : ∃ far : Int, evE (run tbT (k-1)) (.ite (.or (.cmp .lt (.var 2) (.cst (.int 0))) (.cmp .ge (.var 2) (.bin .pow (.cst (.int 10)) (.cst (.int 16))))) (.bin .mod (.bi .abs (.cons false (.var 2) .nil)) (.bin .pow (.cst (.int 10)) (.cst (.int 60)))) (.cst (.int 0))) ρ5 S = .ok (.int far) S ∧ 0 ≤ far := by
    obtain ⟨b, hb⟩ : ∃ b : Bool, evE (run tbT (k-1)) (.or (.cmp .lt (.var 2) (.cst (.int 0))) (.cmp .ge (.var 2) (.bin .pow (.cst (.int 10)) (.cst (.int 16))))) ρ5 S = .ok (.bl b) S := by
      have c1 : evE (run tbT (k-1)) (.cmp .lt (.var 2) (.cst (.int 0))) ρ5 S = .ok (.bl (decide (own < 0))) S := by
        simp only [ρ5, e_cmp, e_var, e_cst, slot, List.getElem?_cons_zero, List.getElem?_cons_succ, Res.bind_ok, v_int, cmpD, ltD, opt_some]
      have c2 : evE (run tbT (k-1)) (.cmp .ge (.var 2) (.bin .pow (.cst (.int 10)) (.cst (.int 16)))) ρ5 S = .ok (.bl (decide ((10 : Int) ^ 16 ≤ own))) S := by
        simp only [ρ5, e_cmp, e_bin, e_var, e_cst, slot, List.getElem?_cons_zero, List.getElem?_cons_succ, Res.bind_ok, v_int, p16, opt_some, cmpD]
      rw [e_or, c1, Res.bind_ok]
      cases decide (own < 0) with
      | true => exact ⟨true, rfl⟩
      | false => exact ⟨_, c2⟩
    rw [e_ite, hb, Res.bind_ok]
    cases b with
    | false => exact ⟨0, by simp only [e_cst], by omega⟩
    | true =>
      have hab : ∃ z : Int, biD .abs [.int own] = some (.int z) := ⟨_, rfl⟩
      obtain ⟨z, hz⟩ := hab
      have hmd := b_mod z (10 ^ 60) (by decide)
      refine ⟨z % 10 ^ 60, ?_, Int.emod_nonneg _ (by decide)⟩
      simp only [ρ5, e_bin, e_bi, es_cons, e_var, e_cst, slot, List.getElem?_cons_zero, List.getElem?_cons_succ, Res.bind_ok, es_nil, List.map_cons, List.map_nil, v_int, hz, opt_some, p60, hmd]
  let b0 : Int := (st * 17 + own % 2147483579 + 101) % 2147483629
  have hret : evE (run tbT (k-1)) (.lst true (.cons false (.var 5) (.cons false (.bin .mod (.bi .int (.cons false (.bin .add (.bin .add (.bin .mul (.var 3) (.cst (.int 17))) (.bin .mod (.bi .int (.cons false (.var 2) .nil)) (.cst (.int 2147483579)))) (.cst (.int 101))) .nil)) (.cst (.int 2147483629))) .nil))) [A sc, A (.int l), A (.int own), A (.int st), e4, A (.int far)] S = .ok (.loc S.length) (S ++ [.lst [.int far, .int b0]]) := by
    have m1 := b_mul st 17 (by decide)
    have m2 := b_mod own 2147483579 (by omega)
    have m4 := b_mod (st * 17 + own % 2147483579 + 101) 2147483629 (by omega)
    have h2 : ([D.int far, D.int ((st * 17 + own % 2147483579 + 101) % 2147483629)] : List D).length ≤ line := le_line (by simp)
    simp only [e_lst, e_bin, e_bi, es_cons, e_var, slot, List.getElem?_cons_zero, List.getElem?_cons_succ, Res.bind_ok, e_cst, v_int, m1, opt_some, es_nil, List.map_cons, List.map_nil, i_int, m2, b_add, m4]
    rw [if_pos h2]
    rfl
  refine ⟨far, b0, ?_, hfp, Int.emod_nonneg _ (by omega)⟩
  rw [run_fn (F := t29) rfl hk]
  have hfin : fin (exB (run tbT (k-1)) t29.body [A sc, A (.int l), none, none, none, none] S) = .ok (.loc S.length) (S ++ [.lst [.int far, .int b0]]) :=
    fin_ret (nx (s_par hown hst) (nx f1 (nx (asg hfar (by simp [ρ5]) rfl) (ret hret))))
  unfold callFn
  have hlen2 : ([A (.lst (ns.map .int)), A (.int l)] : List (Option Ag)).length = t29.ps.length := rfl
  rw [if_pos hlen2]
  show closeK S (fin (exB (run tbT (k-1)) t29.body [A sc, A (.int l), none, none, none, none] S)) = _
  rw [hfin]
  have htk : (S ++ [O.lst [.int far, .int b0]]).take S.length = S := by simp
  have hgt : (S ++ [O.lst [.int far, .int b0]])[S.length]? = some (.lst [.int far, .int b0]) := by simp
  simp only [closeK, htk, hgt, Nat.le_refl, true_or, and_self, if_true]
  rfl
/-! the choices, by and by -/
theorem cho_nil (i : Nat) : cho [] i = [] := by
  have hso : sortD [] = some [] := by
    have h2 : sortable [] = true := by unfold sortable; simp
    unfold sortD
    rw [h2, if_pos rfl, List.mergeSort_nil]
  have hd : dedup [] (colD [] i) = [] := rfl
  have hs : strZ (colD [] i) = some [] := rfl
  have hcl : (colD [] i).length < 4000 := by simp [colD]
  unfold cho
  simp only [biD, seqI, if_pos hcl, hs, hd, hso, Option.map_some]
  rfl
theorem dedup_const (x : D) : ∀ r : List D, (∀ y ∈ r, y = x) → dedup [x] r = [x]
  | [], _ => rfl
  | y :: r, h => by
    have : y = x := h y List.mem_cons_self
    subst this
    simp only [dedup]
    rw [if_pos (by simp)]
    exact dedup_const y r fun z hz => h z (List.mem_cons_of_mem _ hz)
theorem cho_one {ws : List (List Nat)} {i c : Nat} (hne : ws ≠ []) (h : ∀ w ∈ ws, w.getD i 0 = c) (hl : ws.length < 4000) (hc : c < 1114112) : cho ws i = [c] := by
  have hd : dedup [] (colD ws i) = [.str [c]] := by
    cases ws with
    | nil => exact absurd rfl hne
    | cons w ws =>
      have e : colD (w :: ws) i = .str [c] :: colD ws i := by simp [colD, ← h w List.mem_cons_self]
      rw [e]
      simp only [dedup, List.any_nil, Bool.false_eq_true, if_false]
      exact dedup_const _ _ fun y hy => by
        obtain ⟨z, hz, rfl⟩ := List.mem_map.mp hy
        rw [h z (List.mem_cons_of_mem _ hz)]
  have hs : strZ (colD ws i) = some (ws.map fun w => [w.getD i 0]) := by
    have := strs_of (ws.map fun w => [w.getD i 0])
    rwa [List.map_map] at this
  have hso : sortD [D.str [c]] = some [D.str [c]] := by
    have h1 : (D.str [c]).shp = true := shp_str (by intro z hz; rw [List.mem_singleton.mp hz]; exact hc)
    have h2 : sortable [D.str [c]] = true := by
      unfold sortable
      simp [D.atom, h1, D.alk, le_line]
    unfold sortD
    rw [h2, if_pos rfl, List.mergeSort_singleton]
  have hcl : (colD ws i).length < 4000 := by simpa [colD] using hl
  unfold cho
  simp only [biD, seqI, if_pos hcl, hs, hd, hso, Option.map_some]
  rfl
theorem key_inj {ps : List (List Nat × Int)} (hn : (ps.map (·.1)).Nodup) {p q : List Nat × Int} (hp : p ∈ ps) (hq : q ∈ ps) (e : p.1 = q.1) : p = q := by
  have h1 := dget_kv hn hp
  have h2 := dget_kv hn hq
  rw [e, h2] at h1
  cases p; cases q
  simp at e h1
  rw [e, h1]
theorem rest_eq {ps : List (List Nat × Int)} (h : Ps ps) (f : List Nat × Int → Bool) : ps.filter (fun p => !has (ps.filter f) p.1) = ps.filter fun p => !f p := by
  apply List.filter_congr
  intro p hp
  congr 1
  rw [Bool.eq_iff_iff, has_iff]
  constructor
  · intro hh
    obtain ⟨q, hq, e⟩ := List.mem_map.mp hh
    obtain ⟨q1, q2⟩ := List.mem_filter.mp hq
    rw [← key_inj (asc_nd h.2.1) q1 hp e]
    exact q2
  · exact fun hf => List.mem_map.mpr ⟨p, List.mem_filter.mpr ⟨hp, hf⟩, rfl⟩
theorem parts_perm (ps : List (List Nat × Int)) (f : List Nat × Int → Bool) : (ps.filter (fun p => !f p) ++ ps.filter f).Perm ps :=
  List.perm_append_comm.trans (List.filter_append_perm f ps)
theorem fit_dots (w : List Nat) (n : Nat) : fit w (List.replicate n 46) = (w.length == n) := by
  unfold fit
  have h : ((w.zip (List.replicate n 46)).all fun z => z.2 == 46 || z.2 == z.1) = true := by
    rw [List.all_eq_true]
    intro z hz
    have h2 := (List.of_mem_zip (a := z.1) (b := z.2) hz).2
    have := (List.mem_replicate.mp h2).2
    simp [this]
  rw [h, List.length_replicate, Bool.and_true]
end P03
end Q
end Py
end

section
set_option Elab.async false
set_option linter.all false
set_option maxRecDepth 100000
set_option autoImplicit false
set_option exponentiation.threshold 1000
namespace Py
namespace Q
namespace P03
open Py.K03
variable {k : Nat} {S : St}
/-! a drawn list -/
theorem put_kv (qs : List (List Nat × Int)) (w : List Nat) (v : Int) (hq : ∀ q ∈ qs, Pr q) (hn : (qs.map (·.1)).Nodup) (hp : Pr (w, v)) : ∃ rs : List (List Nat × Int), dput (qs.map kv) (.str w) (.int v) = rs.map kv ∧ (∀ q ∈ rs, Pr q) ∧ (rs.map (·.1)).Nodup ∧ rs.length ≤ qs.length + 1 := by
  by_cases hw : w ∈ qs.map (·.1)
  · refine ⟨qs.map fun q => if q.1 = w then (q.1, v) else q, ?_, ?_, ?_, by simp⟩
    · unfold dput
      rw [if_pos]
      · rw [List.map_map, List.map_map]
        apply List.map_congr_left
        intro q _
        simp only [Function.comp, kv]
        by_cases e : q.1 = w
        · simp [e]
        · simp [e]
      · obtain ⟨q, hq1, hq2⟩ := List.mem_map.mp hw
        rw [List.any_eq_true]
        exact ⟨kv q, List.mem_map.mpr ⟨q, hq1, rfl⟩, by simp [kv, hq2]⟩
    · intro q hq1
      obtain ⟨r, hr, rfl⟩ := List.mem_map.mp hq1
      by_cases e : r.1 = w
      · simp only [e, if_true]; exact hp
      · simp only [e, if_false]; exact hq r hr
    · rw [List.map_map]
      have : ((·.1) ∘ fun q : List Nat × Int => if q.1 = w then (q.1, v) else q) = (·.1) := by
        funext q
        simp only [Function.comp]
        split <;> rfl
      rw [this]; exact hn
  · refine ⟨qs ++ [(w, v)], ?_, ?_, ?_, by simp⟩
    · rw [dput_new]
      · simp [kv]
      · intro p hp e
        obtain ⟨q, hq1, rfl⟩ := List.mem_map.mp hp
        exact hw (List.mem_map.mpr ⟨q, hq1, by simpa [kv] using e⟩)
    · intro q hq1
      rcases List.mem_append.mp hq1 with h | h
      · exact hq q h
      · rw [List.mem_singleton.mp h]; exact hp
    · rw [List.map_append, List.nodup_append]
      refine ⟨hn, by simp, ?_⟩
      intro a ha b hb e
      simp at hb
      subst hb e
      exact hw ha
theorem o_wf (qs : List (List Nat × Int)) (b : Bool) (n : Nat) : (O.dct false (qs.map kv) b).wf n = true := wfK_kv n qs
theorem s34 (hk : 5 ≤ k) (n : Nat) (hb : Bowl n S) (wf : WF S) : ∃ ps S', run tbT k (.fn 34) [A (.loc n), A (.int 14), A (.int 5)] S = .ok (.tup (ps.map pr)) S' ∧ Dr n S S' ∧ Ps ps := by
  have hn := hb.lt
  -- the letters
  obtain ⟨x, U1, f1, f2, f3⟩ := s31_seq (S := S ++ [.dct false [] false]) (k := k - 1) (by omega) n hb.app (.tup [.str [97,98], .str [97,98,99], .str [97,115,116], .str [97,101,105,111,110,114,115,116], .str [97,98,99,100,101,102,103,104,105,106,107,108,109,110,111,112,113,114,115,116,117,118,119,120,121,122]]) _ (.inl rfl) (by simp) (by simp)
  obtain ⟨S1, rfl, d1⟩ := f2.app hn
  have hx : ∃ z : List Nat, x = .str z ∧ z ≠ [] ∧ z.length ≤ 1000 ∧ Lts z := by
    simp at f3
    rcases f3 with rfl | rfl | rfl | rfl | rfl <;> exact ⟨_, rfl, by simp, by simp, by unfold Lts; decide⟩
  obtain ⟨z, rfl, hz1, hz2, hz3⟩ := hx
  have hb1 := d1.bowl hn
  have hn1 : n < S1.length := hb1.lt
  obtain ⟨r, U2, g1, g2, g3, g4⟩ := s30 (S := S1 ++ [.dct false [] false]) (k := k - 1) (by omega) n 15 hb1.app (by omega) (by omega)
  obtain ⟨S2, rfl, d2⟩ := g2.app hn1
  have hb2 := d2.bowl hn1
  obtain ⟨j0, rfl⟩ : ∃ j : Nat, r = j := ⟨r.toNat, by omega⟩
  have sm : small62 (j0 : Int) = true := small_nat j0 (by omega)
  have d12 := d1.trans d2
  have lm : S2.length = S.length := d12.len
  obtain ⟨ρ', S', q1, T, qs, e5, h1, h2, h3, h4, h5, he5, h6⟩ := for_ok (cl := run tbT (k-1)) (S := S1 ++ [.dct false [] false]) (ρ := [A (.loc n), A (.int 14), A (.int 5), A (.loc S.length), A (.str z), none, none]) (t := .nm 5) (i := .rng1 (.call 30 false (.cons false (.var 0) (.cons false (.bin .add (.var 1) (.cst (.int 1))) .nil)) []))
    (body := (.cons (.asg (.sub (.var 3) (.call 33 false (.cons false (.var 0) (.cons false (.var 4) (.cons false (.var 2) .nil))) [])) (.call 30 false (.cons false (.var 0) (.cons false (.cst (.int 10)) .nil)) [])) .nil)) (w := .non) (xs := rngL 0 (j0 : Nat)) (S1 := S2 ++ [.dct false [] false])
    (fun j ρ S' => ∃ T qs e5, S' = T ++ [.dct false (qs.map kv) false] ∧ Dr n S T ∧ qs.length ≤ j ∧ (∀ q ∈ qs, Pr q) ∧ (qs.map (·.1)).Nodup ∧ (e5 = none ∨ ∃ x, e5 = A x) ∧ ρ = [A (.loc n), A (.int 14), A (.int 5), A (.loc S.length), A (.str z), e5, none])
    (by
      have e : evE (run tbT (k-1)) (.call 30 false (.cons false (.var 0) (.cons false (.bin .add (.var 1) (.cst (.int 1))) .nil)) []) [A (.loc n), A (.int 14), A (.int 5), A (.loc S.length), A (.str z), none, none] (S1 ++ [.dct false [] false]) = .ok (.int (j0 : Nat)) (S2 ++ [.dct false [] false]) := by
        simp [slot, as_cons, permute, b_add, g1]
      rw [i_rng1, e, Res.bind_ok]
      simp only [sm, if_true])
    (fun n h => by cases h) ⟨S2, [], _, rfl, d12, by simp, by simp, by simp, .inl rfl, rfl⟩ (by
      rintro j x hx ρ S' ⟨T, qs, e5, rfl, dT, hl, hp, hnd, _, rfl⟩
      have hbT := dT.bowl hn
      have wfT := dT.wf wf
      have lT : T.length = S.length := dT.len
      obtain ⟨v, U3, a1, a2, a3, a4⟩ := s30 (S := T ++ [.dct false (qs.map kv) false]) (k := k - 1) (by omega) n 10 hbT.app (by omega) (by omega)
      obtain ⟨T1, rfl, d3⟩ := a2.app hbT.lt
      have hb3 := d3.bowl hbT.lt
      have wf3 := d3.wf wfT
      obtain ⟨w, U4, b1, b2, b3, b4, b5⟩ := s33 (S := T1 ++ [.dct false (qs.map kv) false]) (k := k - 1) (by omega) n hb3.app (wf3.app (o_wf _ _ _)) z hz1 hz2 5 (by omega) (by omega)
      obtain ⟨T2, rfl, d4⟩ := b2.app hb3.lt
      have dd := dT.trans (d3.trans d4)
      have l2 : T2.length = S.length := dd.len
      have hW : Wd w := ⟨b3, by omega, fun c hc => hz3 c (b5 c hc)⟩
      obtain ⟨rs, c1, c2, c3, c4⟩ := put_kv qs w v hp hnd ⟨hW, a3, by simp only; omega⟩
      have hj : j < 15 := by
        have := (List.getElem?_eq_some_iff.mp hx).1
        unfold rngL at this
        simp at this
        omega
      refine ⟨[A (.loc n), A (.int 14), A (.int 5), A (.loc S.length), A (.str z), A x, none], [A (.loc n), A (.int 14), A (.int 5), A (.loc S.length), A (.str z), A x, none], T2 ++ [.dct false (rs.map kv) false], rfl, .inl ?_, T2, rs, _, rfl, dd, by omega, c2, c3, .inr ⟨_, rfl⟩, rfl⟩
      have hat : (T2 ++ [O.dct false (qs.map kv) false])[S.length]? = some (.dct false (qs.map kv) false) := by rw [← l2]; simp
      have hset : (T2 ++ [O.dct false (qs.map kv) false]).set S.length (.dct false (rs.map kv) false) = T2 ++ [.dct false (rs.map kv) false] := by rw [← l2]; simp
      have hps : putS (.loc S.length) (.str w) (.int v) (T2 ++ [O.dct false (qs.map kv) false]) = .ok () (T2 ++ [.dct false (rs.map kv) false]) := by
        have hz : (qs.map kv).length < line := by
          rw [List.length_map]
          exact Nat.lt_of_lt_of_le (show qs.length < 1000 by omega) (le_line (by omega))
        simp only [putS, hat, kOk, keyF, Bool.false_eq_true, if_false, true_and, c1, hset]
        rw [if_pos hz]
      refine nx (S' := T2 ++ [.dct false (rs.map kv) false]) (ρ' := [A (.loc n), A (.int 14), A (.int 5), A (.loc S.length), A (.str z), A x, none]) ?_ b_nil
      have ev1 : evE (run tbT (k-1)) (.call 30 false (.cons false (.var 0) (.cons false (.cst (.int 10)) .nil)) []) [A (.loc n), A (.int 14), A (.int 5), A (.loc S.length), A (.str z), A x, none] (T ++ [.dct false (qs.map kv) false]) = .ok (.int v) (T1 ++ [.dct false (qs.map kv) false]) := by
        simp [slot, as_cons, permute, a1]
      have ev2 : evE (run tbT (k-1)) (.call 33 false (.cons false (.var 0) (.cons false (.var 4) (.cons false (.var 2) .nil))) []) [A (.loc n), A (.int 14), A (.int 5), A (.loc S.length), A (.str z), A x, none] (T1 ++ [.dct false (qs.map kv) false]) = .ok (.str w) (T2 ++ [.dct false (qs.map kv) false]) := by
        simp [slot, as_cons, permute, b1]
      simp only [exS, ev1, Res.bind_ok, asgG, e_var, slot, List.getElem?_cons_zero, List.getElem?_cons_succ, ev2, hps])
  subst h1 h6
  have hlen : qs.length ≤ 14 := by
    unfold rngL at h3
    simp at h3
    omega
  have lT : T.length = S.length := h2.len
  obtain ⟨ps, s1, s2, s3⟩ := sort_pairs h4 h5 (by omega)
  refine ⟨ps, T, fn_cut (F := t34) (S1 := T) (X := [.dct false (qs.map kv) true]) rfl (by omega) [A (.loc n), A (.int 14), A (.int 5), none, none, none, none] rfl rfl rfl lT (.inr (h2.wf wf)) ?_ (fin_ret (nx (S' := S1 ++ [.dct false [] false]) (ρ' := [A (.loc n), A (.int 14), A (.int 5), A (.loc S.length), A (.str z), none, none]) ?_ (nx q1 (ret ?_)))), h2, s3⟩
  · simp only [D.wf, wfL_all, List.all_eq_true]
    intro x hx
    obtain ⟨p, hp, rfl⟩ := List.mem_map.mp hx
    rfl
  · have l5 : ([D.str [97,98], .str [97,98,99], .str [97,115,116], .str [97,101,105,111,110,114,115,116], .str [97,98,99,100,101,102,103,104,105,106,107,108,109,110,111,112,113,114,115,116,117,118,119,120,121,122]] : List D).length ≤ line := le_line (by simp)
    have l2 : ([D.loc S.length, .str z] : List D).length ≤ line := le_line (by simp)
    have e1 : evE (run tbT (k-1)) (.call 31 false (.cons false (.var 0) (.cons false (.tup (.cons false (.cst (.str [97,98])) (.cons false (.cst (.str [97,98,99])) (.cons false (.cst (.str [97,115,116])) (.cons false (.cst (.str [97,101,105,111,110,114,115,116])) (.cons false (.cst (.str [97,98,99,100,101,102,103,104,105,106,107,108,109,110,111,112,113,114,115,116,117,118,119,120,121,122])) .nil)))))) .nil)) []) [A (.loc n), A (.int 14), A (.int 5), none, none, none, none] (S ++ [.dct false [] false]) = .ok (.str z) (S1 ++ [.dct false [] false]) := by
      simp only [e_call, as_var, slot, List.getElem?_cons_zero, as_cons false _ _ (fun i (q : ME.tup _ = ME.var i) => by cases q) (fun n c y (q : ME.tup _ = ME.lam n c y) => by cases q), e_tup, es_cons, e_cst, es_nil, Res.bind_ok, as_nil, permute, f1, l5, if_true]
    simp only [exS, e_tup, es_cons, e_dct0, mkO, Res.bind_ok, e1, es_nil, l2, if_true, asgG, asgGs]
    simp
  · have hm : (T ++ [O.dct false (qs.map kv) false])[S.length]? = some (.dct false (qs.map kv) false) := by rw [← lT]; simp
    have hset : (T ++ [O.dct false (qs.map kv) false]).set S.length (.dct false (qs.map kv) true) = T ++ [.dct false (qs.map kv) true] := by rw [← lT]; simp
    have hlc : evE (run tbT (k-1)) (.lc false [6] (.tup (.cons false (.var 6) (.cons false (.idx (.var 3) (.var 6)) .nil))) (.nm 6) (.val (.var 3)) .nil) [A (.loc n), A (.int 14), A (.int 5), A (.loc S.length), A (.str z), e5, none] (T ++ [.dct false (qs.map kv) false]) = .ok (.lst (qs.map pr)) (T ++ [.dct false (qs.map kv) true]) := by
      have hgo := lc_loc (cl := run tbT (k-1)) (ρ := [A (.loc n), A (.int 14), A (.int 5), A (.loc S.length), A (.str z), e5, none]) (S := T ++ [.dct false (qs.map kv) false]) (own := [6]) (elt := (.tup (.cons false (.var 6) (.cons false (.idx (.var 3) (.var 6)) .nil)))) (t := .nm 6) (i := .val (.var 3)) (ifs := .nil) S.length false false (qs.map kv) ((qs.map kv).map (·.1)) (fun _ => true) (fun x => .tup [x, (dget (qs.map kv) x).getD .non]) (S0 := T ++ [.dct false (qs.map kv) false]) (S1 := T ++ [.dct false (qs.map kv) true])
        (by simp [slot, vw, hm, items]) hm hset (le_line (by simp; omega)) (fun x hx acc => ?_)
      · have hmm : ((qs.map kv).map (·.1)).map (fun x => D.tup [x, (dget (qs.map kv) x).getD .non]) = qs.map pr := by
          rw [List.map_map, List.map_map]
          apply List.map_congr_left
          intro p hp
          simp only [Function.comp, pr]
          have := dget_kv h5 hp
          simp only [kv] at this ⊢
          rw [this]
          rfl
        rw [hgo, filt_true, hmm]
      · obtain ⟨y, hy, rfl⟩ := List.mem_map.mp hx
        obtain ⟨p, hp, rfl⟩ := List.mem_map.mp hy
        have g := dget_kv h5 hp
        have hline : 2 ≤ line := le_line (by omega)
        refine ⟨[A (.loc n), A (.int 14), A (.int 5), A (.loc S.length), A (.str z), e5, A (.str p.1)], ?_, f_nil, fun _ => ⟨?_, ?_⟩⟩
        · rcases he5 with rfl | ⟨x, rfl⟩ <;> rfl
        · have hi : idxD (.dct false (qs.map kv)) (.str p.1) = some (.int p.2) := by simp [idxD, g, kOk, keyF]
          have hv : vw ((T ++ [O.dct false (qs.map kv) true]) ++ [.lst acc]) (.loc S.length) = .dct false (qs.map kv) := by
            have : ((T ++ [O.dct false (qs.map kv) true]) ++ [.lst acc])[S.length]? = some (.dct false (qs.map kv) true) := by rw [← lT]; simp
            simp only [vw, this]
          have hg2 : dget (qs.map kv) (kv p).1 = some (.int p.2) := g
          simp only [e_tup, es_cons, e_var, slot, List.getElem?_cons_zero, List.getElem?_cons_succ, Res.bind_ok, e_idx, hv, hi, opt_some, es_nil, hg2, Option.getD_some]
          rw [if_pos (show ([D.str p.1, D.int p.2] : List D).length ≤ line from hline)]
          rfl
        · have hg2 : dget (qs.map kv) (kv p).1 = some (.int p.2) := g
          rw [hg2]; rfl
    rw [e_itV, e_itV, hlc]
    simp only [Res.bind_ok, v_lst, items, btD, btX, btD0, s1, mkO]
end P03
end Q
end Py
end

section
set_option Elab.async false
set_option linter.all false
set_option maxRecDepth 100000
set_option autoImplicit false
set_option exponentiation.threshold 1000
namespace Py
namespace Q
namespace P03
open Py.K03
variable {k : Nat} {S : St}
abbrev FT (ps : List (List Nat × Int)) (p : List Nat) : D := .tup ((fits ps p).map .str)
abbrev CT (ps : List (List Nat × Int)) (p : List Nat) : D := .tup ((List.range p.length).map fun i => .str (cho (fits ps p) i))
theorem fits_wd {ps : List (List Nat × Int)} {p : List Nat} (h : Ps ps) {w : List Nat} (hw : w ∈ fits ps p) : Wd w ∧ w.length = p.length ∧ fit w p = true := by
  obtain ⟨q, hq, rfl⟩ := List.mem_map.mp hw
  obtain ⟨h1, h2⟩ := List.mem_filter.mp hq
  exact ⟨(h.1 q h1).1, by unfold fit at h2; simp at h2; exact h2.1, h2⟩
theorem cho_txt {ps : List (List Nat × Int)} {p : List Nat} (h : Ps ps) (i : Nat) (hi : i < p.length) : txt (cho (fits ps p) i) := by
  obtain ⟨f1, f2⟩ := fits_len (p := p) h
  obtain ⟨ys, c1, c2, c3, c4, c5⟩ := cho_ok (fits ps p) i (fun w hw => ⟨(f1 w hw).1, by have := (f1 w hw).2.1; omega⟩) (by omega)
  rw [c2, joinS_nil]
  intro c hc
  obtain ⟨y, hy, hcy⟩ := List.mem_flatten.mp hc
  obtain ⟨w, hw, rfl⟩ := c4 y hy
  rw [List.mem_singleton.mp hcy]
  have h3 := (f1 w hw).1.txt
  have h4 := (f1 w hw).2.1
  exact h3 _ (by rw [List.getD_eq_getElem?_getD, List.getElem?_eq_getElem (by omega)]; simp)
theorem strs_shp {xs : List D} (h : ∀ x ∈ xs, ∃ z, x = .str z ∧ txt z) : (D.tup xs).shp = true := shp_tup (n := 0) (fun x hx => by
    obtain ⟨z, rfl, hz⟩ := h x hx; exact data_str hz) (fun x hx => by
    obtain ⟨z, rfl, hz⟩ := h x hx; simp [D.depth]) (by omega)
theorem strs_shpL {xs : List D} (h : ∀ x ∈ xs, ∃ z, x = .str z ∧ txt z) : (D.lst xs).shp = true := shp_lst (n := 0) (fun x hx => by
    obtain ⟨z, rfl, hz⟩ := h x hx; exact data_str hz) (fun x hx => by
    obtain ⟨z, rfl, hz⟩ := h x hx; simp [D.depth]) (by omega)
theorem FT_strs {ps : List (List Nat × Int)} {p : List Nat} (h : Ps ps) : ∀ x ∈ (fits ps p).map D.str, ∃ z, x = .str z ∧ txt z := fun x hx => by
  obtain ⟨w, hw, rfl⟩ := List.mem_map.mp hx
  exact ⟨w, rfl, (fits_wd h hw).1.2.2.txt⟩
theorem CT_strs {ps : List (List Nat × Int)} {p : List Nat} (h : Ps ps) : ∀ x ∈ (List.range p.length).map (fun i => D.str (cho (fits ps p) i)), ∃ z, x = .str z ∧ txt z := fun x hx => by
  obtain ⟨i, hi, rfl⟩ := List.mem_map.mp hx
  exact ⟨_, rfl, cho_txt h i (List.mem_range.mp hi)⟩
/-- _law_same of texts in a tuple -/
theorem s32_strs (hk : 2 ≤ k) {xs : List D} (hl : xs.length ≤ 1000) (h : ∀ x ∈ xs, ∃ z, x = .str z ∧ txt z) : run tbT k (.fn 32) [A (.tup xs), A (.tup xs)] S = .ok (.bl true) S :=
  s32_tup (by omega) xs hl fun x hx S => by
    obtain ⟨z, rfl, hz⟩ := h x hx
    exact s32_str (by omega) z hz
theorem FT_len {ps : List (List Nat × Int)} {p : List Nat} (h : Ps ps) : (fits ps p).length ≤ 60 := (fits_len (p := p) h).2
/-- the four tellings -/
theorem x1 (hk : 5 ≤ k) (ps : List (List Nat × Int)) (p : List Nat) (h : Ps ps) (hp : Pt p) (a b c d e f g x y z u v : Option Ag) :
    evE (run tbT k) (.not (.call 32 false (.cons false (.tup (.cons false (.call 23 false (.cons false (.var 3) (.cons false (.var 5) .nil)) []) (.cons false (.call 23 false (.cons false (.var 5) (.cons false (.var 3) .nil)) [1, 0]) (.cons false (.call 24 false (.cons false (.var 3) (.cons false (.var 5) .nil)) []) (.cons false (.call 24 false (.cons false (.var 5) (.cons false (.var 3) .nil)) [1, 0]) .nil))))) (.cons false (.tup (.cons false (.var 6) (.cons false (.var 6) (.cons false (.var 7) (.cons false (.var 7) .nil))))) .nil)) []))
      [a, b, c, A (WL ps), d, A (.str p), A (FT ps p), A (CT ps p), e, f, g, x, y, z, u] S = .ok (.bl false) S := by
  have g23 : ∀ S, run tbT k (.fn 23) [A (WL ps), A (.str p)] S = .ok (FT ps p) S := fun S => s23 (by omega) ps p h hp
  have g24 : ∀ S, run tbT k (.fn 24) [A (WL ps), A (.str p)] S = .ok (CT ps p) S := fun S => s24 (by omega) ps p h hp
  have g32 : ∀ S, run tbT k (.fn 32) [A (.tup [FT ps p, FT ps p, CT ps p, CT ps p]), A (.tup [FT ps p, FT ps p, CT ps p, CT ps p])] S = .ok (.bl true) S := fun S => s32_tup (by omega) _ (by simp) fun x hx S => by
    have hlp : p.length ≤ 1000 := by have := hp.2.1; omega
    have hlf : (fits ps p).length ≤ 1000 := by have := FT_len (p := p) h; omega
    simp at hx
    rcases hx with rfl | rfl
    · exact s32_strs (by omega) (by simpa using hlf) (FT_strs h)
    · exact s32_strs (by omega) (by simpa using hlp) (CT_strs h)
  have l4 : (4 : Nat) ≤ line := le_line (by omega)
  simp [slot, as_cons, permute, g23, g24, g32, l4]
theorem s32_two (hk : 2 ≤ k) (b : Bool) : run tbT k (.fn 32) [A (.tup [.bl b, .bl b]), A (.tup [.bl b, .bl b])] S = .ok (.bl true) S := s32_tup (by omega) _ (by simp) fun x hx S => by
    simp at hx
    subst hx
    exact s32_bl (by omega) b
/-- word by word -/
theorem x2 (hk : 6 ≤ k) (ps : List (List Nat × Int)) (p : List Nat) (h : Ps ps) (hp : Pt p) (a b c d e f g x y z u v w : Option Ag) : ∃ e' f',
    exS (run tbT k) (.for_ (.tup [.nm 8, .nm 9]) (.val (.slc (.var 2) .no (.cst (.int 8)))) (.cons (.ife (.not (.call 32 false (.cons false (.tup (.cons false (.call 22 false (.cons false (.var 8) (.cons false (.var 5) .nil)) []) (.cons false (.call 22 false (.cons false (.var 5) (.cons false (.var 8) .nil)) [1, 0]) .nil))) (.cons false (.bin .mul (.tup (.cons false (.call 35 false (.cons false (.var 8) (.cons false (.var 5) .nil)) []) .nil)) (.cst (.int 2))) .nil)) [])) (.cons (.ret (.cst (.bl false))) .nil) .nil) .nil))
      [a, b, A (.tup (ps.map pr)), c, d, A (.str p), v, w, e, f, g, x, y, z, u] S = .ok (.nx [a, b, A (.tup (ps.map pr)), c, d, A (.str p), v, w, e', f', g, x, y, z, u]) S := by
  have hsl : evE (run tbT k) (.slc (.var 2) .no (.cst (.int 8))) [a, b, A (.tup (ps.map pr)), c, d, A (.str p), v, w, e, f, g, x, y, z, u] S = .ok (.tup (cut (ps.map pr) none (some 8))) S :=
    slc_hi (x := .tup (ps.map pr)) (i := 8) (S1 := S) (by simp [slot]) rfl (by simp) rfl
  obtain ⟨ρ', S', f1, f2, e', f', f3⟩ := for_ok (cl := run tbT k) (S := S) (ρ := [a, b, A (.tup (ps.map pr)), c, d, A (.str p), v, w, e, f, g, x, y, z, u]) (t := (.tup [.nm 8, .nm 9])) (i := (.val (.slc (.var 2) .no (.cst (.int 8)))))
    (body := (.cons (.ife (.not (.call 32 false (.cons false (.tup (.cons false (.call 22 false (.cons false (.var 8) (.cons false (.var 5) .nil)) []) (.cons false (.call 22 false (.cons false (.var 5) (.cons false (.var 8) .nil)) [1, 0]) .nil))) (.cons false (.bin .mul (.tup (.cons false (.call 35 false (.cons false (.var 8) (.cons false (.var 5) .nil)) []) .nil)) (.cst (.int 2))) .nil)) [])) (.cons (.ret (.cst (.bl false))) .nil) .nil) .nil)) (w := .tup (cut (ps.map pr) none (some 8))) (xs := cut (ps.map pr) none (some 8)) (S1 := S)
    (fun j ρ S' => S' = S ∧ ∃ e' f', ρ = [a, b, A (.tup (ps.map pr)), c, d, A (.str p), v, w, e', f', g, x, y, z, u]) (by rw [i_val, hsl]; rfl) (fun n h => by cases h) ⟨rfl, _, _, rfl⟩ (by
      rintro j x1 hx ρ S' ⟨rfl, e', f', rfl⟩
      have hm := List.mem_of_mem_drop (List.mem_of_mem_take (List.mem_of_getElem? hx))
      obtain ⟨q, hq, rfl⟩ := List.mem_map.mp hm
      have hw := (h.1 q hq).1
      have g22 : ∀ S, run tbT k (.fn 22) [A (.str q.1), A (.str p)] S = .ok (.bl (fit q.1 p)) S := fun S => s22 (by omega) q.1 p hw hp
      have g35 : ∀ S, run tbT k (.fn 35) [A (.str q.1), A (.str p)] S = .ok (.bl (fit q.1 p)) S := fun S => s35 (by omega) q.1 p hw hp
      have g32 : ∀ S, run tbT k (.fn 32) [A (.tup [.bl (fit q.1 p), .bl (fit q.1 p)]), A (.tup [.bl (fit q.1 p), .bl (fit q.1 p)])] S = .ok (.bl true) S := fun S => s32_two (by omega) _
      have hmul : binD .mul (.tup [.bl (fit q.1 p)]) (.int 2) = some (.tup [.bl (fit q.1 p), .bl (fit q.1 p)]) := rfl
      have l2 : (2 : Nat) ≤ line := le_line (by omega)
      have l1 : (1 : Nat) ≤ line := le_line (by omega)
      refine ⟨[a, b, A (.tup (ps.map pr)), c, d, A (.str p), v, w, A (.str q.1), A (.int q.2), g, x, y, z, u], _, S', rfl, .inl (nx (S' := S') (ifF (S' := S') ?_ b_nil) b_nil), rfl, _, _, rfl⟩
      simp [slot, as_cons, permute, g22, g35, g32, l1, l2, hmul])
  subst f2 f3
  exact ⟨e', f', f1⟩
end P03
end Q
end Py
end

section
set_option Elab.async false
set_option linter.all false
set_option maxRecDepth 100000
set_option autoImplicit false
set_option exponentiation.threshold 1000
namespace Py
namespace Q
namespace P03
open Py.K03
variable {k : Nat} {S : St}
theorem fit_iff {w p : List Nat} : fit w p = true ↔ w.length = p.length ∧ ∀ i, i < p.length → p.getD i 0 = 46 ∨ p.getD i 0 = w.getD i 0 := by
  unfold fit
  rw [Bool.and_eq_true, beq_iff_eq]
  constructor
  · rintro ⟨h1, h2⟩
    refine ⟨h1, fun i hi => ?_⟩
    rw [List.all_eq_true] at h2
    have hi1 : i < w.length := by omega
    have := h2 (w[i], p[i]) (List.mem_iff_getElem.mpr ⟨i, by simp; omega, by simp⟩)
    rw [List.getD_eq_getElem?_getD, List.getD_eq_getElem?_getD, List.getElem?_eq_getElem hi1, List.getElem?_eq_getElem hi]
    simpa using this
  · rintro ⟨h1, h2⟩
    refine ⟨h1, ?_⟩
    rw [List.all_eq_true]
    intro z hz
    obtain ⟨i, hi, e⟩ := List.mem_iff_getElem.mp hz
    have hi1 : i < w.length := by simp at hi; omega
    have hi2 : i < p.length := by omega
    have := h2 i hi2
    rw [List.getD_eq_getElem?_getD, List.getD_eq_getElem?_getD, List.getElem?_eq_getElem hi1, List.getElem?_eq_getElem hi2] at this
    subst e
    simpa using this
def wide (p : List Nat) (a : Nat) : List Nat := p.take a ++ [46] ++ p.drop (a + 1)
theorem wide_len {p : List Nat} {a : Nat} (h : a < p.length) : (wide p a).length = p.length := by
  unfold wide
  simp
  omega
theorem wide_at {p : List Nat} {a i : Nat} (h : a < p.length) (hi : i < p.length) : (wide p a).getD i 0 = 46 ∨ (wide p a).getD i 0 = p.getD i 0 := by
  unfold wide
  simp only [List.getD_eq_getElem?_getD]
  by_cases h1 : i < a
  · right
    rw [List.append_assoc, List.getElem?_append_left (by simp; omega), List.getElem?_take_of_lt h1]
  · by_cases h2 : i = a
    · left
      subst h2
      rw [List.append_assoc, List.getElem?_append_right (by simp; omega)]
      simp
      rw [Nat.min_eq_left (by omega)]
      simp
    · right
      rw [List.getElem?_append_right (by simp; omega), List.getElem?_drop]
      congr 2
      simp
      omega
theorem wide_pt {p : List Nat} {a : Nat} (h : a < p.length) (hp : Pt p) : Pt (wide p a) := by
  refine ⟨by rw [wide_len h]; exact hp.1, by rw [wide_len h]; exact hp.2.1, fun c hc => ?_⟩
  unfold wide at hc
  rcases List.mem_append.mp hc with hc | hc
  · rcases List.mem_append.mp hc with hc | hc
    · exact hp.2.2 c (List.mem_of_mem_take hc)
    · exact .inl (List.mem_singleton.mp hc)
  · exact hp.2.2 c (List.mem_of_mem_drop hc)
theorem fit_wide {w p : List Nat} {a : Nat} (h : a < p.length) (hf : fit w p = true) : fit w (wide p a) = true := by
  rw [fit_iff] at hf ⊢
  rw [wide_len h]
  refine ⟨hf.1, fun i hi => ?_⟩
  rcases wide_at h hi with e | e
  · exact .inl e
  · rw [e]; exact hf.2 i hi
theorem dots_pt {n : Nat} (h1 : 2 ≤ n) (h2 : n ≤ 8) : Pt (List.replicate n 46) := ⟨by simpa using h1, by simpa using h2, fun c hc => .inl (List.mem_replicate.mp hc).2⟩
theorem rep_one (n : Nat) (c : Nat) : rep n [c] = List.replicate n c := by
  unfold rep
  induction n with
  | zero => rfl
  | succ n ih => simp [List.replicate_succ, ih]
theorem any_eqv {ws : List (List Nat)} {w : List Nat} : ((ws.map D.str).any fun z => D.eqv z (.str w)) = true ↔ w ∈ ws := by
  rw [List.any_eq_true]
  constructor
  · rintro ⟨x, hx, e⟩
    obtain ⟨z, hz, rfl⟩ := List.mem_map.mp hx
    rw [eqv_str] at e
    rw [← (beq_iff_eq.mp e)]; exact hz
  · intro h
    exact ⟨.str w, List.mem_map.mpr ⟨w, h, rfl⟩, by simp⟩
theorem in_fits {ps : List (List Nat × Int)} {p w : List Nat} : w ∈ fits ps p ↔ w ∈ ps.map (·.1) ∧ fit w p = true := by
  unfold fits
  constructor
  · intro h
    obtain ⟨q, hq, rfl⟩ := List.mem_map.mp h
    obtain ⟨h1, h2⟩ := List.mem_filter.mp hq
    exact ⟨List.mem_map.mpr ⟨q, h1, rfl⟩, h2⟩
  · rintro ⟨h1, h2⟩
    obtain ⟨q, hq, rfl⟩ := List.mem_map.mp h1
    exact List.mem_map.mpr ⟨q, List.mem_filter.mpr ⟨hq, h2⟩, rfl⟩
theorem inF {ps : List (List Nat × Int)} {p w : List Nat} (h : Ps ps) (hw : txt w) : inD (.str w) (FT ps p) = some (decide (w ∈ fits ps p)) := by
  rw [in_tup (shp_str hw) (strs_shp (FT_strs h))]
  congr 1
  rw [Bool.eq_iff_iff, any_eqv]
  simp
theorem eqR_ne0 {cl : Cl} {alts : List (Nat × Nat)} : eqR cl true alts (.lst []) (.lst []) S = .ok (.bl false) S := by
  rw [eqR_of (r := true) rfl rfl rfl]; rfl
theorem eqR_same {cl : Cl} {alts : List (Nat × Nat)} {xs : List D} (h : (D.tup xs).shp = true) : eqR cl true alts (.tup xs) (.tup xs) S = .ok (.bl false) S := by
  rw [eqR_of (r := true) rfl rfl (eqD_refl h)]; rfl
theorem x3 (hk : 5 ≤ k) (ps : List (List Nat × Int)) (p : List Nat) (i : Nat) (hi : i < p.length) (h : Ps ps) (hp : Pt p) (a b c d f g x y z u v : Option Ag) :
    evE (run tbT k) (.or (.eq true [(0, 13)] (.lc false [8] (.var 8) (.nm 8) (.val (.var 6)) (.cons false (.cmp .notin (.var 8) (.call 23 false (.cons false (.var 3) (.cons false (.var 11) .nil)) [])) .nil)) (.lst false .nil)) (.eq true [(0, 13)] (.call 23 false (.cons false (.var 3) (.cons false (.bin .mul (.cst (.str [46])) (.bi .len (.cons false (.var 5) .nil))) .nil)) []) (.it .tupleX false (.val (.lc false [8] (.var 8) (.nm 8) (.val (.call 15 false (.cons false (.var 3) .nil) [])) (.cons false (.eq false [(0, 13)] (.bi .len (.cons false (.var 8) .nil)) (.bi .len (.cons false (.var 5) .nil))) .nil))))))
      [a, b, c, A (WL ps), d, A (.str p), A (FT ps p), f, g, x, y, A (.str (wide p i)), z, u, v] S = .ok (.bl false) S := by
  have hpl : p.length ≤ line := le_line (by have := hp.2.1; omega)
  have g23 : ∀ S, run tbT k (.fn 23) [A (WL ps), A (.str (wide p i))] S = .ok (FT ps (wide p i)) S := fun S => s23 (by omega) ps _ h (wide_pt hi hp)
  have g23d : ∀ S, run tbT k (.fn 23) [A (WL ps), A (.str (List.replicate p.length 46))] S = .ok (FT ps (List.replicate p.length 46)) S := fun S => s23 (by omega) ps _ h (dots_pt hp.1 hp.2.1)
  have g15 : ∀ S, run tbT k (.fn 15) [A (WL ps)] S = .ok (.tup (ps.map fun p => .str p.1)) S := fun S => s15 (by omega) ps
  have h1 : evE (run tbT k) (.lc false [8] (.var 8) (.nm 8) (.val (.var 6)) (.cons false (.cmp .notin (.var 8) (.call 23 false (.cons false (.var 3) (.cons false (.var 11) .nil)) [])) .nil)) [a, b, c, A (WL ps), d, A (.str p), A (FT ps p), f, g, x, y, A (.str (wide p i)), z, u, v] S = .ok (.lst []) S := by
    rw [lc_ok (FT ps p) ((fits ps p).map .str) (fun _ => false) (fun x => x) (S1 := S) (by simp [slot, items]) (fun n h => by cases h) (le_line (by have := FT_len (p := p) h; simp; omega)) fun x hx acc => ?_]
    · simp
    · obtain ⟨w, hw, rfl⟩ := List.mem_map.mp hx
      have hwd := fits_wd h hw
      have hc : cmpD .notin (.str w) (FT ps (wide p i)) = some false := by
        simp only [cmpD, inF h hwd.1.2.2.txt, Option.map_some]
        have : w ∈ fits ps (wide p i) := in_fits.mpr ⟨(in_fits.mp hw).1, fit_wide hi hwd.2.2⟩
        simp [this]
      refine ⟨_, rfl, ?_, fun q => by cases q⟩
      simp [slot, wipe, dropA, permute, g23, hc]
  have hmul : binD .mul (.str [46]) (.int p.length) = some (.str (List.replicate p.length 46)) := by
    have e1 : decide ((p.length : Int) ≤ 4096) = true := decide_eq_true (by have := hp.2.1; omega)
    have e2 : decide ((0 : Int) ≤ (p.length : Int)) = true := decide_eq_true (by omega)
    have e3 : decide (([46] : List Nat).length * p.length ≤ 1000000) = true := decide_eq_true (by have := hp.2.1; simp; omega)
    simp only [binD, e1, e2, Int.toNat_natCast, e3, Bool.and_self, if_true, rep_one]
  have h2 : evE (run tbT k) (.lc false [8] (.var 8) (.nm 8) (.val (.call 15 false (.cons false (.var 3) .nil) [])) (.cons false (.eq false [(0, 13)] (.bi .len (.cons false (.var 8) .nil)) (.bi .len (.cons false (.var 5) .nil))) .nil)) [a, b, c, A (WL ps), d, A (.str p), A (FT ps p), f, g, x, y, A (.str (wide p i)), z, u, v] S = .ok (.lst ((fits ps (List.replicate p.length 46)).map .str)) S := by
    rw [lc_ok (.tup (ps.map fun p => .str p.1)) (ps.map fun p => .str p.1) (fun x => match x with
      | .str w => w.length == p.length
      | _ => false) (fun x => x) (S1 := S) (by simp [slot, permute, g15, items]) (fun n h => by cases h) (le_line (by have := h.2.2; simp; omega)) fun x hx acc => ?_]
    · have : ∀ qs : List (List Nat × Int), ((qs.map fun p => D.str p.1).filter fun x => match x with
        | .str w => w.length == p.length
        | _ => false) = (fits qs (List.replicate p.length 46)).map .str := by
        intro qs
        unfold fits
        simp only [fit_dots]
        rw [List.filter_map, List.map_map]
        rfl
      rw [List.map_id', this]
    · obtain ⟨q, hq, rfl⟩ := List.mem_map.mp hx
      have hql : q.1.length ≤ line := le_line (by have := (h.1 q hq).1.2.1; omega)
      have e : ∀ S, eqR (run tbT k) false [(0, 13)] (.int q.1.length) (.int p.length) S = .ok (.bl (q.1.length == p.length)) S := fun S => by
        rw [eqR_of rfl rfl (eqD_int _ _)]
        have : ((q.1.length : Int) == (p.length : Int)) = (q.1.length == p.length) := by
          rw [Bool.eq_iff_iff]
          simp only [beq_iff_eq]
          omega
        rw [this]
        rfl
      refine ⟨_, rfl, ?_, fun _ => ⟨by simp [slot, wipe, dropA], rfl⟩⟩
      simp [slot, wipe, dropA, len_val _ hpl, len_val _ hql, e]
      cases (q.1.length == p.length) <;> rfl
  have h3 : eqR (run tbT k) true [(0, 13)] (FT ps (List.replicate p.length 46)) (.tup ((fits ps (List.replicate p.length 46)).map .str)) S = .ok (.bl false) S := eqR_same (strs_shp (FT_strs h))
  have c1 : evE (run tbT k) (.eq true [(0, 13)] (.lc false [8] (.var 8) (.nm 8) (.val (.var 6)) (.cons false (.cmp .notin (.var 8) (.call 23 false (.cons false (.var 3) (.cons false (.var 11) .nil)) [])) .nil)) (.lst false .nil)) [a, b, c, A (WL ps), d, A (.str p), A (FT ps p), f, g, x, y, A (.str (wide p i)), z, u, v] S = .ok (.bl false) S := by
    rw [e_eq, h1]
    simp [mkO, eqR_ne0]
  rw [e_or, c1, Res.bind_ok]
  show evE (run tbT k) (.eq true _ _ _) _ S = _
  rw [e_eq]
  have c2 : evE (run tbT k) (.call 23 false (.cons false (.var 3) (.cons false (.bin .mul (.cst (.str [46])) (.bi .len (.cons false (.var 5) .nil))) .nil)) []) [a, b, c, A (WL ps), d, A (.str p), A (FT ps p), f, g, x, y, A (.str (wide p i)), z, u, v] S = .ok (FT ps (List.replicate p.length 46)) S := by
    simp [slot, as_cons, permute, len_val _ hpl, hmul, g23d]
  rw [c2, Res.bind_ok, e_itV, h2]
  simp only [Res.bind_ok, v_lst, items, btD, btX, btD0]
  exact h3
/-- the words that fit, as pairs -/
theorem x4 (hk : 1 ≤ k) (ps : List (List Nat × Int)) (p : List Nat) (h : Ps ps) (hp : Pt p) (a b c d e f g x y z u v w : Option Ag) :
    evE (run tbT k) (.lc false [13] (.var 13) (.nm 13) (.val (.var 2)) (.cons false (.cmp .inn (.idx (.var 13) (.cst (.int 0))) (.var 6)) .nil))
      [a, b, A (.tup (ps.map pr)), c, d, e, A (FT ps p), f, g, x, y, z, u, v, w] S = .ok (.lst ((ps.filter fun q => fit q.1 p).map pr)) S := by
  rw [lc_ok (.tup (ps.map pr)) (ps.map pr) (fitB p) (fun x => x) (S1 := S) (by simp [slot, items]) (fun n h => by cases h) (le_line (by have := h.2.2; simp; omega)) fun x hx acc => ?_]
  · rw [List.map_id', List.filter_map]
    rfl
  · obtain ⟨q, hq, rfl⟩ := List.mem_map.mp hx
    have hc : cmpD .inn (.str q.1) (FT ps p) = some (fit q.1 p) := by
      simp only [cmpD, inF h (h.1 q hq).1.2.2.txt]
      congr 1
      rw [Bool.eq_iff_iff]
      simp only [decide_eq_true_eq, in_fits]
      exact ⟨fun h => h.2, fun h2 => ⟨List.mem_map.mpr ⟨q, hq, rfl⟩, h2⟩⟩
    have hix : idxD (pr q) (.int 0) = some (.str q.1) := rfl
    have hv : ∀ S, vw S (pr q) = pr q := fun _ => rfl
    have hb : fitB p (pr q) = fit q.1 p := rfl
    refine ⟨_, rfl, ?_, fun _ => ⟨by simp [slot, wipe, dropA], rfl⟩⟩
    simp [slot, wipe, dropA, hix, hv, hc, hb]
    cases fit q.1 p <;> rfl
abbrev rst (ps : List (List Nat × Int)) (p : List Nat) : List (List Nat × Int) := ps.filter fun q => !fit q.1 p
theorem x4n (hk : 7 ≤ k) (ps : List (List Nat × Int)) (p : List Nat) (h : Ps ps) (hp : Pt p) (a b c d e f g x y z u v w : Option Ag) :
    evE (run tbT k) (.new 0 10 false (.cons false (.it .tupleX false (.val (.lc false [13] (.var 13) (.nm 13) (.val (.var 2)) (.cons false (.cmp .inn (.idx (.var 13) (.cst (.int 0))) (.var 6)) .nil)))) .nil))
      [a, b, A (.tup (ps.map pr)), c, d, e, A (FT ps p), f, g, x, y, z, u, v, w] S = .ok (WL (ps.filter fun q => fit q.1 p)) S := by
  refine new_wl hk _ (ps_filter h _) ?_
  rw [es_cons, e_itV, x4 (by omega) ps p h hp]
  simp [items, btD, btX, btD0]
theorem x5 (hk : 9 ≤ k) (ps : List (List Nat × Int)) (p : List Nat) (h : Ps ps) (hp : Pt p) (a b d e f g x y z u v w : Option Ag) :
    evE (run tbT k) (.call 28 false (.cons false (.var 3) (.cons false (.new 0 10 false (.cons false (.it .tupleX false (.val (.lc false [13] (.var 13) (.nm 13) (.val (.var 2)) (.cons false (.cmp .inn (.idx (.var 13) (.cst (.int 0))) (.var 6)) .nil)))) .nil)) .nil)) [])
      [a, b, A (.tup (ps.map pr)), A (WL ps), d, e, A (FT ps p), f, g, x, y, z, u, v, w] S = .ok (WL (rst ps p)) S := by
  have g28 := s28 (S := S) hk ps (ps.filter fun q => fit q.1 p) h
  rw [rest_eq h] at g28
  rw [e_call, as_var]
  simp only [slot, List.getElem?_cons_zero, List.getElem?_cons_succ]
  rw [as_cons _ _ _ (fun i (q : ME.new _ _ _ _ = ME.var i) => by cases q) (fun n c y (q : ME.new _ _ _ _ = ME.lam n c y) => by cases q), x4n (by omega) ps p h hp]
  simp only [Res.bind_ok, as_nil, permute]
  exact g28
theorem fits_rst (ps : List (List Nat × Int)) (p : List Nat) : fits (rst ps p) p = [] := by
  unfold fits
  rw [List.map_eq_nil_iff, List.filter_eq_nil_iff]
  intro q hq
  have := (List.mem_filter.mp hq).2
  simpa using this
theorem x6 (hk : 9 ≤ k) (ps : List (List Nat × Int)) (p : List Nat) (h : Ps ps) (hp : Pt p) (a b d f g x y z v w : Option Ag) :
    evE (run tbT k) (.or (.eq true [(0, 13)] (.call 23 false (.cons false (.var 12) (.cons false (.var 5) .nil)) []) (.tup .nil)) (.or (.eq true [(0, 13)] (.call 24 false (.cons false (.var 12) (.cons false (.var 5) .nil)) []) (.bin .mul (.tup (.cons false (.cst (.str [])) .nil)) (.bi .len (.cons false (.var 5) .nil)))) (.eq true [(0, 13)] (.call 27 false (.cons false (.var 12) (.cons false (.new 0 10 false (.cons false (.it .tupleX false (.val (.lc false [13] (.var 13) (.nm 13) (.val (.var 2)) (.cons false (.cmp .inn (.idx (.var 13) (.cst (.int 0))) (.var 6)) .nil)))) .nil)) .nil)) []) (.var 3))))
      [a, b, A (.tup (ps.map pr)), A (WL ps), d, A (.str p), A (FT ps p), f, g, x, y, z, A (WL (rst ps p)), v, w] S = .ok (.bl false) S := by
  have hr : Ps (rst ps p) := ps_filter h _
  have hpl : p.length ≤ line := le_line (by have := hp.2.1; omega)
  have g23 : run tbT k (.fn 23) [A (WL (rst ps p)), A (.str p)] S = .ok (.tup []) S := by
    have := s23 (S := S) (k := k) (by omega) _ p hr hp
    rw [fits_rst] at this
    exact this
  have g24 : run tbT k (.fn 24) [A (WL (rst ps p)), A (.str p)] S = .ok (.tup (List.replicate p.length (.str []))) S := by
    have := s24 (S := S) (k := k) (by omega) _ p hr hp
    rw [fits_rst] at this
    have e : (List.range p.length).map (fun i => D.str (cho [] i)) = List.replicate p.length (.str []) := by
      rw [List.eq_replicate_iff]
      refine ⟨by simp, fun b hb => ?_⟩
      obtain ⟨i, _, rfl⟩ := List.mem_map.mp hb
      rw [cho_nil]
    rw [e] at this
    exact this
  have g27 : run tbT k (.fn 27) [A (WL (rst ps p)), A (WL (ps.filter fun q => fit q.1 p))] S = .ok (WL ps) S := s27 hk _ _ ps h (parts_perm ps fun q => fit q.1 p)
  have g13 : run tbT k (.fn 13) [A (WL ps), A (WL ps)] S = .ok (.bl true) S := s13 (by omega) ps h
  have l1 : (1 : Nat) ≤ line := le_line (by omega)
  have l0 : (0 : Nat) ≤ line := le_line (by omega)
  have hmul : binD .mul (.tup [.str []]) (.int p.length) = some (.tup (List.replicate p.length (.str []))) := by
    have e1 : decide ((2 : Int) ≤ (p.length : Int)) = true := decide_eq_true (by have := hp.1; omega)
    have e2 : decide ((p.length : Int) ≤ 1000) = true := decide_eq_true (by have := hp.2.1; omega)
    have e3 : decide (([D.str []] : List D).length ≤ 1000) = true := by decide
    have e4 : (!([D.str []] : List D).isEmpty) = true := rfl
    have e5 : ∀ n, rep n [D.str []] = List.replicate n (.str []) := by
      intro n
      unfold rep
      induction n with
      | zero => rfl
      | succ n ih => simp [List.replicate_succ, ih]
    simp only [binD, e1, e2, e3, e4, Bool.and_self, if_true, Int.toNat_natCast, e5]
  have q1 : eqR (run tbT k) true [(0, 13)] (.tup []) (.tup []) S = .ok (.bl false) S := eqR_same rfl
  have q2 : eqR (run tbT k) true [(0, 13)] (.tup (List.replicate p.length (.str []))) (.tup (List.replicate p.length (.str []))) S = .ok (.bl false) S := eqR_same (strs_shp fun x hx => ⟨[], (List.mem_replicate.mp hx).2, fun c hc => by cases hc⟩)
  have q3 : eqR (run tbT k) true [(0, 13)] (WL ps) (WL ps) S = .ok (.bl false) S := by
    have e : ∀ S, vw S (WL ps) = .ins 0 (WLf ps) := fun _ => rfl
    unfold eqR
    rw [e]
    simp [g13]
  have c1 : evE (run tbT k) (.eq true [(0, 13)] (.call 23 false (.cons false (.var 12) (.cons false (.var 5) .nil)) []) (.tup .nil)) [a, b, A (.tup (ps.map pr)), A (WL ps), d, A (.str p), A (FT ps p), f, g, x, y, z, A (WL (rst ps p)), v, w] S = .ok (.bl false) S := by
    simp [slot, permute, g23, q1, l0]
  have c2 : evE (run tbT k) (.eq true [(0, 13)] (.call 24 false (.cons false (.var 12) (.cons false (.var 5) .nil)) []) (.bin .mul (.tup (.cons false (.cst (.str [])) .nil)) (.bi .len (.cons false (.var 5) .nil)))) [a, b, A (.tup (ps.map pr)), A (WL ps), d, A (.str p), A (FT ps p), f, g, x, y, z, A (WL (rst ps p)), v, w] S = .ok (.bl false) S := by
    simp [slot, permute, g24, l1, len_val _ hpl, hmul, q2]
  rw [e_or, c1, Res.bind_ok]
  show evE (run tbT k) (.or _ _) _ S = _
  rw [e_or, c2, Res.bind_ok]
  show evE (run tbT k) (.eq true _ _ _) _ S = _
  rw [e_eq, e_call, as_var]
  simp only [slot, List.getElem?_cons_zero, List.getElem?_cons_succ]
  rw [as_cons _ _ _ (fun i (q : ME.new _ _ _ _ = ME.var i) => by cases q) (fun n c y (q : ME.new _ _ _ _ = ME.lam n c y) => by cases q), x4n (by omega) ps p h hp]
  simp only [Res.bind_ok, as_nil, permute, g27, e_var, slot, List.getElem?_cons_zero, List.getElem?_cons_succ]
  exact q3
theorem cho_own {ps : List (List Nat × Int)} {p : List Nat} (h : Ps ps) (hne : fits ps p ≠ []) {i : Nat} (hi : i < p.length) (h46 : p.getD i 0 ≠ 46) (hp : Pt p) : cho (fits ps p) i = [p.getD i 0] := by
  refine cho_one hne (fun w hw => ?_) (by have := FT_len (p := p) h; omega) (hp.txt _ (by rw [List.getD_eq_getElem?_getD, List.getElem?_eq_getElem hi]; simp))
  have := (fit_iff.mp (fits_wd h hw).2.2).2 i hi
  rcases this with e | e
  · exact absurd e h46
  · exact e.symm
theorem x7 (hk : 9 ≤ k) (ps : List (List Nat × Int)) (p : List Nat) (h : Ps ps) (hp : Pt p) (a b c d e f x y z u v w : Option Ag) :
    evE (run tbT k) (.and (.eq true [(0, 13)] (.var 6) (.tup .nil)) (.eq true [(0, 13)] (.lc false [14] (.var 14) (.nm 14) (.rng1 (.bi .len (.cons false (.var 7) .nil))) (.cons false (.and (.eq true [(0, 13)] (.idx (.var 5) (.var 14)) (.cst (.str [46]))) (.eq true [(0, 13)] (.idx (.var 7) (.var 14)) (.idx (.var 5) (.var 14)))) .nil)) (.lst false .nil)))
      [a, b, c, d, e, A (.str p), A (FT ps p), A (CT ps p), f, x, y, z, u, v, w] S = .ok (.bl false) S := by
  have hpl : p.length ≤ line := le_line (by have := hp.2.1; omega)
  have l0 : (0 : Nat) ≤ line := le_line (by omega)
  have q1 : ∀ S, eqR (run tbT k) true [(0, 13)] (FT ps p) (.tup []) S = .ok (.bl (!(fits ps p).isEmpty)) S := fun S => by
    rw [eqR_of (r := (fits ps p).isEmpty) rfl rfl ?_]; rfl
    have h0 : (D.tup ([] : List D)).shp = true := rfl
    unfold eqD
    rw [strs_shp (FT_strs h), h0]
    show some (D.eqvL ((fits ps p).map .str) []) = _
    cases fits ps p <;> rfl
  have c1 : evE (run tbT k) (.eq true [(0, 13)] (.var 6) (.tup .nil)) [a, b, c, d, e, A (.str p), A (FT ps p), A (CT ps p), f, x, y, z, u, v, w] S = .ok (.bl (!(fits ps p).isEmpty)) S := by
    simp [slot, l0, q1]
  rw [e_and, c1, Res.bind_ok]
  by_cases he : fits ps p = []
  · simp [he]
  · have : (fits ps p).isEmpty = false := by
      cases hq : fits ps p with
      | nil => exact absurd hq he
      | cons _ _ => rfl
    rw [this]
    show evE (run tbT k) (.eq true _ _ _) _ S = _
    have hlen : biD .len [CT ps p] = some (.int p.length) := by simp [biD]
    have sm : small62 (p.length : Int) = true := small_nat _ (by have := hp.2.1; omega)
    have h1 : evE (run tbT k) (.lc false [14] (.var 14) (.nm 14) (.rng1 (.bi .len (.cons false (.var 7) .nil))) (.cons false (.and (.eq true [(0, 13)] (.idx (.var 5) (.var 14)) (.cst (.str [46]))) (.eq true [(0, 13)] (.idx (.var 7) (.var 14)) (.idx (.var 5) (.var 14)))) .nil)) [a, b, c, d, e, A (.str p), A (FT ps p), A (CT ps p), f, x, y, z, u, v, w] S = .ok (.lst []) S := by
      rw [lc_ok .non ((List.range p.length).map fun k : Nat => D.int (k : Nat)) (fun _ => false) (fun x => x) (S1 := S) (by
        have h1 : evE (run tbT k) (.bi .len (.cons false (.var 7) .nil)) [a, b, c, d, e, A (.str p), A (FT ps p), A (CT ps p), f, x, y, z, u, v, w] S = .ok (.int p.length) S := by
          rw [e_bi, es_cons, e_var]
          simp only [slot, List.getElem?_cons_zero, List.getElem?_cons_succ, es_nil, Res.bind_ok, List.map_cons, List.map_nil, v_tup, hlen, opt_some]
        rw [i_rng1, h1, Res.bind_ok, ← rng_eq]
        simp only [sm, if_true]) (fun n h => by cases h) (le_line (by have := hp.2.1; simp; omega)) fun x hx acc => ?_]
      · simp
      · obtain ⟨i, hi, rfl⟩ := List.mem_map.mp hx
        have hi := List.mem_range.mp hi
        have d1 : idxD (.str p) (.int (i : Nat)) = some (.str [p.getD i 0]) := by
          simp only [idxD]
          rw [if_pos hpl, at_nat p i hi, List.getElem?_eq_getElem hi, List.getD_eq_getElem?_getD, List.getElem?_eq_getElem hi]
          rfl
        have d2 : idxD (CT ps p) (.int (i : Nat)) = some (.str (cho (fits ps p) i)) := by
          simp only [idxD]
          rw [at_nat _ i (by simpa using hi)]
          simp [hi]
        have hc : p.getD i 0 < 1114112 := hp.txt _ (by rw [List.getD_eq_getElem?_getD, List.getElem?_eq_getElem hi]; simp)
        have t1 : txt [p.getD i 0] := fun c hc' => by rw [List.mem_singleton.mp hc']; exact hc
        have t2 : txt [46] := fun c hc' => by rw [List.mem_singleton.mp hc']; omega
        have r1 : ∀ S, eqR (run tbT k) true [(0, 13)] (.str [p.getD i 0]) (.str [46]) S = .ok (.bl (!([p.getD i 0] == [46]))) S := fun S => eqR_of rfl rfl (eqD_str t1 t2)
        have r2 : ∀ S, eqR (run tbT k) true [(0, 13)] (.str (cho (fits ps p) i)) (.str [p.getD i 0]) S = .ok (.bl (!(cho (fits ps p) i == [p.getD i 0]))) S := fun S => eqR_of rfl rfl (eqD_str (cho_txt h i hi) t1)
        refine ⟨_, rfl, ?_, fun q => by cases q⟩
        by_cases h46 : p.getD i 0 = 46
        · have hb : (!([p.getD i 0] == [46])) = false := by rw [h46]; rfl
          rw [hb] at r1
          simp [slot, wipe, dropA, d1, d2, -List.getD_eq_getElem?_getD, r1]
        · have hb : (!([p.getD i 0] == [46])) = true := by simpa using h46
          have ho := cho_own h he hi h46 hp
          rw [hb] at r1
          rw [ho] at r2 d2
          have hb2 : (!([p.getD i 0] == [p.getD i 0])) = false := by simp
          rw [hb2] at r2
          simp [slot, wipe, dropA, d1, d2, -List.getD_eq_getElem?_getD, r1, r2]
    rw [e_eq, h1]
    simp [mkO, eqR_ne0]
end P03
end Q
end Py
end

section
set_option Elab.async false
set_option linter.all false
set_option maxRecDepth 100000
set_option autoImplicit false
set_option exponentiation.threshold 1000
namespace Py
namespace Q
namespace P03
open Py.K03
variable {k : Nat} {S : St}
def in2 : MB := (.cons (.asg (.nm 5) (.call 38 false (.cons false (.var 0) (.cons false (.var 2) .nil)) [])) (.cons (.asg (.tup [.nm 6, .nm 7]) (.tup (.cons false (.call 36 false (.cons false (.var 2) (.cons false (.var 5) .nil)) []) (.cons false (.call 37 false (.cons false (.var 2) (.cons false (.var 5) .nil)) []) .nil)))) (.cons (.ife (.not (.call 32 false (.cons false (.tup (.cons false (.call 23 false (.cons false (.var 3) (.cons false (.var 5) .nil)) []) (.cons false (.call 23 false (.cons false (.var 5) (.cons false (.var 3) .nil)) [1, 0]) (.cons false (.call 24 false (.cons false (.var 3) (.cons false (.var 5) .nil)) []) (.cons false (.call 24 false (.cons false (.var 5) (.cons false (.var 3) .nil)) [1, 0]) .nil))))) (.cons false (.tup (.cons false (.var 6) (.cons false (.var 6) (.cons false (.var 7) (.cons false (.var 7) .nil))))) .nil)) [])) (.cons (.ret (.cst (.bl false))) .nil) .nil) (.cons (.for_ (.tup [.nm 8, .nm 9]) (.val (.slc (.var 2) .no (.cst (.int 8)))) (.cons (.ife (.not (.call 32 false (.cons false (.tup (.cons false (.call 22 false (.cons false (.var 8) (.cons false (.var 5) .nil)) []) (.cons false (.call 22 false (.cons false (.var 5) (.cons false (.var 8) .nil)) [1, 0]) .nil))) (.cons false (.bin .mul (.tup (.cons false (.call 35 false (.cons false (.var 8) (.cons false (.var 5) .nil)) []) .nil)) (.cst (.int 2))) .nil)) [])) (.cons (.ret (.cst (.bl false))) .nil) .nil) .nil)) (.cons (.asg (.nm 10) (.call 30 false (.cons false (.var 0) (.cons false (.bi .len (.cons false (.var 5) .nil)) .nil)) [])) (.cons (.asg (.nm 11) (.bin .add (.bin .add (.slc (.var 5) .no (.var 10)) (.cst (.str [46]))) (.slc (.var 5) (.bin .add (.var 10) (.cst (.int 1))) .no))) (.cons (.ife (.or (.eq true [(0, 13)] (.lc false [8] (.var 8) (.nm 8) (.val (.var 6)) (.cons false (.cmp .notin (.var 8) (.call 23 false (.cons false (.var 3) (.cons false (.var 11) .nil)) [])) .nil)) (.lst false .nil)) (.eq true [(0, 13)] (.call 23 false (.cons false (.var 3) (.cons false (.bin .mul (.cst (.str [46])) (.bi .len (.cons false (.var 5) .nil))) .nil)) []) (.it .tupleX false (.val (.lc false [8] (.var 8) (.nm 8) (.val (.call 15 false (.cons false (.var 3) .nil) [])) (.cons false (.eq false [(0, 13)] (.bi .len (.cons false (.var 8) .nil)) (.bi .len (.cons false (.var 5) .nil))) .nil)))))) (.cons (.ret (.cst (.bl false))) .nil) .nil) (.cons (.asg (.nm 12) (.call 28 false (.cons false (.var 3) (.cons false (.new 0 10 false (.cons false (.it .tupleX false (.val (.lc false [13] (.var 13) (.nm 13) (.val (.var 2)) (.cons false (.cmp .inn (.idx (.var 13) (.cst (.int 0))) (.var 6)) .nil)))) .nil)) .nil)) [])) (.cons (.ife (.or (.eq true [(0, 13)] (.call 23 false (.cons false (.var 12) (.cons false (.var 5) .nil)) []) (.tup .nil)) (.or (.eq true [(0, 13)] (.call 24 false (.cons false (.var 12) (.cons false (.var 5) .nil)) []) (.bin .mul (.tup (.cons false (.cst (.str [])) .nil)) (.bi .len (.cons false (.var 5) .nil)))) (.eq true [(0, 13)] (.call 27 false (.cons false (.var 12) (.cons false (.new 0 10 false (.cons false (.it .tupleX false (.val (.lc false [13] (.var 13) (.nm 13) (.val (.var 2)) (.cons false (.cmp .inn (.idx (.var 13) (.cst (.int 0))) (.var 6)) .nil)))) .nil)) .nil)) []) (.var 3)))) (.cons (.ret (.cst (.bl false))) .nil) .nil) (.cons (.ife (.and (.eq true [(0, 13)] (.var 6) (.tup .nil)) (.eq true [(0, 13)] (.lc false [14] (.var 14) (.nm 14) (.rng1 (.bi .len (.cons false (.var 7) .nil))) (.cons false (.and (.eq true [(0, 13)] (.idx (.var 5) (.var 14)) (.cst (.str [46]))) (.eq true [(0, 13)] (.idx (.var 7) (.var 14)) (.idx (.var 5) (.var 14)))) .nil)) (.lst false .nil))) (.cons (.ret (.cst (.bl false))) .nil) .nil) .nil))))))))))
def in1 : MB := (.cons (.asg (.nm 2) (.call 34 false (.cons false (.var 0) (.cons false (.cst (.int 14)) (.cons false (.cst (.int 5)) .nil))) [])) (.cons (.asg (.nm 3) (.new 0 10 false (.cons false (.var 2) .nil))) (.cons (.for_ (.nm 4) (.rng1 (.cst (.int 5))) in2) .nil)))
/-- a turn -/
theorem x8 (hk : 9 ≤ k) (n : Nat) (hb : Bowl n S) (wf : WF S) (ps : List (List Nat × Int)) (h : Ps ps) (a e4 e5 e6 e7 e8 e9 e10 e11 e12 e13 e14 : Option Ag) : ∃ (S' : St) (q5 q6 q7 q8 q9 q10 q11 q12 : Option Ag),
    exB (run tbT k) in2 [A (.loc n), a, A (.tup (ps.map pr)), A (WL ps), e4, e5, e6, e7, e8, e9, e10, e11, e12, e13, e14] S = .ok (.nx [A (.loc n), a, A (.tup (ps.map pr)), A (WL ps), e4, q5, q6, q7, q8, q9, q10, q11, q12, e13, e14]) S' ∧ Dr n S S' := by
  have hn := hb.lt
  obtain ⟨p, S1, a1, d1, hp⟩ := s38 (S := S) (k := k) (by omega) n hb wf ps h
  have hb1 := d1.bowl hn
  have hpl : p.length ≤ line := le_line (by have := hp.2.1; omega)
  obtain ⟨r, S2, b1, d2, b3, b4⟩ := s30 (S := S1) (k := k) (by omega) n p.length hb1 (by have := hp.1; omega) (by have := hp.2.1; omega)
  obtain ⟨i, rfl⟩ : ∃ i : Nat, r = i := ⟨r.toNat, by omega⟩
  have hi : i < p.length := by omega
  have g36 : ∀ S, run tbT k (.fn 36) [A (.tup (ps.map pr)), A (.str p)] S = .ok (FT ps p) S := fun S => s36 (by omega) ps p h hp
  have g37 : ∀ S, run tbT k (.fn 37) [A (.tup (ps.map pr)), A (.str p)] S = .ok (CT ps p) S := fun S => s37 (by omega) ps p h hp
  have l2 : (2 : Nat) ≤ line := le_line (by omega)
  obtain ⟨q8, q9, c1⟩ := x2 (S := S1) (k := k) (by omega) ps p h hp (A (.loc n)) a (A (WL ps)) e4 e8 e9 e10 e11 e12 e13 e14 (A (FT ps p)) (A (CT ps p))
  refine ⟨S2, A (.str p), A (FT ps p), A (CT ps p), q8, q9, A (.int (i : Nat)), A (.str (wide p i)), A (WL (rst ps p)), ?_, d1.trans d2⟩
  unfold in2
  refine nx (S' := S1) (ρ' := [A (.loc n), a, A (.tup (ps.map pr)), A (WL ps), e4, A (.str p), e6, e7, e8, e9, e10, e11, e12, e13, e14]) (asg (d := .str p) ?_ (by simp) rfl) ?_
  · simp [slot, permute, a1]
  refine nx (S' := S1) (ρ' := [A (.loc n), a, A (.tup (ps.map pr)), A (WL ps), e4, A (.str p), A (FT ps p), A (CT ps p), e8, e9, e10, e11, e12, e13, e14]) ?_ ?_
  · simp only [exS, e_tup, es_cons, e_call, as_var, slot, List.getElem?_cons_zero, List.getElem?_cons_succ, as_nil, Res.bind_ok, permute, g36, g37, es_nil]
    rw [if_pos (show ([FT ps p, CT ps p] : List D).length ≤ line from l2)]
    rfl
  refine nx (S' := S1) (ρ' := [A (.loc n), a, A (.tup (ps.map pr)), A (WL ps), e4, A (.str p), A (FT ps p), A (CT ps p), e8, e9, e10, e11, e12, e13, e14]) (ifF (S' := S1) (x1 (by omega) ps p h hp _ _ _ _ _ _ _ _ _ _ _ none) b_nil) ?_
  refine nx c1 ?_
  refine nx (S' := S2) (ρ' := [A (.loc n), a, A (.tup (ps.map pr)), A (WL ps), e4, A (.str p), A (FT ps p), A (CT ps p), q8, q9, A (.int (i : Nat)), e11, e12, e13, e14]) (asg (d := .int (i : Nat)) ?_ (by simp) rfl) ?_
  · simp [slot, as_cons, permute, len_val _ hpl, b1]
  refine nx (S' := S2) (ρ' := [A (.loc n), a, A (.tup (ps.map pr)), A (WL ps), e4, A (.str p), A (FT ps p), A (CT ps p), q8, q9, A (.int (i : Nat)), A (.str (wide p i)), e12, e13, e14]) (asg (d := .str (wide p i)) ?_ (by simp) rfl) ?_
  · have k1 : evE (run tbT k) (.slc (.var 5) .no (.var 10)) [A (.loc n), a, A (.tup (ps.map pr)), A (WL ps), e4, A (.str p), A (FT ps p), A (CT ps p), q8, q9, A (.int (i : Nat)), e11, e12, e13, e14] S2 = .ok (.str (p.take i)) S2 := by
      refine slc_hi (x := .str p) (i := (i : Nat)) (S1 := S2) (by simp [slot]) rfl (by simp [slot]) ?_
      simp only [v_str, slcV, if_pos hpl, cut, sIx]
      rw [if_neg (by omega)]
      simp
    have k2 : evE (run tbT k) (.slc (.var 5) (.bin .add (.var 10) (.cst (.int 1))) .no) [A (.loc n), a, A (.tup (ps.map pr)), A (WL ps), e4, A (.str p), A (FT ps p), A (CT ps p), q8, q9, A (.int (i : Nat)), e11, e12, e13, e14] S2 = .ok (.str (p.drop (i + 1))) S2 := by
      refine slc_lo (x := .str p) (i := (i : Nat) + 1) (S1 := S2) (by simp [slot]) rfl (by simp [slot, b_add]) ?_
      simp only [v_str, slcV, if_pos hpl, cut, sIx]
      rw [if_neg (by omega)]
      have : min ((i : Int) + 1).toNat p.length = i + 1 := by omega
      rw [this, List.take_of_length_le (by simp)]
    have m1 : binD .add (.str (p.take i)) (.str [46]) = some (.str (p.take i ++ [46])) := by
      simp only [binD]
      rw [if_pos (le_line (by have := hp.2.1; simp; omega))]
    have m2 : binD .add (.str (p.take i ++ [46])) (.str (p.drop (i + 1))) = some (.str (wide p i)) := by
      simp only [binD]
      rw [if_pos (le_line (by have := hp.2.1; simp; omega))]
      rfl
    simp only [e_bin, k1, k2, Res.bind_ok, e_cst, v_str, m1, opt_some, m2]
  refine nx (S' := S2) (ρ' := [A (.loc n), a, A (.tup (ps.map pr)), A (WL ps), e4, A (.str p), A (FT ps p), A (CT ps p), q8, q9, A (.int (i : Nat)), A (.str (wide p i)), e12, e13, e14]) (ifF (S' := S2) (x3 (by omega) ps p i hi h hp _ _ _ _ _ _ _ _ _ _ _) b_nil) ?_
  refine nx (S' := S2) (ρ' := [A (.loc n), a, A (.tup (ps.map pr)), A (WL ps), e4, A (.str p), A (FT ps p), A (CT ps p), q8, q9, A (.int (i : Nat)), A (.str (wide p i)), A (WL (rst ps p)), e13, e14]) (asg (d := WL (rst ps p)) (x5 hk ps p h hp _ _ _ _ _ _ _ _ _ _ _ _) (by simp) rfl) ?_
  refine nx (S' := S2) (ρ' := [A (.loc n), a, A (.tup (ps.map pr)), A (WL ps), e4, A (.str p), A (FT ps p), A (CT ps p), q8, q9, A (.int (i : Nat)), A (.str (wide p i)), A (WL (rst ps p)), e13, e14]) (ifF (S' := S2) (x6 hk ps p h hp _ _ _ _ _ _ _ _ _ _) b_nil) ?_
  exact nx (S' := S2) (ρ' := [A (.loc n), a, A (.tup (ps.map pr)), A (WL ps), e4, A (.str p), A (FT ps p), A (CT ps p), q8, q9, A (.int (i : Nat)), A (.str (wide p i)), A (WL (rst ps p)), e13, e14]) (ifF (S' := S2) (x7 hk ps p h hp _ _ _ _ _ _ _ _ _ _ _ _) b_nil) b_nil
/-- a lap -/
theorem x9 (hk : 9 ≤ k) (n : Nat) (hb : Bowl n S) (wf : WF S) (e1 e2 e3 e4 e5 e6 e7 e8 e9 e10 e11 e12 e13 e14 : Option Ag) : ∃ (S' : St) (q2 q3 q4 q5 q6 q7 q8 q9 q10 q11 q12 : Option Ag),
    exB (run tbT k) in1 [A (.loc n), e1, e2, e3, e4, e5, e6, e7, e8, e9, e10, e11, e12, e13, e14] S = .ok (.nx [A (.loc n), e1, q2, q3, q4, q5, q6, q7, q8, q9, q10, q11, q12, e13, e14]) S' ∧ Dr n S S' := by
  have hn := hb.lt
  obtain ⟨ps, S1, a1, d1, h⟩ := s34 (S := S) (k := k) (by omega) n hb wf
  have hb1 := d1.bowl hn
  have hn1 := hb1.lt
  obtain ⟨ρ', S', f1, d2, q4, q5, q6, q7, q8, q9, q10, q11, q12, rfl⟩ := for_ok (cl := run tbT k) (S := S1) (ρ := [A (.loc n), e1, A (.tup (ps.map pr)), A (WL ps), e4, e5, e6, e7, e8, e9, e10, e11, e12, e13, e14]) (t := .nm 4) (i := .rng1 (.cst (.int 5))) (body := in2) (w := .non) (xs := rngL 0 5) (S1 := S1)
    (fun j ρ S' => Dr n S1 S' ∧ ∃ q4 q5 q6 q7 q8 q9 q10 q11 q12, ρ = [A (.loc n), e1, A (.tup (ps.map pr)), A (WL ps), q4, q5, q6, q7, q8, q9, q10, q11, q12, e13, e14])
    (by
      have sm : small62 5 = true := by decide
      simp [sm]) (fun n h => by cases h) ⟨hb1.dr0, _, _, _, _, _, _, _, _, _, rfl⟩ (by
      rintro j x hx ρ S' ⟨d, q4, q5, q6, q7, q8, q9, q10, q11, q12, rfl⟩
      obtain ⟨S'', r5, r6, r7, r8, r9, r10, r11, r12, c1, c2⟩ := x8 (S := S') (k := k) hk n (d.bowl hn1) (d.wf (d1.wf wf)) ps h e1 (A x) q5 q6 q7 q8 q9 q10 q11 q12 e13 e14
      exact ⟨_, _, S'', rfl, .inl c1, d.trans c2, _, _, _, _, _, _, _, _, _, rfl⟩)
  refine ⟨S', A (.tup (ps.map pr)), A (WL ps), q4, q5, q6, q7, q8, q9, q10, q11, q12, ?_, d1.trans d2⟩
  unfold in1
  refine nx (S' := S1) (ρ' := [A (.loc n), e1, A (.tup (ps.map pr)), e3, e4, e5, e6, e7, e8, e9, e10, e11, e12, e13, e14]) (asg (d := .tup (ps.map pr)) ?_ (by simp) rfl) ?_
  · simp [slot, as_cons, permute, a1]
  refine nx (S' := S1) (ρ' := [A (.loc n), e1, A (.tup (ps.map pr)), A (WL ps), e4, e5, e6, e7, e8, e9, e10, e11, e12, e13, e14]) (asg (d := WL ps) ?_ (by simp) rfl) ?_
  · refine new_wl (by omega) ps h ?_
    simp [slot]
  exact nx f1 b_nil
theorem s39 (hk : 10 ≤ k) (n : Nat) (hb : Bowl n S) (wf : WF S) : ∃ S', run tbT k (.fn 39) [A (.loc n)] S = .ok (.bl true) S' ∧ Dr n S S' := by
  have hn := hb.lt
  obtain ⟨ρ', S', f1, d2, q1, q2, q3, q4, q5, q6, q7, q8, q9, q10, q11, q12, rfl⟩ := for_ok (cl := run tbT (k-1)) (S := S) (ρ := [A (.loc n), none, none, none, none, none, none, none, none, none, none, none, none, none, none]) (t := .nm 1) (i := .rng1 (.cst (.int 3))) (body := in1) (w := .non) (xs := rngL 0 3) (S1 := S)
    (fun j ρ S' => Dr n S S' ∧ ∃ q1 q2 q3 q4 q5 q6 q7 q8 q9 q10 q11 q12, ρ = [A (.loc n), q1, q2, q3, q4, q5, q6, q7, q8, q9, q10, q11, q12, none, none])
    (by
      have sm : small62 3 = true := by decide
      simp [sm]) (fun n h => by cases h) ⟨hb.dr0, _, _, _, _, _, _, _, _, _, _, _, _, rfl⟩ (by
      rintro j x hx ρ S' ⟨d, q1, q2, q3, q4, q5, q6, q7, q8, q9, q10, q11, q12, rfl⟩
      obtain ⟨S'', r2, r3, r4, r5, r6, r7, r8, r9, r10, r11, r12, c1, c2⟩ := x9 (S := S') (k := k-1) (by omega) n (d.bowl hn) (d.wf wf) (A x) q2 q3 q4 q5 q6 q7 q8 q9 q10 q11 q12 none none
      exact ⟨_, _, S'', rfl, .inl c1, d.trans c2, _, _, _, _, _, _, _, _, _, _, _, _, rfl⟩)
  have hb39 : t39.body = MB.cons (.for_ (.nm 1) (.rng1 (.cst (.int 3))) in1) (.cons (.ret (.cst (.bl true))) .nil) := rfl
  refine ⟨S', fn_at (F := t39) rfl (by omega) [A (.loc n), none, none, none, none, none, none, none, none, none, none, none, none, none, none] rfl rfl rfl d2.len (fin_ret ?_), d2⟩
  rw [hb39]
  exact nx f1 (ret (by simp))
/-- a comprehension whose turns leave places behind -/
theorem lc_grow {cl : Cl} {ρ : Env} {own : List Nat} {elt : ME} {t : MT} {i : MI} {w : D} {xs : List D} {S1 : St} (P : D → Prop) (hi : evI cl i ρ S = .ok (w, xs) S1) (hw : ∀ n, w ≠ .loc n) (hl : xs.length ≤ line) (wf : WF S1)
    (h : ∀ x ∈ xs, ∀ (acc : List D) (X : St), WF (S1 ++ .lst acc :: X) → ∃ ρ1 y X', bindT t x (wipe (dropA ρ) own) = some ρ1 ∧ evE cl elt ρ1 (S1 ++ .lst acc :: X) = .ok y (S1 ++ .lst acc :: X') ∧ WF (S1 ++ .lst acc :: X') ∧ y.wf S1.length = true ∧ P y) :
    ∃ ys, evE cl (.lc false own elt t i .nil) ρ S = .ok (.lst ys) S1 ∧ ys.length = xs.length ∧ ∀ y ∈ ys, P y := by
  have hlk : lockS w S1 = S1 := by cases w <;> first | rfl | exact absurd rfl (hw _)
  have hlo : ∀ S, lockOf w S = none := fun S => by cases w <;> first | rfl | exact absurd rfl (hw _)
  let F : D → St → Res Unit := fun x S' => match bindT t x (wipe (dropA ρ) own) with
      | none => .bad
      | some ρ1 => (evIfs cl .nil ρ1 S').bind fun b S' => if b then (evE cl elt ρ1 S').bind fun y S' => pushS S1.length y S' else .ok () S'
  have key : ∀ (zs : List D), (∀ x ∈ zs, x ∈ xs) → ∀ (acc : List D) (X : St), acc.length + zs.length ≤ line → (∀ y ∈ acc, y.wf S1.length = true) → WF (S1 ++ .lst acc :: X) →
      ∃ ys X', goesL none F zs (S1 ++ .lst acc :: X) = .ok () (S1 ++ .lst (acc ++ ys) :: X') ∧ ys.length = zs.length ∧ (∀ y ∈ acc ++ ys, y.wf S1.length = true) ∧ ∀ y ∈ ys, P y := by
    intro zs
    induction zs with
    | nil => exact fun _ acc X _ ha hx => ⟨[], X, by simp [goesL, still], rfl, by simpa using ha, by simp⟩
    | cons z zs ih =>
      intro hz acc X hacc ha hx
      obtain ⟨ρ1, y, X', a1, a2, a3, a4, a5⟩ := h z (hz z List.mem_cons_self) acc X hx
      have hn : (S1 ++ O.lst acc :: X')[S1.length]? = some (.lst acc) := by simp
      have hs : (S1 ++ O.lst acc :: X').set S1.length (.lst (acc ++ [y])) = S1 ++ .lst (acc ++ [y]) :: X' := by simp
      have hF : F z (S1 ++ .lst acc :: X) = .ok () (S1 ++ .lst (acc ++ [y]) :: X') := by
        show (match bindT t z (wipe (dropA ρ) own) with
          | none => Res.bad
          | some ρ1 => (evIfs cl .nil ρ1 (S1 ++ O.lst acc :: X)).bind fun b S' => if b then (evE cl elt ρ1 S').bind fun y S' => pushS S1.length y S' else .ok () S') = _
        simp only [a1, f_nil, a2, Res.bind_ok, if_true, pushS, hn, hs]
        rw [if_pos (by simp at hacc; omega)]
      have ha' : ∀ q ∈ acc ++ [y], q.wf S1.length = true := fun q hq => by
        rcases List.mem_append.mp hq with hq | hq
        · exact ha q hq
        · rw [List.mem_singleton.mp hq]; exact a4
      have hwf : WF (S1 ++ .lst (acc ++ [y]) :: X') := by
        intro o ho
        have hl : (S1 ++ O.lst (acc ++ [y]) :: X').length = (S1 ++ O.lst acc :: X').length := by simp
        rw [hl]
        rcases List.mem_append.mp ho with ho | ho
        · exact a3 o (List.mem_append_left _ ho)
        · rcases List.mem_cons.mp ho with rfl | ho
          · show D.wfL _ _ = true
            rw [wfL_all, List.all_eq_true]
            intro q hq
            exact wf_mono (by simp) q (ha' q hq)
          · exact a3 o (List.mem_append_right _ (List.mem_cons_of_mem _ ho))
      obtain ⟨ys, X2, b1, b2, b3, b4⟩ := ih (fun x hx => hz x (List.mem_cons_of_mem _ hx)) (acc ++ [y]) X' (by simp at hacc ⊢; omega) ha' hwf
      refine ⟨y :: ys, X2, ?_, by simp [b2], by simpa using b3, fun q hq => ?_⟩
      · simp only [goesL, still, if_true, hF, Res.bind_ok]
        rw [b1]; simp
      · rcases List.mem_cons.mp hq with rfl | hq
        · exact a5
        · exact b4 q hq
  obtain ⟨ys, X, c1, c2, c3, c4⟩ := key xs (fun _ h => h) [] [] (by simpa using hl) (by simp) (by
    intro o ho
    rcases List.mem_append.mp ho with ho | ho
    · exact owf_mono (by simp) o (wf o ho)
    · rw [List.mem_singleton.mp ho]; rfl)
  refine ⟨ys, ?_, c2, c4⟩
  simp only [evE, hi, Res.bind_ok, hlk, compS, walk, hlo]
  have c1' : goesL none F xs (S1 ++ [O.lst []]) = .ok () (S1 ++ .lst ys :: X) := by simpa using c1
  show ((goesL none F xs (S1 ++ [O.lst []])).noX.bind fun _ S'_1 => doneS false S1 S'_1) = _
  rw [c1']
  simp only [Res.noX_ok, Res.bind_ok]
  unfold doneS closeC
  have h1 : ¬ (S1 ++ O.lst ys :: X).length ≤ S1.length := by simp
  have h2 : (S1 ++ O.lst ys :: X).take S1.length = S1 := by simp
  have h3 : frz S1.length (S1 ++ O.lst ys :: X) 100 (.loc S1.length) = some (.lst ys) := by
    unfold frz
    have : D.wf S1.length (.loc S1.length) = false := by simp [D.wf]
    rw [this]
    have h4 : (S1 ++ O.lst ys :: X)[S1.length]? = some (.lst ys) := by simp
    simp only [Bool.false_eq_true, if_false, h4]
    rw [mapO_frz (f := 98) (by simpa using c3)]
    rfl
  simp only [Bool.false_eq_true, if_false, h1, h2, h3, opt, true_or, if_true]
theorem s40 (hk : 12 ≤ k) (ns : List Int) (hl : ns.length ≤ 63) : run tbT k (.fn 40) [A (.lst (ns.map .int))] [] = .ok (.bl true) [] := by
  refine fn_at (F := t40) rfl (by omega) [A (.lst (ns.map .int)), none] rfl rfl rfl rfl (fin_ret (ret ?_))
  have hll : biD .len [.lst (ns.map .int)] = some (.int ns.length) := by simp [biD]
  obtain ⟨m, hm, hm1⟩ : ∃ m : Nat, evE (run tbT (k-1)) (.bi .max (.cons false (.cst (.int 1)) (.cons false (.bi .min (.cons false (.bi .len (.cons false (.var 0) .nil)) (.cons false (.cst (.int 3)) .nil))) .nil))) [A (.lst (ns.map .int)), none] [] = .ok (.int (m : Nat)) [] ∧ m ≤ 3 := by
    have e1 : ∀ i : Int, biD .min [.int i, .int 3] = some (.int (if 3 < i then 3 else i)) := fun _ => rfl
    have e2 : ∀ i : Int, biD .max [.int 1, .int i] = some (.int (if 1 < i then i else 1)) := fun _ => rfl
    refine ⟨((if 1 < (if (3 : Int) < ns.length then 3 else (ns.length : Int)) then (if (3 : Int) < ns.length then 3 else (ns.length : Int)) else 1)).toNat, ?_, by split <;> split <;> omega⟩
    simp only [e_bi, es_cons, e_cst, e_var, slot, List.getElem?_cons_zero, Res.bind_ok, es_nil, List.map_cons, List.map_nil, v_lst, v_int, hll, opt_some, e1, e2]
    rw [Int.toNat_of_nonneg (by split <;> split <;> omega)]
  have sm : small62 (m : Int) = true := small_nat m (by omega)
  have hi : evI (run tbT (k-1)) (.rng1 (.bi .max (.cons false (.cst (.int 1)) (.cons false (.bi .min (.cons false (.bi .len (.cons false (.var 0) .nil)) (.cons false (.cst (.int 3)) .nil))) .nil)))) [A (.lst (ns.map .int)), none] [] = .ok (.non, (List.range m).map fun k : Nat => D.int (k : Nat)) [] := by
    rw [i_rng1, hm, Res.bind_ok, ← rng_eq]
    simp only [sm, if_true]
  obtain ⟨ys, g1, g2, g3⟩ := lc_grow (cl := run tbT (k-1)) (ρ := [A (.lst (ns.map .int)), none]) (own := [1]) (elt := (.call 39 false (.cons false (.call 29 true (.cons false (.var 0) (.cons false (.var 1) .nil)) []) .nil) [])) (t := .nm 1) (fun y => y = .bl true) hi (fun n h => by cases h) (le_line (by simp; omega)) (fun o ho => by cases ho) (by
    intro x hx acc X wf
    obtain ⟨l, hl', rfl⟩ := List.mem_map.mp hx
    obtain ⟨a, b, h1, h2, h3⟩ := s29 (S := [] ++ .lst acc :: X) (k := k - 1) (by omega) ns hl (l : Nat) (by omega)
    have hat : (([] ++ O.lst acc :: X) ++ [O.lst [.int a, .int b]])[([] ++ O.lst acc :: X).length]? = some (.lst [.int a, .int b]) := by
      rw [List.getElem?_append_right (Nat.le_refl _)]; simp
    have hwf : WF (([] ++ O.lst acc :: X) ++ [O.lst [.int a, .int b]]) := wf.app rfl
    obtain ⟨S', q1, q2⟩ := s39 (S := ([] ++ .lst acc :: X) ++ [.lst [.int a, .int b]]) (k := k - 1) (by omega) _ ⟨a, b, hat, h2, h3⟩ hwf
    have hw' := q2.wf hwf
    obtain ⟨a', b', rfl, _, _⟩ := q2
    have hset : (([] ++ O.lst acc :: X) ++ [O.lst [.int a, .int b]]).set ([] ++ O.lst acc :: X).length (.lst [.int a', .int b']) = [] ++ .lst acc :: (X ++ [.lst [.int a', .int b']]) := by
      rw [List.set_append_right _ _ (Nat.le_refl _)]; simp
    rw [hset] at q1 hw'
    refine ⟨[A (.lst (ns.map .int)), A (.int (l : Nat))], .bl true, X ++ [.lst [.int a', .int b']], rfl, ?_, hw', rfl, rfl⟩
    rw [e_call, as_cons _ _ _ (fun i (q : ME.call _ _ _ _ = ME.var i) => by cases q) (fun n c y (q : ME.call _ _ _ _ = ME.lam n c y) => by cases q)]
    simp only [e_call, as_var, slot, List.getElem?_cons_zero, List.getElem?_cons_succ, as_nil, Res.bind_ok, permute, h1, q1])
  have hys : ys = ys.map fun _ => D.bl true := by
    clear g1 g2
    induction ys with
    | nil => rfl
    | cons y ys ih => rw [List.map_cons, ← ih fun z hz => g3 z (List.mem_cons_of_mem _ hz), g3 y List.mem_cons_self]
  rw [e_itV, g1]
  simp only [Res.bind_ok, v_lst, items]
  rw [hys]
  exact all_true _ _
end P03
end Q
end Py
end

section
set_option Elab.async false
set_option linter.all false
set_option maxRecDepth 100000
set_option maxHeartbeats 0
namespace Py
namespace K03
open PySem PySem.Spec PyProof.Rows L2
/-! ### the text, made plain -/
/-! ### where its parts stand -/
def top (i : Nat) : Stmt := PySem.Challenge.pw_crossgrids_k03_patterns_and_choices_of_l.main.body.getD i (.Pass ⟨0, 0, 0, 0⟩)
def sub (i j : Nat) : Stmt := (clsB (top i)).getD j (.Pass ⟨0, 0, 0, 0⟩)
def i0 : FnI := ⟨.glo "is_whole", "is_whole", "is_whole", L2.defArgs (top 11), L2.defBody (top 11), L2.defScope (top 11)⟩
def i1 : FnI := ⟨.glo "is_between", "is_between", "is_between", L2.defArgs (top 12), L2.defBody (top 12), L2.defScope (top 12)⟩
def i2 : FnI := ⟨.glo "is_up_to", "is_up_to", "is_up_to", L2.defArgs (top 13), L2.defBody (top 13), L2.defScope (top 13)⟩
def i3 : FnI := ⟨.glo "is_small", "is_small", "is_small", L2.defArgs (top 14), L2.defBody (top 14), L2.defScope (top 14)⟩
def i4 : FnI := ⟨.glo "is_word", "is_word", "is_word", L2.defArgs (top 15), L2.defBody (top 15), L2.defScope (top 15)⟩
def i5 : FnI := ⟨.glo "is_tuple_of", "is_tuple_of", "is_tuple_of", L2.defArgs (top 16), L2.defBody (top 16), L2.defScope (top 16)⟩
def i6 : FnI := ⟨.glo "is_pair", "is_pair", "is_pair", L2.defArgs (top 17), L2.defBody (top 17), L2.defScope (top 17)⟩
def i7 : FnI := ⟨.glo "wrong_in", "wrong_in", "wrong_in", L2.defArgs (top 18), L2.defBody (top 18), L2.defScope (top 18)⟩
def i8 : FnI := ⟨.glo "is_entry", "is_entry", "is_entry", L2.defArgs (top 22), L2.defBody (top 22), L2.defScope (top 22)⟩
def i9 : FnI := ⟨.glo "wrong_in_pairs", "wrong_in_pairs", "wrong_in_pairs", L2.defArgs (top 23), L2.defBody (top 23), L2.defScope (top 23)⟩
def i10 : FnI := ⟨.mth "WordList" "__init__", "__init__", "WordList.__init__", L2.defArgs (sub 25 0), L2.defBody (sub 25 0), L2.defScope (sub 25 0)⟩
def i11 : FnI := ⟨.prp "WordList" "pairs", "pairs", "WordList.pairs", L2.defArgs (sub 25 1), L2.defBody (sub 25 1), L2.defScope (sub 25 1)⟩
def i12 : FnI := ⟨.prp "WordList" "parts", "parts", "WordList.parts", L2.defArgs (sub 25 2), L2.defBody (sub 25 2), L2.defScope (sub 25 2)⟩
def i13 : FnI := ⟨.mth "WordList" "__eq__", "__eq__", "WordList.__eq__", L2.defArgs (sub 25 3), L2.defBody (sub 25 3), L2.defScope (sub 25 3)⟩
def i14 : FnI := ⟨.glo "check_list", "check_list", "check_list", L2.defArgs (top 26), L2.defBody (top 26), L2.defScope (top 26)⟩
def i15 : FnI := ⟨.glo "all_words", "all_words", "all_words", L2.defArgs (top 27), L2.defBody (top 27), L2.defScope (top 27)⟩
def i16 : FnI := ⟨.glo "is_pattern", "is_pattern", "is_pattern", L2.defArgs (top 30), L2.defBody (top 30), L2.defScope (top 30)⟩
def i17 : FnI := ⟨.glo "does_fit_by", "does_fit_by", "does_fit_by", L2.defArgs (top 31), L2.defBody (top 31), L2.defScope (top 31)⟩
def i18 : FnI := ⟨.glo "fitting_by", "fitting_by", "fitting_by", L2.defArgs (top 32), L2.defBody (top 32), L2.defScope (top 32)⟩
def i19 : FnI := ⟨.glo "choices_by", "choices_by", "choices_by", L2.defArgs (top 33), L2.defBody (top 33), L2.defScope (top 33)⟩
def i20 : FnI := ⟨.glo "check_word", "check_word", "check_word", L2.defArgs (top 35), L2.defBody (top 35), L2.defScope (top 35)⟩
def i21 : FnI := ⟨.glo "check_pattern", "check_pattern", "check_pattern", L2.defArgs (top 36), L2.defBody (top 36), L2.defScope (top 36)⟩
def i22 : FnI := ⟨.glo "does_fit", "does_fit", "does_fit", L2.defArgs (top 37), L2.defBody (top 37), L2.defScope (top 37)⟩
def i23 : FnI := ⟨.glo "fitting", "fitting", "fitting", L2.defArgs (top 38), L2.defBody (top 38), L2.defScope (top 38)⟩
def i24 : FnI := ⟨.glo "choices", "choices", "choices", L2.defArgs (top 39), L2.defBody (top 39), L2.defScope (top 39)⟩
def i25 : FnI := ⟨.glo "check_both", "check_both", "check_both", L2.defArgs (top 41), L2.defBody (top 41), L2.defScope (top 41)⟩
def i26 : FnI := ⟨.glo "list_by", "list_by", "list_by", L2.defArgs (top 42), L2.defBody (top 42), L2.defScope (top 42)⟩
def i27 : FnI := ⟨.glo "joined", "joined", "joined", L2.defArgs (top 43), L2.defBody (top 43), L2.defScope (top 43)⟩
def i28 : FnI := ⟨.glo "without", "without", "without", L2.defArgs (top 44), L2.defBody (top 44), L2.defScope (top 44)⟩
def i29 : FnI := ⟨.glo "_law_bowl", "_law_bowl", "_law_bowl", L2.defArgs (top 46), L2.defBody (top 46), L2.defScope (top 46)⟩
def i30 : FnI := ⟨.glo "_law_draw", "_law_draw", "_law_draw", L2.defArgs (top 47), L2.defBody (top 47), L2.defScope (top 47)⟩
def i31 : FnI := ⟨.glo "_law_of", "_law_of", "_law_of", L2.defArgs (top 48), L2.defBody (top 48), L2.defScope (top 48)⟩
def i32 : FnI := ⟨.glo "_law_same", "_law_same", "_law_same", L2.defArgs (top 49), L2.defBody (top 49), L2.defScope (top 49)⟩
def i33 : FnI := ⟨.glo "_law_word", "_law_word", "_law_word", L2.defArgs (top 50), L2.defBody (top 50), L2.defScope (top 50)⟩
def i34 : FnI := ⟨.glo "_law_pairs", "_law_pairs", "_law_pairs", L2.defArgs (top 51), L2.defBody (top 51), L2.defScope (top 51)⟩
def i35 : FnI := ⟨.glo "_law_does_fit", "_law_does_fit", "_law_does_fit", L2.defArgs (top 52), L2.defBody (top 52), L2.defScope (top 52)⟩
def i36 : FnI := ⟨.glo "_law_fitting", "_law_fitting", "_law_fitting", L2.defArgs (top 53), L2.defBody (top 53), L2.defScope (top 53)⟩
def i37 : FnI := ⟨.glo "_law_choices", "_law_choices", "_law_choices", L2.defArgs (top 54), L2.defBody (top 54), L2.defScope (top 54)⟩
def i38 : FnI := ⟨.glo "_law_pattern", "_law_pattern", "_law_pattern", L2.defArgs (top 55), L2.defBody (top 55), L2.defScope (top 55)⟩
def i39 : FnI := ⟨.glo "_law_right", "_law_right", "_law_right", L2.defArgs (top 56), L2.defBody (top 56), L2.defScope (top 56)⟩
def i40 : FnI := ⟨.glo "law", "law", "law", L2.defArgs (top 57), L2.defBody (top 57), L2.defScope (top 57)⟩
def G0 : List (Str × GV) := [("is_whole", .fn 0), ("is_between", .fn 1), ("is_up_to", .fn 2), ("is_small", .fn 3), ("is_word", .fn 4), ("is_tuple_of", .fn 5), ("is_pair", .fn 6), ("wrong_in", .fn 7), ("is_entry", .fn 8), ("wrong_in_pairs", .fn 9), ("check_list", .fn 14), ("all_words", .fn 15), ("is_pattern", .fn 16), ("does_fit_by", .fn 17), ("fitting_by", .fn 18), ("choices_by", .fn 19), ("check_word", .fn 20), ("check_pattern", .fn 21), ("does_fit", .fn 22), ("fitting", .fn 23), ("choices", .fn 24), ("check_both", .fn 25), ("list_by", .fn 26), ("joined", .fn 27), ("without", .fn 28), ("_law_bowl", .fn 29), ("_law_draw", .fn 30), ("_law_of", .fn 31), ("_law_same", .fn 32), ("_law_word", .fn 33)]
def G1 : List (Str × GV) := [("_law_pairs", .fn 34), ("_law_does_fit", .fn 35), ("_law_fitting", .fn 36), ("_law_choices", .fn 37), ("_law_pattern", .fn 38), ("_law_right", .fn 39), ("law", .fn 40), ("WordList", .cls 0), ("CrossError", .exc 0), ("InvalidWord", .exc 1), ("InvalidPattern", .exc 2), ("NotAList", .exc 3), ("TooMany", .exc 4), ("InvalidList", .exc 5), ("LETTERS", .str [97,98,99,100,101,102,103,104,105,106,107,108,109,110,111,112,113,114,115,116,117,118,119,120,121,122]), ("LEAST_LETTERS", .int 2), ("MOST_LETTERS", .int 8), ("MOST_WORDS", .int 60), ("MOST_WEIGHT", .int 9), ("OPEN", .str [46]), ("ValueError", .free), ("abs", .free), ("all", .free), ("bool", .free), ("dict", .free), ("divmod", .free), ("enumerate", .free), ("int", .free), ("isinstance", .free), ("len", .free)]
def G2 : List (Str × GV) := [("max", .free), ("min", .free), ("property", .free), ("range", .free), ("set", .free), ("sorted", .free), ("str", .free), ("super", .free), ("tuple", .free), ("zip", .free)]
def G : List (Str × GV) := G0 ++ G1 ++ G2
def F0 : List FnI := [i0, i1, i2, i3, i4, i5, i6, i7, i8, i9, i10, i11, i12, i13, i14, i15, i16, i17, i18, i19, i20, i21, i22, i23, i24, i25, i26, i27, i28, i29]
def F1 : List FnI := [i30, i31, i32, i33, i34, i35, i36, i37, i38, i39, i40]
def txt : Txt := { fns := F0 ++ F1, cls := [("WordList", { fields := ["all_pairs", "weights"], no := ["all_pairs", "weights"], props := [("pairs", 11), ("parts", 12)], init := 10, eq := some 13 })], exs := [("CrossError", ""), ("InvalidWord", "given"), ("InvalidPattern", "given"), ("NotAList", "given"), ("TooMany", "given"), ("InvalidList", "index")], G := G, T := tbT }
def ways : Nat → List Way := fun g => match g with
  | 0 => [(1, [], [])]
  | 1 => [(3, [], [])]
  | 2 => [(2, [], [])]
  | 3 => [(1, [], [])]
  | 4 => [(1, [], [])]
  | 5 => [(2, [], [])]
  | 6 => [(1, [], [])]
  | 7 => [(4, [], [])]
  | 8 => [(2, [], [])]
  | 9 => [(1, [], [])]
  | 10 => [(2, [], [])]
  | 11 => [(1, [], [])]
  | 12 => [(1, [], [])]
  | 13 => [(2, [], [])]
  | 14 => [(1, [], [])]
  | 15 => [(1, [], [])]
  | 16 => [(1, [], [])]
  | 17 => [(2, [], [])]
  | 18 => [(2, [], [])]
  | 19 => [(2, [], [])]
  | 20 => [(1, [], [])]
  | 21 => [(1, [], [])]
  | 22 => [(0, ["pattern", "word"], [1, 0]), (2, [], [])]
  | 23 => [(0, ["pattern", "words"], [1, 0]), (2, [], [])]
  | 24 => [(0, ["pattern", "words"], [1, 0]), (2, [], [])]
  | 25 => [(2, [], [])]
  | 26 => [(1, [], [])]
  | 27 => [(2, [], [])]
  | 28 => [(2, [], [])]
  | 29 => [(2, [], [])]
  | 30 => [(2, [], [])]
  | 31 => [(2, [], [])]
  | 32 => [(2, [], [])]
  | 33 => [(3, [], [])]
  | 34 => [(3, [], [])]
  | 35 => [(2, [], [])]
  | 36 => [(2, [], [])]
  | 37 => [(2, [], [])]
  | 38 => [(2, [], [])]
  | 39 => [(1, [], [])]
  | 40 => [(1, [], [])]
  | _ => []
/-! ### each def, checked -/
theorem c0 : FnT txt ways 0 i0 t0 := {
  at_ := by rfl
  ex := ⟨[("value" : Str)], ⟨rfl, rfl, rfl, by decide +kernel, by rfl, by decide +kernel, by decide +kernel⟩, rfl, by kernel_rfl⟩
  way := fun K fd a F y hy => by
    have hy : y ∈ ([(1, [], [])] : List Way) := hy
    simp only [List.mem_cons, List.not_mem_nil, or_false] at hy
    rcases hy with rfl
    · exact wy_of F fun us ws kV doc pm an cdv ct hu hw => match us, hu, ws, hw with | [u0], _, [], _ => ⟨rfl, rfl⟩
  }
theorem c1 : FnT txt ways 1 i1 t1 := {
  at_ := by rfl
  ex := ⟨[("value" : Str), ("least" : Str), ("most" : Str)], ⟨rfl, rfl, rfl, by decide +kernel, by rfl, by decide +kernel, by decide +kernel⟩, rfl, by kernel_rfl⟩
  way := fun K fd a F y hy => by
    have hy : y ∈ ([(3, [], [])] : List Way) := hy
    simp only [List.mem_cons, List.not_mem_nil, or_false] at hy
    rcases hy with rfl
    · exact wy_of F fun us ws kV doc pm an cdv ct hu hw => match us, hu, ws, hw with | [u0, u1, u2], _, [], _ => ⟨rfl, rfl⟩
  }
theorem c2 : FnT txt ways 2 i2 t2 := {
  at_ := by rfl
  ex := ⟨[("value" : Str), ("most" : Str)], ⟨rfl, rfl, rfl, by decide +kernel, by rfl, by decide +kernel, by decide +kernel⟩, rfl, by kernel_rfl⟩
  way := fun K fd a F y hy => by
    have hy : y ∈ ([(2, [], [])] : List Way) := hy
    simp only [List.mem_cons, List.not_mem_nil, or_false] at hy
    rcases hy with rfl
    · exact wy_of F fun us ws kV doc pm an cdv ct hu hw => match us, hu, ws, hw with | [u0, u1], _, [], _ => ⟨rfl, rfl⟩
  }
theorem c3 : FnT txt ways 3 i3 t3 := {
  at_ := by rfl
  ex := ⟨[("value" : Str), ("sign" : Str)], ⟨rfl, rfl, rfl, by decide +kernel, by rfl, by decide +kernel, by decide +kernel⟩, rfl, by kernel_rfl⟩
  way := fun K fd a F y hy => by
    have hy : y ∈ ([(1, [], [])] : List Way) := hy
    simp only [List.mem_cons, List.not_mem_nil, or_false] at hy
    rcases hy with rfl
    · exact wy_of F fun us ws kV doc pm an cdv ct hu hw => match us, hu, ws, hw with | [u0], _, [], _ => ⟨rfl, rfl⟩
  }
theorem c4 : FnT txt ways 4 i4 t4 := {
  at_ := by rfl
  ex := ⟨[("value" : Str)], ⟨rfl, rfl, rfl, by decide +kernel, by rfl, by decide +kernel, by decide +kernel⟩, rfl, by kernel_rfl⟩
  way := fun K fd a F y hy => by
    have hy : y ∈ ([(1, [], [])] : List Way) := hy
    simp only [List.mem_cons, List.not_mem_nil, or_false] at hy
    rcases hy with rfl
    · exact wy_of F fun us ws kV doc pm an cdv ct hu hw => match us, hu, ws, hw with | [u0], _, [], _ => ⟨rfl, rfl⟩
  }
theorem c5 : FnT txt ways 5 i5 t5 := {
  at_ := by rfl
  ex := ⟨[("value" : Str), ("many" : Str)], ⟨rfl, rfl, rfl, by decide +kernel, by rfl, by decide +kernel, by decide +kernel⟩, rfl, by kernel_rfl⟩
  way := fun K fd a F y hy => by
    have hy : y ∈ ([(2, [], [])] : List Way) := hy
    simp only [List.mem_cons, List.not_mem_nil, or_false] at hy
    rcases hy with rfl
    · exact wy_of F fun us ws kV doc pm an cdv ct hu hw => match us, hu, ws, hw with | [u0, u1], _, [], _ => ⟨rfl, rfl⟩
  }
theorem c6 : FnT txt ways 6 i6 t6 := {
  at_ := by rfl
  ex := ⟨[("value" : Str)], ⟨rfl, rfl, rfl, by decide +kernel, by rfl, by decide +kernel, by decide +kernel⟩, rfl, by kernel_rfl⟩
  way := fun K fd a F y hy => by
    have hy : y ∈ ([(1, [], [])] : List Way) := hy
    simp only [List.mem_cons, List.not_mem_nil, or_false] at hy
    rcases hy with rfl
    · exact wy_of F fun us ws kV doc pm an cdv ct hu hw => match us, hu, ws, hw with | [u0], _, [], _ => ⟨rfl, rfl⟩
  }
theorem c7 : FnT txt ways 7 i7 t7 := {
  at_ := by rfl
  ex := ⟨[("value" : Str), ("least" : Str), ("most" : Str), ("is_right" : Str), ("index" : Str), ("each" : Str)], ⟨rfl, rfl, rfl, by decide +kernel, by rfl, by decide +kernel, by decide +kernel⟩, rfl, by kernel_rfl⟩
  way := fun K fd a F y hy => by
    have hy : y ∈ ([(4, [], [])] : List Way) := hy
    simp only [List.mem_cons, List.not_mem_nil, or_false] at hy
    rcases hy with rfl
    · exact wy_of F fun us ws kV doc pm an cdv ct hu hw => match us, hu, ws, hw with | [u0, u1, u2, u3], _, [], _ => ⟨rfl, rfl⟩
  }
theorem c8 : FnT txt ways 8 i8 t8 := {
  at_ := by rfl
  ex := ⟨[("ahead" : Str), ("value" : Str)], ⟨rfl, rfl, rfl, by decide +kernel, by rfl, by decide +kernel, by decide +kernel⟩, rfl, by kernel_rfl⟩
  way := fun K fd a F y hy => by
    have hy : y ∈ ([(2, [], [])] : List Way) := hy
    simp only [List.mem_cons, List.not_mem_nil, or_false] at hy
    rcases hy with rfl
    · exact wy_of F fun us ws kV doc pm an cdv ct hu hw => match us, hu, ws, hw with | [u0, u1], _, [], _ => ⟨rfl, rfl⟩
  }
theorem c9 : FnT txt ways 9 i9 t9 := {
  at_ := by rfl
  ex := ⟨[("value" : Str)], ⟨rfl, rfl, rfl, by decide +kernel, by rfl, by decide +kernel, by decide +kernel⟩, rfl, by kernel_rfl⟩
  way := fun K fd a F y hy => by
    have hy : y ∈ ([(1, [], [])] : List Way) := hy
    simp only [List.mem_cons, List.not_mem_nil, or_false] at hy
    rcases hy with rfl
    · exact wy_of F fun us ws kV doc pm an cdv ct hu hw => match us, hu, ws, hw with | [u0], _, [], _ => ⟨rfl, rfl⟩
  }
theorem c10 : FnT txt ways 10 i10 t10 := {
  at_ := by rfl
  ex := ⟨[("self" : Str), ("pairs" : Str), ("index" : Str)], ⟨rfl, rfl, rfl, by decide +kernel, by rfl, by decide +kernel, by decide +kernel⟩, rfl, by kernel_rfl⟩
  way := fun K fd a F y hy => by
    have hy : y ∈ ([(2, [], [])] : List Way) := hy
    simp only [List.mem_cons, List.not_mem_nil, or_false] at hy
    rcases hy with rfl
    · exact wy_of F fun us ws kV doc pm an cdv ct hu hw => match us, hu, ws, hw with | [u0, u1], _, [], _ => ⟨rfl, rfl⟩
  }
theorem c11 : FnT txt ways 11 i11 t11 := {
  at_ := by rfl
  ex := ⟨[("self" : Str)], ⟨rfl, rfl, rfl, by decide +kernel, by rfl, by decide +kernel, by decide +kernel⟩, rfl, by kernel_rfl⟩
  way := fun K fd a F y hy => by
    have hy : y ∈ ([(1, [], [])] : List Way) := hy
    simp only [List.mem_cons, List.not_mem_nil, or_false] at hy
    rcases hy with rfl
    · exact wy_of F fun us ws kV doc pm an cdv ct hu hw => match us, hu, ws, hw with | [u0], _, [], _ => ⟨rfl, rfl⟩
  }
theorem c12 : FnT txt ways 12 i12 t12 := {
  at_ := by rfl
  ex := ⟨[("self" : Str)], ⟨rfl, rfl, rfl, by decide +kernel, by rfl, by decide +kernel, by decide +kernel⟩, rfl, by kernel_rfl⟩
  way := fun K fd a F y hy => by
    have hy : y ∈ ([(1, [], [])] : List Way) := hy
    simp only [List.mem_cons, List.not_mem_nil, or_false] at hy
    rcases hy with rfl
    · exact wy_of F fun us ws kV doc pm an cdv ct hu hw => match us, hu, ws, hw with | [u0], _, [], _ => ⟨rfl, rfl⟩
  }
theorem c13 : FnT txt ways 13 i13 t13 := {
  at_ := by rfl
  ex := ⟨[("self" : Str), ("other" : Str)], ⟨rfl, rfl, rfl, by decide +kernel, by rfl, by decide +kernel, by decide +kernel⟩, rfl, by kernel_rfl⟩
  way := fun K fd a F y hy => by
    have hy : y ∈ ([(2, [], [])] : List Way) := hy
    simp only [List.mem_cons, List.not_mem_nil, or_false] at hy
    rcases hy with rfl
    · exact wy_of F fun us ws kV doc pm an cdv ct hu hw => match us, hu, ws, hw with | [u0, u1], _, [], _ => ⟨rfl, rfl⟩
  }
theorem c14 : FnT txt ways 14 i14 t14 := {
  at_ := by rfl
  ex := ⟨[("words" : Str)], ⟨rfl, rfl, rfl, by decide +kernel, by rfl, by decide +kernel, by decide +kernel⟩, rfl, by kernel_rfl⟩
  way := fun K fd a F y hy => by
    have hy : y ∈ ([(1, [], [])] : List Way) := hy
    simp only [List.mem_cons, List.not_mem_nil, or_false] at hy
    rcases hy with rfl
    · exact wy_of F fun us ws kV doc pm an cdv ct hu hw => match us, hu, ws, hw with | [u0], _, [], _ => ⟨rfl, rfl⟩
  }
theorem c15 : FnT txt ways 15 i15 t15 := {
  at_ := by rfl
  ex := ⟨[("words" : Str)], ⟨rfl, rfl, rfl, by decide +kernel, by rfl, by decide +kernel, by decide +kernel⟩, rfl, by kernel_rfl⟩
  way := fun K fd a F y hy => by
    have hy : y ∈ ([(1, [], [])] : List Way) := hy
    simp only [List.mem_cons, List.not_mem_nil, or_false] at hy
    rcases hy with rfl
    · exact wy_of F fun us ws kV doc pm an cdv ct hu hw => match us, hu, ws, hw with | [u0], _, [], _ => ⟨rfl, rfl⟩
  }
theorem c16 : FnT txt ways 16 i16 t16 := {
  at_ := by rfl
  ex := ⟨[("value" : Str), ("sign" : Str)], ⟨rfl, rfl, rfl, by decide +kernel, by rfl, by decide +kernel, by decide +kernel⟩, rfl, by kernel_rfl⟩
  way := fun K fd a F y hy => by
    have hy : y ∈ ([(1, [], [])] : List Way) := hy
    simp only [List.mem_cons, List.not_mem_nil, or_false] at hy
    rcases hy with rfl
    · exact wy_of F fun us ws kV doc pm an cdv ct hu hw => match us, hu, ws, hw with | [u0], _, [], _ => ⟨rfl, rfl⟩
  }
theorem c17 : FnT txt ways 17 i17 t17 := {
  at_ := by rfl
  ex := ⟨[("word" : Str), ("pattern" : Str), ("letter" : Str), ("sign" : Str)], ⟨rfl, rfl, rfl, by decide +kernel, by rfl, by decide +kernel, by decide +kernel⟩, rfl, by kernel_rfl⟩
  way := fun K fd a F y hy => by
    have hy : y ∈ ([(2, [], [])] : List Way) := hy
    simp only [List.mem_cons, List.not_mem_nil, or_false] at hy
    rcases hy with rfl
    · exact wy_of F fun us ws kV doc pm an cdv ct hu hw => match us, hu, ws, hw with | [u0, u1], _, [], _ => ⟨rfl, rfl⟩
  }
theorem c18 : FnT txt ways 18 i18 t18 := {
  at_ := by rfl
  ex := ⟨[("words" : Str), ("pattern" : Str), ("word" : Str)], ⟨rfl, rfl, rfl, by decide +kernel, by rfl, by decide +kernel, by decide +kernel⟩, rfl, by kernel_rfl⟩
  way := fun K fd a F y hy => by
    have hy : y ∈ ([(2, [], [])] : List Way) := hy
    simp only [List.mem_cons, List.not_mem_nil, or_false] at hy
    rcases hy with rfl
    · exact wy_of F fun us ws kV doc pm an cdv ct hu hw => match us, hu, ws, hw with | [u0, u1], _, [], _ => ⟨rfl, rfl⟩
  }
theorem c19 : FnT txt ways 19 i19 t19 := {
  at_ := by rfl
  ex := ⟨[("words" : Str), ("pattern" : Str), ("found" : Str), ("word" : Str), ("place" : Str)], ⟨rfl, rfl, rfl, by decide +kernel, by rfl, by decide +kernel, by decide +kernel⟩, rfl, by kernel_rfl⟩
  way := fun K fd a F y hy => by
    have hy : y ∈ ([(2, [], [])] : List Way) := hy
    simp only [List.mem_cons, List.not_mem_nil, or_false] at hy
    rcases hy with rfl
    · exact wy_of F fun us ws kV doc pm an cdv ct hu hw => match us, hu, ws, hw with | [u0, u1], _, [], _ => ⟨rfl, rfl⟩
  }
theorem c20 : FnT txt ways 20 i20 t20 := {
  at_ := by rfl
  ex := ⟨[("word" : Str)], ⟨rfl, rfl, rfl, by decide +kernel, by rfl, by decide +kernel, by decide +kernel⟩, rfl, by kernel_rfl⟩
  way := fun K fd a F y hy => by
    have hy : y ∈ ([(1, [], [])] : List Way) := hy
    simp only [List.mem_cons, List.not_mem_nil, or_false] at hy
    rcases hy with rfl
    · exact wy_of F fun us ws kV doc pm an cdv ct hu hw => match us, hu, ws, hw with | [u0], _, [], _ => ⟨rfl, rfl⟩
  }
theorem c21 : FnT txt ways 21 i21 t21 := {
  at_ := by rfl
  ex := ⟨[("pattern" : Str)], ⟨rfl, rfl, rfl, by decide +kernel, by rfl, by decide +kernel, by decide +kernel⟩, rfl, by kernel_rfl⟩
  way := fun K fd a F y hy => by
    have hy : y ∈ ([(1, [], [])] : List Way) := hy
    simp only [List.mem_cons, List.not_mem_nil, or_false] at hy
    rcases hy with rfl
    · exact wy_of F fun us ws kV doc pm an cdv ct hu hw => match us, hu, ws, hw with | [u0], _, [], _ => ⟨rfl, rfl⟩
  }
theorem c22 : FnT txt ways 22 i22 t22 := {
  at_ := by rfl
  ex := ⟨[("word" : Str), ("pattern" : Str)], ⟨rfl, rfl, rfl, by decide +kernel, by rfl, by decide +kernel, by decide +kernel⟩, rfl, by kernel_rfl⟩
  way := fun K fd a F y hy => by
    have hy : y ∈ ([(0, ["pattern", "word"], [1, 0]), (2, [], [])] : List Way) := hy
    simp only [List.mem_cons, List.not_mem_nil, or_false] at hy
    rcases hy with rfl | rfl
    · exact wy_of F fun us ws kV doc pm an cdv ct hu hw => match us, hu, ws, hw with | [], _, [v0, v1], _ => ⟨rfl, rfl⟩
    · exact wy_of F fun us ws kV doc pm an cdv ct hu hw => match us, hu, ws, hw with | [u0, u1], _, [], _ => ⟨rfl, rfl⟩
  }
theorem c23 : FnT txt ways 23 i23 t23 := {
  at_ := by rfl
  ex := ⟨[("words" : Str), ("pattern" : Str)], ⟨rfl, rfl, rfl, by decide +kernel, by rfl, by decide +kernel, by decide +kernel⟩, rfl, by kernel_rfl⟩
  way := fun K fd a F y hy => by
    have hy : y ∈ ([(0, ["pattern", "words"], [1, 0]), (2, [], [])] : List Way) := hy
    simp only [List.mem_cons, List.not_mem_nil, or_false] at hy
    rcases hy with rfl | rfl
    · exact wy_of F fun us ws kV doc pm an cdv ct hu hw => match us, hu, ws, hw with | [], _, [v0, v1], _ => ⟨rfl, rfl⟩
    · exact wy_of F fun us ws kV doc pm an cdv ct hu hw => match us, hu, ws, hw with | [u0, u1], _, [], _ => ⟨rfl, rfl⟩
  }
theorem c24 : FnT txt ways 24 i24 t24 := {
  at_ := by rfl
  ex := ⟨[("words" : Str), ("pattern" : Str)], ⟨rfl, rfl, rfl, by decide +kernel, by rfl, by decide +kernel, by decide +kernel⟩, rfl, by kernel_rfl⟩
  way := fun K fd a F y hy => by
    have hy : y ∈ ([(0, ["pattern", "words"], [1, 0]), (2, [], [])] : List Way) := hy
    simp only [List.mem_cons, List.not_mem_nil, or_false] at hy
    rcases hy with rfl | rfl
    · exact wy_of F fun us ws kV doc pm an cdv ct hu hw => match us, hu, ws, hw with | [], _, [v0, v1], _ => ⟨rfl, rfl⟩
    · exact wy_of F fun us ws kV doc pm an cdv ct hu hw => match us, hu, ws, hw with | [u0, u1], _, [], _ => ⟨rfl, rfl⟩
  }
theorem c25 : FnT txt ways 25 i25 t25 := {
  at_ := by rfl
  ex := ⟨[("words" : Str), ("other" : Str)], ⟨rfl, rfl, rfl, by decide +kernel, by rfl, by decide +kernel, by decide +kernel⟩, rfl, by kernel_rfl⟩
  way := fun K fd a F y hy => by
    have hy : y ∈ ([(2, [], [])] : List Way) := hy
    simp only [List.mem_cons, List.not_mem_nil, or_false] at hy
    rcases hy with rfl
    · exact wy_of F fun us ws kV doc pm an cdv ct hu hw => match us, hu, ws, hw with | [u0, u1], _, [], _ => ⟨rfl, rfl⟩
  }
theorem c26 : FnT txt ways 26 i26 t26 := {
  at_ := by rfl
  ex := ⟨[("weights" : Str), ("word" : Str)], ⟨rfl, rfl, rfl, by decide +kernel, by rfl, by decide +kernel, by decide +kernel⟩, rfl, by kernel_rfl⟩
  way := fun K fd a F y hy => by
    have hy : y ∈ ([(1, [], [])] : List Way) := hy
    simp only [List.mem_cons, List.not_mem_nil, or_false] at hy
    rcases hy with rfl
    · exact wy_of F fun us ws kV doc pm an cdv ct hu hw => match us, hu, ws, hw with | [u0], _, [], _ => ⟨rfl, rfl⟩
  }
theorem c27 : FnT txt ways 27 i27 t27 := {
  at_ := by rfl
  ex := ⟨[("words" : Str), ("other" : Str), ("found" : Str), ("word" : Str), ("weight" : Str)], ⟨rfl, rfl, rfl, by decide +kernel, by rfl, by decide +kernel, by decide +kernel⟩, rfl, by kernel_rfl⟩
  way := fun K fd a F y hy => by
    have hy : y ∈ ([(2, [], [])] : List Way) := hy
    simp only [List.mem_cons, List.not_mem_nil, or_false] at hy
    rcases hy with rfl
    · exact wy_of F fun us ws kV doc pm an cdv ct hu hw => match us, hu, ws, hw with | [u0, u1], _, [], _ => ⟨rfl, rfl⟩
  }
theorem c28 : FnT txt ways 28 i28 t28 := {
  at_ := by rfl
  ex := ⟨[("words" : Str), ("other" : Str), ("word" : Str), ("weight" : Str)], ⟨rfl, rfl, rfl, by decide +kernel, by rfl, by decide +kernel, by decide +kernel⟩, rfl, by kernel_rfl⟩
  way := fun K fd a F y hy => by
    have hy : y ∈ ([(2, [], [])] : List Way) := hy
    simp only [List.mem_cons, List.not_mem_nil, or_false] at hy
    rcases hy with rfl
    · exact wy_of F fun us ws kV doc pm an cdv ct hu hw => match us, hu, ws, hw with | [u0, u1], _, [], _ => ⟨rfl, rfl⟩
  }
theorem c29 : FnT txt ways 29 i29 t29 := {
  at_ := by rfl
  ex := ⟨[("script" : Str), ("lap" : Str), ("own" : Str), ("stir" : Str), ("cell" : Str), ("far" : Str)], ⟨rfl, rfl, rfl, by decide +kernel, by rfl, by decide +kernel, by decide +kernel⟩, rfl, by kernel_rfl⟩
  way := fun K fd a F y hy => by
    have hy : y ∈ ([(2, [], [])] : List Way) := hy
    simp only [List.mem_cons, List.not_mem_nil, or_false] at hy
    rcases hy with rfl
    · exact wy_of F fun us ws kV doc pm an cdv ct hu hw => match us, hu, ws, hw with | [u0, u1], _, [], _ => ⟨rfl, rfl⟩
  }
theorem c30 : FnT txt ways 30 i30 t30 := {
  at_ := by rfl
  ex := ⟨[("bowl" : Str), ("many" : Str), ("figure" : Str)], ⟨rfl, rfl, rfl, by decide +kernel, by rfl, by decide +kernel, by decide +kernel⟩, rfl, by kernel_rfl⟩
  way := fun K fd a F y hy => by
    have hy : y ∈ ([(2, [], [])] : List Way) := hy
    simp only [List.mem_cons, List.not_mem_nil, or_false] at hy
    rcases hy with rfl
    · exact wy_of F fun us ws kV doc pm an cdv ct hu hw => match us, hu, ws, hw with | [u0, u1], _, [], _ => ⟨rfl, rfl⟩
  }
theorem c31 : FnT txt ways 31 i31 t31 := {
  at_ := by rfl
  ex := ⟨[("bowl" : Str), ("some" : Str)], ⟨rfl, rfl, rfl, by decide +kernel, by rfl, by decide +kernel, by decide +kernel⟩, rfl, by kernel_rfl⟩
  way := fun K fd a F y hy => by
    have hy : y ∈ ([(2, [], [])] : List Way) := hy
    simp only [List.mem_cons, List.not_mem_nil, or_false] at hy
    rcases hy with rfl
    · exact wy_of F fun us ws kV doc pm an cdv ct hu hw => match us, hu, ws, hw with | [u0, u1], _, [], _ => ⟨rfl, rfl⟩
  }
theorem c32 : FnT txt ways 32 i32 t32 := {
  at_ := by rfl
  ex := ⟨[("told" : Str), ("due" : Str), ("k" : Str)], ⟨rfl, rfl, rfl, by decide +kernel, by rfl, by decide +kernel, by decide +kernel⟩, rfl, by kernel_rfl⟩
  way := fun K fd a F y hy => by
    have hy : y ∈ ([(2, [], [])] : List Way) := hy
    simp only [List.mem_cons, List.not_mem_nil, or_false] at hy
    rcases hy with rfl
    · exact wy_of F fun us ws kV doc pm an cdv ct hu hw => match us, hu, ws, hw with | [u0, u1], _, [], _ => ⟨rfl, rfl⟩
  }
theorem c33 : FnT txt ways 33 i33 t33 := {
  at_ := by rfl
  ex := ⟨[("bowl" : Str), ("letters" : Str), ("most" : Str), ("turn" : Str)], ⟨rfl, rfl, rfl, by decide +kernel, by rfl, by decide +kernel, by decide +kernel⟩, rfl, by kernel_rfl⟩
  way := fun K fd a F y hy => by
    have hy : y ∈ ([(3, [], [])] : List Way) := hy
    simp only [List.mem_cons, List.not_mem_nil, or_false] at hy
    rcases hy with rfl
    · exact wy_of F fun us ws kV doc pm an cdv ct hu hw => match us, hu, ws, hw with | [u0, u1, u2], _, [], _ => ⟨rfl, rfl⟩
  }
theorem c34 : FnT txt ways 34 i34 t34 := {
  at_ := by rfl
  ex := ⟨[("bowl" : Str), ("many" : Str), ("most" : Str), ("found" : Str), ("letters" : Str), ("turn" : Str), ("word" : Str)], ⟨rfl, rfl, rfl, by decide +kernel, by rfl, by decide +kernel, by decide +kernel⟩, rfl, by kernel_rfl⟩
  way := fun K fd a F y hy => by
    have hy : y ∈ ([(3, [], [])] : List Way) := hy
    simp only [List.mem_cons, List.not_mem_nil, or_false] at hy
    rcases hy with rfl
    · exact wy_of F fun us ws kV doc pm an cdv ct hu hw => match us, hu, ws, hw with | [u0, u1, u2], _, [], _ => ⟨rfl, rfl⟩
  }
theorem c35 : FnT txt ways 35 i35 t35 := {
  at_ := by rfl
  ex := ⟨[("word" : Str), ("pattern" : Str), ("k" : Str)], ⟨rfl, rfl, rfl, by decide +kernel, by rfl, by decide +kernel, by decide +kernel⟩, rfl, by kernel_rfl⟩
  way := fun K fd a F y hy => by
    have hy : y ∈ ([(2, [], [])] : List Way) := hy
    simp only [List.mem_cons, List.not_mem_nil, or_false] at hy
    rcases hy with rfl
    · exact wy_of F fun us ws kV doc pm an cdv ct hu hw => match us, hu, ws, hw with | [u0, u1], _, [], _ => ⟨rfl, rfl⟩
  }
theorem c36 : FnT txt ways 36 i36 t36 := {
  at_ := by rfl
  ex := ⟨[("pairs" : Str), ("pattern" : Str), ("word" : Str), ("weight" : Str)], ⟨rfl, rfl, rfl, by decide +kernel, by rfl, by decide +kernel, by decide +kernel⟩, rfl, by kernel_rfl⟩
  way := fun K fd a F y hy => by
    have hy : y ∈ ([(2, [], [])] : List Way) := hy
    simp only [List.mem_cons, List.not_mem_nil, or_false] at hy
    rcases hy with rfl
    · exact wy_of F fun us ws kV doc pm an cdv ct hu hw => match us, hu, ws, hw with | [u0, u1], _, [], _ => ⟨rfl, rfl⟩
  }
theorem c37 : FnT txt ways 37 i37 t37 := {
  at_ := by rfl
  ex := ⟨[("pairs" : Str), ("pattern" : Str), ("some" : Str), ("word" : Str), ("k" : Str)], ⟨rfl, rfl, rfl, by decide +kernel, by rfl, by decide +kernel, by decide +kernel⟩, rfl, by kernel_rfl⟩
  way := fun K fd a F y hy => by
    have hy : y ∈ ([(2, [], [])] : List Way) := hy
    simp only [List.mem_cons, List.not_mem_nil, or_false] at hy
    rcases hy with rfl
    · exact wy_of F fun us ws kV doc pm an cdv ct hu hw => match us, hu, ws, hw with | [u0, u1], _, [], _ => ⟨rfl, rfl⟩
  }
theorem c38 : FnT txt ways 38 i38 t38 := {
  at_ := by rfl
  ex := ⟨[("bowl" : Str), ("pairs" : Str), ("words" : Str), ("word" : Str), ("weight" : Str), ("x" : Str)], ⟨rfl, rfl, rfl, by decide +kernel, by rfl, by decide +kernel, by decide +kernel⟩, rfl, by kernel_rfl⟩
  way := fun K fd a F y hy => by
    have hy : y ∈ ([(2, [], [])] : List Way) := hy
    simp only [List.mem_cons, List.not_mem_nil, or_false] at hy
    rcases hy with rfl
    · exact wy_of F fun us ws kV doc pm an cdv ct hu hw => match us, hu, ws, hw with | [u0, u1], _, [], _ => ⟨rfl, rfl⟩
  }
theorem c39 : FnT txt ways 39 i39 t39 := {
  at_ := by rfl
  ex := ⟨[("bowl" : Str), ("lap" : Str), ("pairs" : Str), ("made" : Str), ("turn" : Str), ("pattern" : Str), ("due" : Str), ("own" : Str), ("word" : Str), ("weight" : Str), ("at" : Str), ("wide" : Str), ("rest" : Str), ("pair" : Str), ("k" : Str)], ⟨rfl, rfl, rfl, by decide +kernel, by rfl, by decide +kernel, by decide +kernel⟩, rfl, by kernel_rfl⟩
  way := fun K fd a F y hy => by
    have hy : y ∈ ([(1, [], [])] : List Way) := hy
    simp only [List.mem_cons, List.not_mem_nil, or_false] at hy
    rcases hy with rfl
    · exact wy_of F fun us ws kV doc pm an cdv ct hu hw => match us, hu, ws, hw with | [u0], _, [], _ => ⟨rfl, rfl⟩
  }
theorem c40 : FnT txt ways 40 i40 t40 := {
  at_ := by rfl
  ex := ⟨[("script" : Str), ("lap" : Str)], ⟨rfl, rfl, rfl, by decide +kernel, by rfl, by decide +kernel, by decide +kernel⟩, rfl, by kernel_rfl⟩
  way := fun K fd a F y hy => by
    have hy : y ∈ ([(1, [], [])] : List Way) := hy
    simp only [List.mem_cons, List.not_mem_nil, or_false] at hy
    rcases hy with rfl
    · exact wy_of F fun us ws kV doc pm an cdv ct hu hw => match us, hu, ws, hw with | [u0], _, [], _ => ⟨rfl, rfl⟩
  }
theorem all : ∀ g F, txt.T g = some F → ∃ f, FnT txt ways g f F := fun g F h => match g, h with
  | 0, h => ⟨i0, by cases (Option.some.inj (show some t0 = some F from h)); exact c0⟩
  | 1, h => ⟨i1, by cases (Option.some.inj (show some t1 = some F from h)); exact c1⟩
  | 2, h => ⟨i2, by cases (Option.some.inj (show some t2 = some F from h)); exact c2⟩
  | 3, h => ⟨i3, by cases (Option.some.inj (show some t3 = some F from h)); exact c3⟩
  | 4, h => ⟨i4, by cases (Option.some.inj (show some t4 = some F from h)); exact c4⟩
  | 5, h => ⟨i5, by cases (Option.some.inj (show some t5 = some F from h)); exact c5⟩
  | 6, h => ⟨i6, by cases (Option.some.inj (show some t6 = some F from h)); exact c6⟩
  | 7, h => ⟨i7, by cases (Option.some.inj (show some t7 = some F from h)); exact c7⟩
  | 8, h => ⟨i8, by cases (Option.some.inj (show some t8 = some F from h)); exact c8⟩
  | 9, h => ⟨i9, by cases (Option.some.inj (show some t9 = some F from h)); exact c9⟩
  | 10, h => ⟨i10, by cases (Option.some.inj (show some t10 = some F from h)); exact c10⟩
  | 11, h => ⟨i11, by cases (Option.some.inj (show some t11 = some F from h)); exact c11⟩
  | 12, h => ⟨i12, by cases (Option.some.inj (show some t12 = some F from h)); exact c12⟩
  | 13, h => ⟨i13, by cases (Option.some.inj (show some t13 = some F from h)); exact c13⟩
  | 14, h => ⟨i14, by cases (Option.some.inj (show some t14 = some F from h)); exact c14⟩
  | 15, h => ⟨i15, by cases (Option.some.inj (show some t15 = some F from h)); exact c15⟩
  | 16, h => ⟨i16, by cases (Option.some.inj (show some t16 = some F from h)); exact c16⟩
  | 17, h => ⟨i17, by cases (Option.some.inj (show some t17 = some F from h)); exact c17⟩
  | 18, h => ⟨i18, by cases (Option.some.inj (show some t18 = some F from h)); exact c18⟩
  | 19, h => ⟨i19, by cases (Option.some.inj (show some t19 = some F from h)); exact c19⟩
  | 20, h => ⟨i20, by cases (Option.some.inj (show some t20 = some F from h)); exact c20⟩
  | 21, h => ⟨i21, by cases (Option.some.inj (show some t21 = some F from h)); exact c21⟩
  | 22, h => ⟨i22, by cases (Option.some.inj (show some t22 = some F from h)); exact c22⟩
  | 23, h => ⟨i23, by cases (Option.some.inj (show some t23 = some F from h)); exact c23⟩
  | 24, h => ⟨i24, by cases (Option.some.inj (show some t24 = some F from h)); exact c24⟩
  | 25, h => ⟨i25, by cases (Option.some.inj (show some t25 = some F from h)); exact c25⟩
  | 26, h => ⟨i26, by cases (Option.some.inj (show some t26 = some F from h)); exact c26⟩
  | 27, h => ⟨i27, by cases (Option.some.inj (show some t27 = some F from h)); exact c27⟩
  | 28, h => ⟨i28, by cases (Option.some.inj (show some t28 = some F from h)); exact c28⟩
  | 29, h => ⟨i29, by cases (Option.some.inj (show some t29 = some F from h)); exact c29⟩
  | 30, h => ⟨i30, by cases (Option.some.inj (show some t30 = some F from h)); exact c30⟩
  | 31, h => ⟨i31, by cases (Option.some.inj (show some t31 = some F from h)); exact c31⟩
  | 32, h => ⟨i32, by cases (Option.some.inj (show some t32 = some F from h)); exact c32⟩
  | 33, h => ⟨i33, by cases (Option.some.inj (show some t33 = some F from h)); exact c33⟩
  | 34, h => ⟨i34, by cases (Option.some.inj (show some t34 = some F from h)); exact c34⟩
  | 35, h => ⟨i35, by cases (Option.some.inj (show some t35 = some F from h)); exact c35⟩
  | 36, h => ⟨i36, by cases (Option.some.inj (show some t36 = some F from h)); exact c36⟩
  | 37, h => ⟨i37, by cases (Option.some.inj (show some t37 = some F from h)); exact c37⟩
  | 38, h => ⟨i38, by cases (Option.some.inj (show some t38 = some F from h)); exact c38⟩
  | 39, h => ⟨i39, by cases (Option.some.inj (show some t39 = some F from h)); exact c39⟩
  | 40, h => ⟨i40, by cases (Option.some.inj (show some t40 = some F from h)); exact c40⟩
  | n + 41, h => nomatch (show (none : Option Fun) = some F from h)
/-! ### the head -/
def L0 : List Str := ["CrossError", "InvalidWord", "InvalidPattern", "NotAList", "TooMany", "InvalidList", "LETTERS", "LEAST_LETTERS", "MOST_LETTERS", "is_whole", "is_between", "is_up_to", "is_small", "is_word", "is_tuple_of", "is_pair", "wrong_in", "MOST_WORDS", "MOST_WEIGHT", "is_entry", "wrong_in_pairs", "WordList", "check_list", "all_words", "OPEN", "is_pattern", "does_fit_by", "fitting_by", "choices_by", "check_word"]
def L1 : List Str := ["check_pattern", "does_fit", "fitting", "choices", "check_both", "list_by", "joined", "without", "_law_bowl", "_law_draw", "_law_of", "_law_same", "_law_word", "_law_pairs", "_law_does_fit", "_law_fitting", "_law_choices", "_law_pattern", "_law_right"]
def loose : List Str := L0 ++ L1
abbrev R : PySem.W.OpenRow := PySem.W.OpenLaw.row PySem.Challenge.rw_crossgrids_k03_patterns_and_choices_of_l
def ob (s : PySem.W.SharedT) : Bool × List FnW := obsY txt 6 (HandSHeadRun.getT s)
theorem ob_eq (s : PySem.W.SharedT) : ob s = (hookY txt 6).obs s.abs := obsY_eq (HandSHeadRun.getT_eq s)
theorem run0 (w : World) : HandSHeadRun.RunEq R (PySem.W.view R.prog [57]) (hookY txt 6) ob 9000 loose w := by
  intro os
  kernel_rfl
theorem bindL (K : PySem.W.Frag) (fd : FuncData) (a : Addr) (F : FunD K i40.name i40.qual i40.params i40.body i40.scope [] [] a fd) (s : Shared) (u : Value) : BindsTo s fd ⟨[u], []⟩ [(sOf [115,99,114,105,112,116], u)] :=
  FunD.bindsA (ps := [sOf [115,99,114,105,112,116]]) F (fun _ _ _ _ _ _ us hl => match us, hl with | [_], _ => rfl) s [u] rfl
end K03
end Py
end

section
set_option Elab.async false
set_option linter.all false
set_option autoImplicit false
namespace Py
namespace K03
open PySem
theorem holds (ns : List Int) (h : ns.length ≤ 63) (hb : ∀ z ∈ ns, Builtin.Int.intBits z ≤ 1048576) : ∃ S, run txt.T 60 (.fn 40) [some (.d (.lst (ns.map .int)))] [] = .ok (.bl true) S :=
  ⟨[], Py.Q.P03.s40 (by omega) ns h⟩
end K03
end Py
end

set_option Elab.async false
set_option linter.all false
set_option maxRecDepth 100000
set_option maxHeartbeats 0
open PySem PySem.W PySem.Calls PyProof.Rows in
theorem PySem.Challenge.cw_crossgrids_k03_patterns_and_choices_of_l_holds : PySem.Challenge.rw_crossgrids_k03_patterns_and_choices_of_l.Holds := by
  w_on; o_law
  refine HandSHeadRun.head_any (r := OpenLaw.row PySem.Challenge.rw_crossgrids_k03_patterns_and_choices_of_l) (q := view (OpenLaw.row PySem.Challenge.rw_crossgrids_k03_patterns_and_choices_of_l).prog [57]) (H := Py.hookY Py.K03.txt 6) (ob := Py.K03.ob) (M := 9000) (loose := Py.K03.loose) (d := HandSHeadRun.topDef (OpenLaw.row PySem.Challenge.rw_crossgrids_k03_patterns_and_choices_of_l).prog 57) (kwd := []) Py.K03.ob_eq
    (by kernel_rfl) (fun s => by kernel_rfl) Py.K03.run0 (by kernel_rfl) (by kernel_rfl) (by kernel_rfl) (by rfl) (by first | assumption | decide +kernel) (by decide +kernel) ⟨rfl, rfl, rfl, rfl, rfl, by decide +kernel⟩ ?hw ?hc
  case hw => w_witness2
  case hc =>
    exact Py.law_end (l := PySem.Challenge.rw_crossgrids_k03_patterns_and_choices_of_l) (t := Py.K03.txt) (ways := Py.K03.ways) (L := 40) (D := 60) (fL := Py.K03.i40) (FL := Py.K03.t40) (x := [115,99,114,105,112,116]) rfl (by kernel_rfl) ⟨rfl, by decide, by decide⟩ Py.K03.all rfl Py.K03.c40 rfl (by kernel_rfl) Py.K03.bindL Py.K03.holds (fun _ _ Y => Y)
