import PyProof.Rows.All
import Wide.All
import OpenK.AllK
import Wide.FinOn
import HandS.ForMost
import HandS.ForExc
import KE.SortData
import HandS.IsInst
import HandS.TupAny
import HandS.TupMul
import HandS.Style
import HandS.Deep
import KE.DataCmp
import HandS.Exc
import HandS.ExcOwn
import HandS.TryOnly
import HandS.Flow
import HandS.WordsExc
import HandS.Iter
import HandS.Zip
import KE.GoesMore
import HandS.TupSets
import HandS.SetFor
import HandS.Strs
import HandS.Comp
import HandS.Small
import HandS.TryMany
import HandS.Conv
import HandS.Ends
import PyProof.ExcBaseAll.ValueError
import PySem.Challenge.RW_tiekinds_k73_whole_matches_and_copies
set_option linter.all false
/-! TKSort: the sorted list of the distinct members, over any strict total order. -/
namespace TK
structure SLO (α : Type) where
  lt : α → α → Bool
  irr : ∀ x, lt x x = false
  tr : ∀ x y z, lt x y = true → lt y z = true → lt x z = true
  tot : ∀ x y, lt x y = false → lt y x = false → x = y
section
variable {α : Type} (O : SLO α)
def SLO.ins (x : α) : List α → List α
  | [] => [x]
  | y :: r => if O.lt x y then x :: y :: r else if O.lt y x then y :: SLO.ins x r else y :: r
def SLO.sort : List α → List α
  | [] => []
  | x :: r => O.ins x (SLO.sort r)
variable {O}
theorem SLO.mem_ins {x z : α} : ∀ {l : List α}, z ∈ O.ins x l ↔ z = x ∨ z ∈ l
  | [] => by simp [SLO.ins]
  | y :: r => by
    unfold SLO.ins
    split
    · simp
    · split
      · simp only [List.mem_cons, SLO.mem_ins (l := r)]
        constructor
        · rintro (h | h | h)
          · exact .inr (.inl h)
          · exact .inl h
          · exact .inr (.inr h)
        · rintro (h | h | h)
          · exact .inr (.inl h)
          · exact .inl h
          · exact .inr (.inr h)
      · next h1 h2 =>
        have e := O.tot x y (by simpa using h1) (by simpa using h2)
        subst e
        simp
theorem SLO.mem_sort {z : α} : ∀ {l : List α}, z ∈ O.sort l ↔ z ∈ l
  | [] => Iff.rfl
  | y :: r => by unfold SLO.sort; rw [SLO.mem_ins, SLO.mem_sort, List.mem_cons]
theorem SLO.pw_ins {x : α} : ∀ {l : List α}, l.Pairwise (fun a b => O.lt a b = true) → (O.ins x l).Pairwise (fun a b => O.lt a b = true)
  | [], _ => by simp [SLO.ins]
  | y :: r, h => by
    rw [List.pairwise_cons] at h
    unfold SLO.ins
    split
    · next h1 =>
      refine List.pairwise_cons.mpr ⟨fun z hz => ?_, List.pairwise_cons.mpr h⟩
      rcases List.mem_cons.mp hz with e | hz
      · rw [e]; exact h1
      · exact O.tr _ _ _ h1 (h.1 z hz)
    · split
      · next h1 h2 =>
        refine List.pairwise_cons.mpr ⟨fun z hz => ?_, SLO.pw_ins h.2⟩
        rcases SLO.mem_ins.mp hz with e | hz
        · rw [e]; exact h2
        · exact h.1 z hz
      · exact List.pairwise_cons.mpr h
theorem SLO.pw_sort : ∀ (l : List α), (O.sort l).Pairwise (fun a b => O.lt a b = true)
  | [] => List.Pairwise.nil
  | _ :: r => SLO.pw_ins (SLO.pw_sort r)
theorem SLO.uniq : ∀ {l m : List α}, l.Pairwise (fun a b => O.lt a b = true) → m.Pairwise (fun a b => O.lt a b = true) → (∀ z, z ∈ l ↔ z ∈ m) → l = m
  | [], [], _, _, _ => rfl
  | [], y :: m, _, _, h => by have := (h y).mpr List.mem_cons_self; cases this
  | x :: l, [], _, _, h => by have := (h x).mp List.mem_cons_self; cases this
  | x :: l, y :: m, hl, hm, h => by
    rw [List.pairwise_cons] at hl hm
    have e : x = y := by
      have hx := (h x).mp List.mem_cons_self
      have hy := (h y).mpr List.mem_cons_self
      rcases List.mem_cons.mp hx with e | hx
      · exact e
      · rcases List.mem_cons.mp hy with e | hy
        · exact e.symm
        · have a := O.tr _ _ _ (hm.1 x hx) (hl.1 y hy)
          rw [O.irr] at a; cases a
    subst e
    congr 1
    refine SLO.uniq hl.2 hm.2 fun z => ⟨fun hz => ?_, fun hz => ?_⟩
    · rcases List.mem_cons.mp ((h z).mp (List.mem_cons_of_mem _ hz)) with e | q
      · subst e; have a := hl.1 z hz; rw [O.irr] at a; cases a
      · exact q
    · rcases List.mem_cons.mp ((h z).mpr (List.mem_cons_of_mem _ hz)) with e | q
      · subst e; have a := hm.1 z hz; rw [O.irr] at a; cases a
      · exact q
/-- a strictly sorted list with the members of l is sort l -/
theorem SLO.sort_eq {l m : List α} (hm : m.Pairwise (fun a b => O.lt a b = true)) (h : ∀ z, z ∈ m ↔ z ∈ l) : m = O.sort l :=
  SLO.uniq hm (SLO.pw_sort l) fun z => by rw [h, SLO.mem_sort]
theorem SLO.len_ins {x : α} : ∀ (l : List α), (O.ins x l).length ≤ l.length + 1
  | [] => Nat.le_refl _
  | y :: r => by
    unfold SLO.ins
    split
    · exact Nat.le_refl _
    · split
      · exact Nat.succ_le_succ (SLO.len_ins r)
      · exact Nat.le_succ _
theorem SLO.len_sort : ∀ (l : List α), (O.sort l).length ≤ l.length
  | [] => Nat.le_refl _
  | x :: r => Nat.le_trans (SLO.len_ins _) (Nat.succ_le_succ (SLO.len_sort r))
end
/-- ints -/
def intO : SLO Int where
  lt x y := decide (x < y)
  irr x := by simp
  tr x y z h k := by simp only [decide_eq_true_eq] at *; omega
  tot x y h k := by simp only [decide_eq_false_iff_not] at *; omega
/-- pairs of ints -/
def pairO : SLO (Int × Int) where
  lt x y := decide (x.1 < y.1 ∨ (x.1 = y.1 ∧ x.2 < y.2))
  irr x := by simp
  tr x y z h k := by simp only [decide_eq_true_eq] at *; omega
  tot x y h k := by
    simp only [decide_eq_false_iff_not] at *
    exact Prod.ext (by omega) (by omega)
end TK

set_option Elab.async false
set_option linter.all false
set_option maxRecDepth 100000
/-! TKSyn: a small core of the language over plain data, and what it computes. -/
namespace TK
open PySem

abbrev D := PyData

/-- what a place or a step holds: nothing; plain data; a list of its own (items plain); a list of lists of its own; one lent by the caller; a look at a place -/
inductive RV where
  | un | pl (v : D) | ow (v : D) | ow2 (v : D) | io (v : D) | bw (i : Nat)
abbrev En := List RV

structure Exn where
  c : Nat
  x : Option D

inductive Out (α : Type) where
  | ok (a : α) | ex (e : Exn)

abbrev M (α : Type) := En → Option (Out α × En)
@[inline] def M.ret {α : Type} (a : α) : M α := fun ρ => some (.ok a, ρ)
def M.stuck {α : Type} : M α := fun _ => none
def M.andThen {α β : Type} (m : M α) (f : α → M β) : M β := fun ρ => match m ρ with
  | none => none
  | some (.ex e, ρ') => some (.ex e, ρ')
  | some (.ok a, ρ') => f a ρ'
def M.of {α : Type} : Option α → M α
  | none => M.stuck
  | some a => M.ret a
instance : Monad M where
  pure := M.ret
  bind := M.andThen

inductive P1 where
  | neg | inv | len | abs | int | tuple | list | sorted | setSorted | setLen | sum | any | all | max | min
  | isInt | isBool | isTuple | isStr | isList | isNone | notNone | isTrue | notTrue | isFalse | notFalse | rev | rngL
  deriving DecidableEq
inductive P2 where
  | add | sub | mul | fdiv | mod | shl | shr | band | bor | bxor | lt | le | gt | ge | eq | ne | inn | notin | item | index | max2 | min2 | dget
  deriving DecidableEq

mutual
inductive Tg where
  | nm (i : Nat) | tp (t : Tgs)
inductive Tgs where
  | nil | cons (t : Tg) (r : Tgs)
end

mutual
inductive Ex where
  | var (i : Nat) | frz (i : Nat) | take (i : Nat) | bor (i : Nat)
  | cst (d : D) | glb (g : Nat)
  | u (p : P1) (a : Ex) | b (p : P2) (a c : Ex)
  | slc (a : Ex) (lo hi : Exo)
  | and (a c : Ex) | or (a c : Ex) | not (a : Ex) | ite (t a c : Ex)
  | chain (p q : P2) (a b c : Ex)
  | tup (es : Exs) | lst (es : Exs)
  | call (f : Nat) (es : Exs)
  | popAt (i : Nat) (a : Ex)
  | item2 (i : Nat) (a c : Ex)
  | comp (vs : List Nat) (tg : Tg) (it : It) (cd : Exo) (elt : Ex)
  | comp2 (vs vs1 : List Nat) (tg : Tg) (it : It) (cd : Exo) (tg1 : Tg) (it1 : It) (cd1 : Exo) (elt : Ex)
inductive Exs where
  | nil | cons (e : Ex) (es : Exs)
inductive Exo where
  | no | so (e : Ex)
inductive It where
  | ex (e : Ex) | rng1 (a : Ex) | rng2 (a b : Ex) | enum (a : Ex) | zip2 (a b : Ex)
end

mutual
inductive Sm where
  | asg (i : Nat) (e : Ex)
  | asgT (t : Tg) (e : Ex)
  | par (i j : Nat) (a b : Ex)
  | set1 (i : Nat) (k v : Ex)
  | set2 (i : Nat) (k l v : Ex)
  | aug (i : Nat) (p : P2) (e : Ex)
  | augS (i : Nat) (k : Ex) (p : P2) (e : Ex)
  | append (i : Nat) (e : Ex)
  | append2 (i : Nat) (e : Ex)
  | extend (i : Nat) (e : Ex)
  | expr (e : Ex)
  | ret (e : Ex)
  | retN
  | rais (c : Nat) (e : Exo)
  | ife (t : Ex) (a b : Sms)
  | forS (tg : Tg) (it : It) (body : Sms)
  | whil (t : Ex) (body : Sms)
  | tryE (c : Nat) (body : Sms) (suite : Sms)
  | pass
inductive Sms where
  | nil | cons (s : Sm) (r : Sms)
end

/-! ### one-place and two-place operations on data -/
def RV.dat : RV → Option D
  | .pl v => some v
  | .ow v => some v
  | .ow2 v => some v
  | .io v => some v
  | _ => none
/-- the datum behind a result -/
def datOf (r : RV) (ρ : En) : Option D := match r with
  | .bw i => match ρ[i]? with
    | some (.ow v) => some v
    | some (.io v) => some v
    | some (.pl v) => some v
    | _ => none
  | .io _ => none
  | r => r.dat
def M.dat (r : RV) : M D := fun ρ => match datOf r ρ with
  | none => none
  | some v => some (.ok v, ρ)

def plainM (r : RV) : M D := match r with
  | .bw _ => M.stuck
  | r => M.dat r
/-- a datum that may be stored -/
def plainOf : RV → Option D
  | .pl v => some v
  | .ow v => some v
  | .ow2 v => some v
  | _ => none
def isNoneD : D → Bool
  | .none => true
  | _ => false
def isI : D → Bool
  | .int _ => true
  | _ => false
def intsOf : List D → Option (List Int)
  | [] => some []
  | .int i :: r => (intsOf r).map (i :: ·)
  | _ => none
def boolsOf : List D → Option (List Bool)
  | [] => some []
  | .bool b :: r => (boolsOf r).map (b :: ·)
  | _ => none
/-- pairs of ints in [0, 64) -/
def pairOf : D → Option (Int × Int)
  | .tuple [.int x, .int y] => if 0 ≤ x ∧ x < 64 ∧ 0 ≤ y ∧ y < 64 then some (x, y) else none
  | _ => none
def pairsOf : List D → Option (List (Int × Int))
  | [] => some []
  | x :: r => (pairOf x).bind fun p => (pairsOf r).map (p :: ·)
/-- what sorted(set(v)) lays out -/
def setSortD (xs : List D) : Option (List D) :=
  if xs.length < 64 then
    match intsOf xs with
    | some ns => some ((intO.sort ns).map .int)
    | none => (pairsOf xs).map fun ps => (pairO.sort ps).map fun p => .tuple [.int p.1, .int p.2]
  else none

def truth : D → Option Bool
  | .none => some false
  | .bool b => some b
  | .int i => some (i != 0)
  | .str x => if x.length ≤ 16777216 then some ((x.length : Int) != 0) else none
  | .list xs => some (!xs.isEmpty)
  | .tuple xs => some (!xs.isEmpty)
  | .dict kvs => some (!kvs.isEmpty)

def itemsOf : D → Option (List D)
  | .list xs => some xs
  | .tuple xs => some xs
  | _ => none

/-- sorted: data of one kind -/
def sortOk (xs : List D) : Bool :=
  (xs.all fun x => xs.all fun y => PySem.W.alike x y) && ((xs.all fun x => match x with | .tuple (_ :: _) => true | _ => false) || (xs.all fun x => match x with | .none => false | .tuple _ => false | _ => true)) && (xs.all fun x => decide (x.depth ≤ 8))
def sortD (xs : List D) : List D := xs.mergeSort (PySem.W.dataLe false id)
/-- the first of each of equal items -/
def dedup : List D → List D
  | [] => []
  | x :: r => x :: (dedup r).filter fun y => !PyData.eqv x y

def rngOk (i j : Int) : Bool := decide (-(2 ^ 62) ≤ i ∧ i < 2 ^ 62 ∧ -(2 ^ 62) ≤ j ∧ j < 2 ^ 62 ∧ j - i ≤ 16777216)
def rngD (i j : Int) : Option (List D) := if rngOk i j then some ((List.range (j - i).toNat).map fun k : Nat => .int (i + k)) else none
def numOf : D → Option Int
  | .int i => some i
  | .bool b => some (if b then 1 else 0)
  | _ => none
def p1 : P1 → D → Option RV
  | .neg, x => match x with | .int i => some (.pl (.int (-i))) | _ => none
  | .inv, x => match x with | .int i => some (.pl (.int (Builtin.bitNot i))) | _ => none
  | .len, x => match x with
    | .list xs => some (.pl (.int xs.length))
    | .tuple xs => some (.pl (.int xs.length))
    | _ => none
  | .abs, x => match x with | .int i => some (.pl (.int (if i < 0 then -i else i))) | _ => none
  | .int, x => (numOf x).map fun i => .pl (.int i)
  | .tuple, x => (itemsOf x).map fun xs => .pl (.tuple xs)
  | .list, x => (itemsOf x).map fun xs => .ow (.list xs)
  | .sum, x => match x with | .list xs => (intsOf xs).map fun ns => .pl (.int ns.sum) | _ => none
  | .any, x => match x with | .list xs => (boolsOf xs).map fun bs => .pl (.bool (bs.any id)) | _ => none
  | .all, x => match x with | .list xs => (boolsOf xs).map fun bs => .pl (.bool (bs.all id)) | _ => none
  | .sorted, x => (itemsOf x).bind fun xs => if sortOk xs then some (.ow (.list (sortD xs))) else none
  | .isInt, x => some (.pl (.bool (match x with | .int _ => true | .bool _ => true | _ => false)))
  | .isBool, x => some (.pl (.bool (match x with | .bool _ => true | _ => false)))
  | .isTuple, x => some (.pl (.bool (match x with | .tuple _ => true | _ => false)))
  | .isStr, x => some (.pl (.bool (match x with | .str _ => true | _ => false)))
  | .isList, x => some (.pl (.bool (match x with | .list _ => true | _ => false)))
  | .isNone, x => some (.pl (.bool (isNoneD x)))
  | .notNone, x => some (.pl (.bool (!isNoneD x)))
  | .isTrue, x => match x with | .bool b => some (.pl (.bool b)) | _ => none
  | .notTrue, x => match x with | .bool b => some (.pl (.bool (!b))) | _ => none
  | .isFalse, x => match x with | .bool b => some (.pl (.bool (!b))) | _ => none
  | .notFalse, x => match x with | .bool b => some (.pl (.bool b)) | _ => none
  | .rev, x => match x with | .list xs => some (.ow (.list xs.reverse)) | .tuple xs => some (.pl (.tuple xs.reverse)) | _ => none
  | .setSorted, x => (itemsOf x).bind fun xs => (setSortD xs).map fun r => .ow (.list r)
  | .rngL, x => match x with | .int i => (rngD 0 i).map fun xs => .ow (.list xs) | _ => none
  | _, _ => none

/-- two whole numbers -/
def int2 (f : Int → Int → Option RV) : D → D → Option RV
  | .int i, .int j => f i j
  | _, _ => none
/-- data that are compared by == -/
def eqOk (x y : D) : Bool := SeqAt.shaped x && SeqAt.shaped y
def ltOk (x y : D) : Bool := PySem.W.alike x y && (match x with | .none => false | _ => true) && decide (x.depth ≤ 8)
def inD (x : D) (xs : List D) : Bool := xs.any fun y => PyData.eqv y x
def cmpD (op : P2) (i j : Int) : Bool := match op with
  | .lt => decide (i < j) | .le => decide (i ≤ j) | .gt => decide (j < i) | .ge => decide (j ≤ i) | _ => false
def atD (xs : List D) (i : Int) : Option RV := (L2.atI xs i).map .pl
def p2 : P2 → D → D → Option RV
  | .add, x, y => match x, y with
    | .int i, .int j => some (.pl (.int (i + j)))
    | .list xs, .list ys => if xs.length + ys.length ≤ 16777216 then some (.ow (.list (xs ++ ys))) else none
    | .tuple xs, .tuple ys => if xs.length + ys.length ≤ 16777216 then some (.pl (.tuple (xs ++ ys))) else none
    | _, _ => none
  | .sub, x, y => int2 (fun i j => some (.pl (.int (i - j)))) x y
  | .mul, x, y => match x, y with
    | .int i, .int j => if (-(2 ^ 64) < i ∧ i < 2 ^ 64) ∨ (-(2 ^ 64) < j ∧ j < 2 ^ 64) then some (.pl (.int (i * j))) else none
    | .list xs, .int k => if -(2 ^ 63) ≤ k ∧ k < 2 ^ 63 ∧ xs.length * k.toNat ≤ 16777216 then some (.ow (.list (List.replicate k.toNat xs).flatten)) else none
    | .tuple xs, .int k => if xs.length ≠ 0 ∧ 2 ≤ k ∧ k ≤ 1000 ∧ xs.length ≤ 1000 then some (.pl (.tuple (List.replicate k.toNat xs).flatten)) else if k = 1 then some (.pl (.tuple xs)) else none
    | _, _ => none
  | .fdiv, x, y => int2 (fun i j => if 0 < j ∧ j < 1073741824 then some (.pl (.int (i / j))) else none) x y
  | .mod, x, y => int2 (fun i j => if 0 < j then some (.pl (.int (i % j))) else none) x y
  | .shl, x, y => int2 (fun i j => if 0 ≤ j ∧ j ≤ 1000000 ∧ i.natAbs < 2 ^ 64 then some (.pl (.int (i * 2 ^ j.toNat))) else none) x y
  | .shr, x, y => int2 (fun i j => if 0 ≤ j then some (.pl (.int (i / 2 ^ j.toNat))) else none) x y
  | .band, x, y => int2 (fun i j => some (.pl (.int (Builtin.bitAnd i j)))) x y
  | .bor, x, y => int2 (fun i j => some (.pl (.int (Builtin.bitOr i j)))) x y
  | .bxor, x, y => int2 (fun i j => some (.pl (.int (Builtin.bitXor i j)))) x y
  | .lt, x, y => match x, y with
    | .int i, .int j => some (.pl (.bool (decide (i < j))))
    | x, y => if ltOk x y then some (.pl (.bool (PySem.W.dataLt x y))) else none
  | .le, x, y => int2 (fun i j => some (.pl (.bool (decide (i ≤ j))))) x y
  | .gt, x, y => int2 (fun i j => some (.pl (.bool (decide (j < i))))) x y
  | .ge, x, y => int2 (fun i j => some (.pl (.bool (decide (j ≤ i))))) x y
  | .eq, x, y => if eqOk x y then some (.pl (.bool (PyData.eqv x y))) else none
  | .ne, x, y => if eqOk x y then some (.pl (.bool (!PyData.eqv x y))) else none
  | .inn, x, y => (itemsOf y).bind fun ys => if SeqAt.shaped x && ys.all SeqAt.shaped then some (.pl (.bool (inD x ys))) else none
  | .notin, x, y => (itemsOf y).bind fun ys => if SeqAt.shaped x && ys.all SeqAt.shaped then some (.pl (.bool (!inD x ys))) else none
  | .item, x, y => match y with
    | .int i => (itemsOf x).bind fun xs => atD xs i
    | _ => none
  | .max2, x, y => int2 (fun i j => some (.pl (.int (if j > i then j else i)))) x y
  | .min2, x, y => int2 (fun i j => some (.pl (.int (if j < i then j else i)))) x y
  | _, _, _ => none
def partOf : Option D → Option (Option Int)
  | none => some none
  | some (.int i) => some (some i)
  | _ => none
def cutD (xs : List D) (lo hi : Option Int) : List D := (xs.drop (HT.sIx xs.length 0 lo)).take (HT.sIx xs.length xs.length hi - HT.sIx xs.length 0 lo)
def slcD (x : D) (lo hi : Option D) : Option RV := (partOf lo).bind fun l => (partOf hi).bind fun h => match x with
  | .list xs => some (.ow (.list (cutD xs l h)))
  | .tuple xs => some (.pl (.tuple (cutD xs l h)))
  | _ => none

/-! ### places -/
def rdVar (i : Nat) : M RV := fun ρ => match ρ[i]? with
  | some (.pl v) => some (.ok (.pl v), ρ)
  | _ => none
def rdFrz (i : Nat) : M RV := fun ρ => match ρ[i]? with
  | some (.pl v) => some (.ok (.pl v), ρ)
  | some (.ow v) => some (.ok (.pl v), ρ.set i (.pl v))
  | some (.ow2 v) => some (.ok (.pl v), ρ.set i (.pl v))
  | _ => none
def rdTake (i : Nat) : M RV := fun ρ => match ρ[i]? with
  | some (.pl v) => some (.ok (.pl v), ρ)
  | some (.ow v) => some (.ok (.ow v), ρ.set i .un)
  | some (.ow2 v) => some (.ok (.ow2 v), ρ.set i .un)
  | _ => none
def rdBor (i : Nat) : M RV := fun ρ => match ρ[i]? with
  | some .un => none
  | some (.bw _) => none
  | some _ => some (.ok (.bw i), ρ)
  | none => none
/-- what may be stored -/
def RV.keep : RV → Bool
  | .pl _ => true
  | .ow _ => true
  | .ow2 _ => true
  | _ => false
def RV.free : RV → Bool
  | .io _ => false
  | .bw _ => false
  | _ => true
def stSlot (i : Nat) (r : RV) : M Unit := fun ρ => match ρ[i]? with
  | some q => if q.free && r.keep then some (.ok (), ρ.set i r) else none
  | none => none
mutual
def asgTg : Tg → D → En → Option En
  | .nm i, x, ρ => match ρ[i]? with
    | some q => if q.free then some (ρ.set i (.pl x)) else none
    | none => none
  | .tp ts, x, ρ => (itemsOf x).bind fun xs => asgTgs ts xs ρ
def asgTgs : Tgs → List D → En → Option En
  | .nil, [], ρ => some ρ
  | .cons t r, x :: xs, ρ => (asgTg t x ρ).bind fun ρ' => asgTgs r xs ρ'
  | _, _, _ => none
end
def wipeE (ρ : En) : List Nat → En
  | [] => ρ
  | v :: vs => (wipeE ρ vs).set v .un
/-- the places of a comprehension's names hold nothing of their own -/
def wipeOk (ρ : En) (vs : List Nat) : Bool := vs.all fun v => match ρ[v]? with
  | some .un => true
  | some (.pl _) => true
  | _ => false
def restE (ρ0 ρ : En) : List Nat → En
  | [] => ρ
  | v :: vs => (restE ρ0 ρ vs).set v (ρ0.getD v .un)

def compLoop (vs : List Nat) (tg : Tg) (cd : M Bool) (elt : M RV) : List D → M (List D)
  | [] => M.ret []
  | x :: xs => fun ρ => match asgTg tg x ρ with
    | none => none
    | some ρ1 => match cd ρ1 with
      | some (.ok true, ρ2) => match elt ρ2 with
        | some (.ok r, ρ3) => match plainOf r with
          | some v => match compLoop vs tg cd elt xs (wipeE ρ3 vs) with
            | some (.ok ys, ρ4) => some (.ok (v :: ys), ρ4)
            | _ => none
          | none => none
        | _ => none
      | some (.ok false, ρ2) => compLoop vs tg cd elt xs (wipeE ρ2 vs)
      | _ => none
def compM (vs : List Nat) (tg : Tg) (it : M (List D)) (cd : M Bool) (elt : M RV) : M RV := fun ρ => match it ρ with
  | some (.ok xs, ρ1) => if wipeOk ρ1 vs then match compLoop vs tg cd elt xs (wipeE ρ1 vs) with
      | some (.ok ys, ρ2) => some (.ok (.ow (.list ys)), restE ρ1 ρ2 vs)
      | _ => none
    else none
  | some (.ex e, ρ1) => some (.ex e, ρ1)
  | none => none
/-- the outer loop of two -/
def compLoop2 (vs vs1 : List Nat) (tg : Tg) (cd : M Bool) (it1 : M (List D)) (inner : List D → M (List D)) : List D → M (List D)
  | [] => M.ret []
  | x :: xs => fun ρ => match asgTg tg x ρ with
    | none => none
    | some ρ1 => match cd ρ1 with
      | some (.ok true, ρ2) => match it1 ρ2 with
        | some (.ok zs, ρ3) => match inner zs (wipeE ρ3 vs1) with
          | some (.ok ys, ρ4) => match compLoop2 vs vs1 tg cd it1 inner xs (wipeE ρ4 vs) with
            | some (.ok ws, ρ5) => some (.ok (ys ++ ws), ρ5)
            | _ => none
          | _ => none
        | _ => none
      | some (.ok false, ρ2) => compLoop2 vs vs1 tg cd it1 inner xs (wipeE ρ2 vs)
      | _ => none
def compM2 (vs vs1 : List Nat) (tg : Tg) (it : M (List D)) (cd : M Bool) (tg1 : Tg) (it1 : M (List D)) (cd1 : M Bool) (elt : M RV) : M RV := fun ρ => match it ρ with
  | some (.ok xs, ρ1) => if wipeOk ρ1 vs then match compLoop2 vs vs1 tg cd it1 (compLoop vs1 tg1 cd1 elt) xs (wipeE ρ1 vs) with
      | some (.ok ys, ρ2) => if ys.length ≤ 16777216 then some (.ok (.ow (.list ys)), restE ρ1 ρ2 vs) else none
      | _ => none
    else none
  | some (.ex e, ρ1) => some (.ex e, ρ1)
  | none => none

/-! ### calls -/
def passArgs : List RV → En → Option (List RV)
  | [], _ => some []
  | r :: rs, ρ => match passArgs rs ρ with
    | none => none
    | some vs => match r with
      | .pl v => some (.pl v :: vs)
      | .ow v => some (.pl v :: vs)
      | .ow2 v => some (.pl v :: vs)
      | .bw i => match ρ[i]? with
        | some (.ow v) => some (.io v :: vs)
        | some (.io v) => some (.io v :: vs)
        | _ => none
      | _ => none
def bwsOf : List RV → List Nat
  | [] => []
  | .bw i :: r => i :: bwsOf r
  | _ :: r => bwsOf r
def backArgs : List RV → List RV → En → Option En
  | [], [], ρ => some ρ
  | .bw i :: rs, .io v :: fs, ρ => match ρ[i]? with
    | some (.ow _) => backArgs rs fs (ρ.set i (.ow v))
    | some (.io _) => backArgs rs fs (ρ.set i (.io v))
    | _ => none
  | .bw _ :: _, _, _ => none
  | _ :: rs, _ :: fs, ρ => backArgs rs fs ρ
  | _, _, _ => none
abbrev CallF := Nat → List RV → Option (Out RV × List RV)
def callM (cf : CallF) (f : Nat) (rs : List RV) : M RV := fun ρ => match passArgs rs ρ with
  | none => none
  | some as => if (bwsOf rs).Nodup then match cf f as with
      | none => none
      | some (o, fs) => match backArgs rs fs ρ with
        | none => none
        | some ρ' => some (o, ρ')
    else none

/-! ### iteration -/
def intM : D → M Int
  | .int i => M.ret i
  | _ => M.stuck
/-- a list stands at a place, whose it may change -/
def chkL (i : Nat) : M Unit := fun ρ => match ρ[i]? with
  | some (.ow (.list _)) => some (.ok (), ρ)
  | some (.io (.list _)) => some (.ok (), ρ)
  | _ => none
def tMx (x : M RV) : M Bool := do
  let r ← x
  let v ← M.dat r
  M.of (truth v)
/-- both lists or both tuples -/
def sameSeq (r q : RV) : Bool := match r.dat, q.dat with
  | some (.list _), some (.list _) => true
  | some (.tuple _), some (.tuple _) => true
  | _, _ => false
def itemsM (r : RV) : M (List D) := match r with
  | .pl v => M.of (itemsOf v)
  | .ow v => M.of (itemsOf v)
  | .ow2 v => M.of (itemsOf v)
  | _ => M.stuck
def popM (i : Nat) (k : Int) : M RV := fun ρ => match ρ[i]? with
  | some (.ow (.list xs)) => match seqIndex? k xs.length with
    | some j => if -(2 ^ 63) ≤ k ∧ k < 2 ^ 63 then match xs[j]? with
        | some y => some (.ok (.pl y), ρ.set i (.ow (.list (xs.eraseIdx j))))
        | none => none
      else none
    | none => none
  | some (.io (.list xs)) => match seqIndex? k xs.length with
    | some j => if -(2 ^ 63) ≤ k ∧ k < 2 ^ 63 then match xs[j]? with
        | some y => some (.ok (.pl y), ρ.set i (.io (.list (xs.eraseIdx j))))
        | none => none
      else none
    | none => none
  | _ => none

/-- a list of lists of its own stands at a place -/
def chk2 (i : Nat) : M Unit := fun ρ => match ρ[i]? with
  | some (.ow2 (.list _)) => some (.ok (), ρ)
  | _ => none
/-- .. or an empty list -/
def chk2e (i : Nat) : M Unit := fun ρ => match ρ[i]? with
  | some (.ow2 (.list _)) => some (.ok (), ρ)
  | some (.ow (.list [])) => some (.ok (), ρ)
  | _ => none
/-- a row of it -/
def rowM (i : Nat) (k : Int) : M (List D) := fun ρ => match ρ[i]? with
  | some (.ow2 (.list xs)) => match L2.atI xs k with
    | some (.list ys) => some (.ok ys, ρ)
    | _ => none
  | _ => none
/-- a step that has nothing to do with it -/
def hidden {α : Type} (i : Nat) (m : M α) : M α := fun ρ => match ρ[i]? with
  | some (.ow2 d) => match m (ρ.set i .un) with
    | some (.ok a, ρ') => match ρ'[i]? with
      | some .un => some (.ok a, ρ'.set i (.ow2 d))
      | _ => none
    | _ => none
  | _ => none

section
variable (gl : Nat → Option D) (cf : CallF)
/-- a value with its truth -/
abbrev Ev := M RV × M Bool
def plainEv (m : M RV) : Ev := (m, tMx m)
mutual
def ev : Ex → Ev
  | .var i => plainEv (rdVar i)
  | .frz i => plainEv (rdFrz i)
  | .take i => plainEv (rdTake i)
  | .bor i => plainEv (rdBor i)
  | .cst d => plainEv (M.ret (.pl d))
  | .glb g => plainEv (match gl g with | some d => M.ret (.pl d) | none => M.stuck)
  | .u p a => plainEv (do
      let r ← (ev a).1
      let v ← M.dat r
      M.of (p1 p v))
  | .b p a c => plainEv (do
      let r ← (ev a).1
      let q ← (ev c).1
      let v ← M.dat r
      let w ← M.dat q
      M.of (p2 p v w))
  | .slc a lo hi => plainEv (do
      let r ← (ev a).1
      let l ← evO lo
      let h ← evO hi
      let v ← M.dat r
      M.of (slcD v l h))
  | .and a c => (do
      let r ← (ev a).1
      let v ← M.dat r
      match v with
        | .bool true => (ev c).1
        | .bool false => M.ret (.pl (.bool false))
        | _ => M.stuck,
    do
      let t ← (ev a).2
      if t then (ev c).2 else M.ret false)
  | .or a c => (do
      let r ← (ev a).1
      let v ← M.dat r
      match v with
        | .bool true => M.ret (.pl (.bool true))
        | .bool false => (ev c).1
        | _ => M.stuck,
    do
      let t ← (ev a).2
      if t then M.ret true else (ev c).2)
  | .not a => (do
      let t ← tMx (ev a).1
      M.ret (.pl (.bool (!t))),
    do
      let t ← (ev a).2
      M.ret (!t))
  | .ite t a c => (do
      let k ← (ev t).2
      if k then (ev a).1 else (ev c).1,
    do
      let k ← (ev t).2
      if k then (ev a).2 else (ev c).2)
  | .chain p q a b c => plainEv (do
      let r ← (ev a).1
      let r2 ← (ev b).1
      let v ← M.dat r
      let w ← plainM r2
      let z ← M.of (p2 p v w)
      match z with
        | .pl (.bool true) => do
          let r3 ← (ev c).1
          let u ← M.dat r3
          M.of (p2 q w u)
        | .pl (.bool false) => M.ret (.pl (.bool false))
        | _ => M.stuck)
  | .tup es => plainEv (do
      let vs ← evs es
      M.ret (.pl (.tuple vs)))
  | .lst es => plainEv (do
      let vs ← evs es
      M.ret (.ow (.list vs)))
  | .call f es => plainEv (do
      let rs ← evr es
      callM cf f rs)
  | .popAt i a => plainEv (do
      chkL i
      let r ← (ev a).1
      let v ← M.dat r
      let k ← intM v
      popM i k)
  | .item2 i a c => plainEv (do
      chk2 i
      let r ← (ev a).1
      let v ← M.dat r
      let k ← intM v
      let ys ← rowM i k
      let w ← hidden i (do
        let q ← (ev c).1
        M.dat q)
      let l ← intM w
      M.of ((L2.atI ys l).map .pl))
  | .comp vs tg it cd elt => plainEv (compM vs tg (evI it) (evC cd) (ev elt).1)
  | .comp2 vs vs1 tg it cd tg1 it1 cd1 elt => plainEv (compM2 vs vs1 tg (evI it) (evC cd) tg1 (evI it1) (evC cd1) (ev elt).1)
/-- plain data, one after another -/
def evs : Exs → M (List D)
  | .nil => M.ret []
  | .cons e es => do
      let r ← (ev e).1
      let v ← plainM r
      let vs ← evs es
      M.ret (v :: vs)
/-- arguments -/
def evr : Exs → M (List RV)
  | .nil => M.ret []
  | .cons e es => do
      let r ← (ev e).1
      let rs ← evr es
      M.ret (r :: rs)
def evO : Exo → M (Option D)
  | .no => M.ret none
  | .so e => do
      let r ← (ev e).1
      let v ← M.dat r
      let k ← intM v
      M.ret (some (.int k))
def evC : Exo → M Bool
  | .no => M.ret true
  | .so e => (ev e).2
def evI : It → M (List D)
  | .ex e => do
      let r ← (ev e).1
      itemsM r
  | .rng1 a => do
      let r ← (ev a).1
      let v ← M.dat r
      let j ← intM v
      M.of (rngD 0 j)
  | .rng2 a b => do
      let r ← (ev a).1
      let q ← (ev b).1
      let v ← M.dat r
      let w ← M.dat q
      let i ← intM v
      let j ← intM w
      M.of (rngD i j)
  | .enum a => do
      let r ← (ev a).1
      let xs ← itemsM r
      M.ret ((List.range xs.length).zipWith (fun (k : Nat) x => .tuple [.int k, x]) xs)
  | .zip2 a b => do
      let r ← (ev a).1
      let q ← (ev b).1
      let xs ← itemsM r
      let ys ← itemsM q
      if sameSeq r q then M.ret (xs.zipWith (fun x y => .tuple [x, y]) ys) else M.stuck
end
end

/-! ### statements -/
inductive Fl where
  | nx | rt (r : RV)
def forLoop (tg : Tg) (body : M Fl) : List D → M Fl
  | [] => M.ret .nx
  | x :: xs => fun ρ => match asgTg tg x ρ with
    | none => none
    | some ρ1 => match body ρ1 with
      | some (.ok .nx, ρ2) => forLoop tg body xs ρ2
      | o => o
def whileLoop (t : M Bool) (body : M Fl) : Nat → M Fl
  | 0 => M.stuck
  | n + 1 => fun ρ => match t ρ with
    | some (.ok true, ρ1) => match body ρ1 with
      | some (.ok .nx, ρ2) => whileLoop t body n ρ2
      | o => o
    | some (.ok false, ρ1) => some (.ok .nx, ρ1)
    | some (.ex e, ρ1) => some (.ex e, ρ1)
    | none => none
def most : Nat := 1000000
/-- the list at a place is changed -/
def changeM (i : Nat) (f : List D → Option (List D)) : M Unit := fun ρ => match ρ[i]? with
  | some (.ow (.list xs)) => match f xs with
    | some ys => some (.ok (), ρ.set i (.ow (.list ys)))
    | none => none
  | some (.io (.list xs)) => match f xs with
    | some ys => some (.ok (), ρ.set i (.io (.list ys)))
    | none => none
  | _ => none
def change2M (i : Nat) (f : List D → Option (List D)) : M Unit := fun ρ => match ρ[i]? with
  | some (.ow2 (.list xs)) => match f xs with
    | some ys => some (.ok (), ρ.set i (.ow2 (.list ys)))
    | none => none
  | some (.ow (.list [])) => match f [] with
    | some ys => some (.ok (), ρ.set i (.ow2 (.list ys)))
    | none => none
  | _ => none
def setAt (k : D) (v : D) (xs : List D) : Option (List D) := match k with
  | .int i => (L2.ixN xs.length i).map fun j => xs.set j v
  | _ => none
def setAt2 (k l : Int) (v : D) (xs : List D) : Option (List D) := (L2.ixN xs.length k).bind fun j => match xs[j]? with
    | some (.list ys) => (setAt (.int l) v ys).map fun zs => xs.set j (.list zs)
    | _ => none
def getAt (i : Nat) (k : D) : M D := fun ρ => match datOf (.bw i) ρ with
  | some (.list xs) => match k with
    | .int j => match L2.atI xs j with
      | some v => some (.ok v, ρ)
      | none => none
    | _ => none
  | _ => none
section
variable (gl : Nat → Option D) (cf : CallF)
mutual
def evS : Sm → M Fl
  | .asg i e => do
      let r ← (ev gl cf e).1
      stSlot i r
      M.ret .nx
  | .asgT t e => do
      let r ← (ev gl cf e).1
      let v ← plainM r
      fun ρ => match asgTg t v ρ with
        | some ρ' => some (.ok .nx, ρ')
        | none => none
  | .par i j a b => do
      let r ← (ev gl cf a).1
      let q ← (ev gl cf b).1
      stSlot i r
      stSlot j q
      M.ret .nx
  | .set1 i k v => do
      let r ← (ev gl cf v).1
      let x ← plainM r
      chkL i
      let q ← (ev gl cf k).1
      let y ← M.dat q
      changeM i (setAt y x)
      M.ret .nx
  | .set2 i k l v => do
      let r ← (ev gl cf v).1
      let x ← plainM r
      chk2 i
      let q ← (ev gl cf k).1
      let y ← M.dat q
      let k ← intM y
      let _ ← rowM i k
      let z ← hidden i (do
        let p ← (ev gl cf l).1
        M.dat p)
      let l ← intM z
      change2M i (setAt2 k l x)
      M.ret .nx
  | .aug i p e => do
      let q ← rdVar i
      let v ← M.dat q
      let r ← (ev gl cf e).1
      let w ← M.dat r
      let z ← M.of (p2 p v w)
      match z with
        | .pl (.int n) => do
          stSlot i (.pl (.int n))
          M.ret .nx
        | _ => M.stuck
  | .augS i k p e => do
      chkL i
      let q ← (ev gl cf k).1
      let y ← M.dat q
      let old ← getAt i y
      let r ← (ev gl cf e).1
      let w ← M.dat r
      let z ← M.of (p2 p old w)
      match z with
        | .pl (.int n) => do
          changeM i (setAt y (.int n))
          M.ret .nx
        | _ => M.stuck
  | .append i e => do
      chkL i
      let r ← (ev gl cf e).1
      let v ← plainM r
      changeM i fun xs => if xs.length < 16777216 then some (xs ++ [v]) else none
      M.ret .nx
  | .append2 i e => do
      chk2e i
      let r ← (ev gl cf e).1
      match r with
        | .ow (.list ys) => do
          change2M i fun xs => if xs.length < 16777216 then some (xs ++ [.list ys]) else none
          M.ret .nx
        | _ => M.stuck
  | .extend i e => do
      chkL i
      let r ← (ev gl cf e).1
      match r with
        | .ow (.list ys) => do
          changeM i fun xs => if xs.length + ys.length ≤ 16777216 then some (xs ++ ys) else none
          M.ret .nx
        | _ => M.stuck
  | .expr e => do
      let _ ← (ev gl cf e).1
      M.ret .nx
  | .ret e => do
      let r ← (ev gl cf e).1
      match r with
        | .bw _ => M.stuck
        | .io _ => M.stuck
        | .un => M.stuck
        | r => M.ret (.rt r)
  | .retN => M.ret (.rt (.pl .none))
  | .rais c e => match e with
      | .no => fun ρ => some (.ex ⟨c, none⟩, ρ)
      | .so e => do
        let r ← (ev gl cf e).1
        let v ← plainM r
        fun ρ => some (.ex ⟨c, some v⟩, ρ)
  | .ife t a b => do
      let k ← (ev gl cf t).2
      if k then evSs a else evSs b
  | .forS tg it body => do
      let xs ← evI gl cf it
      forLoop tg (evSs body) xs
  | .whil t body => whileLoop (ev gl cf t).2 (evSs body) most
  | .tryE c body suite => fun ρ => match evSs body ρ with
      | some (.ex e, ρ') => if e.c = c then evSs suite ρ' else some (.ex e, ρ')
      | o => o
  | .pass => M.ret .nx
def evSs : Sms → M Fl
  | .nil => M.ret .nx
  | .cons s r => do
      let f ← evS s
      match f with
        | .nx => evSs r
        | f => M.ret f
end
end

/-! ### functions -/
structure Fn where
  lent : List Bool
  ns : Nat
  body : Sms
def argsOk : List Bool → List RV → Bool
  | [], [] => true
  | true :: r, .io _ :: as => argsOk r as
  | false :: r, .pl _ :: as => argsOk r as
  | _, _ => false
def callF (gl : Nat → Option D) (FT : Nat → Option Fn) : Nat → CallF
  | 0 => fun _ _ => none
  | k + 1 => fun f as => match FT f with
    | none => none
    | some fn => if argsOk fn.lent as then
        match evSs gl (callF gl FT k) fn.body (as ++ List.replicate (fn.ns - as.length) .un) with
        | some (.ok (.rt r), ρ) => some (.ok r, ρ.take as.length)
        | some (.ok .nx, ρ) => some (.ok (.pl .none), ρ.take as.length)
        | some (.ex e, ρ) => some (.ex e, ρ.take as.length)
        | none => none
      else none
end TK

set_option Elab.async false
set_option linter.all false
set_option maxRecDepth 100000
/-! TKRel: how the interpreter's places lie in the abstract heap. G: what is frozen; FR: what the callers own; o: who owns what. -/
namespace TK
open PySem PySem.Spec PyProof.Rows L2

/-- G' has all of G -/
def Le (G G' : Hp) : Prop := ∀ a x, G a = some x → G' a = some x
theorem Le.refl (G : Hp) : Le G G := fun _ _ h => h
theorem Le.trans {A B C : Hp} (h : Le A B) (k : Le B C) : Le A C := fun a x e => k a x (h a x e)
theorem Le.none {G G' : Hp} (h : Le G G') {a : Addr} (e : G' a = none) : G a = none := by
  cases q : G a with
  | none => rfl
  | some x => rw [h a x q] at e; cases e

end TK
namespace L2
open PySem PySem.Spec PyProof.Rows TK
variable {K : PySem.W.Frag}
theorem sqL_mono {G G' : Hp} (h : Le G G') {a : Addr} {xs : List V} (s : SqL K G a xs) : SqL K G' a xs := by
  rcases s with (s | ⟨o, s⟩) | s
  · exact .inl (.inl (h _ _ s))
  · exact .inl (.inr ⟨o, h _ _ s⟩)
  · exact .inr s
theorem sqT_mono {G G' : Hp} (h : Le G G') {a : Addr} {xs : List V} (s : SqT K G a xs) : SqT K G' a xs := by
  rcases s with (s | ⟨o, s⟩) | s
  · exact .inl (.inl (h _ _ s))
  · exact .inl (.inr ⟨o, h _ _ s⟩)
  · exact .inr s
mutual
theorem Dp.mono {G G' : Hp} (h : Le G G') : ∀ (d : D) (v : V), Dp K G v d → Dp K G' v d
  | .none, _, p => by cases p; exact .non
  | .bool b, _, p => by cases p; exact .bl b
  | .int i, _, p => by cases p; exact .int i
  | .str x, _, p => by cases p; exact .str x
  | .list ds, _, p => by
    cases p with
    | lst s q => exact .lst (sqL_mono h s) (DpAll.mono h ds _ q)
  | .tuple ds, _, p => by
    cases p with
    | tup s q => exact .tup (sqT_mono h s) (DpAll.mono h ds _ q)
  | .dict _, _, p => by cases p
theorem DpAll.mono {G G' : Hp} (h : Le G G') : ∀ (ds : List D) (vs : List V), DpAll K G vs ds → DpAll K G' vs ds
  | [], _, p => by cases p; exact .nil
  | d :: ds, _, p => by
    cases p with
    | cons p q => exact .cons (Dp.mono h d _ p) (DpAll.mono h ds _ q)
end
theorem DpAll.length {G : Hp} : ∀ {vs : List V} {ds : List D}, DpAll K G vs ds → vs.length = ds.length
  | _, _, .nil => rfl
  | _, _, .cons _ q => by rw [List.length_cons, List.length_cons, DpAll.length q]
theorem DpAll.get {G : Hp} : ∀ {vs : List V} {ds : List D} {i : Nat} {d : D}, DpAll K G vs ds → ds[i]? = some d → ∃ v, vs[i]? = some v ∧ Dp K G v d
  | _, _, _, _, .nil, e => by simp at e
  | _, _, 0, _, .cons p _, e => by simp at e; subst e; exact ⟨_, rfl, p⟩
  | _, _, i + 1, d, .cons _ q, e => by
    obtain ⟨v, h1, h2⟩ := DpAll.get (i := i) (d := d) q (by simpa using e)
    exact ⟨v, by simpa using h1, h2⟩
theorem DpAll.get' {G : Hp} : ∀ {vs : List V} {ds : List D} {i : Nat} {v : V}, DpAll K G vs ds → vs[i]? = some v → ∃ d, ds[i]? = some d ∧ Dp K G v d
  | _, _, _, _, .nil, e => by simp at e
  | _, _, 0, _, .cons p _, e => by simp at e; subst e; exact ⟨_, rfl, p⟩
  | _, _, i + 1, v, .cons _ q, e => by
    obtain ⟨d, h1, h2⟩ := DpAll.get' (i := i) (v := v) q (by simpa using e)
    exact ⟨d, by simpa using h1, h2⟩
theorem DpAll.append {G : Hp} : ∀ {vs ws : List V} {ds es : List D}, DpAll K G vs ds → DpAll K G ws es → DpAll K G (vs ++ ws) (ds ++ es)
  | _, _, _, _, .nil, q => q
  | _, _, _, _, .cons p r, q => .cons p (DpAll.append r q)
theorem DpAll.take {G : Hp} : ∀ {vs : List V} {ds : List D} (n : Nat), DpAll K G vs ds → DpAll K G (vs.take n) (ds.take n)
  | _, _, 0, _ => by simp; exact .nil
  | _, _, _ + 1, .nil => .nil
  | _, _, n + 1, .cons p q => .cons p (DpAll.take n q)
theorem DpAll.drop {G : Hp} : ∀ {vs : List V} {ds : List D} (n : Nat), DpAll K G vs ds → DpAll K G (vs.drop n) (ds.drop n)
  | _, _, 0, r => r
  | _, _, _ + 1, .nil => .nil
  | _, _, n + 1, .cons _ q => DpAll.drop n q
theorem DpAll.set {G : Hp} {v : V} {d : D} (p : Dp K G v d) : ∀ {vs : List V} {ds : List D} (n : Nat), DpAll K G vs ds → DpAll K G (vs.set n v) (ds.set n d)
  | _, _, _, .nil => .nil
  | _, _, 0, .cons _ q => .cons p q
  | _, _, n + 1, .cons r q => .cons r (DpAll.set p n q)
theorem DpAll.erase {G : Hp} : ∀ {vs : List V} {ds : List D} (n : Nat), DpAll K G vs ds → DpAll K G (vs.eraseIdx n) (ds.eraseIdx n)
  | _, _, _, .nil => .nil
  | _, _, 0, .cons _ q => q
  | _, _, n + 1, .cons r q => .cons r (DpAll.erase n q)
theorem DpAll.one {G : Hp} {v : V} {d : D} (p : Dp K G v d) : DpAll K G [v] [d] := .cons p .nil
theorem DpAll.rev {G : Hp} : ∀ {vs : List V} {ds : List D}, DpAll K G vs ds → DpAll K G vs.reverse ds.reverse
  | _, _, .nil => .nil
  | _, _, .cons p q => by
    rw [List.reverse_cons, List.reverse_cons]
    exact (DpAll.rev q).append (.one p)
theorem DpAll.flat {G : Hp} {vs : List V} {ds : List D} (p : DpAll K G vs ds) : ∀ n : Nat, DpAll K G (List.replicate n vs).flatten (List.replicate n ds).flatten
  | 0 => .nil
  | n + 1 => by
    rw [List.replicate_succ, List.replicate_succ, List.flatten_cons, List.flatten_cons]
    exact p.append (p.flat n)
theorem DpAll.of_ints {G : Hp} : ∀ (ns : List Int), DpAll K G (ns.map V.int) (ns.map PyData.int)
  | [] => .nil
  | n :: ns => .cons (.int n) (DpAll.of_ints ns)

end L2
namespace TK
open PySem PySem.Spec PyProof.Rows L2
variable {K : PySem.W.Frag}
/-! ### who owns what -/
inductive Wh where
  | slot (i : Nat) | tmp (k : Nat)
  deriving DecidableEq
abbrev Own := Addr → Option Wh

/-- what stands at an owned address -/
def OwnAt (K : PySem.W.Frag) (G H : Hp) (a : Addr) (d : D) : Prop := match d with
  | .list xs => ∃ vs, H a = some (.lst vs) ∧ DpAll K G vs xs
  | _ => False
theorem OwnAt.mono {G G' H H' : Hp} {a : Addr} {d : D} (h : OwnAt K G H a d) (g : Le G G') (e : H' a = H a) : OwnAt K G' H' a d := by
  cases d with
  | list xs =>
    obtain ⟨vs, h1, h2⟩ := h
    exact ⟨vs, e.trans h1, h2.mono g _ _⟩
  | _ => exact h.elim
theorem OwnAt.there {G H : Hp} {a : Addr} {d : D} (h : OwnAt K G H a d) : ∃ x, H a = some x := by
  cases d with
  | list xs => obtain ⟨vs, h1, _⟩ := h; exact ⟨_, h1⟩
  | _ => exact h.elim
/-- rows of a list of lists of its own -/
inductive Rows2 (K : PySem.W.Frag) (G H : Hp) (o : Own) (w : Wh) : List Addr → List D → Prop
  | nil : Rows2 K G H o w [] []
  | cons {b : Addr} {bs : List Addr} {xs : List D} {ds : List D} : o b = some w → OwnAt K G H b (.list xs) → Rows2 K G H o w bs ds → Rows2 K G H o w (b :: bs) (.list xs :: ds)

def Holds (K : PySem.W.Frag) (le : Nat → Option Addr) (G H : Hp) (o : Own) (w : Wh) : RV → Option V → Prop
  | .un, _ => True
  | .bw _, _ => True
  | .pl d, z => ∃ v, z = some v ∧ Dp K G v d
  | .ow d, z => ∃ a, z = some (.ref a) ∧ o a = some w ∧ OwnAt K G H a d
  | .ow2 d, z => ∃ a bs ds, z = some (.ref a) ∧ d = .list ds ∧ o a = some w ∧ H a = some (.lst (bs.map .ref)) ∧ (a :: bs).Nodup ∧ Rows2 K G H o w bs ds
  | .io d, z => ∃ a i, z = some (.ref a) ∧ w = .slot i ∧ le i = some a ∧ o a = some w ∧ OwnAt K G H a d

def TmpOk (K : PySem.W.Frag) (le : Nat → Option Addr) (G H : Hp) (o : Own) : List (RV × V) → Prop
  | [] => True
  | (r, z) :: τ => Holds K le G H o (.tmp τ.length) r (some z) ∧ TmpOk K le G H o τ

structure StOk (K : PySem.W.Frag) (le : Nat → Option Addr) (FR G H : Hp) (o : Own) (ρ : En) (σ : L2.St) (τ : List (RV × V)) : Prop where
  sub : Le G H
  fr : ∀ a x, FR a = some x → H a = some x ∧ G a = none ∧ o a = none
  ow : ∀ a w, o a = some w → G a = none ∧ ∃ x, H a = some x
  len : ρ.length = σ.length
  slot : ∀ i r, ρ[i]? = some r → Holds K le G H o (.slot i) r (σ[i]?.join)
  lent : ∀ i a, le i = some a → ∃ d, ρ[i]? = some (.io d)
  tmp : TmpOk K le G H o τ
def StE (K : PySem.W.Frag) (le : Nat → Option Addr) (FR G H : Hp) (ρ : En) (σ : L2.St) (τ : List (RV × V)) : Prop := ∃ o, StOk K le FR G H o ρ σ τ

section
variable {le : Nat → Option Addr} {FR G G' H H' : Hp} {o o' : Own} {ρ : En} {σ : L2.St} {τ : List (RV × V)} {w : Wh}

theorem Rows2.mono {bs : List Addr} {ds : List D} (h : Rows2 K G H o w bs ds) (g : Le G G') (e : ∀ b ∈ bs, H' b = H b) (ho : ∀ b ∈ bs, o b = some w → o' b = some w) : Rows2 K G' H' o' w bs ds := by
  induction h with
  | nil => exact .nil
  | cons h1 h2 h3 ih =>
    exact .cons (ho _ List.mem_cons_self h1) (h2.mono g (e _ List.mem_cons_self)) (ih (fun b hb => e b (List.mem_cons_of_mem _ hb)) fun b hb => ho b (List.mem_cons_of_mem _ hb))
theorem Rows2.owner {bs : List Addr} {ds : List D} (h : Rows2 K G H o w bs ds) : ∀ b ∈ bs, o b = some w ∧ ∃ x, H b = some x := by
  induction h with
  | nil => intro b hb; cases hb
  | cons h1 h2 h3 ih =>
    intro b hb
    rcases List.mem_cons.mp hb with rfl | hb
    · exact ⟨h1, h2.there⟩
    · exact ih b hb

/-- what is held stays, where its owner's addresses stay -/
theorem Holds.mono {r : RV} {z : Option V} (h : Holds K le G H o w r z) (g : Le G G') (e : ∀ a, o a = some w → H' a = H a ∧ o' a = some w) : Holds K le G' H' o' w r z := by
  cases r with
  | un => trivial
  | bw i => trivial
  | pl d =>
    obtain ⟨v, h1, h2⟩ := h
    exact ⟨v, h1, h2.mono g _ _⟩
  | ow d =>
    obtain ⟨a, h1, h2, h3⟩ := h
    exact ⟨a, h1, (e a h2).2, h3.mono g (e a h2).1⟩
  | ow2 d =>
    obtain ⟨a, bs, ds, h1, h2, h3, h4, h5, h6⟩ := h
    exact ⟨a, bs, ds, h1, h2, (e a h3).2, (e a h3).1.trans h4, h5, h6.mono g (fun b hb => (e b (h6.owner b hb).1).1) fun b hb q => (e b q).2⟩
  | io d =>
    obtain ⟨a, i, h1, h2, h3, h4, h5⟩ := h
    exact ⟨a, i, h1, h2, h3, (e a h4).2, h5.mono g (e a h4).1⟩
theorem TmpOk.mono (g : Le G G') : ∀ {τ : List (RV × V)}, TmpOk K le G H o τ → (∀ k, k < τ.length → ∀ a, o a = some (.tmp k) → H' a = H a ∧ o' a = some (.tmp k)) → TmpOk K le G' H' o' τ
  | [], _, _ => trivial
  | (r, z) :: τ, h, e => ⟨h.1.mono g (e τ.length (by simp)), h.2.mono g fun k hk => e k (Nat.lt_of_lt_of_le hk (by simp))⟩

/-- the heap grows: what stood stands, the new is frozen or not -/
theorem StOk.ext (x : StOk K le FR G H o ρ σ τ) (hH : Le H H') (hG : Le G G') (hs : Le G' H') (hn : ∀ a y, H a = some y → G' a = G a) : StOk K le FR G' H' o ρ σ τ where
  sub := hs
  fr := fun a y e => let ⟨h1, h2, h3⟩ := x.fr a y e; ⟨hH _ _ h1, (hn a y h1).trans h2, h3⟩
  ow := fun a w e => let ⟨h1, y, h2⟩ := x.ow a w e; ⟨(hn a y h2).trans h1, y, hH _ _ h2⟩
  len := x.len
  slot := fun i r e => (x.slot i r e).mono hG fun a q => by
    obtain ⟨_, y, h2⟩ := x.ow a _ q
    exact ⟨(hH _ _ h2).trans h2.symm, q⟩
  lent := x.lent
  tmp := x.tmp.mono hG fun k _ a q => by
    obtain ⟨_, y, h2⟩ := x.ow a _ q
    exact ⟨(hH _ _ h2).trans h2.symm, q⟩
theorem StOk.pop {t : RV × V} (x : StOk K le FR G H o ρ σ (t :: τ)) : StOk K le FR G H o ρ σ τ :=
  ⟨x.sub, x.fr, x.ow, x.len, x.slot, x.lent, x.tmp.2⟩
theorem StOk.top {r : RV} {z : V} (x : StOk K le FR G H o ρ σ ((r, z) :: τ)) : Holds K le G H o (.tmp τ.length) r (some z) := x.tmp.1
theorem StOk.push (x : StOk K le FR G H o ρ σ τ) {r : RV} {z : V} (h : Holds K le G H o (.tmp τ.length) r (some z)) : StOk K le FR G H o ρ σ ((r, z) :: τ) :=
  ⟨x.sub, x.fr, x.ow, x.len, x.slot, x.lent, h, x.tmp⟩
theorem StOk.push_pl (x : StOk K le FR G H o ρ σ τ) {d : D} {z : V} (h : Dp K G z d) : StOk K le FR G H o ρ σ ((.pl d, z) :: τ) := x.push ⟨z, rfl, h⟩
theorem StOk.push_bw (x : StOk K le FR G H o ρ σ τ) {i : Nat} {z : V} : StOk K le FR G H o ρ σ ((.bw i, z) :: τ) := x.push trivial

def setOw (o : Own) (a : Addr) (w : Option Wh) : Own := fun b => if b = a then w else o b
theorem setOw_same {a : Addr} {w : Option Wh} : setOw o a w a = w := if_pos rfl
theorem setOw_ne {a b : Addr} {w : Option Wh} (h : b ≠ a) : setOw o a w b = o b := if_neg h

/-- a new object at p, owned by a temp on top -/
theorem StOk.push_new (x : StOk K le FR G H o ρ σ τ) {p : Addr} {u : HO} (hp : H p = none) {r : RV} (h : Holds K le G (upd H p u) (setOw o p (some (.tmp τ.length))) (.tmp τ.length) r (some (.ref p))) :
    StOk K le FR G (upd H p u) (setOw o p (some (.tmp τ.length))) ρ σ ((r, .ref p) :: τ) := by
  have ne : ∀ a y, H a = some y → a ≠ p := fun a y e q => by rw [q, hp] at e; cases e
  have gp : G p = none := x.sub.none hp
  have ownNe : ∀ a w, o a = some w → a ≠ p := fun a w e => let ⟨_, y, q⟩ := x.ow a w e; ne a y q
  refine ⟨fun a y e => ?_, fun a y e => ?_, fun a w e => ?_, x.len, fun i r' e => ?_, x.lent, h, ?_⟩
  · rw [upd_ne (ne a y (x.sub _ _ e))]; exact x.sub _ _ e
  · obtain ⟨h1, h2, h3⟩ := x.fr a y e
    have q := ne a y h1
    exact ⟨by rw [upd_ne q]; exact h1, h2, by rw [setOw_ne q]; exact h3⟩
  · by_cases q : a = p
    · subst q; exact ⟨gp, u, upd_same⟩
    · rw [setOw_ne q] at e
      obtain ⟨h1, y, h2⟩ := x.ow a w e
      exact ⟨h1, y, by rw [upd_ne q]; exact h2⟩
  · refine (x.slot i r' e).mono (Le.refl _) fun a q => ?_
    have z := ownNe a _ q
    exact ⟨by rw [upd_ne z], by rw [setOw_ne z]; exact q⟩
  · refine x.tmp.mono (Le.refl _) fun k _ a q => ?_
    have z := ownNe a _ q
    exact ⟨by rw [upd_ne z], by rw [setOw_ne z]; exact q⟩
theorem StOk.push_list (x : StOk K le FR G H o ρ σ τ) {p : Addr} {vs : List V} {ds : List D} (hp : H p = none) (h : DpAll K G vs ds) : StE K le FR G (upd H p (.lst vs)) ρ σ ((.ow (.list ds), .ref p) :: τ) :=
  ⟨_, x.push_new hp ⟨p, rfl, setOw_same, vs, upd_same, h⟩⟩
/-- a new object at p, frozen -/
theorem StOk.new_frozen (x : StOk K le FR G H o ρ σ τ) {p : Addr} {u : HO} (hp : H p = none) : StOk K le FR (upd G p u) (upd H p u) o ρ σ τ := by
  have gp : G p = none := x.sub.none hp
  have ne : ∀ a y, H a = some y → a ≠ p := fun a y e q => by rw [q, hp] at e; cases e
  refine x.ext (fun a y e => ?_) (fun a y e => ?_) (fun a y e => ?_) fun a y e => ?_
  · rw [upd_ne (ne a y e)]; exact e
  · rw [upd_ne (ne a y (x.sub _ _ e))]; exact e
  · by_cases q : a = p
    · subst q; rw [upd_same] at e ⊢; exact e
    · rw [upd_ne q] at e ⊢; exact x.sub _ _ e
  · rw [upd_ne (ne a y e)]
theorem le_upd {p : Addr} {u : HO} (hp : G p = none) : Le G (upd G p u) := fun a y e => by
  rw [upd_ne fun q => by rw [q, hp] at e; cases e]; exact e

/-- addresses of one owner are frozen: G takes them in -/
def frz (G H : Hp) (o : Own) (w : Wh) : Hp := fun a => if o a = some w then H a else G a
def letGo (o : Own) (w : Wh) : Own := fun a => if o a = some w then none else o a
theorem frz_le (x : StOk K le FR G H o ρ σ τ) (w : Wh) : Le G (frz G H o w) := fun a y e => by
  unfold frz
  by_cases q : o a = some w
  · rw [(x.ow a w q).1] at e; cases e
  · rw [if_neg q]; exact e
theorem letGo_ne {a : Addr} {w w' : Wh} (h : o a = some w') (n : w' ≠ w) : letGo o w a = some w' := by
  unfold letGo
  rw [if_neg (fun q => n (Option.some.inj (h.symm.trans q)))]
  exact h
theorem dp_of_own {a : Addr} {d : D} {z : V} (hz : z = .ref a) (q : o a = some w) (x : StOk K le FR G H o ρ σ τ) (h : OwnAt K G H a d) : Dp K (frz G H o w) z d := by
  subst hz
  cases d with
  | list xs =>
    obtain ⟨vs, h1, h2⟩ := h
    refine .lst (.inl (.inl ?_)) (h2.mono (frz_le x w) _ _)
    unfold frz
    rw [if_pos q]; exact h1
  | _ => exact h.elim
theorem rows_frz {bs : List Addr} {ds : List D} (x : StOk K le FR G H o ρ σ τ) (h : Rows2 K G H o w bs ds) : DpAll K (frz G H o w) (bs.map .ref) ds := by
  induction h with
  | nil => exact .nil
  | cons h1 h2 h3 ih => exact .cons (dp_of_own rfl h1 x h2) ih
theorem Holds.dp (x : StOk K le FR G H o ρ σ τ) {r : RV} {d : D} {z : V} (hr : r.dat = some d) (hn : r.free = true) (h : Holds K le G H o w r (some z)) : Dp K (frz G H o w) z d := by
  cases r with
  | un => cases hr
  | bw i => cases hr
  | io d' => cases hn
  | pl d' =>
    obtain rfl : d' = d := Option.some.inj hr
    obtain ⟨v, h1, h2⟩ := h
    obtain rfl := Option.some.inj h1
    exact h2.mono (frz_le x w) _ _
  | ow d' =>
    obtain rfl : d' = d := Option.some.inj hr
    obtain ⟨a, h1, h2, h3⟩ := h
    obtain rfl := Option.some.inj h1
    exact dp_of_own rfl h2 x h3
  | ow2 d' =>
    obtain rfl : d' = d := Option.some.inj hr
    obtain ⟨a, bs, ds, h1, h2, h3, h4, h5, h6⟩ := h
    obtain rfl := Option.some.inj h1
    subst h2
    refine .lst (.inl (.inl ?_)) (rows_frz x h6)
    unfold frz
    rw [if_pos h3]; exact h4
theorem StOk.frz_top {r : RV} {z : V} (x : StOk K le FR G H o ρ σ ((r, z) :: τ)) {d : D} (hr : r.dat = some d) (hn : r.free = true) :
    StOk K le FR (frz G H o (.tmp τ.length)) H (letGo o (.tmp τ.length)) ρ σ ((.pl d, z) :: τ) := by
  have hd := x.top.dp x hr hn
  refine ⟨fun a y e => ?_, fun a y e => ?_, fun a w e => ?_, x.len, fun i r' e => ?_, x.lent, ⟨z, rfl, hd⟩, ?_⟩
  · unfold frz at e
    by_cases q : o a = some (.tmp τ.length)
    · rw [if_pos q] at e; exact e
    · rw [if_neg q] at e; exact x.sub _ _ e
  · obtain ⟨h1, h2, h3⟩ := x.fr a y e
    refine ⟨h1, ?_, ?_⟩
    · unfold frz; rw [if_neg (by rw [h3]; exact fun q => nomatch q)]; exact h2
    · unfold letGo; rw [if_neg (by rw [h3]; exact fun q => nomatch q)]; exact h3
  · unfold letGo at e
    by_cases q : o a = some (.tmp τ.length)
    · rw [if_pos q] at e; cases e
    · rw [if_neg q] at e
      obtain ⟨h1, h2⟩ := x.ow a w e
      exact ⟨by unfold frz; rw [if_neg q]; exact h1, h2⟩
  · refine (x.slot i r' e).mono (frz_le x _) fun a q => ⟨rfl, letGo_ne q (fun c => nomatch c)⟩
  · refine x.tmp.2.mono (frz_le x _) fun k hk a q => ⟨rfl, letGo_ne q (fun c => ?_)⟩
    injection c with c
    exact absurd hk (by rw [c]; exact Nat.lt_irrefl _)
/-- any result that is no look is plain data behind a freeze -/
theorem StE.plain {r : RV} {z : V} (x : StE K le FR G H ρ σ ((r, z) :: τ)) {d : D} (hr : r.dat = some d) (hn : r.free = true) :
    ∃ G', Le G G' ∧ StE K le FR G' H ρ σ τ ∧ Dp K G' z d := by
  obtain ⟨o, x⟩ := x
  have y := x.frz_top hr hn
  obtain ⟨v, h1, h2⟩ := y.top
  obtain rfl := Option.some.inj h1
  exact ⟨_, frz_le x _, ⟨_, y.pop⟩, h2⟩
end
end TK

set_option Elab.async false
set_option linter.all false
set_option maxRecDepth 100000
/-! TKRel2: places read, stored, changed; results of pure operations. -/
namespace TK
open PySem PySem.Spec PyProof.Rows L2
variable {K : PySem.W.Frag}
section
variable {le : Nat → Option Addr} {FR G G' H H' : Hp} {o o' : Own} {ρ : En} {σ : L2.St} {τ : List (RV × V)} {w : Wh}

theorem set_get {α : Type} {l : List α} {i j : Nat} {x y : α} (h : (l.set i x)[j]? = some y) : (j = i ∧ y = x ∧ i < l.length) ∨ (j ≠ i ∧ l[j]? = some y) := by
  by_cases e : j = i
  · subst e
    by_cases hl : j < l.length
    · rw [List.getElem?_set_self hl] at h
      exact .inl ⟨rfl, (Option.some.inj h).symm, hl⟩
    · rw [List.getElem?_eq_none (by rw [List.length_set]; omega)] at h; cases h
  · rw [List.getElem?_set_ne (Ne.symm e)] at h
    exact .inr ⟨e, h⟩

theorem StOk.var (x : StOk K le FR G H o ρ σ τ) {i : Nat} {d : D} (e : ρ[i]? = some (.pl d)) : ∃ z, σ[i]? = some (some z) ∧ Dp K G z d := by
  obtain ⟨z, h1, h2⟩ := x.slot i _ e
  refine ⟨z, ?_, h2⟩
  cases q : σ[i]? with
  | none => rw [q] at h1; cases h1
  | some u => rw [q] at h1; cases u with
    | none => cases h1
    | some u => exact congrArg some h1
theorem join_some {i : Nat} {z : V} (h : σ[i]?.join = some z) : σ[i]? = some (some z) := by
  cases q : σ[i]? with
  | none => rw [q] at h; cases h
  | some u => rw [q] at h; cases u with
    | none => cases h
    | some u => exact congrArg some h
theorem StOk.frz_slot (x : StOk K le FR G H o ρ σ τ) {i : Nat} {r : RV} {d : D} (e : ρ[i]? = some r) (hr : r.dat = some d) (hn : r.free = true) :
    ∃ z, σ[i]? = some (some z) ∧ StOk K le FR (frz G H o (.slot i)) H (letGo o (.slot i)) (ρ.set i (.pl d)) σ τ ∧ Dp K (frz G H o (.slot i)) z d := by
  have hh := x.slot i _ e
  obtain ⟨z, hz⟩ : ∃ z, σ[i]?.join = some z := by
    cases r with
    | un => cases hr
    | bw _ => cases hr
    | io _ => cases hn
    | pl _ => obtain ⟨v, h1, _⟩ := hh; exact ⟨v, h1⟩
    | ow _ => obtain ⟨a, h1, _⟩ := hh; exact ⟨_, h1⟩
    | ow2 _ => obtain ⟨a, _, _, h1, _⟩ := hh; exact ⟨_, h1⟩
  rw [hz] at hh
  have hd := hh.dp x hr hn
  refine ⟨z, join_some hz, ⟨fun a y q => ?_, fun a y q => ?_, fun a w q => ?_, by rw [List.length_set]; exact x.len, fun j r' q => ?_, fun j a q => ?_, ?_⟩, hd⟩
  · unfold frz at q
    by_cases c : o a = some (.slot i)
    · rw [if_pos c] at q; exact q
    · rw [if_neg c] at q; exact x.sub _ _ q
  · obtain ⟨h1, h2, h3⟩ := x.fr a y q
    refine ⟨h1, ?_, ?_⟩
    · unfold frz; rw [if_neg (by rw [h3]; exact fun q => nomatch q)]; exact h2
    · unfold letGo; rw [if_neg (by rw [h3]; exact fun q => nomatch q)]; exact h3
  · unfold letGo at q
    by_cases c : o a = some (.slot i)
    · rw [if_pos c] at q; cases q
    · rw [if_neg c] at q
      obtain ⟨h1, h2⟩ := x.ow a w q
      exact ⟨by unfold frz; rw [if_neg c]; exact h1, h2⟩
  · rcases set_get q with ⟨rfl, rfl, _⟩ | ⟨n, q⟩
    · exact ⟨z, hz, hd⟩
    · exact (x.slot j r' q).mono (frz_le x _) fun a c => ⟨rfl, letGo_ne c (fun u => n (by injection u))⟩
  · obtain ⟨d', q⟩ := x.lent j a q
    by_cases n : j = i
    · subst n
      rw [e] at q; obtain rfl := Option.some.inj q
      cases hn
    · exact ⟨d', by rw [List.getElem?_set_ne (Ne.symm n)]; exact q⟩
  · exact x.tmp.mono (frz_le x _) fun k _ a c => ⟨rfl, letGo_ne c (fun u => nomatch u)⟩

/-- one owner's addresses go to another one -/
def reLab (o : Own) (w w' : Wh) : Own := fun a => if o a = some w then some w' else o a
theorem reLab_to {a : Addr} {w w' : Wh} (h : o a = some w) : reLab o w w' a = some w' := by unfold reLab; rw [if_pos h]
theorem reLab_ne {a : Addr} {w w' w'' : Wh} (h : o a = some w'') (n : w'' ≠ w) : reLab o w w' a = some w'' := by
  unfold reLab; rw [if_neg (fun q => n (Option.some.inj (h.symm.trans q)))]; exact h
theorem Rows2.lab {bs : List Addr} {ds : List D} {w' : Wh} (h : Rows2 K G H o w bs ds) : Rows2 K G H (reLab o w w') w' bs ds := by
  induction h with
  | nil => exact .nil
  | cons h1 h2 h3 ih => exact .cons (reLab_to h1) h2 ih
theorem Holds.lab {r : RV} {z : Option V} {w' : Wh} (h : Holds K le G H o w r z) (hf : r.free = true) : Holds K le G H (reLab o w w') w' r z := by
  cases r with
  | un => trivial
  | bw i => trivial
  | io d => cases hf
  | pl d => exact h
  | ow d =>
    obtain ⟨a, h1, h2, h3⟩ := h
    exact ⟨a, h1, reLab_to h2, h3⟩
  | ow2 d =>
    obtain ⟨a, bs, ds, h1, h2, h3, h4, h5, h6⟩ := h
    exact ⟨a, bs, ds, h1, h2, reLab_to h3, h4, h5, h6.lab⟩
theorem reLab_some {a : Addr} {w w' w'' : Wh} (h : reLab o w w' a = some w'') : ∃ u, o a = some u := by
  unfold reLab at h
  by_cases c : o a = some w
  · exact ⟨_, c⟩
  · rw [if_neg c] at h; exact ⟨_, h⟩
theorem reLab_none {a : Addr} {w w' : Wh} (h : o a = none) : reLab o w w' a = none := by
  unfold reLab; rw [if_neg (by rw [h]; exact fun q => nomatch q)]; exact h
/-- a place's value is taken -/
theorem StOk.take (x : StOk K le FR G H o ρ σ τ) {i : Nat} {r : RV} {z : V} (e : ρ[i]? = some r) (hz : σ[i]? = some (some z)) (hf : r.free = true) :
    StOk K le FR G H (reLab o (.slot i) (.tmp τ.length)) (ρ.set i .un) σ ((r, z) :: τ) := by
  have hh := x.slot i _ e
  rw [hz] at hh
  refine ⟨x.sub, fun a y q => ?_, fun a w q => ?_, by rw [List.length_set]; exact x.len, fun j r' q => ?_, fun j a q => ?_, Holds.lab hh hf, ?_⟩
  · obtain ⟨h1, h2, h3⟩ := x.fr a y q
    exact ⟨h1, h2, reLab_none h3⟩
  · obtain ⟨u, hu⟩ := reLab_some q
    exact x.ow a u hu
  · rcases set_get q with ⟨rfl, rfl, _⟩ | ⟨n, q⟩
    · trivial
    · exact (x.slot j r' q).mono (Le.refl _) fun a c => ⟨rfl, reLab_ne c (fun u => n (by injection u))⟩
  · obtain ⟨d', q⟩ := x.lent j a q
    by_cases n : j = i
    · subst n
      rw [e] at q; obtain rfl := Option.some.inj q
      cases hf
    · exact ⟨d', by rw [List.getElem?_set_ne (Ne.symm n)]; exact q⟩
  · exact x.tmp.mono (Le.refl _) fun k _ a c => ⟨rfl, reLab_ne c (fun u => nomatch u)⟩
/-- the top is stored -/
theorem StOk.store {r : RV} {z : V} (x : StOk K le FR G H o ρ σ ((r, z) :: τ)) {i : Nat} {q : RV} (e : ρ[i]? = some q) (hq : q.free = true) (hk : r.keep = true) :
    StOk K le FR G H (reLab o (.tmp τ.length) (.slot i)) (ρ.set i r) (σ.set i (some z)) τ := by
  have hf : r.free = true := by cases r <;> first | rfl | cases hk
  have hi : i < ρ.length := (List.getElem?_eq_some_iff.mp e).1
  refine ⟨x.sub, fun a y q => ?_, fun a w q => ?_, by rw [List.length_set, List.length_set]; exact x.len, fun j r' q => ?_, fun j a q => ?_, ?_⟩
  · obtain ⟨h1, h2, h3⟩ := x.fr a y q
    exact ⟨h1, h2, reLab_none h3⟩
  · obtain ⟨u, hu⟩ := reLab_some q
    exact x.ow a u hu
  · rcases set_get q with ⟨rfl, rfl, _⟩ | ⟨n, q⟩
    · rw [List.getElem?_set_self (by rw [← x.len]; exact hi)]
      exact Holds.lab x.top hf
    · rw [List.getElem?_set_ne (Ne.symm n)]
      exact (x.slot j r' q).mono (Le.refl _) fun a c => ⟨rfl, reLab_ne c (fun u => nomatch u)⟩
  · obtain ⟨d', c⟩ := x.lent j a q
    by_cases n : j = i
    · subst n
      rw [e] at c; obtain rfl := Option.some.inj c
      cases hq
    · exact ⟨d', by rw [List.getElem?_set_ne (Ne.symm n)]; exact c⟩
  · exact x.tmp.2.mono (Le.refl _) fun k hk' a c => ⟨rfl, reLab_ne c (fun u => by injection u with u; omega)⟩
theorem StE.store {r : RV} {z : V} (x : StE K le FR G H ρ σ ((r, z) :: τ)) {i : Nat} {q : RV} (e : ρ[i]? = some q) (hq : q.free = true) (hk : r.keep = true) :
    StE K le FR G H (ρ.set i r) (σ.set i (some z)) τ := let ⟨_, x⟩ := x; ⟨_, x.store e hq hk⟩
/-- plain data are stored -/
theorem StE.storeD (x : StE K le FR G H ρ σ τ) {z : V} {d : D} (h : Dp K G z d) {i : Nat} {q : RV} (e : ρ[i]? = some q) (hq : q.free = true) :
    StE K le FR G H (ρ.set i (.pl d)) (σ.set i (some z)) τ := let ⟨_, x⟩ := x; ⟨_, (x.push_pl h).store e hq rfl⟩

/-- what an owned address holds is changed -/
theorem StOk.change (x : StOk K le FR G H o ρ σ τ) {a : Addr} {i : Nat} (ho : o a = some (.slot i)) {u : HO} {r : RV} (h : Holds K le G (upd H a u) o (.slot i) r (σ[i]?.join)) (hl : ∀ b, le i = some b → ∃ d, r = .io d) :
    StOk K le FR G (upd H a u) o (ρ.set i r) σ τ := by
  have ga : G a = none := (x.ow a _ ho).1
  refine ⟨fun b y q => ?_, fun b y q => ?_, fun b w q => ?_, by rw [List.length_set]; exact x.len, fun j r' q => ?_, fun j b q => ?_, ?_⟩
  · rw [upd_ne (fun c => by rw [c, ga] at q; cases q)]; exact x.sub _ _ q
  · obtain ⟨h1, h2, h3⟩ := x.fr b y q
    exact ⟨by rw [upd_ne (fun c => by rw [c, ho] at h3; cases h3)]; exact h1, h2, h3⟩
  · obtain ⟨h1, y, h2⟩ := x.ow b w q
    by_cases c : b = a
    · subst c; exact ⟨h1, u, upd_same⟩
    · exact ⟨h1, y, by rw [upd_ne c]; exact h2⟩
  · rcases set_get q with ⟨rfl, rfl, _⟩ | ⟨n, q⟩
    · exact h
    · refine (x.slot j r' q).mono (Le.refl _) fun b c => ⟨upd_ne (fun z => ?_), c⟩
      rw [z, ho] at c
      exact n (by injection c with c; injection c with c; exact c.symm)
  · by_cases n : j = i
    · subst n
      obtain ⟨d, rfl⟩ := hl b q
      obtain ⟨d', c⟩ := x.lent j b q
      exact ⟨d, by rw [List.getElem?_set_self (List.getElem?_eq_some_iff.mp c).1]⟩
    · obtain ⟨d', c⟩ := x.lent j b q
      exact ⟨d', by rw [List.getElem?_set_ne (Ne.symm n)]; exact c⟩
  · refine x.tmp.mono (Le.refl _) fun k _ b c => ⟨upd_ne (fun z => ?_), c⟩
    rw [z, ho] at c; cases c
/-- a list of its own is changed -/
theorem StE.changeL (x : StE K le FR G H ρ σ τ) {i : Nat} {xs ys : List D} (e : ρ[i]? = some (.ow (.list xs)) ∨ ρ[i]? = some (.io (.list xs))) :
    ∃ a vs, σ[i]? = some (some (.ref a)) ∧ H a = some (.lst vs) ∧ DpAll K G vs xs ∧ ∀ ws, DpAll K G ws ys →
      (ρ[i]? = some (.ow (.list xs)) → StE K le FR G (upd H a (.lst ws)) (ρ.set i (.ow (.list ys))) σ τ) ∧
      (ρ[i]? = some (.io (.list xs)) → StE K le FR G (upd H a (.lst ws)) (ρ.set i (.io (.list ys))) σ τ) := by
  obtain ⟨o, x⟩ := x
  rcases e with e | e
  · obtain ⟨a, h1, h2, vs, h3, h4⟩ := x.slot i _ e
    refine ⟨a, vs, join_some h1, h3, h4, fun ws hw => ⟨fun _ => ⟨o, ?_⟩, fun c => ?_⟩⟩
    · refine x.change h2 ⟨a, h1, h2, ws, upd_same, hw⟩ fun b q => ?_
      obtain ⟨d, c⟩ := x.lent i b q
      rw [e] at c; cases c
    · rw [e] at c; cases c
  · obtain ⟨a, j, h1, h2, h3, h4, vs, h5, h6⟩ := x.slot i _ e
    refine ⟨a, vs, join_some h1, h5, h6, fun ws hw => ⟨fun c => ?_, fun _ => ⟨o, ?_⟩⟩⟩
    · rw [e] at c; cases c
    · exact x.change h4 ⟨a, j, h1, h2, h3, h4, ws, upd_same, hw⟩ fun b q => ⟨_, rfl⟩

/-! ### operands and results -/
/-- an operand as it may be looked at -/
def OpV (K : PySem.W.Frag) (G H : Hp) (z : V) (d : D) : Prop := Dp K G z d ∨ ∃ a, z = .ref a ∧ OwnAt K G H a d
theorem OpV.dp {z : V} {d : D} (h : OpV K G H z d) (g : Le G H) : Dp K H z d := by
  rcases h with h | ⟨a, rfl, h⟩
  · exact h.mono g _ _
  · cases d with
    | list xs => obtain ⟨vs, h1, h2⟩ := h; exact .lst (.inl (.inl h1)) (h2.mono g _ _)
    | _ => exact h.elim
/-- what is known of an operand behind its step -/
def Got (K : PySem.W.Frag) (G : Hp) (σ : L2.St) (r : RV) (z : V) : Prop := (∃ i, r = .bw i ∧ σ[i]? = some (some z)) ∨ (∃ d, r.dat = some d ∧ r.free = true ∧ Dp K G z d)
theorem Got.mono {r : RV} {z : V} (h : Got K G σ r z) (g : Le G G') : Got K G' σ r z := by
  rcases h with h | ⟨d, h1, h2, h3⟩
  · exact .inl h
  · exact .inr ⟨d, h1, h2, h3.mono g _ _⟩
theorem Got.view {r : RV} {z : V} {d : D} (h : Got K G σ r z) (x : StE K le FR G H ρ σ τ) (e : datOf r ρ = some d) : OpV K G H z d := by
  obtain ⟨o, x⟩ := x
  rcases h with ⟨i, rfl, hz⟩ | ⟨d', h1, h2, h3⟩
  · have e : (match ρ[i]? with | some (.ow v) => some v | some (.io v) => some v | some (.pl v) => some v | _ => none) = some d := e
    cases q : ρ[i]? with
    | none => rw [q] at e; cases e
    | some r =>
      rw [q] at e
      have hh := x.slot i _ q
      rw [hz] at hh
      cases r with
      | un => cases e
      | bw _ => cases e
      | ow2 _ => cases e
      | pl v =>
        obtain rfl := Option.some.inj e
        obtain ⟨v, h1, h2⟩ := hh
        obtain rfl := Option.some.inj h1
        exact .inl h2
      | ow v =>
        obtain rfl := Option.some.inj e
        obtain ⟨a, h1, h2, h3⟩ := hh
        obtain rfl := Option.some.inj h1
        exact .inr ⟨a, rfl, h3⟩
      | io v =>
        obtain rfl := Option.some.inj e
        obtain ⟨a, j, h1, _, _, h2, h3⟩ := hh
        obtain rfl := Option.some.inj h1
        exact .inr ⟨a, rfl, h3⟩
  · have q : datOf r ρ = r.dat := by
      cases r <;> first | rfl | cases h2 | cases h1
    rw [q, h1] at e
    obtain rfl := Option.some.inj e
    exact .inl h3

structure Ext (G H G' H' : Hp) : Prop where
  hh : Le H H'
  gg : Le G G'
  sub : Le G' H'
  old : ∀ a y, H a = some y → G' a = G a
theorem Ext.refl (h : Le G H) : Ext G H G H := ⟨Le.refl _, Le.refl _, h, fun _ _ _ => rfl⟩
theorem Ext.trans {G1 H1 G2 H2 : Hp} (a : Ext G H G1 H1) (b : Ext G1 H1 G2 H2) : Ext G H G2 H2 :=
  ⟨a.hh.trans b.hh, a.gg.trans b.gg, b.sub, fun c y e => (b.old c y (a.hh _ _ e)).trans (a.old c y e)⟩
theorem Ext.newL (h : Le G H) {p : Addr} {u : HO} (hp : H p = none) : Ext G H G (upd H p u) :=
  ⟨le_upd hp, Le.refl _, fun a y e => le_upd hp _ _ (h _ _ e), fun _ _ _ => rfl⟩
theorem Ext.newT (h : Le G H) {p : Addr} {u : HO} (hp : H p = none) : Ext G H (upd G p u) (upd H p u) := by
  have gp : G p = none := h.none hp
  refine ⟨le_upd hp, le_upd gp, fun a y e => ?_, fun a y e => upd_ne fun q => by rw [q, hp] at e; cases e⟩
  by_cases q : a = p
  · subst q; rw [upd_same] at e ⊢; exact e
  · rw [upd_ne q] at e ⊢; exact h _ _ e
/-- an operation's result: plain, or a new object of its own -/
def ResV (K : PySem.W.Frag) (H G' H' : Hp) (z : V) : RV → Prop
  | .pl d => Dp K G' z d
  | .ow d => ∃ p, z = .ref p ∧ H p = none ∧ G' p = none ∧ OwnAt K G' H' p d
  | _ => False
theorem StE.res (x : StE K le FR G H ρ σ τ) (e : Ext G H G' H') {r : RV} {z : V} (h : ResV K H G' H' z r) : StE K le FR G' H' ρ σ ((r, z) :: τ) := by
  obtain ⟨o, x⟩ := x
  have y := x.ext e.hh e.gg e.sub e.old
  cases r with
  | pl d => exact ⟨o, y.push_pl h⟩
  | ow d =>
    obtain ⟨p, rfl, hp, gp, q⟩ := h
    have op : o p = none := by
      cases c : o p with
      | none => rfl
      | some w => obtain ⟨_, u, hu⟩ := x.ow p w c; rw [hp] at hu; cases hu
    have nep : ∀ a w, o a = some w → a ≠ p := fun a w c n => by rw [n, op] at c; cases c
    refine ⟨setOw o p (some (.tmp τ.length)), y.sub, fun a u c => ?_, fun a w c => ?_, y.len, fun i r c => ?_, y.lent, ⟨p, rfl, setOw_same, q⟩, ?_⟩
    · obtain ⟨h1, h2, h3⟩ := y.fr a u c
      have n : a ≠ p := fun n => by rw [n] at c; have := (x.fr p u c).1; rw [hp] at this; cases this
      exact ⟨h1, h2, by rw [setOw_ne n]; exact h3⟩
    · by_cases n : a = p
      · subst n; exact ⟨gp, q.there⟩
      · rw [setOw_ne n] at c; exact y.ow a w c
    · exact (y.slot i r c).mono (Le.refl _) fun a c => ⟨rfl, by rw [setOw_ne (nep a _ c)]; exact c⟩
    · exact y.tmp.mono (Le.refl _) fun k _ a c => ⟨rfl, by rw [setOw_ne (nep a _ c)]; exact c⟩
  | _ => exact h.elim
end
end TK

set_option Elab.async false
set_option linter.all false
set_option maxRecDepth 100000
set_option maxHeartbeats 1000000
/-! TKPrim: what the built-in operations do, over data. -/
namespace TK
open PySem PySem.Spec PyProof.Rows L2
variable {K : PySem.W.Frag}
section
variable {G G' H H' : Hp}

theorem CallR.imp {X : Cx} {f : Value} {r r' : List V → Hp → VK → Prop} (h : CallR X f r) (i : ∀ vs H Q, r' vs H Q → r vs H Q) : CallR X f r' :=
  fun pins s σ H xs us Q I rv q => h pins s σ H xs us Q I rv (i xs H Q q)
theorem OpR.imp {X : Cx} {f : Value → Value → Sem Value} {r r' : R2} (h : OpR X f r) (i : ∀ x y H Q, r' x y H Q → r x y H Q) : OpR X f r' :=
  fun pins s σ H x y v u Q I rx ry q => h pins s σ H x y v u Q I rx ry (i x y H Q q)

/-- a one-place operation, asked -/
def rP1 (K : PySem.W.Frag) (p : P1) : V → Hp → VK → Prop := fun z H Q => ∃ G d r, Le G H ∧ OpV K G H z d ∧ p1 p d = some r ∧ ∀ z' G' H', Ext G H G' H' → ResV K H G' H' z' r → Q z' H'
def rC1 (K : PySem.W.Frag) (p : P1) : List V → Hp → VK → Prop := fun vs H Q => ∃ z, vs = [z] ∧ rP1 K p z H Q
def rP2 (K : PySem.W.Frag) (p : P2) : R2 := fun x y H Q => ∃ G d e r, Le G H ∧ OpV K G H x d ∧ OpV K G H y e ∧ p2 p d e = some r ∧ ∀ z' G' H', Ext G H G' H' → ResV K H G' H' z' r → Q z' H'

/-- a sequence: where it stands -/
theorem OpV.seq {z : V} {d : D} {xs : List D} (h : OpV K G H z d) (g : Le G H) (e : itemsOf d = some xs) :
    ∃ a vs, z = .ref a ∧ ((d = .list xs ∧ SqL K H a vs) ∨ (d = .tuple xs ∧ SqT K H a vs)) ∧ DpAll K G vs xs := by
  cases d with
  | list ys =>
    obtain rfl := Option.some.inj e
    rcases h with h | ⟨a, rfl, vs, h1, h2⟩
    · cases h with
      | lst s q => exact ⟨_, _, rfl, .inl ⟨rfl, sqL_mono g s⟩, q⟩
    · exact ⟨a, vs, rfl, .inl ⟨rfl, .inl (.inl h1)⟩, h2⟩
  | tuple ys =>
    obtain rfl := Option.some.inj e
    rcases h with h | ⟨a, rfl, h1⟩
    · cases h with
      | tup s q => exact ⟨_, _, rfl, .inr ⟨rfl, sqT_mono g s⟩, q⟩
    · exact h1.elim
  | _ => cases e
theorem OpV.int {z : V} {i : Int} (h : OpV K G H z (.int i)) : z = .int i := by
  rcases h with h | ⟨a, rfl, h1⟩
  · cases h; rfl
  · exact h1.elim
theorem OpV.bool {z : V} {i : Bool} (h : OpV K G H z (.bool i)) : z = .bl i := by
  rcases h with h | ⟨a, rfl, h1⟩
  · cases h; rfl
  · exact h1.elim
theorem OpV.str {z : V} {i : Str} (h : OpV K G H z (.str i)) : z = .str i := by
  rcases h with h | ⟨a, rfl, h1⟩
  · cases h; rfl
  · exact h1.elim
theorem OpV.none {z : V} (h : OpV K G H z .none) : z = .non := by
  rcases h with h | ⟨a, rfl, h1⟩
  · cases h; rfl
  · exact h1.elim

/-- new lists and tuples as results -/
theorem res_list (g : Le G H) {vs : List V} {ds : List D} (h : DpAll K G vs ds) {Q : VK} (q : ∀ z' G' H', Ext G H G' H' → ResV K H G' H' z' (.ow (.list ds)) → Q z' H') : ∀ p, H p = none → Q (.ref p) (upd H p (.lst vs)) :=
  fun p hp => q _ _ _ (Ext.newL g hp) ⟨p, rfl, hp, g.none hp, vs, upd_same, h⟩
theorem res_tup (g : Le G H) {vs : List V} {ds : List D} (h : DpAll K G vs ds) {Q : VK} (q : ∀ z' G' H', Ext G H G' H' → ResV K H G' H' z' (.pl (.tuple ds)) → Q z' H') : ∀ p, H p = none → Q (.ref p) (upd H p (.tup vs)) :=
  fun p hp => q _ _ _ (Ext.newT g hp) (.tup (.inl (.inl upd_same)) (h.mono (le_upd (g.none hp)) _ _))
theorem res_pl (g : Le G H) {z : V} {d : D} (h : Dp K G z d) {Q : VK} (q : ∀ z' G' H', Ext G H G' H' → ResV K H G' H' z' (.pl d) → Q z' H') : Q z H := q _ _ _ (Ext.refl g) h

theorem intsOf_vals : ∀ {xs : List D} {ns : List Int} {vs : List V}, intsOf xs = some ns → DpAll K G vs xs → vs = ns.map V.int
  | [], ns, vs, e, h => by
    obtain rfl := Option.some.inj e
    cases h; rfl
  | .int i :: r, ns, vs, e, h => by
    have e : (intsOf r).map (i :: ·) = some ns := e
    cases q : intsOf r with
    | none => rw [q] at e; cases e
    | some ms =>
      rw [q] at e
      obtain rfl := Option.some.inj e
      cases h with
      | cons h1 h2 =>
        cases h1
        rw [intsOf_vals q h2]; rfl
  | .none :: _, _, _, e, _ => by cases e
  | .bool _ :: _, _, _, e, _ => by cases e
  | .str _ :: _, _, _, e, _ => by cases e
  | .list _ :: _, _, _, e, _ => by cases e
  | .tuple _ :: _, _, _, e, _ => by cases e
  | .dict _ :: _, _, _, e, _ => by cases e
theorem boolsOf_vals : ∀ {xs : List D} {ns : List Bool} {vs : List V}, boolsOf xs = some ns → DpAll K G vs xs → vs = ns.map V.bl
  | [], ns, vs, e, h => by
    obtain rfl := Option.some.inj e
    cases h; rfl
  | .bool i :: r, ns, vs, e, h => by
    have e : (boolsOf r).map (i :: ·) = some ns := e
    cases q : boolsOf r with
    | none => rw [q] at e; cases e
    | some ms =>
      rw [q] at e
      obtain rfl := Option.some.inj e
      cases h with
      | cons h1 h2 =>
        cases h1
        rw [boolsOf_vals q h2]; rfl
  | .none :: _, _, _, e, _ => by cases e
  | .int _ :: _, _, _, e, _ => by cases e
  | .str _ :: _, _, _, e, _ => by cases e
  | .list _ :: _, _, _, e, _ => by cases e
  | .tuple _ :: _, _, _, e, _ => by cases e
  | .dict _ :: _, _, _, e, _ => by cases e
end

section
variable {X : Cx}
theorem c_len : CallR X (.builtin "len") (rC1 X.K .len) := CallR.imp call_len_seq fun vs H Q h => by
  obtain ⟨z, rfl, G, d, r, g, hv, e, q⟩ := h
  obtain ⟨xs, hx⟩ : ∃ xs, itemsOf d = some xs ∧ r = .pl (.int xs.length) := by
    cases d <;> first | (cases e; done) | (obtain rfl := Option.some.inj e; exact ⟨_, rfl, rfl⟩)
  obtain ⟨hx, rfl⟩ := hx
  obtain ⟨a, vs, rfl, hs, hd⟩ := hv.seq g hx
  refine ⟨a, vs, rfl, hs.elim (fun h => .inl h.2) (fun h => .inr h.2), ?_⟩
  rw [hd.length]
  exact res_pl g (.int _) q
theorem c_abs : CallR X (.builtin "abs") (rC1 X.K .abs) := CallR.imp call_abs fun vs H Q h => by
  obtain ⟨z, rfl, G, d, r, g, hv, e, q⟩ := h
  cases d with
  | int i =>
    obtain rfl := Option.some.inj e
    obtain rfl := hv.int
    exact ⟨i, rfl, res_pl g (.int _) q⟩
  | _ => cases e
theorem c_int : CallR X (.type "int") (rC1 X.K .int) := CallR.imp call_int1 fun vs H Q h => by
  obtain ⟨z, rfl, G, d, r, g, hv, e, q⟩ := h
  cases d with
  | int i =>
    obtain rfl := Option.some.inj e
    obtain rfl := hv.int
    exact .inl ⟨i, rfl, res_pl g (.int _) q⟩
  | bool b =>
    obtain rfl := Option.some.inj e
    obtain rfl := hv.bool
    exact .inr ⟨b, rfl, res_pl g (.int _) q⟩
  | _ => cases e
theorem c_list : CallR X (.type "list") (rC1 X.K .list) := CallR.imp call_list_of fun vs H Q h => by
  obtain ⟨z, rfl, G, d, r, g, hv, e, q⟩ := h
  obtain ⟨xs, hx, rfl⟩ := Option.map_eq_some_iff.mp (show (itemsOf d).map _ = some r from e)
  obtain ⟨a, vs, rfl, hs, hd⟩ := hv.seq g hx
  exact ⟨a, vs, rfl, hs.elim (fun h => .inl h.2) (fun h => .inr h.2), res_list g hd q⟩
theorem c_tuple : CallR X (.type "tuple") (rC1 X.K .tuple) := CallR.imp call_tuple_of fun vs H Q h => by
  obtain ⟨z, rfl, G, d, r, g, hv, e, q⟩ := h
  obtain ⟨xs, hx, rfl⟩ := Option.map_eq_some_iff.mp (show (itemsOf d).map _ = some r from e)
  obtain ⟨a, vs, rfl, hs, hd⟩ := hv.seq g hx
  refine ⟨a, vs, rfl, ?_⟩
  rcases hs with ⟨rfl, hs⟩ | ⟨rfl, hs⟩
  · exact .inl ⟨hs, res_tup g hd q⟩
  · refine .inr ⟨hs, res_pl g ?_ q⟩
    rcases hv with h | ⟨b, e2, h⟩
    · exact h
    · exact h.elim
theorem c_sum (hc : X.calm = true) : CallR X (.builtin "sum") (rC1 X.K .sum) := CallR.imp (cr_sum hc) fun vs H Q h => by
  obtain ⟨z, rfl, G, d, r, g, hv, e, q⟩ := h
  cases d with
  | list xs =>
    obtain ⟨ns, hn, rfl⟩ := Option.map_eq_some_iff.mp (show (intsOf xs).map _ = some r from e)
    obtain ⟨a, vs, rfl, hs, hd⟩ := hv.seq g rfl
    obtain rfl := intsOf_vals hn hd
    rcases hs with ⟨_, hs⟩ | ⟨c, _⟩
    · exact ⟨a, ns, rfl, hs, res_pl g (.int _) q⟩
    · cases c
  | _ => cases e
theorem c_any (hc : X.calm = true) : CallR X (.builtin "any") (rC1 X.K .any) := CallR.imp (cr_any hc) fun vs H Q h => by
  obtain ⟨z, rfl, G, d, r, g, hv, e, q⟩ := h
  cases d with
  | list xs =>
    obtain ⟨ns, hn, rfl⟩ := Option.map_eq_some_iff.mp (show (boolsOf xs).map _ = some r from e)
    obtain ⟨a, vs, rfl, hs, hd⟩ := hv.seq g rfl
    obtain rfl := boolsOf_vals hn hd
    rcases hs with ⟨_, hs⟩ | ⟨c, _⟩
    · exact ⟨a, ns, rfl, hs, res_pl g (.bl _) q⟩
    · cases c
  | _ => cases e
theorem c_all (hc : X.calm = true) : CallR X (.builtin "all") (rC1 X.K .all) := CallR.imp (cr_all hc) fun vs H Q h => by
  obtain ⟨z, rfl, G, d, r, g, hv, e, q⟩ := h
  cases d with
  | list xs =>
    obtain ⟨ns, hn, rfl⟩ := Option.map_eq_some_iff.mp (show (boolsOf xs).map _ = some r from e)
    obtain ⟨a, vs, rfl, hs, hd⟩ := hv.seq g rfl
    obtain rfl := boolsOf_vals hn hd
    rcases hs with ⟨_, hs⟩ | ⟨c, _⟩
    · exact ⟨a, ns, rfl, hs, res_pl g (.bl _) q⟩
    · cases c
  | _ => cases e

/-! ### isinstance -/
/-- the built-in type of a datum -/
def tyD : D → String
  | .none => "NoneType" | .bool _ => "bool" | .int _ => "int" | .str _ => "str" | .list _ => "list" | .tuple _ => "tuple" | .dict _ => "dict"
theorem dp_ty {H : Hp} {z : V} {d : D} (h : Dp K H z d) : TyX K H z (.type (tyD d)) := by
  cases h with
  | non => exact .base .non
  | bl b => exact .base (.bl b)
  | int i => exact .base (.int i)
  | str x => exact .base (.str x)
  | lst s q =>
    rcases s with (s | ⟨o, s⟩) | ⟨o, its, n, h1, h2, _⟩
    · exact .base (.lst s)
    · exact .base (.frz s)
    · exact .kList h1 h2
  | tup s q =>
    rcases s with (s | ⟨o, s⟩) | ⟨o, its, n, h1, h2, _⟩
    · exact .base (.tup s)
    · exact .fTuple s
    · exact .kTuple h1 h2
def isiName : P1 → String
  | .isInt => "int" | .isBool => "bool" | .isTuple => "tuple" | .isStr => "str" | _ => "list"
def isiB (p : P1) : Bool := match p with
  | .isInt => true | .isBool => true | .isTuple => true | .isStr => true | .isList => true | _ => false
theorem isi_kit (p : P1) (hp : isiB p = true) (d : D) (hd : ∀ k, d ≠ .dict k) : ∃ b, kitB (tyD d) (isiName p) = some b ∧ p1 p d = some (.pl (.bool b)) := by
  cases d with
  | dict k => exact absurd rfl (hd k)
  | none => cases p <;> first | exact absurd hp (by decide) | exact ⟨false, by decide +kernel, rfl⟩
  | bool x => cases p <;> first | exact absurd hp (by decide) | exact ⟨false, by show kitB "bool" _ = _; decide +kernel, rfl⟩ | exact ⟨true, by show kitB "bool" _ = _; decide +kernel, rfl⟩
  | int x => cases p <;> first | exact absurd hp (by decide) | exact ⟨false, by show kitB "int" _ = _; decide +kernel, rfl⟩ | exact ⟨true, by show kitB "int" _ = _; decide +kernel, rfl⟩
  | str x => cases p <;> first | exact absurd hp (by decide) | exact ⟨false, by show kitB "str" _ = _; decide +kernel, rfl⟩ | exact ⟨true, by show kitB "str" _ = _; decide +kernel, rfl⟩
  | list x => cases p <;> first | exact absurd hp (by decide) | exact ⟨false, by show kitB "list" _ = _; decide +kernel, rfl⟩ | exact ⟨true, by show kitB "list" _ = _; decide +kernel, rfl⟩
  | tuple x => cases p <;> first | exact absurd hp (by decide) | exact ⟨false, by show kitB "tuple" _ = _; decide +kernel, rfl⟩ | exact ⟨true, by show kitB "tuple" _ = _; decide +kernel, rfl⟩
theorem dp_nodict {H : Hp} {z : V} {d : D} (h : Dp K H z d) : ∀ k, d ≠ .dict k := fun k e => by subst e; cases h
/-- isinstance(x, T): the type's name is the second argument -/
def rIs (K : PySem.W.Frag) (p : P1) : List V → Hp → VK → Prop := fun vs H Q => ∃ z, vs = [z, .ty (isiName p)] ∧ rP1 K p z H Q
theorem c_isi (p : P1) (hp : isiB p = true) : CallR X (.builtin "isinstance") (rIs X.K p) := CallR.imp call_isi fun vs H Q h => by
  obtain ⟨z, rfl, G, d, r, g, hv, e, q⟩ := h
  have hd := hv.dp g
  obtain ⟨b, h1, h2⟩ := isi_kit p hp d (dp_nodict hd)
  rw [h2] at e
  obtain rfl := Option.some.inj e
  exact ⟨z, .ty (isiName p), _, _, b, rfl, .ty _, dp_ty hd, kit_ty h1, res_pl g (.bl _) q⟩

/-! ### unary operators -/
theorem u_neg : UnR X (unaryOp .USub) (rP1 X.K .neg) := fun pins s σ H x v Q I rx h => by
  obtain ⟨G, d, r, g, hv, e, q⟩ := h
  cases d with
  | int i =>
    obtain rfl := Option.some.inj e
    obtain rfl := hv.int
    exact un_neg pins s σ H _ v Q I rx ⟨i, rfl, res_pl g (.int _) q⟩
  | _ => cases e
theorem u_inv : UnR X (unaryOp .Invert) (rP1 X.K .inv) := fun pins s σ H x v Q I rx h => by
  obtain ⟨G, d, r, g, hv, e, q⟩ := h
  cases d with
  | int i =>
    obtain rfl := Option.some.inj e
    obtain rfl := hv.int
    exact un_inv pins s σ H _ v Q I rx ⟨i, rfl, res_pl g (.int _) q⟩
  | _ => cases e

/-! ### operators on two ints -/
theorem int2_some {f : Int → Int → Option RV} {d e : D} {r : RV} (h : int2 f d e = some r) : ∃ i j, d = .int i ∧ e = .int j ∧ f i j = some r := by
  cases d <;> cases e <;> first | exact ⟨_, _, rfl, rfl, h⟩ | cases h
theorem o_int {f : Value → Value → Sem Value} {p : P2} {C : Int → Int → Prop} {gi : Int → Int → Int} (ho : OpR X f (rI C fun i j => .int (gi i j)))
    (hp : ∀ d e r, p2 p d e = some r → ∃ i j, d = .int i ∧ e = .int j ∧ C i j ∧ r = .pl (.int (gi i j))) : OpR X f (rP2 X.K p) := OpR.imp ho fun x y H Q h => by
  obtain ⟨G, d, e, r, g, hx, hy, ep, q⟩ := h
  obtain ⟨i, j, rfl, rfl, hc, rfl⟩ := hp d e r ep
  obtain rfl := hx.int
  obtain rfl := hy.int
  exact ⟨i, j, rfl, rfl, hc, res_pl g (.int _) q⟩
theorem o_int0 {f : Value → Value → Sem Value} {p : P2} {gi : Int → Int → Int} (ho : OpR X f (rI0 fun i j => .int (gi i j)))
    (hp : ∀ d e r, p2 p d e = some r → ∃ i j, d = .int i ∧ e = .int j ∧ r = .pl (.int (gi i j))) : OpR X f (rP2 X.K p) := OpR.imp ho fun x y H Q h => by
  obtain ⟨G, d, e, r, g, hx, hy, ep, q⟩ := h
  obtain ⟨i, j, rfl, rfl, rfl⟩ := hp d e r ep
  obtain rfl := hx.int
  obtain rfl := hy.int
  exact ⟨i, j, rfl, rfl, res_pl g (.int _) q⟩
theorem o_bl0 {f : Value → Value → Sem Value} {p : P2} {gi : Int → Int → Bool} (ho : OpR X f (rI0 fun i j => .bl (gi i j)))
    (hp : ∀ d e r, p2 p d e = some r → ∃ i j, d = .int i ∧ e = .int j ∧ r = .pl (.bool (gi i j))) : OpR X f (rP2 X.K p) := OpR.imp ho fun x y H Q h => by
  obtain ⟨G, d, e, r, g, hx, hy, ep, q⟩ := h
  obtain ⟨i, j, rfl, rfl, rfl⟩ := hp d e r ep
  obtain rfl := hx.int
  obtain rfl := hy.int
  exact ⟨i, j, rfl, rfl, res_pl g (.bl _) q⟩
theorem some_of {α : Type} {c : Prop} [Decidable c] {a r : α} (h : (if c then some a else none) = some r) : c ∧ r = a := by
  by_cases q : c
  · rw [if_pos q] at h; exact ⟨q, (Option.some.inj h).symm⟩
  · rw [if_neg q] at h; cases h
theorem o_sub : OpR X (binaryOp .Sub) (rP2 X.K .sub) := o_int0 op_sub fun d e r h => by
  obtain ⟨i, j, rfl, rfl, h⟩ := int2_some h
  exact ⟨i, j, rfl, rfl, (Option.some.inj h).symm⟩
theorem o_band : OpR X (binaryOp .BitAnd) (rP2 X.K .band) := o_int0 op_and fun d e r h => by
  obtain ⟨i, j, rfl, rfl, h⟩ := int2_some h
  exact ⟨i, j, rfl, rfl, (Option.some.inj h).symm⟩
theorem o_bor : OpR X (binaryOp .BitOr) (rP2 X.K .bor) := o_int0 op_or fun d e r h => by
  obtain ⟨i, j, rfl, rfl, h⟩ := int2_some h
  exact ⟨i, j, rfl, rfl, (Option.some.inj h).symm⟩
theorem o_bxor : OpR X (binaryOp .BitXor) (rP2 X.K .bxor) := o_int0 op_xor fun d e r h => by
  obtain ⟨i, j, rfl, rfl, h⟩ := int2_some h
  exact ⟨i, j, rfl, rfl, (Option.some.inj h).symm⟩
theorem o_fdiv : OpR X (binaryOp .FloorDiv) (rP2 X.K .fdiv) := o_int op_fdiv fun d e r h => by
  obtain ⟨i, j, rfl, rfl, h⟩ := int2_some h
  obtain ⟨c, rfl⟩ := some_of h
  exact ⟨i, j, rfl, rfl, c, rfl⟩
theorem o_mod : OpR X (binaryOp .Mod) (rP2 X.K .mod) := o_int op_mod fun d e r h => by
  obtain ⟨i, j, rfl, rfl, h⟩ := int2_some h
  obtain ⟨c, rfl⟩ := some_of h
  exact ⟨i, j, rfl, rfl, c, rfl⟩
theorem o_shl : OpR X (binaryOp .LShift) (rP2 X.K .shl) := o_int op_shl fun d e r h => by
  obtain ⟨i, j, rfl, rfl, h⟩ := int2_some h
  obtain ⟨c, rfl⟩ := some_of h
  exact ⟨i, j, rfl, rfl, c, rfl⟩
theorem o_shr : OpR X (binaryOp .RShift) (rP2 X.K .shr) := o_int op_shr fun d e r h => by
  obtain ⟨i, j, rfl, rfl, h⟩ := int2_some h
  obtain ⟨c, rfl⟩ := some_of h
  exact ⟨i, j, rfl, rfl, c, rfl⟩
theorem o_le : OpR X (compareOp .LtE) (rP2 X.K .le) := o_bl0 op_le fun d e r h => by
  obtain ⟨i, j, rfl, rfl, h⟩ := int2_some h
  exact ⟨i, j, rfl, rfl, (Option.some.inj h).symm⟩
theorem o_gt : OpR X (compareOp .Gt) (rP2 X.K .gt) := o_bl0 op_gt fun d e r h => by
  obtain ⟨i, j, rfl, rfl, h⟩ := int2_some h
  exact ⟨i, j, rfl, rfl, (Option.some.inj h).symm⟩
theorem o_ge : OpR X (compareOp .GtE) (rP2 X.K .ge) := o_bl0 op_ge fun d e r h => by
  obtain ⟨i, j, rfl, rfl, h⟩ := int2_some h
  exact ⟨i, j, rfl, rfl, (Option.some.inj h).symm⟩
theorem c_max2 (hc : X.calm = true) : CallR X (.builtin "max") (fun vs H Q => ∃ x y, vs = [x, y] ∧ rP2 X.K .max2 x y H Q) := CallR.imp (call_max2 hc) fun vs H Q h => by
  obtain ⟨x, y, rfl, G, d, e, r, g, hx, hy, ep, q⟩ := h
  obtain ⟨i, j, rfl, rfl, h⟩ := int2_some ep
  obtain rfl := Option.some.inj h
  obtain rfl := hx.int
  obtain rfl := hy.int
  exact ⟨i, j, rfl, res_pl g (.int _) q⟩
theorem c_min2 (hc : X.calm = true) : CallR X (.builtin "min") (fun vs H Q => ∃ x y, vs = [x, y] ∧ rP2 X.K .min2 x y H Q) := CallR.imp (call_min2 hc) fun vs H Q h => by
  obtain ⟨x, y, rfl, G, d, e, r, g, hx, hy, ep, q⟩ := h
  obtain ⟨i, j, rfl, rfl, h⟩ := int2_some ep
  obtain rfl := Option.some.inj h
  obtain rfl := hx.int
  obtain rfl := hy.int
  exact ⟨i, j, rfl, res_pl g (.int _) q⟩
end
end TK

set_option Elab.async false
set_option linter.all false
set_option maxRecDepth 100000
set_option maxHeartbeats 1000000
/-! TKPrim2: operators over sequences, comparisons, subscripts. -/
namespace TK
open PySem PySem.Spec PyProof.Rows L2
variable {K : PySem.W.Frag}
section
variable {X : Cx}
/-- two lists, wherever they stand -/
theorem add_lists_at {pins : List (Addr × Obj)} {s : Shared} {σ : L2.St} {H : Hp} {a b : Addr} {xs ys : List V} {Q : VK} (I : Inv X pins σ H s) (ha : SqL X.K H a xs) (hb : SqL X.K H b ys) (hz : xs.length + ys.length ≤ sizeLine)
    (q : ∀ p, H p = none → Q (.ref p) (upd H p (.lst (xs ++ ys)))) : wpAny (model X.prog X.w) X.A (binaryOp .Add (.ref a) (.ref b)) (EP X pins σ Q) X.xe s := by
  obtain ⟨its, r1, p1, _⟩ := I.list ha
  obtain ⟨its2, r2, p2, _⟩ := I.list hb
  obtain ⟨⟨cls, dd, data, sl⟩, ho, hc, n, hd⟩ := id p1.isList
  obtain ⟨⟨cls2, dd2, data2, sl2⟩, ho2, hc2, n2, hd2⟩ := id p2.isList
  simp only at hc hd hc2 hd2
  subst hc hd hc2 hd2
  have e : its.toArray ++ its2.toArray = (its ++ its2).toArray := by simp
  have hl1 := r1.length
  have hl2 := r2.length
  refine concat_meets ⟨_, ho, rfl⟩ ⟨_, ho2, rfl⟩ noFill_list_add seq_list_add PySem.F.slot_list_add PySem.F.entry_list_add (PySem.F.args_list_add_2 _ _) (list_addW a b its.toArray its2.toArray n n2 dd dd2 sl sl2 (by simp only [List.size_toArray]; omega)) ⟨ho, ho2, ?_⟩
  rw [e]
  exact ⟨.ref _, _, I.lnew (t' := s.toks) (r1.append r2) (by rw [List.length_append]; exact hz), rfl, q _ I.fresh⟩
theorem line_eq : (16777216 : Nat) = sizeLine := sizeLine_eq.symm
theorem o_add : OpR X (binaryOp .Add) (rP2 X.K .add) := fun pins s σ H x y v u Q I rx ry h => by
  obtain ⟨G, d, e, r, g, hx, hy, ep, q⟩ := h
  cases d with
  | int i =>
    cases e with
    | int j =>
      obtain rfl := Option.some.inj ep
      obtain rfl := hx.int
      obtain rfl := hy.int
      exact op_add pins s σ H _ _ v u Q I rx ry ⟨i, j, rfl, rfl, res_pl g (.int _) q⟩
    | _ => cases ep
  | list xs =>
    cases e with
    | list ys =>
      obtain ⟨hz, rfl⟩ := some_of (show (if xs.length + ys.length ≤ 16777216 then _ else _) = _ from ep)
      obtain ⟨a, vs, rfl, hs, hd⟩ := hx.seq g rfl
      obtain ⟨b, ws, rfl, hs2, hd2⟩ := hy.seq g rfl
      rcases hs with ⟨_, hs⟩ | ⟨c, _⟩
      · rcases hs2 with ⟨_, hs2⟩ | ⟨c, _⟩
        · cases rx
          cases ry
          refine add_lists_at I hs hs2 ?_ (res_list g (hd.append hd2) q)
          rw [hd.length, hd2.length, ← line_eq]; exact hz
        · cases c
      · cases c
    | _ => cases ep
  | tuple xs =>
    cases e with
    | tuple ys =>
      obtain ⟨hz, rfl⟩ := some_of (show (if xs.length + ys.length ≤ 16777216 then _ else _) = _ from ep)
      obtain ⟨a, vs, rfl, hs, hd⟩ := hx.seq g rfl
      obtain ⟨b, ws, rfl, hs2, hd2⟩ := hy.seq g rfl
      rcases hs with ⟨c, _⟩ | ⟨_, hs⟩
      · cases c
      · rcases hs2 with ⟨c, _⟩ | ⟨_, hs2⟩
        · cases c
        · have px : Dp X.K G (.ref a) (.tuple xs) := by
            rcases hx with h | ⟨_, _, h⟩
            · exact h
            · exact h.elim
          have py : Dp X.K G (.ref b) (.tuple ys) := by
            rcases hy with h | ⟨_, _, h⟩
            · exact h
            · exact h.elim
          refine op_catA pins s σ H _ _ v u Q I rx ry ⟨a, b, vs, ws, rfl, rfl, hs, hs2, ?_, fun c => ?_, fun _ c => ?_, fun _ _ => res_tup g (hd.append hd2) q⟩
          · rw [hd.length, hd2.length, ← line_eq]; exact hz
          · subst c
            cases hd
            exact res_pl g py q
          · subst c
            cases hd2
            rw [List.append_nil] at q
            exact res_pl g px q
    | _ => cases ep
  | _ => cases ep

/-! ### comparisons of data -/
theorem o_eq (hu : X.A.units + 64 < cLine) : OpR X (compareOp .Eq) (rP2 X.K .eq) := OpR.imp (op_eqD hu) fun x y H Q h => by
  obtain ⟨G, d, e, r, g, hx, hy, ep, q⟩ := h
  obtain ⟨c, rfl⟩ := some_of (show (if eqOk d e = true then _ else _) = _ from ep)
  have c' := Bool.and_eq_true_iff.mp c
  exact ⟨d, e, hx.dp g, hy.dp g, c'.1, c'.2, res_pl g (.bl _) q⟩
theorem o_ne (hu : X.A.units + 64 < cLine) : OpR X (compareOp .NotEq) (rP2 X.K .ne) := OpR.imp (op_neD hu) fun x y H Q h => by
  obtain ⟨G, d, e, r, g, hx, hy, ep, q⟩ := h
  obtain ⟨c, rfl⟩ := some_of (show (if eqOk d e = true then _ else _) = _ from ep)
  have c' := Bool.and_eq_true_iff.mp c
  exact ⟨d, e, hx.dp g, hy.dp g, c'.1, c'.2, res_pl g (.bl _) q⟩
theorem lt_some {d e : D} {r : RV} (h : p2 .lt d e = some r) : (∃ i j, d = .int i ∧ e = .int j ∧ r = .pl (.bool (decide (i < j)))) ∨ (ltOk d e = true ∧ r = .pl (.bool (PySem.W.dataLt d e))) := by
  cases d with
  | int i =>
    cases e with
    | int j => exact .inl ⟨i, j, rfl, rfl, (Option.some.inj h).symm⟩
    | _ => exact .inr (some_of h)
  | _ => exact .inr (some_of h)
theorem o_lt (hu : X.A.units + 64 < cLine) : OpR X (compareOp .Lt) (rP2 X.K .lt) := fun pins s σ H x y v u Q I rx ry h => by
  obtain ⟨G, d, e, r, g, hx, hy, ep, q⟩ := h
  rcases lt_some ep with ⟨i, j, rfl, rfl, rfl⟩ | ⟨c, rfl⟩
  · obtain rfl := hx.int
    obtain rfl := hy.int
    exact op_lt pins s σ H _ _ v u Q I rx ry ⟨i, j, rfl, rfl, res_pl g (.bl _) q⟩
  · obtain ⟨c1, c2⟩ := Bool.and_eq_true_iff.mp c
    obtain ⟨c0, c1⟩ := Bool.and_eq_true_iff.mp c1
    have c2 : d.depth ≤ 8 := of_decide_eq_true c2
    obtain ⟨as, r1⟩ := Dp.reads I d x v (hx.dp g) rx
    obtain ⟨bs, r2⟩ := Dp.reads I e y u (hy.dp g) ry
    have hn : d ≠ .none := fun n => by subst n; cases c1
    have hm : X.A.units + min d.depth e.depth < cLine := by
      have := Nat.min_le_left d.depth e.depth
      omega
    exact PySem.W.lt_data r1 r2 c0 hn hm ⟨.bl _, H, I, rfl, res_pl g (.bl _) q⟩
theorem all_shaped : ∀ {ys : List D}, ys.all SeqAt.shaped = true → PyData.canLayAll0 ys = true
  | [], _ => by simp [PyData.canLayAll0]
  | y :: ys, h => by
    rw [List.all_cons, Bool.and_eq_true] at h
    simp only [PyData.canLayAll0, Bool.and_eq_true]
    exact ⟨SeqAt.canLay_of_shaped h.1, all_shaped h.2⟩
theorem in_room {d : D} {n : Nat} (hu : X.A.units + 65 < cLine) (h : SeqAt.shaped d = true) : X.A.units + 1 + min n d.depth < cLine := by
  have h1 := SeqAt.depth_of_shaped h
  have h2 := Nat.min_le_right n d.depth
  omega
theorem o_in (hu : X.A.units + 65 < cLine) : OpR X (compareOp .In) (rP2 X.K .inn) := fun pins s σ H x y v u Q I rx ry h => by
  obtain ⟨G, d, e, r, g, hx, hy, ep, q⟩ := h
  obtain ⟨ys, hi, ep⟩ := Option.bind_eq_some_iff.mp (show (itemsOf e).bind _ = _ from ep)
  obtain ⟨c, rfl⟩ := some_of ep
  obtain ⟨c1, c2⟩ := Bool.and_eq_true_iff.mp c
  obtain ⟨as, r1⟩ := Dp.reads I d x v (hx.dp g) rx
  obtain ⟨bs, r2⟩ := Dp.reads I e y u (hy.dp g) ry
  have fin : EP X pins σ Q (.bool (inD d ys)) s := ⟨.bl _, H, I, rfl, res_pl g (.bl _) q⟩
  cases e with
  | list zs =>
    obtain rfl := Option.some.inj hi
    exact SeqAt.in_list_reads r2 r1 (all_shaped c2) (SeqAt.canLay_of_shaped c1) (in_room hu c1) fin
  | tuple zs =>
    obtain rfl := Option.some.inj hi
    exact SeqAt.in_tuple_reads r2 r1 (all_shaped c2) (SeqAt.canLay_of_shaped c1) (in_room hu c1) fin
  | _ => cases hi
theorem o_notin (hu : X.A.units + 65 < cLine) : OpR X (compareOp .NotIn) (rP2 X.K .notin) := fun pins s σ H x y v u Q I rx ry h => by
  obtain ⟨G, d, e, r, g, hx, hy, ep, q⟩ := h
  obtain ⟨ys, hi, ep⟩ := Option.bind_eq_some_iff.mp (show (itemsOf e).bind _ = _ from ep)
  obtain ⟨c, rfl⟩ := some_of ep
  obtain ⟨c1, c2⟩ := Bool.and_eq_true_iff.mp c
  obtain ⟨as, r1⟩ := Dp.reads I d x v (hx.dp g) rx
  obtain ⟨bs, r2⟩ := Dp.reads I e y u (hy.dp g) ry
  have fin : EP X pins σ Q (.bool (!inD d ys)) s := ⟨.bl _, H, I, rfl, res_pl g (.bl _) q⟩
  cases e with
  | list zs =>
    obtain rfl := Option.some.inj hi
    exact SeqAt.notIn_list_reads r2 r1 (all_shaped c2) (SeqAt.canLay_of_shaped c1) (in_room hu c1) fin
  | tuple zs =>
    obtain rfl := Option.some.inj hi
    exact SeqAt.notIn_tuple_reads r2 r1 (all_shaped c2) (SeqAt.canLay_of_shaped c1) (in_room hu c1) fin
  | _ => cases hi

/-! ### is None, is True .. -/
theorem none_dp {H : Hp} {z : V} {d : D} (h : Dp K H z d) : (decide (z = .non)) = isNoneD d := by
  cases h <;> rfl
theorem o_isNone : OpR X (compareOp .Is) (fun x y H Q => y = .non ∧ rP1 X.K .isNone x H Q) := OpR.imp op_isN fun x y H Q h => by
  obtain ⟨rfl, G, d, r, g, hx, ep, q⟩ := h
  obtain rfl := Option.some.inj ep
  refine ⟨rfl, ?_⟩
  rw [none_dp (hx.dp g)]
  exact res_pl g (.bl _) q
theorem o_notNone : OpR X (compareOp .IsNot) (fun x y H Q => y = .non ∧ rP1 X.K .notNone x H Q) := OpR.imp op_notN fun x y H Q h => by
  obtain ⟨rfl, G, d, r, g, hx, ep, q⟩ := h
  obtain rfl := Option.some.inj ep
  refine ⟨rfl, ?_⟩
  rw [none_dp (hx.dp g)]
  exact res_pl g (.bl _) q
theorem o_isTrue : OpR X (compareOp .Is) (fun x y H Q => y = .bl true ∧ rP1 X.K .isTrue x H Q) := OpR.imp op_isBl fun x y H Q h => by
  obtain ⟨rfl, G, d, r, g, hx, ep, q⟩ := h
  cases d with
  | bool b =>
    obtain rfl := Option.some.inj ep
    obtain rfl := hx.bool
    refine ⟨b, true, rfl, rfl, ?_⟩
    rw [show decide (b = true) = b by cases b <;> rfl]
    exact res_pl g (.bl _) q
  | _ => cases ep
theorem o_isFalse : OpR X (compareOp .Is) (fun x y H Q => y = .bl false ∧ rP1 X.K .isFalse x H Q) := OpR.imp op_isBl fun x y H Q h => by
  obtain ⟨rfl, G, d, r, g, hx, ep, q⟩ := h
  cases d with
  | bool b =>
    obtain rfl := Option.some.inj ep
    obtain rfl := hx.bool
    refine ⟨b, false, rfl, rfl, ?_⟩
    rw [show decide (b = false) = !b by cases b <;> rfl]
    exact res_pl g (.bl _) q
  | _ => cases ep
theorem o_notTrue : OpR X (compareOp .IsNot) (fun x y H Q => y = .bl true ∧ rP1 X.K .notTrue x H Q) := OpR.imp op_notBl fun x y H Q h => by
  obtain ⟨rfl, G, d, r, g, hx, ep, q⟩ := h
  cases d with
  | bool b =>
    obtain rfl := Option.some.inj ep
    obtain rfl := hx.bool
    refine ⟨b, true, rfl, rfl, ?_⟩
    rw [show (!decide (b = true)) = !b by cases b <;> rfl]
    exact res_pl g (.bl _) q
  | _ => cases ep
theorem o_notFalse : OpR X (compareOp .IsNot) (fun x y H Q => y = .bl false ∧ rP1 X.K .notFalse x H Q) := OpR.imp op_notBl fun x y H Q h => by
  obtain ⟨rfl, G, d, r, g, hx, ep, q⟩ := h
  cases d with
  | bool b =>
    obtain rfl := Option.some.inj ep
    obtain rfl := hx.bool
    refine ⟨b, false, rfl, rfl, ?_⟩
    rw [show (!decide (b = false)) = b by cases b <;> rfl]
    exact res_pl g (.bl _) q
  | _ => cases ep

/-! ### truth -/
theorem truth_tru {H : Hp} {z : V} {d : D} {b : Bool} (h : Dp K H z d) (e : truth d = some b) : TruV K z H b := by
  cases h with
  | non => obtain rfl := Option.some.inj e; rfl
  | bl b => obtain rfl := Option.some.inj e; rfl
  | int i => obtain rfl := Option.some.inj e; rfl
  | str x =>
    obtain ⟨c, rfl⟩ := some_of (show (if x.length ≤ 16777216 then _ else _) = _ from e)
    exact ⟨by rw [← line_eq]; exact c, rfl⟩
  | lst s q =>
    obtain rfl := Option.some.inj e
    refine .inl ⟨_, s, ?_⟩
    cases q <;> rfl
  | tup s q =>
    obtain rfl := Option.some.inj e
    refine .inr (.inl ⟨_, s, ?_⟩)
    cases q <;> rfl

/-! ### times -/
theorem mul_list_at {pins : List (Addr × Obj)} {s : Shared} {σ : L2.St} {H : Hp} {a : Addr} {xs : List V} {k : Int} {t : Tok} {Q : VK} (I : Inv X pins σ H s) (ha : SqL X.K H a xs) (h1 : -(2 ^ 63) ≤ k) (h2 : k < 2 ^ 63) (hz : xs.length * k.toNat ≤ 16777216)
    (q : ∀ p, H p = none → Q (.ref p) (upd H p (.lst (List.replicate k.toNat xs).flatten))) : wpAny (model X.prog X.w) X.A (binaryOp .Mult (.ref a) (.int k t)) (EP X pins σ Q) X.xe s := by
  obtain ⟨its, r1, p1, _⟩ := I.list ha
  obtain ⟨⟨cls, dd, data, sl⟩, ho, hc, n, hd⟩ := id p1.isList
  simp only at hc hd
  subst hc hd
  have hl := r1.length
  have hsz' : its.toArray.size * k.toNat ≤ 2 ^ 24 := by rw [List.size_toArray, ← hl]; exact hz
  refine wpAny_binaryOp_repeat_ref (T := "list") (U := "int") (by decide) ⟨_, ho, rfl⟩ (fun s' => typeIs_int s' k t) noFill_list_mul F.fills_int_mul F.slot_int_rmul repeat_list F.slot_int_index.lookup
    (call_meets F.slot_int_rmul (typeIs_int s k t) F.entry_int_rmul (F.args_int_rmul_2 _ _) (lm_int_rmul_list_any k t a its.toArray n dd sl)
      ⟨ho, rfl, ⟨_, ho, rfl⟩, call_meets F.slot_list_mul ⟨_, ho, rfl⟩ F.entry_list_mul (F.args_list_mul_2 _ _)
        (lm_list_mul_any a its.toArray n dd sl k t (by simp [Builtin.List.listFitsIndex]; omega) (by omega) (by simp [Builtin.List.listTooLong, sizeLine]; simp at hsz'; omega))
        ⟨ho, ?_⟩⟩)
  rw [listMul_foldl_if]
  exact ⟨.ref _, _, I.lnew (t' := s.toks) (r1.rep k.toNat) (by rw [PyProof.Rows.lm_len_rep_flat, Nat.mul_comm, ← line_eq]; exact hz), rfl, q _ I.fresh⟩
end
end TK

set_option Elab.async false
set_option linter.all false
set_option maxRecDepth 100000
set_option maxHeartbeats 4000000
/-! TKPrim3: times, subscripts, slices, turned round. -/
namespace TK
open PySem PySem.Spec PyProof.Rows L2
variable {K : PySem.W.Frag}
theorem tuple_mul1 (l : Addr) (items : Array Value) (n : Nat) (dd : Option Addr) (sl : Array (Option Value)) (u : Tok) :
    Meets (Builtin.«tuple.__mul__» ⟨[.ref l, .int 1 u], []⟩) (fun _ R s => s.heap.get? l = some { cls := .type "tuple", dict := dd, data := .seq items n, slots := sl } ∧ R (.ok (.ret (Value.ref l))) s) :=
  .of_wp fun prog w A R s h => by
    obtain ⟨hp, g, d, tk, os⟩ := s
    obtain ⟨hl, h⟩ := h
    have f1 := AutoSeq1.idx_int
    wp_walk using wpAny_loadPart' hl
    repeat (first
      | (refine wpAny_ite_false (decide_eq_false (by decide)) ?_; wp_walk using wpAny_loadPart' hl)
      | (refine wpAny_ite_true (decide_eq_true (by simp)) ?_; wp_walk using wpAny_loadPart' hl))
    exact ⟨_, rfl, h⟩
section
variable {X : Cx}
theorem mul_tup1_at {pins : List (Addr × Obj)} {s : Shared} {σ : L2.St} {H : Hp} {a : Addr} {xs : List V} {t : Tok} {Q : VK} (I : Inv X pins σ H s) (ha : SqT X.K H a xs) (q : Q (.ref a) H) :
    wpAny (model X.prog X.w) X.A (binaryOp .Mult (.ref a) (.int 1 t)) (EP X pins σ Q) X.xe s := by
  obtain ⟨its, r, ⟨⟨cls, dd, data, sl⟩, ho, hc, n, hd⟩, hs⟩ := I.tuple ha
  simp only at hc hd
  subst hc hd
  exact wpAny_binaryOp_repeat_ref (T := "tuple") (U := "int") (by decide) ⟨_, ho, rfl⟩ (fun s' => typeIs_int s' 1 t) noFill_tuple_mul F.fills_int_mul F.slot_int_rmul repeat_tuple F.slot_int_index.lookup
    (call_meets F.slot_int_rmul (typeIs_int s 1 t) F.entry_int_rmul (F.args_int_rmul_2 _ _) (int_rmul_tuple 1 t a its.toArray n dd sl)
      ⟨ho, rfl, ⟨_, ho, rfl⟩, call_meets F.slot_tuple_mul ⟨_, ho, rfl⟩ F.entry_tuple_mul (F.args_tuple_mul_2 _ _) (tuple_mul1 a its.toArray n dd sl t) ⟨ho, ⟨.ref a, H, I, rfl, q⟩⟩⟩)
theorem OpV.tup {G H : Hp} {a : Addr} {xs : List D} (h : OpV K G H (.ref a) (.tuple xs)) : Dp K G (.ref a) (.tuple xs) := by
  rcases h with h | ⟨_, _, h⟩
  · exact h
  · exact h.elim
theorem o_mul : OpR X (binaryOp .Mult) (rP2 X.K .mul) := fun pins s σ H x y v u Q I rx ry h => by
  obtain ⟨G, d, e, r, g, hx, hy, ep, q⟩ := h
  cases e with
  | int k =>
    obtain rfl := hy.int
    cases d with
    | int i =>
      obtain ⟨c, rfl⟩ := some_of (show (if _ then _ else _) = _ from ep)
      obtain rfl := hx.int
      exact op_mul pins s σ H _ _ v u Q I rx ry ⟨i, k, rfl, rfl, c, res_pl g (.int _) q⟩
    | list xs =>
      obtain ⟨⟨c1, c2, c3⟩, rfl⟩ := some_of (show (if _ then _ else _) = _ from ep)
      obtain ⟨a, vs, rfl, hs, hd⟩ := hx.seq g rfl
      rcases hs with ⟨_, hs⟩ | ⟨c, _⟩
      · cases rx
        obtain ⟨t, rfl⟩ := ry
        exact mul_list_at I hs c1 c2 (by rw [hd.length]; exact c3) (res_list g (hd.flat k.toNat) q)
      · cases c
    | tuple xs =>
      obtain ⟨a, vs, rfl, hs, hd⟩ := hx.seq g rfl
      rcases hs with ⟨c, _⟩ | ⟨_, hs⟩
      · cases c
      · have ep : (if xs.length ≠ 0 ∧ 2 ≤ k ∧ k ≤ 1000 ∧ xs.length ≤ 1000 then some (RV.pl (.tuple (List.replicate k.toNat xs).flatten)) else if k = 1 then some (.pl (.tuple xs)) else none) = some r := ep
        by_cases c : xs.length ≠ 0 ∧ 2 ≤ k ∧ k ≤ 1000 ∧ xs.length ≤ 1000
        · rw [if_pos c] at ep
          obtain rfl := Option.some.inj ep
          obtain ⟨c1, c2, c3, c4⟩ := c
          refine op_repT pins s σ H _ _ v u Q I rx ry ⟨a, k, vs, rfl, rfl, hs, fun n => ?_, c2, c3, by rw [hd.length]; exact c4, res_tup g (hd.flat k.toNat) q⟩
          rw [← hd.length, n] at c1
          exact c1 rfl
        · rw [if_neg c] at ep
          obtain ⟨rfl, rfl⟩ := some_of ep
          cases rx
          obtain ⟨t, rfl⟩ := ry
          exact mul_tup1_at I hs (res_pl g hx.tup q)
    | _ => cases ep
  | _ => cases d <;> cases ep

/-! ### x[i] -/
theorem dpAll_at {G : Hp} {vs : List V} {xs : List D} {i : Int} {d : D} (h : DpAll K G vs xs) (e : atI xs i = some d) : ∃ v, atI vs i = some v ∧ Dp K G v d := by
  unfold atI at e ⊢
  rw [h.length]
  cases q : ixN xs.length i with
  | none => rw [q] at e; cases e
  | some j =>
    rw [q] at e
    exact h.get e
theorem i_item : IxR X (rP2 X.K .item) := by
  intro value slice pins s σ H x y v u Q I rx ry h
  obtain ⟨G, d, e, r, g, hx, hy, ep, q⟩ := h
  cases e with
  | int i =>
    obtain rfl := hy.int
    obtain ⟨xs, hi, ep⟩ := Option.bind_eq_some_iff.mp (show (itemsOf d).bind _ = _ from ep)
    obtain ⟨it, hit, rfl⟩ := Option.map_eq_some_iff.mp (show (atI xs i).map _ = _ from ep)
    obtain ⟨a, vs, rfl, hs, hd⟩ := hx.seq g hi
    obtain ⟨z, hz, pz⟩ := dpAll_at hd hit
    intro hsub
    rcases hs with ⟨_, hs⟩ | ⟨_, hs⟩
    · exact ix_list value slice pins s σ H _ _ v u Q I rx ry ⟨a, vs, i, z, rfl, rfl, hs, hz, res_pl g pz q⟩ hsub
    · exact ix_tup value slice pins s σ H _ _ v u Q I rx ry ⟨a, vs, i, z, rfl, rfl, hs, hz, res_pl g pz q⟩ hsub
  | _ => cases ep

/-! ### slices -/
theorem cut_dp {G : Hp} {vs : List V} {xs : List D} (h : DpAll K G vs xs) (lo hi : Option Int) : DpAll K G (cutV vs lo hi) (cutD xs lo hi) := by
  unfold cutV cutD
  rw [h.length]
  exact (h.drop _).take _
theorem cut_whole {vs : List V} {lo hi : Option Int} (h : HT.sIx vs.length 0 lo = 0 ∧ HT.sIx vs.length vs.length hi = vs.length) : cutV vs lo hi = vs := by
  unfold cutV
  rw [h.1, h.2]
  simp
theorem cutD_whole {vs : List D} {lo hi : Option Int} (h : HT.sIx vs.length 0 lo = 0 ∧ HT.sIx vs.length vs.length hi = vs.length) : cutD vs lo hi = vs := by
  unfold cutD
  rw [h.1, h.2]
  simp
/-- a part of a slice stands for a datum -/
def PartD : Option Int → Option D → Prop
  | none, none => True
  | some i, some (.int j) => i = j
  | _, _ => False
def rSl (K : PySem.W.Frag) : V → Option Int → Option Int → Hp → VK → Prop := fun x lo hi H Q => ∃ G d l h r, Le G H ∧ OpV K G H x d ∧ PartD lo l ∧ PartD hi h ∧ slcD d l h = some r ∧ ∀ z' G' H', Ext G H G' H' → ResV K H G' H' z' r → Q z' H'
theorem partD_of {o : Option Int} {l : Option D} (h : PartD o l) : partOf l = some o := by
  cases o with
  | none =>
    cases l with
    | none => rfl
    | some d => cases d <;> exact h.elim
  | some i =>
    cases l with
    | none => exact h.elim
    | some d =>
      cases d with
      | int j => obtain rfl : i = j := h; rfl
      | _ => exact h.elim
theorem s_slc : SlR X (rSl X.K) := by
  intro pins s σ H x v vl vu lo hi sl Q I rx hs pl pu hh
  obtain ⟨G, d, l, h, r, g, hx, el, eh, ep, q⟩ := hh
  unfold slcD at ep
  rw [partD_of el, partD_of eh] at ep
  simp only [Option.bind_some] at ep
  cases d with
  | list xs =>
    obtain rfl := Option.some.inj ep
    obtain ⟨a, vs, rfl, hq, hd⟩ := hx.seq g rfl
    rcases hq with ⟨_, hq⟩ | ⟨c, _⟩
    · exact sl_list pins s σ H _ v vl vu lo hi sl Q I rx hs pl pu ⟨a, vs, rfl, hq, res_list g (cut_dp hd lo hi) q⟩
    · cases c
  | tuple xs =>
    obtain rfl := Option.some.inj ep
    obtain ⟨a, vs, rfl, hq, hd⟩ := hx.seq g rfl
    rcases hq with ⟨c, _⟩ | ⟨_, hq⟩
    · cases c
    · refine sl_tupA pins s σ H _ v vl vu lo hi sl Q I rx hs pl pu ⟨a, vs, rfl, hq, fun c => ?_, fun _ => res_tup g (cut_dp hd lo hi) q⟩
      rw [hd.length] at c
      rw [cutD_whole c] at q
      exact res_pl g hx.tup q
  | _ => cases ep
end

/-! ### t[::-1] of a tuple -/
section
variable {prog : Program} {w : World} {A : Around} {E : Value → Shared → Prop} {s : Shared}
theorem fm_map {α β : Type} (f : α → Option β) (g : α → β) : ∀ l : List α, (∀ m ∈ l, f m = some (g m)) → l.filterMap f = l.map g
  | [], _ => rfl
  | a :: l, h => by
    rw [List.filterMap_cons, h a List.mem_cons_self, List.map_cons]
    exact congrArg (g a :: ·) (fm_map f g l fun m hm => h m (List.mem_cons_of_mem _ hm))
theorem pick_rev (xs : Array Value) : ((List.range xs.size).filterMap fun (m : Nat) => xs[((xs.size : Int) - 1 + (m : Int) * (-1)).toNat]?).toArray = xs.toList.reverse.toArray := by
  congr 1
  apply List.ext_getElem?
  intro i
  have e : (fun (m : Nat) => xs[((xs.size : Int) - 1 + (m : Int) * (-1)).toNat]?) = fun m => xs[xs.size - 1 - m]? := by
    funext m
    have : ((xs.size : Int) - 1 + (m : Int) * (-1)).toNat = xs.size - 1 - m := by omega
    rw [this]
  rw [e]
  have e2 : (List.range xs.size).filterMap (fun m => xs[xs.size - 1 - m]?) = (List.range xs.size).map (fun m => xs[xs.size - 1 - m]?.getD default) := by
    refine fm_map _ _ _ fun m hm => ?_
    have hm := List.mem_range.mp hm
    have : xs.size - 1 - m < xs.size := by omega
    simp [this]
  rw [e2]
  by_cases hi : i < xs.size
  · rw [List.getElem?_map, List.getElem?_range hi, List.getElem?_reverse (by simpa using hi)]
    have : xs.size - 1 - i < xs.size := by omega
    simp [this]
  · rw [List.getElem?_eq_none (by simpa using hi), List.getElem?_eq_none (by simpa using hi)]
theorem sliceApplied_rev {sl : Addr} {vs : Value} {n : Nat} {Q : Int × Int × Nat → Shared → Prop} (hs : s.heap.IsSliceOf sl .none .none vs) (pl : IsPart vs (some (-1)))
    (h : Q ((n : Int) - 1, -1, n) s) : wpAny (model prog w) A (Builtin.Slice.sliceApplied (.ref sl) (pure (n : Int))) Q E s := by
  obtain ⟨os, hos, hcs, hds⟩ := id hs
  unfold Builtin.Slice.sliceApplied Builtin.Slice.sliceFields
  refine wpAny_bind (wpAny_bind (wpAny_field hos hds (x := .none) rfl (wpAny_bind (wpAny_field hos hds (x := .none) rfl (wpAny_bind (wpAny_field hos hds (x := vs) rfl (wpAny_pure ?_)))))))
  refine wpAny_bind (HT.slicePart_ pl ?_)
  show wpAny _ _ (if ((-1 : Int) == 0) = true then _ else _) _ _ s
  rw [if_neg (by decide)]
  refine wpAny_bind (HT.slicePart_ IsPart.none (wpAny_bind (HT.slicePart_ IsPart.none (wpAny_bind (wpAny_pure ?_)))))
  have e1 : Builtin.Slice.sliceAdjust none none (-1) (n : Int) = ((n : Int) - 1, -1) := by
    unfold Builtin.Slice.sliceAdjust
    simp
  show wpAny _ _ (match Builtin.Slice.sliceAdjust none none (-1) (n : Int) with | (lo, hi) => pure (lo, (-1 : Int), Builtin.Slice.slicePlaces lo hi (-1))) _ _ s
  rw [e1]
  have e2 : Builtin.Slice.slicePlaces ((n : Int) - 1) (-1) (-1) = n := by
    unfold Builtin.Slice.slicePlaces
    have h1 : ¬ ((-1 : Int) > 0) := by omega
    rw [if_neg h1]
    by_cases hn : n = 0
    · subst hn; simp
    · have : ((n : Int) - 1) > -1 := by omega
      rw [if_pos this]
      simp
  show wpAny _ _ (pure ((n : Int) - 1, (-1 : Int), Builtin.Slice.slicePlaces ((n : Int) - 1) (-1) (-1))) _ _ s
  rw [e2]
  exact wpAny_pure h
theorem getItem_tuple_rev {t sl : Addr} {items : Array Value} {vs : Value} {Q : Value → Shared → Prop} (ht : IsTup s.heap t items) (hs : s.heap.IsSliceOf sl .none .none vs) (pl : IsPart vs (some (-1)))
    (h : Q (.ref s.heap.objs.size) { s with heap := s.heap.push { cls := .type "tuple", data := .seq items.toList.reverse.toArray } }) (hsz : items.size ≤ sizeLine) :
    wpAny (model prog w) A (getItem (.ref t) (.ref sl)) Q E s := by
  obtain ⟨os, hos, hcs, hds⟩ := id hs
  have hTs : s.TypeIs (.ref sl) "slice" := ⟨os, hos, hcs⟩
  unfold getItem
  try with_reducible refine wpAny_holding ?_
  first | refine wpAny_bind (wpAny_pure ?_) | skip
  refine wpAny_bind (wpAny_sequenceKey ht.typeIs (by decide) ?_)
  refine wpAny_bind (wpAny_callSpecial?_slot (name := Str.ofString "__getitem__") ht.typeIs PyProof.Rows.slot_tuple_getitem
    (wpAny_call_entry PyProof.Rows.slot_tuple_getitem ht.typeIs entry_tuple_getitem ?_ (args_tuple_getitem _ _)))
  show wpAny _ _ (Builtin.Tuple.tupleItemsOf (.ref t) >>= _) _ _ s
  refine wpAny_bind (tupleItemsOf_ ht ?_)
  refine wpAny_bind (wpAny_typeOf hTs ?_)
  rw [if_pos (by decide)]
  refine wpAny_bind (sliceApplied_rev hs pl ?_)
  have hno : ¬ ((((items.size : Int) - 1) == 0 && (-1 : Int) == 1 && items.size == items.size) = true) := by simp
  show wpAny _ _ (if (((items.size : Int) - 1) == 0 && (-1 : Int) == 1 && items.size == items.size) = true then _ else _) _ _ s
  rw [if_neg hno, pick_rev]
  have hz : sizeOk (.seq items.toList.reverse.toArray) := by
    show items.toList.reverse.toArray.size ≤ sizeLine
    simpa using hsz
  first
    | exact wpAny_bind (m := Builtin.Tuple.tupleExact _) (wpAny_newObj_type (wpAny_pure ⟨_, rfl, wpAny_pure h⟩) hz)
    | exact wpAny_bind (m := Builtin.Tuple.tupleExact _) (wpAny_newObj_type (wpAny_bind (wpAny_pure (wpAny_pure ⟨_, rfl, wpAny_pure h⟩))) hz)
    | exact wpAny_bind (wpAny_bind (m := Builtin.Tuple.tupleExact _) (wpAny_newObj_type (wpAny_pure (wpAny_pure ⟨_, rfl, wpAny_pure h⟩)) hz))
    | exact wpAny_bind (wpAny_bind (m := Builtin.Tuple.tupleExact _) (wpAny_newObj_type (wpAny_pure ⟨_, rfl, wpAny_pure h⟩) hz))
end
section
variable {X : Cx}
/-- the written slice [::-1]: a slice object, the rest as it was -/
theorem neg_slice {k : Nat} {p1' p2' p3 : Pos} {pins : List (Addr × Obj)} {σ : L2.St} {H : Hp} {s : Shared} {Q : Value → Shared → Prop} (I : Inv X pins σ H s)
    (h : ∀ (s' : Shared) (sl : Addr) (vs : Value), Inv X pins σ H s' → s'.heap.IsSliceOf sl .none .none vs → IsPart vs (some (-1)) → Q (.ref sl) s') :
    wpAny (model X.prog X.w) X.A (eval (.Slice none none (some (.UnaryOp .USub (.Constant (.int 1) k p1') p2')) p3) X.env) Q X.xe s := by
  have neg : PE X (.UnaryOp .USub (.Constant (.int 1) k p1') p2') (tUn (rU fun i => .int (-i)) (tC (.int 1))) := pe_un un_neg pe_int
  refine wpAny_Slice ?_
  rw [evalPart_none]
  refine wpAny_pure (wpAny_pure (thn ((po_some neg).run pins s σ H (fun o H' => o = some (-1) ∧ H' = H) I ⟨1, rfl, -1, rfl, rfl, rfl⟩) ?_))
  rintro vs s' ⟨_, _, I', part, rfl, rfl⟩
  exact h { s' with heap := s'.heap.push { cls := .type "slice", data := .fields #[.none, .none, vs] } } _ vs (I'.kept (t' := s'.toks) fun _ _ q => Heap.get?_push_of_some _ q) (Heap.IsSliceOf.new _ .none .none vs) part
/-- t[::-1] of a tuple: a new tuple (of a list: pe_revL) -/
def tRevT (K : PySem.W.Frag) (te : TE) : TE := fun σ H Q => te σ H fun x H1 => ∃ a xs, x = .ref a ∧ SqT K H1 a xs ∧ ∀ p, H1 p = none → Q (.ref p) (upd H1 p (.tup xs.reverse))
theorem pe_revT {e : Expr} {te : TE} {k : Nat} {p1' p2' p3 pos : Pos} (he : PE X e te) : PE X (.Subscript e (.Slice none none (some (.UnaryOp .USub (.Constant (.int 1) k p1') p2')) p3) pos) (tRevT X.K te) := ⟨fun pins s σ H Q I h => by
  refine Subscript_ (thn (he.run pins s σ H _ I h) ?_)
  rintro v s1 ⟨_, H1, I1, rv, a, xs, rfl, hx, hQ⟩
  cases rv
  refine neg_slice I1 fun s2 sl vs I2 hsl part => ?_
  obtain ⟨its, r, ht, hz⟩ := I2.tuple hx
  have new := I2.laid (t' := s2.toks) (o := .tup xs.reverse) (fun b ob q => Heap.get?_push_of_some { cls := .type "tuple", data := .seq its.toArray.toList.reverse.toArray } q) (Nat.le_refl _)
    ⟨by rw [List.length_reverse]; exact hz, its.reverse, r.reverse, by simpa using IsTup.new s2.heap its.toArray.toList.reverse.toArray⟩
  exact tail_any (ops := [.ref a, .ref sl]) ht.typeIs PyProof.Rows.slot_tuple_getitem.lookup (getItem_tuple_rev ht hsl part ⟨.ref s2.heap.objs.size, _, new, rfl, hQ _ (I2.hok.fresh (Nat.le_refl _))⟩ (by rw [List.size_toArray, ← r.length]; exact hz)) (by with_unfolding_all rfl)⟩
end
end TK

set_option Elab.async false
set_option linter.all false
set_option maxRecDepth 100000
set_option maxHeartbeats 1000000
/-! TKStep: what a step of the interpreter asks of the layer's readings. -/
namespace TK
open PySem PySem.Spec PyProof.Rows L2

/-! ### the interpreter's monad -/
section
variable {α β : Type}
theorem bind_eq (m : M α) (f : α → M β) (ρ : En) : (m >>= f) ρ = (match m ρ with | none => none | some (.ex e, ρ') => some (.ex e, ρ') | some (.ok a, ρ') => f a ρ') := rfl
theorem bind_ok {m : M α} {f : α → M β} {ρ ρ1 : En} {a : α} (h : m ρ = some (.ok a, ρ1)) : (m >>= f) ρ = f a ρ1 := by rw [bind_eq, h]
theorem bind_ex {m : M α} {f : α → M β} {ρ ρ1 : En} {e : Exn} (h : m ρ = some (.ex e, ρ1)) : (m >>= f) ρ = some (.ex e, ρ1) := by rw [bind_eq, h]
theorem bind_some {m : M α} {f : α → M β} {ρ ρ' : En} {o : Out β} (h : (m >>= f) ρ = some (o, ρ')) : (∃ e, m ρ = some (.ex e, ρ') ∧ o = .ex e) ∨ ∃ a ρ1, m ρ = some (.ok a, ρ1) ∧ f a ρ1 = some (o, ρ') := by
  rw [bind_eq] at h
  cases q : m ρ with
  | none => rw [q] at h; cases h
  | some p =>
    obtain ⟨o1, ρ1⟩ := p
    rw [q] at h
    cases o1 with
    | ex e =>
      have h : some (Out.ex e, ρ1) = some (o, ρ') := h
      cases h
      exact .inl ⟨e, rfl, rfl⟩
    | ok a => exact .inr ⟨a, ρ1, rfl, h⟩
theorem ret_some {a : α} {ρ ρ' : En} {o : Out α} (h : M.ret a ρ = some (o, ρ')) : o = .ok a ∧ ρ' = ρ := by
  have h : some (Out.ok a, ρ) = some (o, ρ') := h
  cases h
  exact ⟨rfl, rfl⟩
theorem of_some {a : Option α} {ρ ρ' : En} {o : Out α} (h : M.of a ρ = some (o, ρ')) : ∃ x, a = some x ∧ o = .ok x ∧ ρ' = ρ := by
  cases a with
  | none => cases h
  | some x => obtain ⟨h1, h2⟩ := ret_some h; exact ⟨x, rfl, h1, h2⟩
theorem dat_some {r : RV} {ρ ρ' : En} {o : Out D} (h : M.dat r ρ = some (o, ρ')) : ∃ v, datOf r ρ = some v ∧ o = .ok v ∧ ρ' = ρ := by
  unfold M.dat at h
  cases q : datOf r ρ with
  | none => rw [q] at h; cases h
  | some v =>
    rw [q] at h
    cases h
    exact ⟨v, rfl, rfl, rfl⟩
theorem stuck_some {ρ ρ' : En} {o : Out α} (h : (M.stuck : M α) ρ = some (o, ρ')) : False := nomatch h
end

/-- an exception of the interpreter, as it lies -/
def ExV (EC : Nat → Option Addr) (e : Exn) (cls : Value) (d : Option Addr) (H : Hp) : Prop := ∃ C, EC e.c = some C ∧ cls = .ref C ∧ match e.x with
  | none => d = none
  | some _ => False

/-! ### readings -/
section
variable (EC : Nat → Option Addr) (X : Cx)
def WXx (le : Nat → Option Addr) (FR G : Hp) (ρ' : En) (σ : L2.St) (τ : List (RV × V)) (e : Exn) : WX := fun cls d σ' H' => σ' = σ ∧ ExV EC e cls d H' ∧ ∃ G', Le G G' ∧ StE X.K le FR G' H' ρ' σ τ
def PostE (le : Nat → Option Addr) (FR G : Hp) (ρ' : En) (σ : L2.St) (τ : List (RV × V)) : Out RV → VK → Prop
  | .ok r, Q => ∀ z H' G', Le G G' → (∀ i, r = .bw i → σ[i]? = some (some z)) → StE X.K le FR G' H' ρ' σ ((r, z) :: τ) → Q z H'
  | .ex e, _ => Takes X (WXx EC X le FR G ρ' σ τ e)
def PostT (le : Nat → Option Addr) (FR G : Hp) (ρ' : En) (σ : L2.St) (τ : List (RV × V)) : Out Bool → (Bool → Hp → Prop) → Prop
  | .ok b, Q => ∀ H' G', Le G G' → StE X.K le FR G' H' ρ' σ τ → Q b H'
  | .ex e, _ => Takes X (WXx EC X le FR G ρ' σ τ e)
def PostS (le : Nat → Option Addr) (FR G : Hp) (ρ' : En) (σ : L2.St) (τ : List (RV × V)) : Out (List D) → (List V → Hp → Prop) → Prop
  | .ok ds, Q => ∀ zs H' G', Le G G' → DpAll X.K G' zs ds → StE X.K le FR G' H' ρ' σ τ → Q zs H'
  | .ex e, _ => Takes X (WXx EC X le FR G ρ' σ τ e)
inductive Gots (K : PySem.W.Frag) (G : Hp) (σ : L2.St) : List RV → List V → Prop
  | nil : Gots K G σ [] []
  | cons {r : RV} {z : V} {rs : List RV} {zs : List V} : Got K G σ r z ∨ (∀ ρ, datOf r ρ = none) ∧ r.keep = false ∧ (∀ i, r ≠ .bw i) → Gots K G σ rs zs → Gots K G σ (r :: rs) (z :: zs)
def PostR (le : Nat → Option Addr) (FR G : Hp) (ρ' : En) (σ : L2.St) (τ : List (RV × V)) : Out (List RV) → (List V → Hp → Prop) → Prop
  | .ok rs, Q => ∀ zs H' G', Le G G' → Gots X.K G' σ rs zs → StE X.K le FR G' H' ρ' σ τ → Q zs H'
  | .ex e, _ => Takes X (WXx EC X le FR G ρ' σ τ e)
def tE (f : M RV) : TE := fun σ H Q => ∃ le FR G ρ τ out ρ', StE X.K le FR G H ρ σ τ ∧ f ρ = some (out, ρ') ∧ PostE EC X le FR G ρ' σ τ out Q
def tT (f : M Bool) : TT := fun σ H Q => ∃ le FR G ρ τ out ρ', StE X.K le FR G H ρ σ τ ∧ f ρ = some (out, ρ') ∧ PostT EC X le FR G ρ' σ τ out Q
def tD (f : M (List D)) : TA := fun σ H Q => ∃ le FR G ρ τ out ρ', StE X.K le FR G H ρ σ τ ∧ f ρ = some (out, ρ') ∧ PostS EC X le FR G ρ' σ τ out Q
def tR (f : M (List RV)) : TA := fun σ H Q => ∃ le FR G ρ τ out ρ', StE X.K le FR G H ρ σ τ ∧ f ρ = some (out, ρ') ∧ PostR EC X le FR G ρ' σ τ out Q
end

section
variable {EC : Nat → Option Addr} {X : Cx} {le : Nat → Option Addr} {FR G G' H H' : Hp} {ρ ρ' : En} {σ : L2.St} {τ : List (RV × V)}
theorem PE.imp {e : Expr} {t t' : TE} (h : PE X e t) (i : ∀ σ H Q, t' σ H Q → t σ H Q) : PE X e t' := ⟨fun pins s σ H Q I q => h.run pins s σ H Q I (i σ H Q q)⟩
theorem PT.imp {e : Expr} {t t' : TT} (h : PT X e t) (i : ∀ σ H Q, t' σ H Q → t σ H Q) : PT X e t' := ⟨fun pins s σ H Q I q => h.run pins s σ H Q I (i σ H Q q)⟩
theorem PW.imp {e : Expr} {t t' : TT} (h : PW X e t) (i : ∀ σ H Q, t' σ H Q → t σ H Q) : PW X e t' := ⟨fun wh pins s σ H Q I q => h.run wh pins s σ H Q I (i σ H Q q)⟩
theorem PA.imp {e : List Expr} {t t' : TA} (h : PA X e t) (i : ∀ σ H Q, t' σ H Q → t σ H Q) : PA X e t' := ⟨fun pos pins s σ H Q I q => h.run pos pins s σ H Q I (i σ H Q q)⟩
theorem wx_le {e : Exn} (g : Le G G') (h : Takes X (WXx EC X le FR G ρ' σ τ e)) : Takes X (WXx EC X le FR G' ρ' σ τ e) :=
  h.imp fun c d σ' H' ⟨h1, h2, G2, h3, h4⟩ => ⟨h1, h2, G2, g.trans h3, h4⟩
/-- an operand -/
theorem opd {f : M RV} {out : Out RV} {Q : VK} (hs : StE X.K le FR G H ρ σ τ) (he : f ρ = some (out, ρ'))
    (ho : ∀ r, out = .ok r → ∀ z H' G', Le G G' → (Got X.K G' σ r z ∨ (∀ ρ, datOf r ρ = none) ∧ r.keep = false ∧ (∀ i, r ≠ .bw i)) → StE X.K le FR G' H' ρ' σ τ → Q z H') (hx : ∀ e, out = .ex e → Takes X (WXx EC X le FR G ρ' σ τ e)) : tE EC X f σ H Q := by
  refine ⟨le, FR, G, ρ, τ, out, ρ', hs, he, ?_⟩
  cases out with
  | ex e => exact hx e rfl
  | ok r =>
    intro z H' G' g hb st
    cases r with
    | bw i => exact ho _ rfl z H' G' g (.inl (.inl ⟨i, rfl, hb i rfl⟩)) (let ⟨o, x⟩ := st; ⟨o, x.pop⟩)
    | un => exact ho _ rfl z H' G' g (.inr ⟨fun _ => rfl, rfl, fun _ => nofun⟩) (let ⟨o, x⟩ := st; ⟨o, x.pop⟩)
    | io v => exact ho _ rfl z H' G' g (.inr ⟨fun _ => rfl, rfl, fun _ => nofun⟩) (let ⟨o, x⟩ := st; ⟨o, x.pop⟩)
    | pl d =>
      obtain ⟨G2, g2, st2, hd⟩ := st.plain (d := d) rfl rfl
      exact ho _ rfl z H' G2 (g.trans g2) (.inl (.inr ⟨d, rfl, rfl, hd⟩)) st2
    | ow d =>
      obtain ⟨G2, g2, st2, hd⟩ := st.plain (d := d) rfl rfl
      exact ho _ rfl z H' G2 (g.trans g2) (.inl (.inr ⟨d, rfl, rfl, hd⟩)) st2
    | ow2 d =>
      obtain ⟨G2, g2, st2, hd⟩ := st.plain (d := d) rfl rfl
      exact ho _ rfl z H' G2 (g.trans g2) (.inl (.inr ⟨d, rfl, rfl, hd⟩)) st2
abbrev GotO (K : PySem.W.Frag) (G : Hp) (σ : L2.St) (r : RV) (z : V) : Prop := Got K G σ r z ∨ (∀ ρ, datOf r ρ = none) ∧ r.keep = false ∧ (∀ i, r ≠ .bw i)
theorem GotO.view {r : RV} {z : V} {d : D} (h : GotO X.K G σ r z) (x : StE X.K le FR G H ρ σ τ) (e : datOf r ρ = some d) : OpV X.K G H z d := by
  rcases h with h | ⟨h, _⟩
  · exact h.view x e
  · rw [h] at e; cases e
theorem GotO.mono {K : PySem.W.Frag} {r : RV} {z : V} (h : GotO K G σ r z) (g : Le G G') : GotO K G' σ r z := h.imp (fun h => h.mono g) id
theorem StE.sub {K : PySem.W.Frag} (x : StE K le FR G H ρ σ τ) : Le G H := let ⟨_, x⟩ := x; x.sub

/-- a one-place operation -/
theorem step_u {f : M RV} {p : P1} {Q : VK} (h : tE EC X (do let r ← f; let v ← M.dat r; M.of (p1 p v)) σ H Q) : tE EC X f σ H fun x H1 => rP1 X.K p x H1 Q := by
  obtain ⟨le, FR, G, ρ, τ, out, ρ', hs, he, hp⟩ := h
  rcases bind_some he with ⟨e, he1, rfl⟩ | ⟨r, ρ1, he1, h2⟩
  · exact opd hs he1 (fun r c => nomatch c) fun e' c => by cases c; exact hp
  · obtain ⟨v, hv, h3⟩ : ∃ v, datOf r ρ1 = some v ∧ M.of (p1 p v) ρ1 = some (out, ρ') := by
      rcases bind_some h2 with ⟨e, h, _⟩ | ⟨v, ρ2, h, h3⟩
      · obtain ⟨_, _, c, _⟩ := dat_some h; cases c
      · obtain ⟨v', q, c, rfl⟩ := dat_some h
        cases c
        exact ⟨_, q, h3⟩
    obtain ⟨r', hr, rfl, rfl⟩ := of_some h3
    refine opd hs he1 (fun r2 c z H' G' g got st => ?_) fun e c => nomatch c
    cases c
    refine ⟨G', v, r', st.sub, GotO.view got st hv, hr, fun z' G2 H2 ext rv => ?_⟩
    refine hp z' H2 G2 (g.trans ext.gg) (fun i c => ?_) (st.res ext rv)
    subst c
    exact rv.elim
/-- a two-place operation -/
theorem step_b {f f2 : M RV} {p : P2} {Q : VK} (h : tE EC X (do let r ← f; let q ← f2; let v ← M.dat r; let w ← M.dat q; M.of (p2 p v w)) σ H Q) :
    tE EC X f σ H fun x H1 => tE EC X f2 σ H1 fun y H2 => rP2 X.K p x y H2 Q := by
  obtain ⟨le, FR, G, ρ, τ, out, ρ', hs, he, hp⟩ := h
  rcases bind_some he with ⟨e, he1, rfl⟩ | ⟨r, ρ1, he1, h2⟩
  · exact opd hs he1 (fun r c => nomatch c) fun e' c => by cases c; exact hp
  · refine opd hs he1 (fun r2 c z H1 G1 g1 got st => ?_) fun e c => nomatch c
    cases c
    rcases bind_some h2 with ⟨e, he3, rfl⟩ | ⟨q, ρ2, he3, h3⟩
    · exact opd st he3 (fun r c => nomatch c) fun e' c => by cases c; exact wx_le g1 hp
    · refine opd st he3 (fun r2 c y H2 G2 g2 got2 st2 => ?_) fun e c => nomatch c
      cases c
      rcases bind_some h3 with ⟨e, h, _⟩ | ⟨v, ρ3, h, h4⟩
      · obtain ⟨_, _, c, _⟩ := dat_some h; cases c
      · obtain ⟨v', hv, c, rfl⟩ := dat_some h
        cases c
        rcases bind_some h4 with ⟨e, h, _⟩ | ⟨w, ρ3, h, h5⟩
        · obtain ⟨_, _, c, _⟩ := dat_some h; cases c
        · obtain ⟨w', hw, c, rfl⟩ := dat_some h
          cases c
          obtain ⟨r', hr, rfl, rfl⟩ := of_some h5
          refine ⟨G2, v, w, r', st2.sub, GotO.view (GotO.mono got g2) st2 hv, GotO.view got2 st2 hw, hr, fun z' G3 H3 ext rv => ?_⟩
          refine hp z' H3 G3 ((g1.trans g2).trans ext.gg) (fun i c => ?_) (st2.res ext rv)
          subst c
          exact rv.elim
/-- a value's truth -/
theorem step_t {f : M RV} {Q : Bool → Hp → Prop} (h : tT EC X (tMx f) σ H Q) : tE EC X f σ H fun x H1 => ∃ k, TruV X.K x H1 k ∧ Q k H1 := by
  obtain ⟨le, FR, G, ρ, τ, out, ρ', hs, he, hp⟩ := h
  unfold tMx at he
  rcases bind_some he with ⟨e, he1, rfl⟩ | ⟨r, ρ1, he1, h2⟩
  · exact opd hs he1 (fun r c => nomatch c) fun e' c => by cases c; exact hp
  · refine opd hs he1 (fun r2 c z H1 G1 g1 got st => ?_) fun e c => nomatch c
    cases c
    rcases bind_some h2 with ⟨e, h, _⟩ | ⟨v, ρ3, h, h3⟩
    · obtain ⟨_, _, c, _⟩ := dat_some h; cases c
    · obtain ⟨v', hv, c, rfl⟩ := dat_some h
      cases c
      obtain ⟨b, hb, rfl, rfl⟩ := of_some h3
      exact ⟨b, truth_tru ((GotO.view got st hv).dp st.sub) hb, hp H1 G1 g1 st⟩
/-- tests by a value that is a bool -/
theorem step_tb {f : M RV} {Q : Bool → Hp → Prop} (hb : ∀ ρ r ρ' d, f ρ = some (.ok r, ρ') → datOf r ρ' = some d → ∃ b, d = .bool b) (h : tT EC X (tMx f) σ H Q) : tE EC X f σ H fun x H1 => ∃ k, x = .bl k ∧ Q k H1 := by
  obtain ⟨le, FR, G, ρ, τ, out, ρ', hs, he, hp⟩ := h
  unfold tMx at he
  rcases bind_some he with ⟨e, he1, rfl⟩ | ⟨r, ρ1, he1, h2⟩
  · exact opd hs he1 (fun r c => nomatch c) fun e' c => by cases c; exact hp
  · refine opd hs he1 (fun r2 c z H1 G1 g1 got st => ?_) fun e c => nomatch c
    cases c
    rcases bind_some h2 with ⟨e, h, _⟩ | ⟨v, ρ3, h, h3⟩
    · obtain ⟨_, _, c, _⟩ := dat_some h; cases c
    · obtain ⟨v', hv, c, rfl⟩ := dat_some h
      cases c
      obtain ⟨b, rfl⟩ := hb _ _ _ _ he1 hv
      obtain ⟨b', hb', rfl, rfl⟩ := of_some h3
      obtain rfl := Option.some.inj hb'
      obtain rfl := (GotO.view got st hv).bool
      exact ⟨b, rfl, hp H1 G1 g1 st⟩
end
end TK

set_option Elab.async false
set_option linter.all false
set_option maxRecDepth 100000
set_option maxHeartbeats 1000000
/-! TKStep2: more steps: and, or, not, if, chains, displays, slices, arguments. -/
namespace TK
open PySem PySem.Spec PyProof.Rows L2
section
variable {EC : Nat → Option Addr} {X : Cx} {le : Nat → Option Addr} {FR G G' H H' : Hp} {ρ ρ' : En} {σ : L2.St} {τ : List (RV × V)}

theorem dat_bind {β : Type} {r : RV} {f : D → M β} {ρ ρ' : En} {o : Out β} (h : (M.dat r >>= f) ρ = some (o, ρ')) : ∃ v, datOf r ρ = some v ∧ f v ρ = some (o, ρ') := by
  rcases bind_some h with ⟨e, h, _⟩ | ⟨v, ρ3, h, h3⟩
  · obtain ⟨_, _, c, _⟩ := dat_some h; cases c
  · obtain ⟨v', hv, c, rfl⟩ := dat_some h
    cases c
    exact ⟨_, hv, h3⟩
theorem plain_bind {β : Type} {r : RV} {f : D → M β} {ρ ρ' : En} {o : Out β} (h : (plainM r >>= f) ρ = some (o, ρ')) : ∃ v, r.dat = some v ∧ r.free = true ∧ f v ρ = some (o, ρ') := by
  cases r with
  | bw i =>
    have h : (M.stuck >>= f) ρ = some (o, ρ') := h
    rcases bind_some h with ⟨_, h, _⟩ | ⟨_, _, h, _⟩ <;> exact (stuck_some h).elim
  | un =>
    have h : (M.dat .un >>= f) ρ = some (o, ρ') := h
    obtain ⟨v, h1, h2⟩ := dat_bind h; cases h1
  | io d =>
    have h : (M.dat (.io d) >>= f) ρ = some (o, ρ') := h
    obtain ⟨v, h1, h2⟩ := dat_bind h; cases h1
  | pl d =>
    have h : (M.dat (.pl d) >>= f) ρ = some (o, ρ') := h
    obtain ⟨v, h1, h2⟩ := dat_bind h; exact ⟨v, h1, rfl, h2⟩
  | ow d =>
    have h : (M.dat (.ow d) >>= f) ρ = some (o, ρ') := h
    obtain ⟨v, h1, h2⟩ := dat_bind h; exact ⟨v, h1, rfl, h2⟩
  | ow2 d =>
    have h : (M.dat (.ow2 d) >>= f) ρ = some (o, ρ') := h
    obtain ⟨v, h1, h2⟩ := dat_bind h; exact ⟨v, h1, rfl, h2⟩
theorem of_bind {α β : Type} {a : Option α} {f : α → M β} {ρ ρ' : En} {o : Out β} (h : (M.of a >>= f) ρ = some (o, ρ')) : ∃ x, a = some x ∧ f x ρ = some (o, ρ') := by
  rcases bind_some h with ⟨e, h, _⟩ | ⟨v, ρ3, h, h3⟩
  · obtain ⟨_, _, c, _⟩ := of_some h; cases c
  · obtain ⟨v', hv, c, rfl⟩ := of_some h
    cases c
    exact ⟨_, hv, h3⟩
theorem ret_bind {α β : Type} {a : α} {f : α → M β} {ρ ρ' : En} {o : Out β} (h : (M.ret a >>= f) ρ = some (o, ρ')) : f a ρ = some (o, ρ') := h
/-- plain data as they were got -/
theorem GotO.plain {K : PySem.W.Frag} {r : RV} {z : V} {d : D} (h : GotO K G σ r z) (h1 : r.dat = some d) (h2 : r.free = true) : Dp K G z d := by
  rcases h with (⟨i, rfl, _⟩ | ⟨d', q1, _, q⟩) | ⟨q, _, _⟩
  · cases h1
  · rw [h1] at q1; obtain rfl := Option.some.inj q1; exact q
  · have := q []
    cases r with
    | un => cases h1
    | bw i => cases h1
    | io d => cases h2
    | pl d => cases this
    | ow d => cases this
    | ow2 d => cases this

/-- one operand, then the rest -/
theorem step1 {f : M RV} {k : RV → M RV} {out : Out RV} {Q Q' : VK} (hs : StE X.K le FR G H ρ σ τ) (he : (f >>= k) ρ = some (out, ρ')) (hp : PostE EC X le FR G ρ' σ τ out Q)
    (ho : ∀ r ρ1, k r ρ1 = some (out, ρ') → ∀ z H1 G1, Le G G1 → GotO X.K G1 σ r z → StE X.K le FR G1 H1 ρ1 σ τ → PostE EC X le FR G1 ρ' σ τ out Q → Q' z H1) : tE EC X f σ H Q' := by
  rcases bind_some he with ⟨e, he1, rfl⟩ | ⟨r, ρ1, he1, h2⟩
  · exact opd hs he1 (fun r c => nomatch c) fun e' c => by cases c; exact hp
  · refine opd hs he1 (fun r2 c z H1 G1 g1 got st => ?_) fun e c => nomatch c
    cases c
    refine ho r ρ1 h2 z H1 G1 g1 got st ?_
    cases out with
    | ex e => exact wx_le g1 hp
    | ok r' => exact fun z H2 G2 g2 => hp z H2 G2 (g1.trans g2)
theorem step1T {f : M RV} {k : RV → M Bool} {out : Out Bool} {Q : Bool → Hp → Prop} {Q' : VK} (hs : StE X.K le FR G H ρ σ τ) (he : (f >>= k) ρ = some (out, ρ')) (hp : PostT EC X le FR G ρ' σ τ out Q)
    (ho : ∀ r ρ1, k r ρ1 = some (out, ρ') → ∀ z H1 G1, Le G G1 → GotO X.K G1 σ r z → StE X.K le FR G1 H1 ρ1 σ τ → PostT EC X le FR G1 ρ' σ τ out Q → Q' z H1) : tE EC X f σ H Q' := by
  rcases bind_some he with ⟨e, he1, rfl⟩ | ⟨r, ρ1, he1, h2⟩
  · exact opd hs he1 (fun r c => nomatch c) fun e' c => by cases c; exact hp
  · refine opd hs he1 (fun r2 c z H1 G1 g1 got st => ?_) fun e c => nomatch c
    cases c
    refine ho r ρ1 h2 z H1 G1 g1 got st ?_
    cases out with
    | ex e => exact wx_le g1 hp
    | ok r' => exact fun H2 G2 g2 => hp H2 G2 (g1.trans g2)
/-- a test, then the rest -/
theorem stepT {f : M Bool} {k : Bool → M RV} {out : Out RV} {Q : VK} {Q' : Bool → Hp → Prop} (hs : StE X.K le FR G H ρ σ τ) (he : (f >>= k) ρ = some (out, ρ')) (hp : PostE EC X le FR G ρ' σ τ out Q)
    (ho : ∀ b ρ1, k b ρ1 = some (out, ρ') → ∀ H1 G1, Le G G1 → StE X.K le FR G1 H1 ρ1 σ τ → PostE EC X le FR G1 ρ' σ τ out Q → Q' b H1) : tT EC X f σ H Q' := by
  rcases bind_some he with ⟨e, he1, rfl⟩ | ⟨b, ρ1, he1, h2⟩
  · exact ⟨le, FR, G, ρ, τ, _, _, hs, he1, hp⟩
  · refine ⟨le, FR, G, ρ, τ, _, _, hs, he1, fun H1 G1 g1 st => ho b ρ1 h2 H1 G1 g1 st ?_⟩
    cases out with
    | ex e => exact wx_le g1 hp
    | ok r' => exact fun z H2 G2 g2 => hp z H2 G2 (g1.trans g2)
theorem stepTT {f : M Bool} {k : Bool → M Bool} {out : Out Bool} {Q Q' : Bool → Hp → Prop} (hs : StE X.K le FR G H ρ σ τ) (he : (f >>= k) ρ = some (out, ρ')) (hp : PostT EC X le FR G ρ' σ τ out Q)
    (ho : ∀ b ρ1, k b ρ1 = some (out, ρ') → ∀ H1 G1, Le G G1 → StE X.K le FR G1 H1 ρ1 σ τ → PostT EC X le FR G1 ρ' σ τ out Q → Q' b H1) : tT EC X f σ H Q' := by
  rcases bind_some he with ⟨e, he1, rfl⟩ | ⟨b, ρ1, he1, h2⟩
  · exact ⟨le, FR, G, ρ, τ, _, _, hs, he1, hp⟩
  · refine ⟨le, FR, G, ρ, τ, _, _, hs, he1, fun H1 G1 g1 st => ho b ρ1 h2 H1 G1 g1 st ?_⟩
    cases out with
    | ex e => exact wx_le g1 hp
    | ok r' => exact fun H2 G2 g2 => hp H2 G2 (g1.trans g2)
/-- a result that is plain data, at once -/
theorem post_pl {Q : VK} {d : D} {z : V} (hp : PostE EC X le FR G ρ σ τ (.ok (.pl d)) Q) (st : StE X.K le FR G H ρ σ τ) (h : Dp X.K G z d) : Q z H := by
  obtain ⟨o, x⟩ := st
  exact hp z H G (Le.refl _) (fun i c => nomatch c) ⟨o, x.push_pl h⟩
theorem post_t {Q : Bool → Hp → Prop} {b : Bool} (hp : PostT EC X le FR G ρ σ τ (.ok b) Q) (st : StE X.K le FR G H ρ σ τ) : Q b H := hp H G (Le.refl _) st

theorem step_and {f f2 : M RV} {Q : VK} (h : tE EC X (do
      let r ← f
      let v ← M.dat r
      match v with
        | .bool true => f2
        | .bool false => M.ret (.pl (.bool false))
        | _ => M.stuck) σ H Q) : tE EC X f σ H fun x H1 => ∃ c, x = .bl c ∧ if c = true then tE EC X f2 σ H1 Q else Q (.bl false) H1 := by
  obtain ⟨le, FR, G, ρ, τ, out, ρ', hs, he, hp⟩ := h
  refine step1 hs he hp fun r ρ1 h2 z H1 G1 g1 got st hp1 => ?_
  obtain ⟨v, hv, h3⟩ := dat_bind h2
  cases v with
  | bool b =>
    obtain rfl := (GotO.view got st hv).bool
    refine ⟨b, rfl, ?_⟩
    cases b with
    | true => rw [if_pos rfl]; exact ⟨le, FR, G1, ρ1, τ, out, ρ', st, h3, hp1⟩
    | false =>
      rw [if_neg Bool.false_ne_true]
      obtain ⟨rfl, rfl⟩ := ret_some h3
      exact post_pl hp1 st (.bl _)
  | _ => exact (stuck_some h3).elim
theorem step_or {f f2 : M RV} {Q : VK} (h : tE EC X (do
      let r ← f
      let v ← M.dat r
      match v with
        | .bool true => M.ret (.pl (.bool true))
        | .bool false => f2
        | _ => M.stuck) σ H Q) : tE EC X f σ H fun x H1 => ∃ c, x = .bl c ∧ if c = true then Q (.bl true) H1 else tE EC X f2 σ H1 Q := by
  obtain ⟨le, FR, G, ρ, τ, out, ρ', hs, he, hp⟩ := h
  refine step1 hs he hp fun r ρ1 h2 z H1 G1 g1 got st hp1 => ?_
  obtain ⟨v, hv, h3⟩ := dat_bind h2
  cases v with
  | bool b =>
    obtain rfl := (GotO.view got st hv).bool
    refine ⟨b, rfl, ?_⟩
    cases b with
    | true =>
      rw [if_pos rfl]
      obtain ⟨rfl, rfl⟩ := ret_some h3
      exact post_pl hp1 st (.bl _)
    | false => rw [if_neg Bool.false_ne_true]; exact ⟨le, FR, G1, ρ1, τ, out, ρ', st, h3, hp1⟩
  | _ => exact (stuck_some h3).elim
theorem step_andT {f f2 : M Bool} {Q : Bool → Hp → Prop} (h : tT EC X (do
      let t ← f
      if t then f2 else M.ret false) σ H Q) : tT EC X f σ H fun c H1 => if c = true then tT EC X f2 σ H1 Q else Q false H1 := by
  obtain ⟨le, FR, G, ρ, τ, out, ρ', hs, he, hp⟩ := h
  refine stepTT hs he hp fun b ρ1 h2 H1 G1 g1 st hp1 => ?_
  cases b with
  | true => rw [if_pos rfl]; exact ⟨le, FR, G1, ρ1, τ, out, ρ', st, h2, hp1⟩
  | false =>
    rw [if_neg Bool.false_ne_true]
    obtain ⟨rfl, rfl⟩ := ret_some h2
    exact post_t hp1 st
theorem step_orT {f f2 : M Bool} {Q : Bool → Hp → Prop} (h : tT EC X (do
      let t ← f
      if t then M.ret true else f2) σ H Q) : tT EC X f σ H fun c H1 => if c = true then Q true H1 else tT EC X f2 σ H1 Q := by
  obtain ⟨le, FR, G, ρ, τ, out, ρ', hs, he, hp⟩ := h
  refine stepTT hs he hp fun b ρ1 h2 H1 G1 g1 st hp1 => ?_
  cases b with
  | true =>
    rw [if_pos rfl]
    obtain ⟨rfl, rfl⟩ := ret_some h2
    exact post_t hp1 st
  | false => rw [if_neg Bool.false_ne_true]; exact ⟨le, FR, G1, ρ1, τ, out, ρ', st, h2, hp1⟩
theorem step_not {f : M RV} {Q : VK} (h : tE EC X (do
      let t ← tMx f
      M.ret (.pl (.bool (!t)))) σ H Q) : tE EC X f σ H fun x H1 => ∃ k, TruV X.K x H1 k ∧ Q (.bl (!k)) H1 := by
  refine step_t (EC := EC) (Q := fun b H1 => Q (.bl (!b)) H1) ?_
  obtain ⟨le, FR, G, ρ, τ, out, ρ', hs, he, hp⟩ := h
  refine stepT hs he hp fun b ρ1 h2 H1 G1 g1 st hp1 => ?_
  obtain ⟨rfl, rfl⟩ := ret_some h2
  exact post_pl hp1 st (.bl _)
theorem step_notT {f : M Bool} {Q : Bool → Hp → Prop} (h : tT EC X (do
      let t ← f
      M.ret (!t)) σ H Q) : tT EC X f σ H fun c H1 => Q (!c) H1 := by
  obtain ⟨le, FR, G, ρ, τ, out, ρ', hs, he, hp⟩ := h
  refine stepTT hs he hp fun b ρ1 h2 H1 G1 g1 st hp1 => ?_
  obtain ⟨rfl, rfl⟩ := ret_some h2
  exact post_t hp1 st
theorem step_ite {t : M Bool} {f f2 : M RV} {Q : VK} (h : tE EC X (do
      let k ← t
      if k then f else f2) σ H Q) : tT EC X t σ H fun c H1 => if c = true then tE EC X f σ H1 Q else tE EC X f2 σ H1 Q := by
  obtain ⟨le, FR, G, ρ, τ, out, ρ', hs, he, hp⟩ := h
  refine stepT hs he hp fun b ρ1 h2 H1 G1 g1 st hp1 => ?_
  cases b with
  | true => rw [if_pos rfl]; exact ⟨le, FR, G1, ρ1, τ, out, ρ', st, h2, hp1⟩
  | false => rw [if_neg Bool.false_ne_true]; exact ⟨le, FR, G1, ρ1, τ, out, ρ', st, h2, hp1⟩
theorem step_iteT {t f f2 : M Bool} {Q : Bool → Hp → Prop} (h : tT EC X (do
      let k ← t
      if k then f else f2) σ H Q) : tT EC X t σ H fun c H1 => if c = true then tT EC X f σ H1 Q else tT EC X f2 σ H1 Q := by
  obtain ⟨le, FR, G, ρ, τ, out, ρ', hs, he, hp⟩ := h
  refine stepTT hs he hp fun b ρ1 h2 H1 G1 g1 st hp1 => ?_
  cases b with
  | true => rw [if_pos rfl]; exact ⟨le, FR, G1, ρ1, τ, out, ρ', st, h2, hp1⟩
  | false => rw [if_neg Bool.false_ne_true]; exact ⟨le, FR, G1, ρ1, τ, out, ρ', st, h2, hp1⟩
/-- comparisons of two give bools -/
def cmpP (p : P2) : Bool := match p with
  | .lt => true | .le => true | .gt => true | .ge => true | .eq => true | .ne => true | .inn => true | .notin => true | _ => false
theorem cmp_bool {p : P2} (hp : cmpP p = true) {d e : D} {r : RV} (h : p2 p d e = some r) : ∃ b, r = .pl (.bool b) := by
  have i2 {f : Int → Int → Bool} (h : int2 (fun i j => some (.pl (.bool (f i j)))) d e = some r) : ∃ b, r = .pl (.bool b) := by
    obtain ⟨i, j, rfl, rfl, h⟩ := int2_some h
    exact ⟨_, (Option.some.inj h).symm⟩
  by_cases hl : p = .lt
  · subst hl
    rcases lt_some h with ⟨_, _, _, _, h⟩ | ⟨_, h⟩ <;> exact ⟨_, h⟩
  cases p <;> first
    | exact absurd rfl hl
    | exact absurd hp (by decide)
    | exact i2 (f := fun i j => decide (i ≤ j)) h
    | exact i2 (f := fun i j => decide (j < i)) h
    | exact i2 (f := fun i j => decide (j ≤ i)) h
    | exact ⟨_, (some_of h).2⟩
    | (obtain ⟨ys, _, h⟩ := Option.bind_eq_some_iff.mp h; exact ⟨_, (some_of h).2⟩)
theorem step_chain {p q : P2} {fa fb fc : M RV} {Q : VK} (hcp : cmpP p = true) (h : tE EC X (do
      let r ← fa
      let r2 ← fb
      let v ← M.dat r
      let w ← plainM r2
      let z ← M.of (p2 p v w)
      match z with
        | .pl (.bool true) => do
          let r3 ← fc
          let u ← M.dat r3
          M.of (p2 q w u)
        | .pl (.bool false) => M.ret (.pl (.bool false))
        | _ => M.stuck) σ H Q) : tE EC X fa σ H fun x H1 => tE EC X fb σ H1 fun y H2 => rP2 X.K p x y H2 fun z H3 => ∃ k, z = .bl k ∧ (if k = true then tE EC X fc σ H3 fun w H4 => rP2 X.K q y w H4 Q else Q (.bl false) H3) := by
  obtain ⟨le, FR, G, ρ, τ, out, ρ', hs, he, hp⟩ := h
  refine step1 hs he hp fun r ρ1 h2 z H1 G1 g1 got st hp1 => ?_
  refine step1 st h2 hp1 fun r2 ρ2 h3 y H2 G2 g2 got2 st2 hp2 => ?_
  obtain ⟨v, hv, h4⟩ := dat_bind h3
  obtain ⟨w, hw, hwf, h5⟩ := plain_bind h4
  obtain ⟨z0, hz, h6⟩ := of_bind h5
  have pw := GotO.plain got2 hw hwf
  refine ⟨G2, v, w, z0, st2.sub, GotO.view (GotO.mono got g2) st2 hv, .inl pw, hz, fun z' G3 H3 ext rv => ?_⟩
  obtain ⟨b, rfl⟩ := cmp_bool hcp hz
  obtain ⟨o, st3'⟩ := st2.res ext rv
  have st3 : StE X.K le FR G3 H3 ρ2 σ τ := ⟨o, st3'.pop⟩
  clear st3'
  have rv : Dp X.K G3 z' (.bool b) := rv
  obtain rfl : z' = .bl b := by cases rv; rfl
  have hp3 : PostE EC X le FR G3 ρ' σ τ out Q := by
    cases out with
    | ex e => exact wx_le ext.gg hp2
    | ok r' => exact fun z H4 G4 g4 => hp2 z H4 G4 (ext.gg.trans g4)
  refine ⟨b, rfl, ?_⟩
  cases b with
  | true =>
    rw [if_pos rfl]
    refine step1 st3 h6 hp3 fun r3 ρ3 h7 u H4 G4 g4 got4 st4 hp4 => ?_
    obtain ⟨u', hu, h8⟩ := dat_bind h7
    obtain ⟨r', hr, rfl, rfl⟩ := of_some h8
    refine ⟨G4, w, u', r', st4.sub, .inl (pw.mono (ext.gg.trans g4) _ _), GotO.view got4 st4 hu, hr, fun z2 G5 H5 ext5 rv5 => ?_⟩
    refine hp4 z2 H5 G5 ext5.gg (fun i c => ?_) (st4.res ext5 rv5)
    subst c
    exact rv5.elim
  | false =>
    rw [if_neg Bool.false_ne_true]
    obtain ⟨rfl, rfl⟩ := ret_some h6
    exact post_pl hp3 st3 (.bl _)

/-! ### lists of steps -/
theorem step_evs_nil {Q : List V → Hp → Prop} (h : tD EC X (M.ret []) σ H Q) : Q [] H := by
  obtain ⟨le, FR, G, ρ, τ, out, ρ', hs, he, hp⟩ := h
  obtain ⟨rfl, rfl⟩ := ret_some he
  exact hp [] H G (Le.refl _) .nil hs
theorem step_evs_cons {f : M RV} {g : M (List D)} {Q : List V → Hp → Prop} (h : tD EC X (do
      let r ← f
      let v ← plainM r
      let vs ← g
      M.ret (v :: vs)) σ H Q) : tE EC X f σ H fun x H1 => tD EC X g σ H1 fun xs H2 => Q (x :: xs) H2 := by
  obtain ⟨le, FR, G, ρ, τ, out, ρ', hs, he, hp⟩ := h
  rcases bind_some he with ⟨e, he1, rfl⟩ | ⟨r, ρ1, he1, h2⟩
  · exact opd hs he1 (fun r c => nomatch c) fun e' c => by cases c; exact hp
  · refine opd hs he1 (fun r2 c z H1 G1 g1 got st => ?_) fun e c => nomatch c
    cases c
    obtain ⟨v, hv, hf, h3⟩ := plain_bind h2
    have pv := GotO.plain got hv hf
    rcases bind_some h3 with ⟨e, he2, rfl⟩ | ⟨vs, ρ2, he2, h4⟩
    · exact ⟨le, FR, G1, ρ1, τ, _, _, st, he2, wx_le g1 hp⟩
    · obtain ⟨rfl, rfl⟩ := ret_some h4
      exact ⟨le, FR, G1, ρ1, τ, _, _, st, he2, fun zs H2 G2 g2 q st2 => hp (z :: zs) H2 G2 (g1.trans g2) (.cons (pv.mono g2 _ _) q) st2⟩
theorem step_evr_nil {Q : List V → Hp → Prop} (h : tR EC X (M.ret []) σ H Q) : Q [] H := by
  obtain ⟨le, FR, G, ρ, τ, out, ρ', hs, he, hp⟩ := h
  obtain ⟨rfl, rfl⟩ := ret_some he
  exact hp [] H G (Le.refl _) .nil hs
theorem Gots.mono {K : PySem.W.Frag} {rs : List RV} {zs : List V} (h : Gots K G σ rs zs) (g : Le G G') : Gots K G' σ rs zs := by
  induction h with
  | nil => exact .nil
  | cons h _ ih => exact .cons (GotO.mono h g) ih
theorem step_evr_cons {f : M RV} {g : M (List RV)} {Q : List V → Hp → Prop} (h : tR EC X (do
      let r ← f
      let rs ← g
      M.ret (r :: rs)) σ H Q) : tE EC X f σ H fun x H1 => tR EC X g σ H1 fun xs H2 => Q (x :: xs) H2 := by
  obtain ⟨le, FR, G, ρ, τ, out, ρ', hs, he, hp⟩ := h
  rcases bind_some he with ⟨e, he1, rfl⟩ | ⟨r, ρ1, he1, h2⟩
  · exact opd hs he1 (fun r c => nomatch c) fun e' c => by cases c; exact hp
  · refine opd hs he1 (fun r2 c z H1 G1 g1 got st => ?_) fun e c => nomatch c
    cases c
    rcases bind_some h2 with ⟨e, he2, rfl⟩ | ⟨rs, ρ2, he2, h4⟩
    · exact ⟨le, FR, G1, ρ1, τ, _, _, st, he2, wx_le g1 hp⟩
    · obtain ⟨rfl, rfl⟩ := ret_some h4
      exact ⟨le, FR, G1, ρ1, τ, _, _, st, he2, fun zs H2 G2 g2 q st2 => hp (z :: zs) H2 G2 (g1.trans g2) (.cons (GotO.mono got g2) q) st2⟩
theorem step_tup {g : M (List D)} {Q : VK} (h : tE EC X (do
      let vs ← g
      M.ret (.pl (.tuple vs))) σ H Q) : tD EC X g σ H fun xs H1 => ∀ p, H1 p = none → Q (.ref p) (upd H1 p (.tup xs)) := by
  obtain ⟨le, FR, G, ρ, τ, out, ρ', hs, he, hp⟩ := h
  rcases bind_some he with ⟨e, he1, rfl⟩ | ⟨vs, ρ1, he1, h2⟩
  · exact ⟨le, FR, G, ρ, τ, _, _, hs, he1, hp⟩
  · obtain ⟨rfl, rfl⟩ := ret_some h2
    refine ⟨le, FR, G, ρ, τ, _, _, hs, he1, fun zs H1 G1 g1 q st p np => ?_⟩
    have gp := st.sub.none np
    exact hp _ _ _ (g1.trans (le_upd gp)) (fun i c => nomatch c) (st.res (Ext.newT st.sub np) (show Dp X.K _ (.ref p) (.tuple vs) from .tup (.inl (.inl upd_same)) (q.mono (le_upd gp) _ _)))
theorem step_lst {g : M (List D)} {Q : VK} (h : tE EC X (do
      let vs ← g
      M.ret (.ow (.list vs))) σ H Q) : tD EC X g σ H fun xs H1 => ∀ p, H1 p = none → Q (.ref p) (upd H1 p (.lst xs)) := by
  obtain ⟨le, FR, G, ρ, τ, out, ρ', hs, he, hp⟩ := h
  rcases bind_some he with ⟨e, he1, rfl⟩ | ⟨vs, ρ1, he1, h2⟩
  · exact ⟨le, FR, G, ρ, τ, _, _, hs, he1, hp⟩
  · obtain ⟨rfl, rfl⟩ := ret_some h2
    refine ⟨le, FR, G, ρ, τ, _, _, hs, he1, fun zs H1 G1 g1 q st p np => ?_⟩
    exact hp _ _ _ g1 (fun i c => nomatch c) (st.res (Ext.newL st.sub np) (show ResV X.K _ _ _ (.ref p) (.ow (.list vs)) from ⟨p, rfl, np, st.sub.none np, _, upd_same, q⟩))
end
end TK

set_option Elab.async false
set_option linter.all false
set_option maxRecDepth 100000
set_option maxHeartbeats 1000000
/-! TKStep3: reads, slices, pops. -/
namespace TK
open PySem PySem.Spec PyProof.Rows L2
section
variable {EC : Nat → Option Addr} {X : Cx} {le : Nat → Option Addr} {FR G G' H H' : Hp} {ρ ρ' : En} {σ : L2.St} {τ : List (RV × V)}

theorem step_var {i : Nat} {Q : VK} (h : tE EC X (rdVar i) σ H Q) : tVar i σ H Q := by
  obtain ⟨le, FR, G, ρ, τ, out, ρ', hs, he, hp⟩ := h
  unfold rdVar at he
  cases e : ρ[i]? with
  | none => rw [e] at he; cases he
  | some r =>
    rw [e] at he
    cases r with
    | pl v =>
      obtain ⟨rfl, rfl⟩ := ret_some (a := RV.pl v) he
      obtain ⟨o, x⟩ := hs
      obtain ⟨z, h1, h2⟩ := x.var e
      exact ⟨z, h1, post_pl hp ⟨o, x⟩ h2⟩
    | _ => cases he
theorem step_frz {i : Nat} {Q : VK} (h : tE EC X (rdFrz i) σ H Q) : tVar i σ H Q := by
  obtain ⟨le, FR, G, ρ, τ, out, ρ', hs, he, hp⟩ := h
  unfold rdFrz at he
  cases e : ρ[i]? with
  | none => rw [e] at he; cases he
  | some r =>
    rw [e] at he
    obtain ⟨o, x⟩ := hs
    have fz {v : D} (e : ρ[i]? = some r) (hr : r.dat = some v) (hn : r.free = true) (he : some (Out.ok (RV.pl v), ρ.set i (.pl v)) = some (out, ρ')) : tVar i σ H Q := by
      obtain ⟨z, h1, h2, h3⟩ := x.frz_slot e hr hn
      cases he
      exact ⟨z, h1, hp z H _ (frz_le x _) (fun i c => nomatch c) ⟨_, h2.push_pl h3⟩⟩
    cases r with
    | pl v =>
      obtain ⟨rfl, rfl⟩ := ret_some (a := RV.pl v) he
      obtain ⟨z, h1, h2⟩ := x.var e
      exact ⟨z, h1, post_pl hp ⟨o, x⟩ h2⟩
    | ow v => exact fz e rfl rfl he
    | ow2 v => exact fz e rfl rfl he
    | _ => cases he
theorem step_take {i : Nat} {Q : VK} (h : tE EC X (rdTake i) σ H Q) : tVar i σ H Q := by
  obtain ⟨le, FR, G, ρ, τ, out, ρ', hs, he, hp⟩ := h
  unfold rdTake at he
  cases e : ρ[i]? with
  | none => rw [e] at he; cases he
  | some r =>
    rw [e] at he
    obtain ⟨o, x⟩ := hs
    have hh := x.slot i _ e
    have tk {z : V} (hz : σ[i]?.join = some z) (hf : r.free = true) (he : some (Out.ok r, ρ.set i .un) = some (out, ρ')) : tVar i σ H Q := by
      have hz := join_some hz
      cases he
      exact ⟨z, hz, hp z H G (Le.refl _) (fun j c => by subst c; exact hz.symm ▸ (by obtain ⟨⟩ := hf)) ⟨_, x.take e hz hf⟩⟩
    cases r with
    | pl v =>
      obtain ⟨rfl, rfl⟩ := ret_some (a := RV.pl v) he
      obtain ⟨z, h1, h2⟩ := x.var e
      exact ⟨z, h1, post_pl hp ⟨o, x⟩ h2⟩
    | ow v => obtain ⟨a, h1, _⟩ := hh; exact tk h1 rfl he
    | ow2 v => obtain ⟨a, _, _, h1, _⟩ := hh; exact tk h1 rfl he
    | _ => cases he
theorem step_bor {i : Nat} {Q : VK} (h : tE EC X (rdBor i) σ H Q) : tVar i σ H Q := by
  obtain ⟨le, FR, G, ρ, τ, out, ρ', hs, he, hp⟩ := h
  unfold rdBor at he
  cases e : ρ[i]? with
  | none => rw [e] at he; cases he
  | some r =>
    rw [e] at he
    obtain ⟨o, x⟩ := hs
    have hh := x.slot i _ e
    have tk {z : V} (hz : σ[i]?.join = some z) (he : some (Out.ok (RV.bw i), ρ) = some (out, ρ')) : tVar i σ H Q := by
      have hz := join_some hz
      cases he
      exact ⟨z, hz, hp z H G (Le.refl _) (fun j c => by cases c; exact hz) ⟨o, x.push_bw⟩⟩
    cases r with
    | un => cases he
    | bw _ => cases he
    | pl v => obtain ⟨a, h1, _⟩ := hh; exact tk h1 he
    | ow v => obtain ⟨a, h1, _⟩ := hh; exact tk h1 he
    | ow2 v => obtain ⟨a, _, _, h1, _⟩ := hh; exact tk h1 he
    | io v => obtain ⟨a, _, h1, _⟩ := hh; exact tk h1 he
theorem step_cst {v : V} {d : D} (hv : ∀ G, Dp X.K G v d) {Q : VK} (h : tE EC X (M.ret (.pl d)) σ H Q) : tC v σ H Q := by
  obtain ⟨le, FR, G, ρ, τ, out, ρ', hs, he, hp⟩ := h
  obtain ⟨rfl, rfl⟩ := ret_some he
  exact post_pl hp hs (hv G)

/-! ### slices -/
section
variable (EC X)
def PostO (le : Nat → Option Addr) (FR G : Hp) (ρ' : En) (σ : L2.St) (τ : List (RV × V)) : Out (Option D) → (Option Int → Hp → Prop) → Prop
  | .ok l, Q => ∀ i H' G', Le G G' → PartD i l → StE X.K le FR G' H' ρ' σ τ → Q i H'
  | .ex e, _ => Takes X (WXx EC X le FR G ρ' σ τ e)
def tO (f : M (Option D)) : TO := fun σ H Q => ∃ le FR G ρ τ out ρ', StE X.K le FR G H ρ σ τ ∧ f ρ = some (out, ρ') ∧ PostO EC X le FR G ρ' σ τ out Q
end
theorem step_o_no {Q : Option Int → Hp → Prop} (h : tO EC X (M.ret none) σ H Q) : tNoPart σ H Q := by
  obtain ⟨le, FR, G, ρ, τ, out, ρ', hs, he, hp⟩ := h
  obtain ⟨rfl, rfl⟩ := ret_some he
  exact hp none H G (Le.refl _) trivial hs
theorem int_bind {β : Type} {v : D} {f : Int → M β} {ρ ρ' : En} {o : Out β} (h : (intM v >>= f) ρ = some (o, ρ')) : ∃ i, v = .int i ∧ f i ρ = some (o, ρ') := by
  cases v with
  | int i => exact ⟨i, rfl, h⟩
  | _ =>
    have h : (M.stuck >>= f) ρ = some (o, ρ') := h
    rcases bind_some h with ⟨_, h, _⟩ | ⟨_, _, h, _⟩ <;> exact (stuck_some h).elim
theorem step_o_so {f : M RV} {Q : Option Int → Hp → Prop} (h : tO EC X (do
      let r ← f
      let v ← M.dat r
      let k ← intM v
      M.ret (some (.int k))) σ H Q) : tPart (tE EC X f) σ H Q := by
  obtain ⟨le, FR, G, ρ, τ, out, ρ', hs, he, hp⟩ := h
  rcases bind_some he with ⟨e, he1, rfl⟩ | ⟨r, ρ1, he1, h2⟩
  · exact opd hs he1 (fun r c => nomatch c) fun e' c => by cases c; exact hp
  · refine opd hs he1 (fun r2 c z H1 G1 g1 got st => ?_) fun e c => nomatch c
    cases c
    obtain ⟨v, hv, h3⟩ := dat_bind h2
    obtain ⟨i, rfl, h4⟩ := int_bind h3
    obtain ⟨rfl, rfl⟩ := ret_some h4
    exact ⟨i, (GotO.view got st hv).int, hp (some i) H1 G1 g1 rfl st⟩
theorem step_slc {f : M RV} {g k : M (Option D)} {Q : VK} (h : tE EC X (do
      let r ← f
      let l ← g
      let h ← k
      let v ← M.dat r
      M.of (slcD v l h)) σ H Q) : tSl (rSl X.K) (tE EC X f) (tO EC X g) (tO EC X k) σ H Q := by
  obtain ⟨le, FR, G, ρ, τ, out, ρ', hs, he, hp⟩ := h
  refine step1 hs he hp fun r ρ1 h2 z H1 G1 g1 got st hp1 => ?_
  rcases bind_some h2 with ⟨e, he1, rfl⟩ | ⟨l, ρ2, he1, h3⟩
  · exact ⟨le, FR, G1, ρ1, τ, _, _, st, he1, hp1⟩
  refine ⟨le, FR, G1, ρ1, τ, _, _, st, he1, fun i H2 G2 g2 pi st2 => ?_⟩
  rcases bind_some h3 with ⟨e, he2, rfl⟩ | ⟨u, ρ3, he2, h4⟩
  · exact ⟨le, FR, G2, ρ2, τ, _, _, st2, he2, wx_le g2 hp1⟩
  refine ⟨le, FR, G2, ρ2, τ, _, _, st2, he2, fun j H3 G3 g3 pj st3 => ?_⟩
  obtain ⟨v, hv, h5⟩ := dat_bind h4
  obtain ⟨r', hr, rfl, rfl⟩ := of_some h5
  refine ⟨G3, v, l, u, r', st3.sub, GotO.view (GotO.mono got (g2.trans g3)) st3 hv, pi, pj, hr, fun z2 G5 H5 ext5 rv5 => ?_⟩
  refine hp1 z2 H5 G5 ((g2.trans g3).trans ext5.gg) (fun i c => ?_) (st3.res ext5 rv5)
  subst c
  exact rv5.elim

/-! ### pops -/
theorem chkL_some {i : Nat} {u : Out Unit} (h : chkL i ρ = some (u, ρ')) : u = .ok () ∧ ρ' = ρ ∧ ∃ xs, ρ[i]? = some (.ow (.list xs)) ∨ ρ[i]? = some (.io (.list xs)) := by
  unfold chkL at h
  cases e : ρ[i]? with
  | none => rw [e] at h; cases h
  | some r =>
    rw [e] at h
    cases r with
    | ow d =>
      cases d with
      | list xs => cases h; exact ⟨rfl, rfl, xs, .inl rfl⟩
      | _ => cases h
    | io d =>
      cases d with
      | list xs => cases h; exact ⟨rfl, rfl, xs, .inr rfl⟩
      | _ => cases h
    | _ => cases h
theorem chkL_bind {β : Type} {i : Nat} {f : Unit → M β} {o : Out β} (h : (chkL i >>= f) ρ = some (o, ρ')) : (∃ xs, ρ[i]? = some (.ow (.list xs)) ∨ ρ[i]? = some (.io (.list xs))) ∧ f () ρ = some (o, ρ') := by
  rcases bind_some h with ⟨e, h, _⟩ | ⟨v, ρ3, h, h3⟩
  · obtain ⟨c, _⟩ := chkL_some h; cases c
  · obtain ⟨c, rfl, x⟩ := chkL_some h
    exact ⟨x, h3⟩
theorem popM_some {i : Nat} {k : Int} {o : Out RV} (h : popM i k ρ = some (o, ρ')) : ∃ xs j y, -(2 ^ 63) ≤ k ∧ k < 2 ^ 63 ∧ seqIndex? k xs.length = some j ∧ xs[j]? = some y ∧ o = .ok (.pl y) ∧
    ((ρ[i]? = some (.ow (.list xs)) ∧ ρ' = ρ.set i (.ow (.list (xs.eraseIdx j)))) ∨ (ρ[i]? = some (.io (.list xs)) ∧ ρ' = ρ.set i (.io (.list (xs.eraseIdx j))))) := by
  unfold popM at h
  have key (r : D → RV) (xs : List D) (h : (match seqIndex? k xs.length with
    | some j => if -(2 ^ 63) ≤ k ∧ k < 2 ^ 63 then match xs[j]? with
        | some y => some (Out.ok (RV.pl y), ρ.set i (r (.list (xs.eraseIdx j))))
        | none => none
      else none
    | none => none) = some (o, ρ')) : ∃ j y, -(2 ^ 63) ≤ k ∧ k < 2 ^ 63 ∧ seqIndex? k xs.length = some j ∧ xs[j]? = some y ∧ o = .ok (.pl y) ∧ ρ' = ρ.set i (r (.list (xs.eraseIdx j))) := by
    cases q : seqIndex? k xs.length with
    | none => rw [q] at h; cases h
    | some j =>
      rw [q] at h
      by_cases c : -(2 ^ 63) ≤ k ∧ k < 2 ^ 63
      · have h : (if -(2 ^ 63) ≤ k ∧ k < 2 ^ 63 then match xs[j]? with
          | some y => some (Out.ok (RV.pl y), ρ.set i (r (.list (xs.eraseIdx j))))
          | none => none
        else none) = some (o, ρ') := h
        rw [if_pos c] at h
        cases w : xs[j]? with
        | none => rw [w] at h; cases h
        | some y => rw [w] at h; cases h; exact ⟨j, y, c.1, c.2, rfl, w, rfl, rfl⟩
      · have h : (if -(2 ^ 63) ≤ k ∧ k < 2 ^ 63 then match xs[j]? with
          | some y => some (Out.ok (RV.pl y), ρ.set i (r (.list (xs.eraseIdx j))))
          | none => none
        else none) = some (o, ρ') := h
        rw [if_neg c] at h; cases h
  cases e : ρ[i]? with
  | none => rw [e] at h; cases h
  | some r =>
    rw [e] at h
    cases r with
    | ow d =>
      cases d with
      | list xs =>
        obtain ⟨j, y, h1, h2, h3, h4, h5, h6⟩ := key .ow xs h
        exact ⟨xs, j, y, h1, h2, h3, h4, h5, .inl ⟨rfl, h6⟩⟩
      | _ => cases h
    | io d =>
      cases d with
      | list xs =>
        obtain ⟨j, y, h1, h2, h3, h4, h5, h6⟩ := key .io xs h
        exact ⟨xs, j, y, h1, h2, h3, h4, h5, .inr ⟨rfl, h6⟩⟩
      | _ => cases h
    | _ => cases h
theorem step_pop {i : Nat} {f : M RV} {Q : VK} (h : tE EC X (do
      chkL i
      let r ← f
      let v ← M.dat r
      let k ← intM v
      popM i k) σ H Q) : tBM X.K "list" rPopAt (tVar i) (tCons (tE EC X f) tNil) σ H Q := by
  obtain ⟨le, FR, G, ρ, τ, out, ρ', hs, he, hp⟩ := h
  obtain ⟨⟨xs0, hx0⟩, he⟩ := chkL_bind he
  obtain ⟨a, vs, hz, ha, _⟩ := hs.changeL (ys := xs0) hx0
  refine ⟨_, hz, .inl ⟨rfl, vs, .inl (.inl ha)⟩, ?_⟩
  refine step1 hs he hp fun r ρ1 h2 z H1 G1 g1 got st hp1 => ?_
  obtain ⟨v, hv, h3⟩ := dat_bind h2
  obtain ⟨k, rfl, h4⟩ := int_bind h3
  obtain ⟨xs, j, y, c1, c2, c3, c4, rfl, c5⟩ := popM_some h4
  have zk := (GotO.view got st hv).int
  have e : ρ1[i]? = some (.ow (.list xs)) ∨ ρ1[i]? = some (.io (.list xs)) := c5.imp And.left And.left
  obtain ⟨a2, ws, hz2, ha2, dp, ch⟩ := st.changeL (ys := xs.eraseIdx j) e
  rw [hz] at hz2
  obtain rfl : a = a2 := by cases hz2; rfl
  obtain ⟨w, hw, dw⟩ := dp.get c4
  refine ⟨a, ws, k, j, w, rfl, by rw [zk], ha2, c1, c2, by rw [dp.length]; exact c3, hw, ?_⟩
  have ch := ch (ws.eraseIdx j) (dp.erase j)
  rcases c5 with ⟨q, rfl⟩ | ⟨q, rfl⟩
  · exact post_pl hp1 (ch.1 q) dw
  · exact post_pl hp1 (ch.2 q) dw
end
end TK

set_option Elab.async false
set_option linter.all false
set_option maxRecDepth 100000
set_option maxHeartbeats 1000000
/-! TKCall: the promise of a function of the table; a call seen by the caller. -/
namespace TK
open PySem PySem.Spec PyProof.Rows L2

/-- only what was lent -/
def ioOnly (fs : List RV) : List RV := fs.map fun | .io d => .io d | _ => .un
def lentSt (n : Nat) (le : Nat → Option Addr) : L2.St := (List.range n).map fun i => (le i).map V.ref
def PostC (EC : Nat → Option Addr) (K : PySem.W.Frag) (le : Nat → Option Addr) (FR G : Hp) (fs : List RV) : Out RV → VK → XK → Prop
  | .ok r, Q, _ => ∀ z H' G', Le G G' → r.keep = true → StE K le FR G' H' (ioOnly fs) (lentSt fs.length le) [(r, z)] → Q z H'
  | .ex e, _, E => ∀ cls d H' G', Le G G' → ExV EC e cls d H' → StE K le FR G' H' (ioOnly fs) (lentSt fs.length le) [] → E cls d H'
/-- the promise of a function -/
def spF (EC : Nat → Option Addr) (K : PySem.W.Frag) (cf : CallF) (f : Nat) : Sp := fun vs H Q E => ∃ le FR G as out fs, StE K le FR G H as (vs.map some) [] ∧ (∀ r ∈ as, (∃ d, r = .pl d) ∨ ∃ d, r = .io d) ∧ (∀ i a, le i = some a → vs[i]? = some (.ref a)) ∧
  cf f as = some (out, fs) ∧ PostC EC K le FR G fs out Q E

section
variable {EC : Nat → Option Addr} {K : PySem.W.Frag} {le : Nat → Option Addr} {FR G G' H H' : Hp} {o o' : Own} {ρ ρ' : En} {σ : L2.St} {τ : List (RV × V)}

theorem ioOnly_get {fs : List RV} {i : Nat} {r : RV} (h : (ioOnly fs)[i]? = some r) : r = .un ∨ ∃ d, r = .io d ∧ fs[i]? = some (.io d) := by
  unfold ioOnly at h
  rw [List.getElem?_map] at h
  cases e : fs[i]? with
  | none => rw [e] at h; cases h
  | some q =>
    rw [e] at h
    cases q with
    | io d => cases h; exact .inr ⟨d, rfl, rfl⟩
    | _ => cases h; exact .inl rfl
theorem ioOnly_io {fs : List RV} {i : Nat} {d : D} (h : fs[i]? = some (.io d)) : (ioOnly fs)[i]? = some (.io d) := by
  unfold ioOnly
  rw [List.getElem?_map, h]; rfl

/-- the end of a body: only the lent places are left -/
theorem StOk.leave (x : StOk K le FR G H o ρ σ τ) {n : Nat} (hl : ∀ i a, le i = some a → i < n) : StOk K le FR G H o (ioOnly (ρ.take n)) (lentSt (ρ.take n).length le) τ := by
  refine ⟨x.sub, x.fr, x.ow, ?_, fun i r e => ?_, fun i a e => ?_, x.tmp⟩
  · unfold ioOnly lentSt
    rw [List.length_map, List.length_map, List.length_range]
  · rcases ioOnly_get e with rfl | ⟨d, rfl, e'⟩
    · trivial
    · replace e := e'
      have hi : i < (ρ.take n).length := (List.getElem?_eq_some_iff.mp e).1
      have hin : i < n := by rw [List.length_take] at hi; omega
      rw [List.getElem?_take_of_lt hin] at e
      obtain ⟨a, j, h1, h2, h3, h4⟩ := x.slot i _ e
      have hj : j = i := by injection h2 with h; exact h.symm
      subst hj
      refine ⟨a, j, ?_, rfl, h3, h4⟩
      unfold lentSt
      rw [List.getElem?_map, List.getElem?_range hi]
      show (Option.map V.ref (le j)) = _
      rw [h3]; rfl
  · obtain ⟨d, q⟩ := x.lent i a e
    exact ⟨d, ioOnly_io (by rw [List.getElem?_take_of_lt (hl i a e)]; exact q)⟩

/-! ### the caller's side -/
theorem passArgs_cons {r : RV} {rs as : List RV} (h : passArgs (r :: rs) ρ = some as) : ∃ a bs, as = a :: bs ∧ passArgs rs ρ = some bs ∧
    ((∃ v, r.dat = some v ∧ r.free = true ∧ a = .pl v) ∨ ∃ i v, r = .bw i ∧ (ρ[i]? = some (.ow v) ∨ ρ[i]? = some (.io v)) ∧ a = .io v) := by
  unfold passArgs at h
  cases q : passArgs rs ρ with
  | none => rw [q] at h; cases h
  | some bs =>
    rw [q] at h
    cases r with
    | un => cases h
    | io d => cases h
    | pl d => cases h; exact ⟨_, _, rfl, rfl, .inl ⟨d, rfl, rfl, rfl⟩⟩
    | ow d => cases h; exact ⟨_, _, rfl, rfl, .inl ⟨d, rfl, rfl, rfl⟩⟩
    | ow2 d => cases h; exact ⟨_, _, rfl, rfl, .inl ⟨d, rfl, rfl, rfl⟩⟩
    | bw i =>
      have h : (match ρ[i]? with | some (.ow v) => some (.io v :: bs) | some (.io v) => some (.io v :: bs) | _ => none) = some as := h
      cases e : ρ[i]? with
      | none => rw [e] at h; cases h
      | some q =>
        rw [e] at h
        cases q with
        | ow v => cases h; exact ⟨_, _, rfl, rfl, .inr ⟨i, v, rfl, .inl e, rfl⟩⟩
        | io v => cases h; exact ⟨_, _, rfl, rfl, .inr ⟨i, v, rfl, .inr e, rfl⟩⟩
        | _ => cases h
theorem passArgs_len : ∀ {rs as : List RV}, passArgs rs ρ = some as → as.length = rs.length
  | [], as, h => by cases h; rfl
  | r :: rs, as, h => by
    obtain ⟨a, bs, rfl, q, _⟩ := passArgs_cons h
    rw [List.length_cons, List.length_cons, passArgs_len q]
theorem passArgs_get : ∀ {rs as : List RV} {j : Nat} {r : RV}, passArgs rs ρ = some as → rs[j]? = some r → ∃ a, as[j]? = some a ∧ 
    ((∃ v, r.dat = some v ∧ r.free = true ∧ a = .pl v) ∨ ∃ i v, r = .bw i ∧ (ρ[i]? = some (.ow v) ∨ ρ[i]? = some (.io v)) ∧ a = .io v)
  | [], _, _, _, _, e => by simp at e
  | r :: rs, as, 0, _, h, e => by
    obtain ⟨a, bs, rfl, q, w⟩ := passArgs_cons h
    simp at e; subst e
    exact ⟨a, rfl, w⟩
  | r :: rs, as, j + 1, _, h, e => by
    obtain ⟨a, bs, rfl, q, _⟩ := passArgs_cons h
    obtain ⟨a', h1, h2⟩ := passArgs_get (j := j) q (by simpa using e)
    exact ⟨a', by simpa using h1, h2⟩
theorem gots_get : ∀ {rs : List RV} {zs : List V} {j : Nat} {r : RV}, Gots K G σ rs zs → rs[j]? = some r → ∃ z, zs[j]? = some z ∧ GotO K G σ r z
  | _, _, _, _, .nil, e => by simp at e
  | _, _, 0, _, .cons h _, e => by simp at e; subst e; exact ⟨_, rfl, h⟩
  | _, _, j + 1, r, .cons _ h, e => by
    obtain ⟨z, h1, h2⟩ := gots_get (j := j) (r := r) h (by simpa using e)
    exact ⟨z, by simpa using h1, h2⟩
theorem gots_len : ∀ {rs : List RV} {zs : List V}, Gots K G σ rs zs → zs.length = rs.length
  | _, _, .nil => rfl
  | _, _, .cons _ h => by rw [List.length_cons, List.length_cons, gots_len h]
theorem mem_bws : ∀ {rs : List RV} {i : Nat}, i ∈ bwsOf rs ↔ .bw i ∈ rs
  | [], i => by simp [bwsOf]
  | r :: rs, i => by
    have ih := @mem_bws rs i
    cases r <;> simp [bwsOf, ih]
theorem bws_inj : ∀ {rs : List RV} {j j' i : Nat}, (bwsOf rs).Nodup → rs[j]? = some (.bw i) → rs[j']? = some (.bw i) → j = j'
  | [], _, _, _, _, e, _ => by simp at e
  | r :: rs, 0, 0, _, _, _, _ => rfl
  | r :: rs, 0, j' + 1, i, nd, e, e' => by
    simp at e e'; subst e
    have : i ∈ bwsOf rs := mem_bws.mpr (List.mem_of_getElem? e')
    exact absurd this (List.nodup_cons.mp (show (i :: bwsOf rs).Nodup from nd)).1
  | r :: rs, j + 1, 0, i, nd, e, e' => by
    simp at e e'; subst e'
    have : i ∈ bwsOf rs := mem_bws.mpr (List.mem_of_getElem? e)
    exact absurd this (List.nodup_cons.mp (show (i :: bwsOf rs).Nodup from nd)).1
  | r :: rs, j + 1, j' + 1, i, nd, e, e' => by
    have nd' : (bwsOf rs).Nodup := by
      cases r with
      | bw k => exact (List.nodup_cons.mp (show (k :: bwsOf rs).Nodup from nd)).2
      | _ => exact nd
    exact congrArg (· + 1) (bws_inj nd' (by simpa using e) (by simpa using e'))

/-- where in the arguments a place stands -/
def argIx (rs : List RV) (i : Nat) : Option Nat := rs.findIdx? fun r => match r with | .bw k => k == i | _ => false
theorem argIx_some {rs : List RV} {i j : Nat} (h : argIx rs i = some j) : rs[j]? = some (.bw i) := by
  unfold argIx at h
  obtain ⟨hl, hp, _⟩ := List.findIdx?_eq_some_iff_getElem.mp h
  rw [List.getElem?_eq_getElem hl]
  revert hp
  cases rs[j] with
  | bw k => intro hp; have : k = i := by simpa using hp
            rw [this]
  | _ => intro hp; cases hp
theorem argIx_none {rs : List RV} {i j : Nat} (h : argIx rs i = none) : rs[j]? ≠ some (.bw i) := by
  intro e
  unfold argIx at h
  have := List.findIdx?_eq_none_iff.mp h _ (List.mem_of_getElem? e)
  simp at this
theorem argIx_of {rs : List RV} {i j : Nat} (nd : (bwsOf rs).Nodup) (e : rs[j]? = some (.bw i)) : argIx rs i = some j := by
  cases h : argIx rs i with
  | none => exact absurd e (argIx_none h)
  | some j' => rw [bws_inj nd e (argIx_some h)]
/-- the callee's owners -/
def inOwn (rs : List RV) (o : Own) : Own := fun a => match o a with
  | some (.slot i) => (argIx rs i).map Wh.slot
  | _ => none
/-- what the callee may not touch -/
def inFR (rs : List RV) (o : Own) (FR H : Hp) : Hp := fun a => match o a with
  | some (.slot i) => match argIx rs i with
    | some _ => none
    | none => H a
  | some (.tmp _) => H a
  | none => FR a
def inLe (rs : List RV) (zs : List V) : Nat → Option Addr := fun j => match rs[j]? with
  | some (.bw _) => match zs[j]? with
    | some (.ref a) => some a
    | _ => none
  | _ => none
theorem inLe_some {rs : List RV} {zs : List V} {j : Nat} {a : Addr} (h : inLe rs zs j = some a) : ∃ i, rs[j]? = some (.bw i) ∧ zs[j]? = some (.ref a) := by
  unfold inLe at h
  cases e : rs[j]? with
  | none => rw [e] at h; cases h
  | some r =>
    rw [e] at h
    cases r with
    | bw i =>
      cases q : zs[j]? with
      | none => rw [q] at h; cases h
      | some z =>
        rw [q] at h
        cases z with
        | ref b => cases h; exact ⟨i, rfl, rfl⟩
        | _ => cases h
    | _ => cases h
theorem inLe_of {rs : List RV} {zs : List V} {j i : Nat} {a : Addr} (h1 : rs[j]? = some (.bw i)) (h2 : zs[j]? = some (.ref a)) : inLe rs zs j = some a := by
  unfold inLe; rw [h1, h2]
theorem inOwn_slot {rs : List RV} {a : Addr} {i : Nat} (q : o a = some (.slot i)) : inOwn rs o a = (argIx rs i).map Wh.slot := by unfold inOwn; rw [q]
theorem inOwn_tmp {rs : List RV} {a : Addr} {k : Nat} (q : o a = some (.tmp k)) : inOwn rs o a = none := by unfold inOwn; rw [q]
theorem inOwn_no {rs : List RV} {a : Addr} (q : o a = none) : inOwn rs o a = none := by unfold inOwn; rw [q]
theorem inFR_lent {rs : List RV} {FR H : Hp} {a : Addr} {i j : Nat} (q : o a = some (.slot i)) (h : argIx rs i = some j) : inFR rs o FR H a = none := by unfold inFR; rw [q]; show (match argIx rs i with | some _ => none | none => H a) = _; rw [h]
theorem inFR_slot {rs : List RV} {FR H : Hp} {a : Addr} {i : Nat} (q : o a = some (.slot i)) (h : argIx rs i = none) : inFR rs o FR H a = H a := by unfold inFR; rw [q]; show (match argIx rs i with | some _ => none | none => H a) = _; rw [h]
theorem inFR_tmp {rs : List RV} {FR H : Hp} {a : Addr} {k : Nat} (q : o a = some (.tmp k)) : inFR rs o FR H a = H a := by unfold inFR; rw [q]
theorem inFR_no {rs : List RV} {FR H : Hp} {a : Addr} (q : o a = none) : inFR rs o FR H a = FR a := by unfold inFR; rw [q]
theorem StOk.enter (x : StOk K le FR G H o ρ σ τ) {rs as : List RV} {zs : List V} (g : Gots K G σ rs zs) (p : passArgs rs ρ = some as) (nd : (bwsOf rs).Nodup) :
    StOk K (inLe rs zs) (inFR rs o FR H) G H (inOwn rs o) as (zs.map some) [] := by
  have slotOf {j i : Nat} {v : D} {z : V} (e : rs[j]? = some (.bw i)) (hz : zs[j]? = some z) (q : ρ[i]? = some (.ow v) ∨ ρ[i]? = some (.io v)) : ∃ a, z = .ref a ∧ o a = some (.slot i) ∧ OwnAt K G H a v := by
    obtain ⟨z', h1, h2⟩ := gots_get g e
    rw [hz] at h1
    obtain rfl := Option.some.inj h1
    rcases h2 with (⟨k, h3, h4⟩ | ⟨_, h3, _⟩) | ⟨_, _, h3⟩
    · cases h3
      rcases q with q | q
      · obtain ⟨a, w1, w2, w3⟩ := x.slot i _ q
        rw [h4] at w1
        obtain rfl := Option.some.inj w1
        exact ⟨a, rfl, w2, w3⟩
      · obtain ⟨a, _, w1, _, _, w2, w3⟩ := x.slot i _ q
        rw [h4] at w1
        obtain rfl := Option.some.inj w1
        exact ⟨a, rfl, w2, w3⟩
    · cases h3
    · exact absurd rfl (h3 i)
  have ownOf {a : Addr} {w : Wh} (e : inOwn rs o a = some w) : ∃ i j, o a = some (.slot i) ∧ argIx rs i = some j ∧ w = .slot j := by
    cases q : o a with
    | none => rw [inOwn_no q] at e; cases e
    | some u =>
      cases u with
      | tmp k => rw [inOwn_tmp q] at e; cases e
      | slot i =>
        rw [inOwn_slot q] at e
        cases h : argIx rs i with
        | none => rw [h] at e; cases e
        | some j => rw [h] at e; cases e; exact ⟨i, j, rfl, h, rfl⟩
  refine ⟨x.sub, fun a y e => ?_, fun a w e => ?_, ?_, fun j r e => ?_, fun j a e => ?_, trivial⟩
  · cases q : o a with
    | none =>
      rw [inFR_no q] at e
      obtain ⟨h1, h2, _⟩ := x.fr a y e
      exact ⟨h1, h2, inOwn_no q⟩
    | some u =>
      obtain ⟨g1, _⟩ := x.ow a u q
      cases u with
      | tmp k => rw [inFR_tmp q] at e; exact ⟨e, g1, inOwn_tmp q⟩
      | slot i =>
        cases h : argIx rs i with
        | none => rw [inFR_slot q h] at e; exact ⟨e, g1, by rw [inOwn_slot q, h]; rfl⟩
        | some j => rw [inFR_lent q h] at e; cases e
  · obtain ⟨i, j, h1, _, _⟩ := ownOf e
    exact x.ow a _ h1
  · rw [passArgs_len p, List.length_map, gots_len g]
  · have hj : j < rs.length := by rw [← passArgs_len p]; exact (List.getElem?_eq_some_iff.mp e).1
    obtain ⟨a, h1, h2⟩ := passArgs_get p (List.getElem?_eq_getElem hj)
    rw [e] at h1
    obtain rfl := Option.some.inj h1
    obtain ⟨z, hz, gz⟩ := gots_get g (List.getElem?_eq_getElem hj)
    have hz' : ((zs.map some)[j]?).join = some z := by rw [List.getElem?_map, hz]; rfl
    rw [hz']
    rcases h2 with ⟨v, d1, d2, rfl⟩ | ⟨i, v, d1, d2, rfl⟩
    · exact ⟨z, rfl, GotO.plain gz d1 d2⟩
    · have e' : rs[j]? = some (.bw i) := by rw [List.getElem?_eq_getElem hj, d1]
      obtain ⟨b, rfl, ob, own⟩ := slotOf e' hz d2
      refine ⟨b, j, rfl, rfl, inLe_of e' hz, ?_, own⟩
      rw [inOwn_slot ob, argIx_of nd e']; rfl
  · obtain ⟨i, h1, h2⟩ := inLe_some e
    obtain ⟨a', w1, w2⟩ := passArgs_get p h1
    rcases w2 with ⟨v, d1, _, _⟩ | ⟨i', v, d1, d2, rfl⟩
    · cases d1
    · exact ⟨v, w1⟩

theorem backArgs_bw {i : Nat} {rs fs : List RV} (h : backArgs (.bw i :: rs) fs ρ = some ρ') : ∃ v fs', fs = .io v :: fs' ∧ ((∃ u, ρ[i]? = some (.ow u) ∧ backArgs rs fs' (ρ.set i (.ow v)) = some ρ') ∨ ∃ u, ρ[i]? = some (.io u) ∧ backArgs rs fs' (ρ.set i (.io v)) = some ρ') := by
  cases fs with
  | nil => cases h
  | cons f fs' =>
    cases f with
    | io v =>
      have h : (match ρ[i]? with
        | some (.ow _) => backArgs rs fs' (ρ.set i (.ow v))
        | some (.io _) => backArgs rs fs' (ρ.set i (.io v))
        | _ => none) = some ρ' := h
      cases e : ρ[i]? with
      | none => rw [e] at h; cases h
      | some q =>
        rw [e] at h
        cases q with
        | ow u => exact ⟨v, fs', rfl, .inl ⟨u, rfl, h⟩⟩
        | io u => exact ⟨v, fs', rfl, .inr ⟨u, rfl, h⟩⟩
        | _ => cases h
    | _ => cases h
theorem backArgs_no {r : RV} {rs fs : List RV} (hr : ∀ i, r ≠ .bw i) (h : backArgs (r :: rs) fs ρ = some ρ') : ∃ f fs', fs = f :: fs' ∧ backArgs rs fs' ρ = some ρ' := by
  cases fs with
  | nil => cases r <;> first | cases h | exact absurd rfl (hr _)
  | cons f fs' => cases r <;> first | exact ⟨f, fs', rfl, h⟩ | exact absurd rfl (hr _)
theorem backArgs_get : ∀ {rs fs : List RV} {ρ ρ' : En}, (bwsOf rs).Nodup → backArgs rs fs ρ = some ρ' → ρ'.length = ρ.length ∧ (∀ i, RV.bw i ∉ rs → ρ'[i]? = ρ[i]?) ∧
    ∀ (i j : Nat), rs[j]? = some (RV.bw i) → ∃ v, fs[j]? = some (.io v) ∧ ((∃ u, ρ[i]? = some (.ow u) ∧ ρ'[i]? = some (.ow v)) ∨ ∃ u, ρ[i]? = some (.io u) ∧ ρ'[i]? = some (.io v))
  | [], [], ρ, ρ', _, h => by cases h; exact ⟨rfl, fun _ _ => rfl, fun i j e => by simp at e⟩
  | [], f :: fs, ρ, ρ', _, h => by cases h
  | r :: rs, fs, ρ, ρ', nd, h => by
    by_cases hr : ∃ i, r = .bw i
    · obtain ⟨i, rfl⟩ := hr
      obtain ⟨ni, nd'⟩ := List.nodup_cons.mp (show (i :: bwsOf rs).Nodup from nd)
      have ni' : RV.bw i ∉ rs := fun m => ni (mem_bws.mpr m)
      obtain ⟨v, fs', rfl, c⟩ := backArgs_bw h
      have fin (q : RV) (hq : ∃ u, ρ[i]? = some u) (hb : backArgs rs fs' (ρ.set i q) = some ρ') : ρ'.length = ρ.length ∧ (∀ k, RV.bw k ∉ (RV.bw i :: rs) → ρ'[k]? = ρ[k]?) ∧ ρ'[i]? = some q ∧
          ∀ (k j : Nat), rs[j]? = some (RV.bw k) → ∃ v, fs'[j]? = some (.io v) ∧ ((∃ u, ρ[k]? = some (.ow u) ∧ ρ'[k]? = some (.ow v)) ∨ ∃ u, ρ[k]? = some (.io u) ∧ ρ'[k]? = some (.io v)) := by
        obtain ⟨u, hu⟩ := hq
        obtain ⟨h1, h2, h3⟩ := backArgs_get nd' hb
        refine ⟨by rw [h1, List.length_set], fun k hk => ?_, ?_, fun k j e => ?_⟩
        · rw [h2 k fun m => hk (List.mem_cons_of_mem _ m), List.getElem?_set_ne]
          intro c; subst c; exact hk List.mem_cons_self
        · rw [h2 i ni', List.getElem?_set_self (List.getElem?_eq_some_iff.mp hu).1]
        · obtain ⟨v, w1, w2⟩ := h3 k j e
          have ne : i ≠ k := fun c => by subst c; exact ni' (List.mem_of_getElem? e)
          rw [List.getElem?_set_ne ne] at w2
          exact ⟨v, w1, w2⟩
      rcases c with ⟨u, hu, hb⟩ | ⟨u, hu, hb⟩
      · obtain ⟨f1, f2, f3, f4⟩ := fin (.ow v) ⟨_, hu⟩ hb
        refine ⟨f1, f2, fun k j e => ?_⟩
        cases j with
        | zero => simp at e; subst e; exact ⟨v, rfl, .inl ⟨u, hu, f3⟩⟩
        | succ j => obtain ⟨v', w1, w2⟩ := f4 k j (by simpa using e); exact ⟨v', by simpa using w1, w2⟩
      · obtain ⟨f1, f2, f3, f4⟩ := fin (.io v) ⟨_, hu⟩ hb
        refine ⟨f1, f2, fun k j e => ?_⟩
        cases j with
        | zero => simp at e; subst e; exact ⟨v, rfl, .inr ⟨u, hu, f3⟩⟩
        | succ j => obtain ⟨v', w1, w2⟩ := f4 k j (by simpa using e); exact ⟨v', by simpa using w1, w2⟩
    · have hr' : ∀ i, r ≠ .bw i := fun i c => hr ⟨i, c⟩
      obtain ⟨f, fs', rfl, hb⟩ := backArgs_no hr' h
      have nd' : (bwsOf rs).Nodup := by cases r <;> first | exact nd | exact absurd rfl (hr' _)
      obtain ⟨h1, h2, h3⟩ := backArgs_get nd' hb
      refine ⟨h1, fun i hi => h2 i fun m => hi (List.mem_cons_of_mem _ m), fun i j e => ?_⟩
      cases j with
      | zero => simp at e; exact absurd e (hr' i)
      | succ j => obtain ⟨v, w1, w2⟩ := h3 i j (by simpa using e); exact ⟨v, by simpa using w1, w2⟩

/-- the owners behind the call: t the place of the result -/
def outOwn (rs : List RV) (o : Own) (FR H : Hp) (t : Nat) (o2 : Own) : Own := fun a => match inFR rs o FR H a with
  | some _ => o a
  | none => match o2 a with
    | some (.slot j) => match rs[j]? with
      | some (.bw i) => some (.slot i)
      | _ => none
    | some (.tmp 0) => some (.tmp t)
    | _ => none
theorem StOk.back (x : StOk K le FR G H o ρ σ τ) {rs as fs : List RV} {zs : List V} (g : Gots K G σ rs zs) (p : passArgs rs ρ = some as) (nd : (bwsOf rs).Nodup) (hb : backArgs rs fs ρ = some ρ') (hg : Le G G')
    {o2 : Own} {t : List (RV × V)} (ht : t = [] ∨ ∃ r z, t = [(r, z)] ∧ r.keep = true)
    (y : StOk K (inLe rs zs) (inFR rs o FR H) G' H' o2 (ioOnly fs) (lentSt fs.length (inLe rs zs)) t) : StE K le FR G' H' ρ' σ (t ++ τ) := by
  obtain ⟨b1, b2, b3⟩ := backArgs_get nd hb
  -- what is not lent stays
  have stay : ∀ a w, o a = some w → (∀ i j : Nat, w = .slot i → rs[j]? ≠ some (RV.bw i)) → ∃ u, inFR rs o FR H a = some u ∧ H a = some u ∧ H' a = H a ∧ outOwn rs o FR H τ.length o2 a = some w := by
    intro a w e hw
    obtain ⟨_, u, hu⟩ := x.ow a w e
    have q : inFR rs o FR H a = some u := by
      cases w with
      | tmp k => rw [inFR_tmp e]; exact hu
      | slot i =>
        have : argIx rs i = none := by
          cases h : argIx rs i with
          | none => rfl
          | some j => exact absurd (argIx_some h) (hw i j rfl)
        rw [inFR_slot e this]; exact hu
    refine ⟨u, q, hu, ((y.fr a u q).1).trans hu.symm, ?_⟩
    unfold outOwn
    rw [q]; exact e
  -- what the callee owns
  have its : ∀ a w, o2 a = some w → inFR rs o FR H a = none := by
    intro a w e
    cases q : inFR rs o FR H a with
    | none => rfl
    | some u => have := (y.fr a u q).2.2; rw [e] at this; cases this
  refine ⟨outOwn rs o FR H τ.length o2, y.sub, fun a u e => ?_, fun a w e => ?_, by rw [b1]; exact x.len, fun i r e => ?_, fun i a e => ?_, ?_⟩
  · obtain ⟨h1, h2, h3⟩ := x.fr a u e
    have q : inFR rs o FR H a = some u := by rw [inFR_no h3]; exact e
    obtain ⟨k1, k2, _⟩ := y.fr a u q
    refine ⟨k1, k2, ?_⟩
    unfold outOwn; rw [q]; exact h3
  · unfold outOwn at e
    cases q : inFR rs o FR H a with
    | some u => obtain ⟨k1, k2, _⟩ := y.fr a u q; exact ⟨k2, u, k1⟩
    | none =>
      rw [q] at e
      cases h : o2 a with
      | none => rw [h] at e; cases e
      | some w' => exact y.ow a w' h
  · by_cases hm : RV.bw i ∈ rs
    · obtain ⟨j, hj⟩ := List.getElem?_of_mem hm
      obtain ⟨v, w1, w2⟩ := b3 i j hj
      obtain ⟨a, k, h1, h2, h3, h4, h5⟩ := y.slot j _ (ioOnly_io w1)
      have hk : k = j := by injection h2 with h; exact h.symm
      subst hk
      obtain ⟨i', hi', hz⟩ := inLe_some h3
      have hii : i' = i := by rw [hj] at hi'; cases hi'; rfl
      subst hii
      obtain ⟨z, gz1, gz2⟩ := gots_get g hj
      rw [hz] at gz1
      obtain rfl := Option.some.inj gz1
      have hσ : σ[i']? = some (some (.ref a)) := by
        rcases gz2 with (⟨n, c, hh⟩ | ⟨_, c, _⟩) | ⟨_, _, c⟩
        · cases c; exact hh
        · cases c
        · exact absurd rfl (c i')
      have hσ' : σ[i']?.join = some (.ref a) := by rw [hσ]; rfl
      have hoo : outOwn rs o FR H τ.length o2 a = some (.slot i') := by
        unfold outOwn
        rw [its a _ h4, h4]
        show (match rs[k]? with | some (.bw i) => some (Wh.slot i) | _ => none) = _
        rw [hj]
      rcases w2 with ⟨u, hu, hu'⟩ | ⟨u, hu, hu'⟩
      · rw [hu'] at e; obtain rfl := Option.some.inj e
        exact ⟨a, hσ', hoo, h5⟩
      · rw [hu'] at e; obtain rfl := Option.some.inj e
        obtain ⟨a0, i0, e1, e2, e3, _⟩ := x.slot i' _ hu
        rw [hσ'] at e1
        have : a0 = a := by cases e1; rfl
        subst this
        have : i0 = i' := by injection e2 with h; exact h.symm
        subst this
        exact ⟨a0, i0, hσ', rfl, e3, hoo, h5⟩
    · rw [b2 i hm] at e
      exact (x.slot i r e).mono hg fun a q => by
        obtain ⟨u, _, _, q3, q4⟩ := stay a _ q fun i' j c => by
          cases c; exact fun m => hm (List.mem_of_getElem? m)
        exact ⟨q3, q4⟩
  · obtain ⟨d, q⟩ := x.lent i a e
    by_cases hm : RV.bw i ∈ rs
    · obtain ⟨j, hj⟩ := List.getElem?_of_mem hm
      obtain ⟨v, w1, w2⟩ := b3 i j hj
      rcases w2 with ⟨u, hu, hu'⟩ | ⟨u, hu, hu'⟩
      · rw [hu] at q; cases q
      · exact ⟨v, hu'⟩
    · exact ⟨d, by rw [b2 i hm]; exact q⟩
  · have old : TmpOk K le G' H' (outOwn rs o FR H τ.length o2) τ := x.tmp.mono hg fun k _ a q => by
      obtain ⟨u, _, _, q3, q4⟩ := stay a _ q fun i' j c => nomatch c
      exact ⟨q3, q4⟩
    rcases ht with rfl | ⟨r, z, rfl, hk⟩
    · exact old
    · refine ⟨?_, old⟩
      have top := y.tmp.1
      have lab : ∀ a, o2 a = some (.tmp 0) → outOwn rs o FR H τ.length o2 a = some (.tmp τ.length) := fun a q => by
        unfold outOwn
        rw [its a _ q, q]; rfl
      have rows : ∀ (bs : List Addr) (ds : List D), Rows2 K G' H' o2 (.tmp 0) bs ds → Rows2 K G' H' (outOwn rs o FR H τ.length o2) (.tmp τ.length) bs ds := fun bs ds h => by
        induction h with
        | nil => exact .nil
        | cons k1 k2 _ ih => exact .cons (lab _ k1) k2 ih
      cases r with
      | un => cases hk
      | bw _ => cases hk
      | io _ => cases hk
      | pl d => exact top
      | ow d =>
        obtain ⟨a, h1, h2, h3⟩ := top
        exact ⟨a, h1, lab a h2, h3⟩
      | ow2 d =>
        obtain ⟨a, bs, ds, h1, h2, h3, h4, h5, h6⟩ := top
        exact ⟨a, bs, ds, h1, h2, lab a h3, h4, h5, rows bs ds h6⟩
end
end TK

set_option Elab.async false
set_option linter.all false
set_option maxRecDepth 100000
set_option maxHeartbeats 1000000
/-! TKCall2: the call of a function of the table. -/
namespace TK
open PySem PySem.Spec PyProof.Rows L2
section
variable {EC : Nat → Option Addr} {X : Cx} {le : Nat → Option Addr} {FR G G' H H' : Hp} {ρ ρ' : En} {σ : L2.St} {τ : List (RV × V)}

theorem callM_some {cf : CallF} {f : Nat} {rs : List RV} {o : Out RV} (h : callM cf f rs ρ = some (o, ρ')) : ∃ as fs, passArgs rs ρ = some as ∧ (bwsOf rs).Nodup ∧ cf f as = some (o, fs) ∧ backArgs rs fs ρ = some ρ' := by
  unfold callM at h
  cases p : passArgs rs ρ with
  | none => rw [p] at h; cases h
  | some as =>
    rw [p] at h
    by_cases nd : (bwsOf rs).Nodup
    · have h : (if (bwsOf rs).Nodup then (match cf f as with
        | none => none
        | some (o, fs) => match backArgs rs fs ρ with
          | none => none
          | some ρ' => some (o, ρ')) else none) = some (o, ρ') := h
      rw [if_pos nd] at h
      cases c : cf f as with
      | none => rw [c] at h; cases h
      | some q =>
        obtain ⟨o', fs⟩ := q
        rw [c] at h
        have h : (match backArgs rs fs ρ with
          | none => none
          | some ρ' => some (o', ρ')) = some (o, ρ') := h
        cases b : backArgs rs fs ρ with
        | none => rw [b] at h; cases h
        | some ρ1 => rw [b] at h; cases h; exact ⟨as, fs, rfl, nd, c, b⟩
    · have h : (if (bwsOf rs).Nodup then (match cf f as with
        | none => none
        | some (o, fs) => match backArgs rs fs ρ with
          | none => none
          | some ρ' => some (o, ρ')) else none) = some (o, ρ') := h
      rw [if_neg nd] at h; cases h
theorem passArgs_all {rs as : List RV} (h : passArgs rs ρ = some as) : ∀ r ∈ as, (∃ d, r = .pl d) ∨ ∃ d, r = .io d := by
  intro r hr
  obtain ⟨j, hj⟩ := List.getElem?_of_mem hr
  have hl : j < rs.length := by rw [← passArgs_len h]; exact (List.getElem?_eq_some_iff.mp hj).1
  obtain ⟨a, h1, h2⟩ := passArgs_get h (List.getElem?_eq_getElem hl)
  rw [hj] at h1
  obtain rfl := Option.some.inj h1
  rcases h2 with ⟨v, _, _, rfl⟩ | ⟨_, v, _, _, rfl⟩
  · exact .inl ⟨v, rfl⟩
  · exact .inr ⟨v, rfl⟩

variable {cf : CallF} {f k : Nat} {fa : Addr} {fd : FuncData} {ps : List Str} {x : Str} {p pos : Pos} {e : Expr} {es : List Expr} {g : M (List RV)}
/-- the call, the arguments being there -/
theorem call_at {rs : List RV} {zs : List V} {out : Out RV} {Q : VK} (F : FnOk X.prog X.w X.K X.mg X.base (L2.CX X.prog X.w) k fa fd ps (spF EC X.K cf f)) (hr : Room k X.A) (hb : Binds X.K fd ps [])
    (st : StE X.K le FR G H ρ σ τ) (got : Gots X.K G σ rs zs) (he : callM cf f rs ρ = some (out, ρ')) (hp : PostE EC X le FR G ρ' σ τ out Q) {pins : List (Addr × Obj)} {s : Shared} {us : List Value} (I : Inv X pins σ H s) (r : Vals zs us) :
    wpAny (model X.prog X.w) X.A (call (.ref fa) us) (EP X pins σ Q) X.xe s := by
  obtain ⟨as, fs, pa, nd, hc, hbk⟩ := callM_some he
  obtain ⟨o, x⟩ := st
  have hle : ∀ i a, inLe rs zs i = some a → zs[i]? = some (.ref a) := fun i a h => (inLe_some h).choose_spec.2
  cases out with
  | ok r' =>
    refine run_fnS F hr hb (E := WE fun _ _ _ _ => False) (passAt takes0 σ) I r ⟨inLe rs zs, inFR rs o FR H, G, as, .ok r', fs, ⟨_, x.enter got pa nd⟩, passArgs_all pa, hle, hc, fun z H2 G2 g2 hk y => ?_⟩
    obtain ⟨o2, y⟩ := y
    exact hp z H2 G2 g2 (fun i c => by subst c; cases hk) (x.back got pa nd hbk g2 (.inr ⟨r', z, rfl, hk⟩) y)
  | ex e' =>
    refine run_fnS F hr hb (E := WE (WXx EC X le FR G ρ' σ τ e')) (passAt hp σ) I r ⟨inLe rs zs, inFR rs o FR H, G, as, .ex e', fs, ⟨_, x.enter got pa nd⟩, passArgs_all pa, hle, hc, fun cls d H2 G2 g2 ev y => ?_⟩
    obtain ⟨o2, y⟩ := y
    exact ⟨rfl, ev, G2, g2, x.back got pa nd hbk g2 (.inl rfl) y⟩
theorem pe_callT (F : FnOk X.prog X.w X.K X.mg X.base (L2.CX X.prog X.w) k fa fd ps (spF EC X.K cf f)) (hr : Room k X.A) (hg : Gl X x) (hm : X.mg x = some (.ref fa)) (hk : PySem.W.keepIn X.K (.ref fa) = true) (hb : Binds X.K fd ps [])
    (ha : PA X (e :: es) (tR EC X g)) (hdb : (x == ("__debug__" : Str)) = false) (hes : starEach (e :: es) X.env = (false, eval e X.env) :: starEach es X.env) (hpl : (backTo pos (starEach es X.env)).any (·.1) = false) :
    PE X (.Call (.Name x p) (e :: es) [] pos) (tE EC X (do let rs ← g; callM cf f rs)) := by
  refine ⟨fun pins s σ H Q I h => ?_⟩
  obtain ⟨le, FR, G, ρ, τ, out, ρ', hs, he, hp⟩ := h
  refine wpAny_Call_Name_kw (ld_glob I hg hm ?_ hdb)
  refine PySem.W.callWith_K (h₀ := X.base) I.ok.mod.kin hk (thn (ha.run pos pins s σ H (fun zs H1 => ∀ s1 us, Inv X pins σ H1 s1 → Vals zs us → wpAny (model X.prog X.w) X.A (call (.ref fa) us) (EP X pins σ Q) X.xe s1) I ?_) fun us s1 ⟨vs, H1, I1, r, q⟩ => ⟨I1.kIn, q s1 us I1 r⟩) hes hpl
  rcases bind_some he with ⟨e, he1, rfl⟩ | ⟨rs, ρ1, he1, h2⟩
  · exact ⟨le, FR, G, ρ, τ, _, _, hs, he1, hp⟩
  · refine ⟨le, FR, G, ρ, τ, _, _, hs, he1, fun zs H1 G1 g1 got st s1 us I1 r => ?_⟩
    refine call_at F hr hb st got h2 ?_ I1 r
    cases out with
    | ex e => exact wx_le g1 hp
    | ok r' => exact fun z H2 G2 g2 => hp z H2 G2 (g1.trans g2)
theorem pe_callT0 (F : FnOk X.prog X.w X.K X.mg X.base (L2.CX X.prog X.w) k fa fd ps (spF EC X.K cf f)) (hr : Room k X.A) (hg : Gl X x) (hm : X.mg x = some (.ref fa)) (hk : PySem.W.keepIn X.K (.ref fa) = true) (hb : Binds X.K fd ps [])
    (hdb : (x == ("__debug__" : Str)) = false) : PE X (.Call (.Name x p) [] [] pos) (tE EC X (do let rs ← (M.ret [] : M (List RV)); callM cf f rs)) := by
  refine ⟨fun pins s σ H Q I h => ?_⟩
  obtain ⟨le, FR, G, ρ, τ, out, ρ', hs, he, hp⟩ := h
  refine wpAny_Call_Name_kw (ld_glob I hg hm ?_ hdb)
  exact PySem.W.callWith_K0 I.kIn hk (call_at (us := []) F hr hb hs .nil (ret_bind he) hp I .nil)
end
end TK

set_option Elab.async false
set_option linter.all false
set_option maxRecDepth 100000
set_option maxHeartbeats 1000000
/-! TKIt: targets, walks, comprehensions: readings. -/
namespace TK
open PySem PySem.Spec PyProof.Rows L2
section
variable {EC : Nat → Option Addr} {X : Cx} {K : PySem.W.Frag} {le : Nat → Option Addr} {FR G G' H H' : Hp} {o : Own} {ρ ρ' ρ1 ρ2 : En} {σ σ' : L2.St} {τ : List (RV × V)}

/-! ### targets -/
mutual
def tgNames : Tg → List Nat
  | .nm i => [i]
  | .tp ts => tgsNames ts
def tgsNames : Tgs → List Nat
  | .nil => []
  | .cons t r => tgNames t ++ tgsNames r
end
/-- the slots at ns may differ -/
def OffAt (ns : List Nat) (σ σ' : L2.St) : Prop := σ'.length = σ.length ∧ ∀ i, i ∉ ns → σ'[i]? = σ[i]?
theorem OffAt.refl (ns : List Nat) : OffAt ns σ σ := ⟨rfl, fun _ _ => rfl⟩
theorem OffAt.mono {ns ms : List Nat} (h : OffAt ns σ σ') (k : ∀ i ∈ ns, i ∈ ms) : OffAt ms σ σ' := ⟨h.1, fun i hi => h.2 i fun m => hi (k i m)⟩
theorem OffAt.trans {ns : List Nat} {σ2 : L2.St} (h : OffAt ns σ σ') (k : OffAt ns σ' σ2) : OffAt ns σ σ2 := ⟨k.1.trans h.1, fun i hi => (k.2 i hi).trans (h.2 i hi)⟩
def gT (K : PySem.W.Frag) (t : Tg) : TG := fun x σ H Q => ∃ le FR G ρ τ d ρ', StE K le FR G H ρ σ τ ∧ Dp K G x d ∧ asgTg t d ρ = some ρ' ∧ ∀ σ', OffAt (tgNames t) σ σ' → StE K le FR G H ρ' σ' τ → Q σ' H
def gTs (K : PySem.W.Frag) (t : Tgs) : TGs := fun xs σ H Q => ∃ le FR G ρ τ ds ρ', StE K le FR G H ρ σ τ ∧ DpAll K G xs ds ∧ asgTgs t ds ρ = some ρ' ∧ ∀ σ', OffAt (tgsNames t) σ σ' → StE K le FR G H ρ' σ' τ → Q σ' H
theorem step_g_nm {i : Nat} {x : V} {Q : L2.St → Hp → Prop} (h : gT K (.nm i) x σ H Q) : gName i x σ H Q := by
  obtain ⟨le, FR, G, ρ, τ, d, ρ', hs, hd, ha, hq⟩ := h
  unfold asgTg at ha
  cases e : ρ[i]? with
  | none => rw [e] at ha; cases ha
  | some q =>
    rw [e] at ha
    obtain ⟨c, rfl⟩ := some_of (show (if q.free = true then some (ρ.set i (.pl d)) else none) = some ρ' from ha)
    refine hq _ ⟨by rw [List.length_set], fun j hj => List.getElem?_set_ne fun n => hj (by rw [← n]; exact List.mem_cons_self)⟩ (hs.storeD hd e c)
theorem step_gs_nil {xs : List V} {Q : L2.St → Hp → Prop} (h : gTs K .nil xs σ H Q) : gNil xs σ H Q := by
  obtain ⟨le, FR, G, ρ, τ, d, ρ', hs, hd, ha, hq⟩ := h
  cases d with
  | nil => 
    cases hd
    have ha : some ρ = some ρ' := ha
    cases ha
    exact ⟨rfl, hq σ (OffAt.refl _) hs⟩
  | cons _ _ => cases ha
theorem step_gs_cons {t : Tg} {r : Tgs} {xs : List V} {Q : L2.St → Hp → Prop} (h : gTs K (.cons t r) xs σ H Q) : gCons (gT K t) (gTs K r) xs σ H Q := by
  obtain ⟨le, FR, G, ρ, τ, d, ρ', hs, hd, ha, hq⟩ := h
  cases d with
  | nil => cases ha
  | cons d ds =>
    cases hd with
    | cons h1 h2 =>
      obtain ⟨ρ1, a1, a2⟩ := Option.bind_eq_some_iff.mp (show (asgTg t d ρ).bind (fun ρ' => asgTgs r ds ρ') = some ρ' from ha)
      refine ⟨_, _, rfl, le, FR, G, ρ, τ, d, ρ1, hs, h1, a1, fun σ1 o1 s1 => ⟨le, FR, G, ρ1, τ, ds, ρ', s1, h2, a2, fun σ2 o2 s2 => hq σ2 ?_ s2⟩⟩
      refine (o1.mono fun i hi => ?_).trans (o2.mono fun i hi => ?_)
      · exact List.mem_append_left _ hi
      · exact List.mem_append_right _ hi
theorem dp_items {x : V} {d : D} {ds : List D} (h : Dp K G x d) (e : itemsOf d = some ds) : ∃ a xs, x = .ref a ∧ ((SqL K G a xs ∧ d = .list ds) ∨ (SqT K G a xs ∧ d = .tuple ds)) ∧ DpAll K G xs ds := by
  cases d with
  | list xs => cases e; cases h with | lst s q => exact ⟨_, _, rfl, .inl ⟨s, rfl⟩, q⟩
  | tuple xs => cases e; cases h with | tup s q => exact ⟨_, _, rfl, .inr ⟨s, rfl⟩, q⟩
  | _ => cases e
def tgsLen : Tgs → Nat
  | .nil => 0
  | .cons _ r => tgsLen r + 1
theorem asg_len : ∀ {ts : Tgs} {ds : List D} {ρ ρ' : En}, asgTgs ts ds ρ = some ρ' → ds.length = tgsLen ts
  | .nil, [], _, _, _ => rfl
  | .nil, _ :: _, _, _, h => by cases h
  | .cons _ _, [], _, _, h => by cases h
  | .cons t r, d :: ds, ρ, ρ', h => by
    obtain ⟨ρ1, a1, a2⟩ := Option.bind_eq_some_iff.mp (show (asgTg t d ρ).bind (fun ρ' => asgTgs r ds ρ') = some ρ' from h)
    rw [List.length_cons, asg_len a2]; rfl
theorem step_g_tp {ts : Tgs} {x : V} {Q : L2.St → Hp → Prop} (h : gT K (.tp ts) x σ H Q) : gTup K (tgsLen ts) (gTs K ts) x σ H Q ∨ gLst K (tgsLen ts) (gTs K ts) x σ H Q := by
  obtain ⟨le, FR, G, ρ, τ, d, ρ', hs, hd, ha, hq⟩ := h
  obtain ⟨ds, e, a2⟩ := Option.bind_eq_some_iff.mp (show (itemsOf d).bind (fun xs => asgTgs ts xs ρ) = some ρ' from ha)
  obtain ⟨a, xs, rfl, sq, da⟩ := dp_items hd e
  have hl : xs.length = tgsLen ts := by rw [da.length, asg_len a2]
  have fin : gTs K ts xs σ H Q := ⟨le, FR, G, ρ, τ, ds, ρ', hs, da, a2, hq⟩
  rcases sq with ⟨sq, _⟩ | ⟨sq, _⟩
  · exact .inr ⟨a, xs, rfl, sqL_mono hs.sub sq, hl, fin⟩
  · exact .inl ⟨a, xs, rfl, sqT_mono hs.sub sq, hl, fin⟩

/-! ### walks -/
structure Walk (K : PySem.W.Frag) (G : Hp) (J : L2.It) (ds : List D) : Prop where
  stop : ∀ H, Le G H → J.stop ds.length H
  go : ∀ i d H, ds[i]? = some d → Le G H → J.go i H
  yld : ∀ i d H x H', ds[i]? = some d → J.yld i H x H' → ∀ G1, Le G G1 → Le G1 H → ∃ G', Ext G1 H G' H' ∧ Dp K G' x d
theorem walk_list {a : Addr} {xs : List V} {ds : List D} (h : SqL K G a xs) (q : DpAll K G xs ds) : Walk K G (Itl K a) ds where
  stop H g := ⟨xs, sqL_mono g h, Nat.le_of_eq q.length⟩
  go i d H e g := let ⟨v, h1, _⟩ := q.get e; ⟨xs, v, sqL_mono g h, h1⟩
  yld i d H x H' e y G1 g1 g2 := by
    obtain ⟨rfl, h2⟩ := y
    obtain ⟨v, h3, h4⟩ := q.get e
    have := h2 xs (sqL_mono (g1.trans g2) h)
    rw [h3] at this
    obtain rfl := Option.some.inj this
    exact ⟨G1, Ext.refl g2, h4.mono g1 _ _⟩
theorem walk_tup {a : Addr} {xs : List V} {ds : List D} (h : SqT K G a xs) (q : DpAll K G xs ds) : Walk K G (Itt K a) ds where
  stop H g := ⟨xs, sqT_mono g h, Nat.le_of_eq q.length⟩
  go i d H e g := let ⟨v, h1, _⟩ := q.get e; ⟨xs, v, sqT_mono g h, h1⟩
  yld i d H x H' e y G1 g1 g2 := by
    obtain ⟨rfl, h2⟩ := y
    obtain ⟨v, h3, h4⟩ := q.get e
    have := h2 xs (sqT_mono (g1.trans g2) h)
    rw [h3] at this
    obtain rfl := Option.some.inj this
    exact ⟨G1, Ext.refl g2, h4.mono g1 _ _⟩
theorem walk_rng (i : Int) (n : Nat) : Walk K G (Itr i n) ((List.range n).map fun k : Nat => .int (i + k)) where
  stop H g := by show n ≤ _; simp
  go k d H e g := by
    have := (List.getElem?_eq_some_iff.mp e).1
    have : k < n := by simpa using this
    exact this
  yld k d H x H' e y G1 g1 g2 := by
    obtain ⟨rfl, rfl⟩ := y
    have hk : k < n := by have := (List.getElem?_eq_some_iff.mp e).1; simpa using this
    rw [List.getElem?_map, List.getElem?_range hk] at e
    obtain rfl := Option.some.inj e
    exact ⟨G1, Ext.refl g2, .int _⟩
theorem zw_get {α β γ : Type} {f : α → β → γ} {xs : List α} {ys : List β} {i : Nat} {c : γ} (h : (xs.zipWith f ys)[i]? = some c) : ∃ a b, xs[i]? = some a ∧ ys[i]? = some b ∧ c = f a b := by
  rw [List.getElem?_zipWith] at h
  cases p : xs[i]? with
  | none => rw [p] at h; cases h
  | some a =>
    cases q : ys[i]? with
    | none => rw [p, q] at h; cases h
    | some b => rw [p, q] at h; cases h; exact ⟨a, b, rfl, rfl, rfl⟩
theorem ext_pair {G1 : Hp} {T : Addr} {x y : V} {d e : D} (g : Le G1 H) (hT : H T = none) (hx : Dp K G1 x d) (hy : Dp K G1 y e) : ∃ G', Ext G1 H G' (upd H T (.tup [x, y])) ∧ Dp K G' (.ref T) (.tuple [d, e]) := by
  have gT : G1 T = none := g.none hT
  exact ⟨_, Ext.newT g hT, .tup (.inl (.inl upd_same)) (.cons (hx.mono (le_upd gT) _ _) (.cons (hy.mono (le_upd gT) _ _) .nil))⟩
theorem walk_enum {a : Addr} {xs : List V} {ds : List D} (h : SqL K G a xs) (q : DpAll K G xs ds) : Walk K G (Ite K a) ((List.range ds.length).zipWith (fun (k : Nat) x => .tuple [.int k, x]) ds) where
  stop H g := ⟨xs, sqL_mono g h, by rw [q.length]; simp⟩
  go i d H e g := by
    obtain ⟨k, d', _, e2, rfl⟩ := zw_get e
    obtain ⟨v, h1, _⟩ := q.get e2
    exact ⟨xs, v, sqL_mono g h, h1⟩
  yld i d H x H' e y G1 g1 g2 := by
    obtain ⟨T, v, rfl, hT, rfl, h2⟩ := y
    obtain ⟨k, d', e1, e2, rfl⟩ := zw_get e
    obtain ⟨v', h3, h4⟩ := q.get e2
    have := h2 xs (sqL_mono (g1.trans g2) h)
    rw [h3] at this
    obtain rfl := Option.some.inj this
    have hk : k = i := by
      have hi := (List.getElem?_eq_some_iff.mp e1).1
      rw [List.getElem?_eq_getElem hi, List.getElem_range] at e1
      exact (Option.some.inj e1).symm
    subst hk
    exact ext_pair g2 hT (.int _) (h4.mono g1 _ _)
theorem walk_zip {a b : Addr} {xs ys : List V} {ds es : List D} (h : SqL K G a xs) (q : DpAll K G xs ds) (h' : SqL K G b ys) (q' : DpAll K G ys es) : Walk K G (Itz K a b) (ds.zipWith (fun x y => .tuple [x, y]) es) where
  stop H g := ⟨xs, ys, sqL_mono g h, sqL_mono g h', by rw [q.length, q'.length, List.length_zipWith]; omega⟩
  go i d H e g := by
    obtain ⟨d1, d2, e1, e2, rfl⟩ := zw_get e
    obtain ⟨v, h1, _⟩ := q.get e1
    obtain ⟨w, h2, _⟩ := q'.get e2
    exact ⟨xs, ys, v, w, sqL_mono g h, sqL_mono g h', h1, h2⟩
  yld i d H x H' e y G1 g1 g2 := by
    obtain ⟨T, v, w, rfl, hT, rfl, h2, h3⟩ := y
    obtain ⟨d1, d2, e1, e2, rfl⟩ := zw_get e
    obtain ⟨v', h4, h5⟩ := q.get e1
    obtain ⟨w', h6, h7⟩ := q'.get e2
    have c1 := h2 xs (sqL_mono (g1.trans g2) h)
    rw [h4] at c1
    obtain rfl := Option.some.inj c1
    have c2 := h3 ys (sqL_mono (g1.trans g2) h')
    rw [h6] at c2
    obtain rfl := Option.some.inj c2
    exact ext_pair g2 hT (h5.mono g1 _ _) (h7.mono g1 _ _)
theorem walk_zipT {a b : Addr} {xs ys : List V} {ds es : List D} (h : SqT K G a xs) (q : DpAll K G xs ds) (h' : SqT K G b ys) (q' : DpAll K G ys es) : Walk K G (RZ.ItzT K a b) (ds.zipWith (fun x y => .tuple [x, y]) es) where
  stop H g := ⟨xs, ys, sqT_mono g h, sqT_mono g h', by rw [q.length, q'.length, List.length_zipWith]; omega⟩
  go i d H e g := by
    obtain ⟨d1, d2, e1, e2, rfl⟩ := zw_get e
    obtain ⟨v, h1, _⟩ := q.get e1
    obtain ⟨w, h2, _⟩ := q'.get e2
    exact ⟨xs, ys, v, w, sqT_mono g h, sqT_mono g h', h1, h2⟩
  yld i d H x H' e y G1 g1 g2 := by
    obtain ⟨T, v, w, rfl, hT, rfl, h2, h3⟩ := y
    obtain ⟨d1, d2, e1, e2, rfl⟩ := zw_get e
    obtain ⟨v', h4, h5⟩ := q.get e1
    obtain ⟨w', h6, h7⟩ := q'.get e2
    have c1 := h2 xs (sqT_mono (g1.trans g2) h)
    rw [h4] at c1
    obtain rfl := Option.some.inj c1
    have c2 := h3 ys (sqT_mono (g1.trans g2) h')
    rw [h6] at c2
    obtain rfl := Option.some.inj c2
    exact ext_pair g2 hT (h5.mono g1 _ _) (h7.mono g1 _ _)
end
end TK

set_option Elab.async false
set_option linter.all false
set_option maxRecDepth 100000
set_option maxHeartbeats 1000000
/-! TKEnum: pairs (index, item) walked: a Turn from the library's WalksT, for enumerate of a sequence whose items the abstract heap knows. -/
namespace TK
open PySem PySem.Spec PyProof.Rows L2
open AutoSeq1 (wpAny_loadPart')

/-- enumerate(v), v anything whose iterator is known to begin -/
theorem enum_makes {v : Value} {o : Obj} {Hh : Heap → Prop} (B : Begins v o Hh) : Meets (Builtin.«enumerate.__new__» ⟨[.type "enumerate", v], []⟩) fun _ R s => Hh s.heap ∧
    R (.ok (.ret (.ref (s.heap.push o).objs.size))) { s with heap := (s.heap.push o).push { cls := .type "enumerate", data := .fields #[.none, .bool false, .ref s.heap.objs.size, rawInt 0, .none, .none] } } :=
  .of_wp fun prog w A R ⟨hp, g, d, tk, os⟩ ⟨h1, h⟩ => by
    have hsub := sub_enumerate
    have begin_ {A' : Around} {E : Value → Shared → Prop} {Q : Value → Shared → Prop} (q : Q (.ref hp.objs.size) ⟨hp.push o, g, d, tk, os⟩) : wpAny (model prog w) A' (pyIter v) Q E ⟨hp, g, d, tk, os⟩ := B.iter prog w A' E ⟨hp, g, d, tk, os⟩ Q h1 q
    wp_walk using begin_
    refine wpAny_stack_any fun st => wpAny_pure ?_
    split <;> (try rename_i c _ _ _ _ _; cases (c == Value.type "enumerate")) <;> (wp_walk using begin_; exact ⟨_, rfl, h⟩)
theorem enum_call {prog : Program} {w : World} {A : Around} {E : Value → Shared → Prop} {s : Shared} {v : Value} {o : Obj} {Hh : Heap → Prop} {Q : Value → Shared → Prop} (B : Begins v o Hh) (h1 : Hh s.heap)
    (h : ∀ h', IsEnum h' (s.heap.objs.size + 1) s.heap.objs.size 0 .none → h'.get? s.heap.objs.size = some o → (∀ b u, s.heap.get? b = some u → h'.get? b = some u) → Q (.ref (s.heap.objs.size + 1)) { s with heap := h' }) :
    wpAny (model prog w) A (call (.type "enumerate") [v]) Q E s := by
  have hz : (s.heap.push o).objs.size = s.heap.objs.size + 1 := Heap.size_push ..
  have he := Heap.get?_push_size (s.heap.push o) (o := { cls := .type "enumerate", data := .fields #[.none, .bool false, .ref s.heap.objs.size, rawInt 0, .none, .none] }) rfl
  refine callType_new F.called_enumerate (by decide) (F.typeCall_enumerate_1 _) (F.newCall_enumerate_1 _) (fun obj => F.args_object_init_2 obj _) F.entry_enumerate_new (enum_makes B) ⟨h1, ?_⟩
  rw [hz] at he ⊢
  exact ⟨⟨_, he, rfl⟩, h _ he (Heap.get?_push_of_some _ (Heap.get?_push_size _ B.free)) fun b u e => Heap.get?_push_of_some _ (Heap.get?_push_of_some _ e)⟩

/-- the pairs of a tuple's places and items -/
def Pairs (K : PySem.W.Frag) (a : Addr) : L2.It where
  go i H := ∃ xs, SqT K H a xs ∧ i < xs.length
  yld i H v H' := ∃ T x, v = .ref T ∧ H T = none ∧ H' = upd H T (.tup [.int (i : Nat), x]) ∧ ∀ xs, SqT K H a xs → xs[i]? = some x
  stop i H := ∃ xs, SqT K H a xs ∧ xs.length = i
/-- how the enumerate object e over the tuple iterator it stands at turn i -/
def EnumAt (a e it : Addr) (i : Nat) (h : Heap) : Prop := (∃ old, IsEnum h e it ((i : Nat) : Int) old) ∧ h.IsTupleIter it a i ∧ e ≠ it ∧ it ≠ a ∧ e ≠ a
theorem turn_pairs {P : Program} {w : World} {K : PySem.W.Frag} {elts : List Expr} {kk : Nat} {tpos : Pos} (a e it : Addr) : Turn P w K (.Tuple elts kk tpos) (Pairs K a) [e, it] e (EnumAt a e it) where
  mem := List.mem_cons_self
  self := fun A i s Q E st h => st.1.elim fun _ he => wpAny_pyIter_enum he h
  obj := by
    rintro i h ⟨⟨old, he⟩, ⟨o, ho, _, hd⟩, _⟩ b hb
    rcases List.mem_cons.mp hb with rfl | hb
    · exact ⟨_, he, nofun⟩
    · rw [List.mem_singleton.mp hb]
      exact ⟨o, ho, by rw [hd]; exact nofun⟩
  keep := by
    rintro i h h' ⟨⟨old, he⟩, hi, r⟩ k
    exact ⟨⟨old, k e (by simp) _ he⟩, hi.at (k it (by simp)), r⟩
  item := by
    rintro X rfl rfl rfl hc i pins s σ H E I hf ⟨he, hit, n1, n2, n3⟩ ⟨xs, hq, hlt⟩
    obtain ⟨its, rv, p, _⟩ := I.tuple hq
    have hsz : its.toArray.size = xs.length := by rw [List.size_toArray, ← rv.length]
    have W := WalksT.enumerateD (Draws.tuple (prog := X.prog) (w := X.w) (A := X.A.in1) (I.ok.hd hc) it a (Ne.symm n2) its.toArray) e n1 (by simp [n1, n3]) (by simp)
    refine W.item i s _ E (by rw [hsz]; exact hlt) ⟨he, hit, p⟩ fun T vals h' tk hv hT ht mid kp => ⟨_, rfl, ?_⟩
    obtain ⟨tt, u, hu, rfl⟩ := hv
    obtain ⟨u', hu', ru⟩ := rv.get (List.getElem?_eq_getElem hlt)
    have e0 : its[i]? = some u := by simpa using hu
    obtain rfl : u = u' := Option.some.inj (e0.symm.trans hu')
    have hap := W.apart i T h' mid
    refine W.go elts kk tpos i T { s with heap := h', toks := tk } _ E mid fun h'' st2 kp2 => ?_
    obtain ⟨he', hit', _⟩ := st2
    obtain ⟨oT, e1, r1⟩ := ht
    have hTn : H T = none := I.hok.fresh hT
    have I' := I.turnedNew (t' := tk) (ch := [e, it]) (h' := h'') (ob := .tup [.int (i : Nat), xs[i]]) (fun b ob hb q => kp2 b ob hb (kp b ob hb q)) hf hT
      ⟨by show (2 : Nat) ≤ sizeLine; decide, [.int i tt, u], .cons ⟨_, rfl⟩ (.cons ru .nil), ⟨oT, kp2 T oT hap e1, r1⟩⟩
    refine ⟨.ref T, _, I', rfl, ⟨T, xs[i], rfl, hTn, rfl, fun ys hy => by rw [I.tuple_inj hy hq]; exact List.getElem?_eq_getElem hlt⟩, ⟨he', hit', n1, n2, n3⟩, fun b hb => ?_⟩
    rw [upd_ne (by rintro rfl; exact hap hb)]
    exact (hf b hb).1
  done := by
    rintro X rfl rfl rfl hc i pins s σ H E I hf ⟨he, hit, n1, n2, n3⟩ ⟨xs, hq, rfl⟩
    obtain ⟨its, rv, p, _⟩ := I.tuple hq
    have hsz : its.toArray.size = xs.length := by rw [List.size_toArray, ← rv.length]
    have W := WalksT.enumerateD (Draws.tuple (prog := X.prog) (w := X.w) (A := X.A.in1) (I.ok.hd hc) it a (Ne.symm n2) its.toArray) e n1 (by simp [n1, n3]) (by simp)
    refine W.done s _ E (by rw [hsz]; exact ⟨he, hit, p⟩) fun h' tk kp => ⟨rfl, ?_⟩
    exact I.turnedL (ch := [e, it]) (fun b o hb q => kp b o hb q) hf
/-- enumerate of a list as the layer has it, of a tuple as above -/
def iPairs (K : PySem.W.Frag) (ta : TA) : TI := fun σ H R => ta σ H fun vs H1 => ∃ a xs, vs = [.ref a] ∧ SqT K H1 a xs ∧ R (Pairs K a) H1
theorem pi_pairs {X : Cx} {e : Expr} {ta : TA} {p pos tpos : Pos} {elts : List Expr} {kk : Nat} (hg : Gl X "enumerate") (hm : X.mg "enumerate" = none) (ha : PA X [e] ta) (hs : starEach [e] X.env = [(false, eval e X.env)]) :
    PI X (.Tuple elts kk tpos) (.Call (.Name "enumerate" p) [e] [] pos) (iPairs X.K ta) := ⟨fun pins s σ H R I h => by
  refine Call_ (ld_blt I hg hm boot_enumerate (PyProof.Rows.callWith_type1 (thn (ha.run pos pins s σ H _ I h) fun us s1 q => ?_) hs rfl))
  obtain ⟨_, H1, I1, r1, a, xs, rfl, hq, hR⟩ := q
  obtain ⟨u, rfl, ru⟩ := r1.one
  cases ru
  obtain ⟨its, _, pt, _⟩ := I1.tuple hq
  have hal : a < s1.heap.objs.size := pt.lt
  refine enum_call (begins_tuple a its.toArray) pt fun h' he hit hk => wpAny_pyIter_enum he ⟨_, [_, s1.heap.objs.size], EnumAt a _ _, Pairs X.K a, H1, rfl, I1.kept (t' := s1.toks) hk, turn_pairs a _ _, ⟨⟨.none, he⟩, ⟨_, hit, rfl, rfl⟩, Nat.succ_ne_self _, Nat.ne_of_gt hal, Nat.ne_of_gt (Nat.lt_succ_of_lt hal)⟩, fun b hb => ?_, hR⟩
  have hle : s1.heap.objs.size ≤ b := by
    rcases List.mem_cons.mp hb with rfl | hb
    · exact Nat.le_succ _
    · exact Nat.le_of_eq (List.mem_singleton.mp hb).symm
  exact I1.fpOk hle (I1.hok.fresh hle)⟩
theorem pairs_get {ds : List PyData} {i : Nat} {d : PyData} (h : ((List.range ds.length).zipWith (fun (k : Nat) x => PyData.tuple [.int k, x]) ds)[i]? = some d) : ∃ x, ds[i]? = some x ∧ d = .tuple [.int i, x] := by
  obtain ⟨k, x, h1, h2, rfl⟩ := zw_get h
  have hi : i < ds.length := (List.getElem?_eq_some_iff.mp h2).1
  rw [List.getElem?_range hi] at h1
  cases h1
  exact ⟨x, h2, rfl⟩
theorem walk_pairs {K : PySem.W.Frag} {G : Hp} {a : Addr} {xs : List V} {ds : List PyData} (h : SqT K G a xs) (q : DpAll K G xs ds) : Walk K G (Pairs K a) ((List.range ds.length).zipWith (fun (k : Nat) x => .tuple [.int k, x]) ds) where
  stop H g := ⟨xs, sqT_mono g h, by rw [q.length]; simp⟩
  go i d H e g := by
    obtain ⟨x, h2, _⟩ := pairs_get e
    exact ⟨xs, sqT_mono g h, by rw [q.length]; exact (List.getElem?_eq_some_iff.mp h2).1⟩
  yld i d H x H' e y G1 g1 g2 := by
    obtain ⟨T, v, rfl, hT, rfl, hv⟩ := y
    obtain ⟨x, h2, rfl⟩ := pairs_get e
    obtain ⟨v', h3, h4⟩ := q.get h2
    rw [hv xs (sqT_mono (g1.trans g2) h)] at h3
    obtain rfl := Option.some.inj h3
    exact ext_pair g2 hT (.int _) (h4.mono g1 _ _)
end TK

set_option Elab.async false
set_option linter.all false
set_option maxRecDepth 100000
set_option maxHeartbeats 1000000
/-! TKIt2: iterables; comprehensions. -/
namespace TK
open PySem PySem.Spec PyProof.Rows L2
section
variable {EC : Nat → Option Addr} {X : Cx} {K : PySem.W.Frag} {le : Nat → Option Addr} {FR G G' H H' : Hp} {o : Own} {ρ ρ' ρ1 ρ2 : En} {σ σ' : L2.St} {τ : List (RV × V)}

/-- sequences in the heap are not longer than a line -/
def LenOk (K : PySem.W.Frag) (x : V) (H : Hp) : Prop := ∀ a xs, x = .ref a → (SqL K H a xs ∨ SqT K H a xs) → xs.length ≤ 16777216
def tLen (K : PySem.W.Frag) (t : TE) : TE := fun σ H Q => t σ H fun x H1 => LenOk K x H1 → Q x H1
theorem PE.len {e : Expr} {t : TE} (h : PE X e t) : PE X e (tLen X.K t) := ⟨fun pins s σ H Q I hq => thn (h.run pins s σ H _ I hq) fun u s1 ⟨x, H1, I1, r1, q1⟩ => ⟨x, H1, I1, r1, q1 fun a xs hx hs => by
  rw [line_eq]
  rcases hs with hs | hs
  · obtain ⟨its, rv, p, hz⟩ := I1.list hs
    exact hz
  · obtain ⟨its, rv, p, hz⟩ := I1.tuple hs
    exact hz⟩⟩

section
variable (EC X)
def PostI (le : Nat → Option Addr) (FR G : Hp) (ρ' : En) (σ : L2.St) (τ : List (RV × V)) : Out (List D) → (L2.It → Hp → Prop) → Prop
  | .ok ds, R => ∀ J H' G', Le G G' → Walk X.K G' J ds → ds.length ≤ 16777216 → StE X.K le FR G' H' ρ' σ τ → R J H'
  | .ex e, _ => Takes X (WXx EC X le FR G ρ' σ τ e)
def tI (f : M (List D)) : TI := fun σ H R => ∃ le FR G ρ τ out ρ', StE X.K le FR G H ρ σ τ ∧ f ρ = some (out, ρ') ∧ PostI EC X le FR G ρ' σ τ out R
end
theorem PI.imp {tg e : Expr} {t t' : TI} (h : PI X tg e t) (i : ∀ σ H Q, t' σ H Q → t σ H Q) : PI X tg e t' := ⟨fun pins s σ H Q I q => h.run pins s σ H Q I (i σ H Q q)⟩
theorem PI.or {tg e : Expr} {t t' : TI} (h : PI X tg e t) (h' : PI X tg e t') : PI X tg e (fun σ H R => t σ H R ∨ t' σ H R) := ⟨fun pins s σ H Q I q => q.elim (h.run pins s σ H Q I) (h'.run pins s σ H Q I)⟩
theorem itemsM_some {r : RV} {o : Out (List D)} (h : itemsM r ρ = some (o, ρ')) : ∃ d ds, r.dat = some d ∧ r.free = true ∧ itemsOf d = some ds ∧ o = .ok ds ∧ ρ' = ρ := by
  cases r with
  | pl d => obtain ⟨ds, h1, h2, h3⟩ := of_some h; exact ⟨d, ds, rfl, rfl, h1, h2, h3⟩
  | ow d => obtain ⟨ds, h1, h2, h3⟩ := of_some h; exact ⟨d, ds, rfl, rfl, h1, h2, h3⟩
  | ow2 d => obtain ⟨ds, h1, h2, h3⟩ := of_some h; exact ⟨d, ds, rfl, rfl, h1, h2, h3⟩
  | un => exact nomatch (show (none : Option (Out (List D) × En)) = some (o, ρ') from h)
  | io d => exact nomatch (show (none : Option (Out (List D) × En)) = some (o, ρ') from h)
  | bw i => exact nomatch (show (none : Option (Out (List D) × En)) = some (o, ρ') from h)
theorem itemsM_bind {β : Type} {r : RV} {f : List D → M β} {o : Out β} (h : (itemsM r >>= f) ρ = some (o, ρ')) : ∃ d ds, r.dat = some d ∧ r.free = true ∧ itemsOf d = some ds ∧ f ds ρ = some (o, ρ') := by
  rcases bind_some h with ⟨e, h, _⟩ | ⟨v, ρ3, h, h3⟩
  · obtain ⟨_, _, _, _, _, c, _⟩ := itemsM_some h; cases c
  · obtain ⟨d, ds', h1, h2, h4, c, rfl⟩ := itemsM_some h
    cases c
    exact ⟨d, _, h1, h2, h4, h3⟩
theorem pi_ex {tg e : Expr} {f : M RV} (he : PE X e (tE EC X f)) : PI X tg e (tI EC X (do let r ← f; itemsM r)) := by
  refine PI.imp (PI.or (pi_list (PE.len he)) (pi_tup (PE.len he))) fun σ H R h => ?_
  obtain ⟨le, FR, G, ρ, τ, out, ρ', hs, he, hp⟩ := h
  rcases bind_some he with ⟨e, he1, rfl⟩ | ⟨r, ρ1, he1, h2⟩
  · exact .inl ⟨le, FR, G, ρ, τ, _, _, hs, he1, hp⟩
  · obtain ⟨d, ds, hd, hf, hi, rfl, rfl⟩ := itemsM_some h2
    have fin : ∀ z H' G', Le G G' → GotO X.K G' σ r z → LenOk X.K z H' → StE X.K le FR G' H' ρ' σ τ → ∃ a xs, z = .ref a ∧ xs.length ≤ 16777216 ∧ ((SqL X.K G' a xs ∧ (∃ k, d = .list k)) ∨ (SqT X.K G' a xs ∧ (∃ k, d = .tuple k))) ∧ DpAll X.K G' xs ds := fun z H' G' g got hl st => by
      have hp2 := GotO.plain got hd hf
      obtain ⟨a, xs, rfl, sq, da⟩ := dp_items hp2 hi
      refine ⟨a, xs, rfl, ?_, sq.imp (fun h => ⟨h.1, _, h.2⟩) (fun h => ⟨h.1, _, h.2⟩), da⟩
      rcases sq with ⟨sq, _⟩ | ⟨sq, _⟩
      · exact hl a xs rfl (.inl (sqL_mono st.sub sq))
      · exact hl a xs rfl (.inr (sqT_mono st.sub sq))
    cases d with
    | list k =>
      refine .inl (opd hs he1 (fun r2 c z H' G' g got st hl => ?_) fun e c => nomatch c)
      cases c
      obtain ⟨a, xs, rfl, hz, sq, da⟩ := fin z H' G' g got hl st
      rcases sq with ⟨sq, _⟩ | ⟨_, k, c⟩
      · exact ⟨a, rfl, ⟨xs, sqL_mono st.sub sq⟩, hp _ _ _ g (walk_list sq da) (by rw [← da.length]; exact hz) st⟩
      · cases c
    | tuple k =>
      refine .inr (opd hs he1 (fun r2 c z H' G' g got st hl => ?_) fun e c => nomatch c)
      cases c
      obtain ⟨a, xs, rfl, hz, sq, da⟩ := fin z H' G' g got hl st
      rcases sq with ⟨_, k, c⟩ | ⟨sq, _⟩
      · cases c
      · exact ⟨a, rfl, ⟨xs, sqT_mono st.sub sq⟩, hp _ _ _ g (walk_tup sq da) (by rw [← da.length]; exact hz) st⟩
    | _ => cases hi
theorem pi_enumX {e : Expr} {f : M RV} {p pos tpos : Pos} {elts : List Expr} {kk : Nat} (he : PE X e (tE EC X f)) (hg : Gl X "enumerate") (hm : X.mg "enumerate" = none) (hs : starEach [e] X.env = [(false, eval e X.env)]) :
    PI X (.Tuple elts kk tpos) (.Call (.Name "enumerate" p) [e] [] pos) (tI EC X (do
      let r ← f
      let xs ← itemsM r
      M.ret ((List.range xs.length).zipWith (fun (k : Nat) x => .tuple [.int k, x]) xs))) := by
  have ha := pa_cons (PE.len he) pa_nil hs
  refine PI.imp (PI.or (pi_enum hg hm ha hs) (pi_pairs hg hm ha hs)) fun σ H R h => ?_
  obtain ⟨le, FR, G, ρ, τ, out, ρ', st0, he, hp⟩ := h
  rcases bind_some he with ⟨e, he1, rfl⟩ | ⟨r, ρ1, he1, h2⟩
  · exact .inl ⟨le, FR, G, ρ, τ, _, _, st0, he1, hp⟩
  obtain ⟨d, ds, hd, hf, hi, h3⟩ := itemsM_bind h2
  obtain ⟨rfl, rfl⟩ := ret_some h3
  cases d with
  | list k =>
    refine .inl (opd st0 he1 (fun r2 c z H' G' g got st hl => ?_) nofun)
    cases c
    obtain ⟨a, xs, rfl, sq, da⟩ := dp_items (GotO.plain got hd hf) hi
    rcases sq with ⟨sq, _⟩ | ⟨_, c⟩
    · have sq' := sqL_mono st.sub sq
      exact ⟨a, xs, rfl, sq', hp _ _ _ g (walk_enum sq da) (by simpa [← da.length] using hl a xs rfl (.inl sq')) st⟩
    · cases c
  | tuple k =>
    refine .inr (opd st0 he1 (fun r2 c z H' G' g got st hl => ?_) nofun)
    cases c
    obtain ⟨a, xs, rfl, sq, da⟩ := dp_items (GotO.plain got hd hf) hi
    rcases sq with ⟨_, c⟩ | ⟨sq, _⟩
    · cases c
    · have sq' := sqT_mono st.sub sq
      exact ⟨a, xs, rfl, sq', hp _ _ _ g (walk_pairs sq da) (by simpa [← da.length] using hl a xs rfl (.inr sq')) st⟩
  | _ => cases hi
theorem pi_zipX {e e2 : Expr} {f f2 : M RV} {p pos tpos : Pos} {elts : List Expr} {kk : Nat} (he : PE X e (tE EC X f)) (he2 : PE X e2 (tE EC X f2)) (hg : Gl X "zip") (hm : X.mg "zip" = none)
    (hs : starEach [e, e2] X.env = (false, eval e X.env) :: starEach [e2] X.env) (hs2 : starEach [e2] X.env = [(false, eval e2 X.env)]) :
    PI X (.Tuple elts kk tpos) (.Call (.Name "zip" p) [e, e2] [] pos) (tI EC X (do
      let r ← f
      let q ← f2
      let xs ← itemsM r
      let ys ← itemsM q
      if sameSeq r q then M.ret (xs.zipWith (fun x y => .tuple [x, y]) ys) else M.stuck)) := by
  refine PI.imp (RZ.pi_zipA hg hm (pa_cons (PE.len he) (pa_cons he2 pa_nil hs2) hs) hs (by rw [hs2]; rfl)) fun σ H R h => ?_
  obtain ⟨le, FR, G, ρ, τ, out, ρ', hs, he, hp⟩ := h
  rcases bind_some he with ⟨e, he1, rfl⟩ | ⟨r, ρ1, he1, h2⟩
  · exact ⟨le, FR, G, ρ, τ, _, _, hs, he1, hp⟩
  refine opd hs he1 (fun r2 c z H1 G1 g1 got st hl => ?_) fun e c => nomatch c
  cases c
  rcases bind_some h2 with ⟨e, he3, rfl⟩ | ⟨q, ρ2, he3, h3⟩
  · exact ⟨le, FR, G1, ρ1, τ, _, _, st, he3, wx_le g1 hp⟩
  refine opd st he3 (fun r2 c y H2 G2 g2 got2 st2 => ?_) fun e c => nomatch c
  cases c
  obtain ⟨d, ds, hd, hf, hi, h4⟩ := itemsM_bind h3
  obtain ⟨d', es, hd', hf', hi', h5⟩ := itemsM_bind h4
  by_cases hk : sameSeq r q = true
  · rw [if_pos hk] at h5
    obtain ⟨rfl, rfl⟩ := ret_some h5
    obtain ⟨a, xs, rfl, sq, da⟩ := dp_items (GotO.plain got hd hf) hi
    obtain ⟨b, ys, rfl, sq', da'⟩ := dp_items (GotO.plain got2 hd' hf') hi'
    have hx : xs.length ≤ 16777216 := by
      rcases sq with ⟨sq, _⟩ | ⟨sq, _⟩
      · exact hl a xs rfl (.inl (sqL_mono st.sub sq))
      · exact hl a xs rfl (.inr (sqT_mono st.sub sq))
    refine ⟨a, b, xs, ys, rfl, ?_⟩
    have hz : (ds.zipWith (fun x y => PyData.tuple [x, y]) es).length ≤ 16777216 := by rw [List.length_zipWith, ← da.length]; omega
    unfold sameSeq at hk
    rw [hd, hd'] at hk
    have g12 := g1.trans g2
    rcases sq with ⟨sq, rfl⟩ | ⟨sq, rfl⟩
    · rcases sq' with ⟨sq', rfl⟩ | ⟨sq', rfl⟩
      · have sq := sqL_mono g2 sq
        exact .inl ⟨sqL_mono st2.sub sq, sqL_mono st2.sub sq', hp _ _ _ g12 (walk_zip sq (DpAll.mono g2 _ _ da) sq' da') hz st2⟩
      · cases hk
    · rcases sq' with ⟨sq', rfl⟩ | ⟨sq', rfl⟩
      · cases hk
      · have sq := sqT_mono g2 sq
        exact .inr ⟨sqT_mono st2.sub sq, sqT_mono st2.sub sq', hp _ _ _ g12 (walk_zipT sq (DpAll.mono g2 _ _ da) sq' da') hz st2⟩
  · rw [if_neg hk] at h5
    exact (stuck_some h5).elim
theorem rngD_some {i j : Int} {ds : List D} (h : rngD i j = some ds) : (-(2 ^ 62) ≤ i ∧ i < 2 ^ 62 ∧ -(2 ^ 62) ≤ j ∧ j < 2 ^ 62 ∧ j - i ≤ 16777216) ∧ ds = ((List.range (j - i).toNat).map fun k : Nat => .int (i + k)) ∧ ds.length ≤ 16777216 := by
  unfold rngD at h
  obtain ⟨c, rfl⟩ := some_of h
  unfold rngOk at c
  have c := of_decide_eq_true c
  refine ⟨c, rfl, ?_⟩
  rw [List.length_map, List.length_range]
  omega
theorem pi_rng1 {tg a : Expr} {f : M RV} {p pos : Pos} (ha : PE X a (tE EC X f)) (hg : Gl X "range") (hm : X.mg "range" = none) (hs : starEach [a] X.env = [(false, eval a X.env)]) :
    PI X tg (.Call (.Name "range" p) [a] [] pos) (tI EC X (do
      let r ← f
      let v ← M.dat r
      let j ← intM v
      M.of (rngD 0 j))) := by
  refine PI.imp (pi_range1 hg hm (pa_cons ha pa_nil hs) hs) fun σ H R h => ?_
  obtain ⟨le, FR, G, ρ, τ, out, ρ', hs, he, hp⟩ := h
  rcases bind_some he with ⟨e, he1, rfl⟩ | ⟨r, ρ1, he1, h2⟩
  · exact ⟨le, FR, G, ρ, τ, _, _, hs, he1, hp⟩
  refine opd hs he1 (fun r2 c z H1 G1 g1 got st => ?_) fun e c => nomatch c
  cases c
  obtain ⟨v, hv, h3⟩ := dat_bind h2
  obtain ⟨j, rfl, h4⟩ := int_bind h3
  obtain ⟨ds, hd, rfl, rfl⟩ := of_some h4
  obtain ⟨⟨_, _, c3, c4, c5⟩, rfl, hl⟩ := rngD_some hd
  obtain rfl := (GotO.view got st hv).int
  have := hp _ H1 G1 g1 (walk_rng 0 (j - 0).toNat) hl st
  rw [show j - 0 = j from Int.sub_zero j] at this
  exact ⟨j, rfl, c3, c4, this⟩
theorem pi_rng2 {tg a b : Expr} {f f2 : M RV} {p pos : Pos} (ha : PE X a (tE EC X f)) (hb : PE X b (tE EC X f2)) (hg : Gl X "range") (hm : X.mg "range" = none) (hs : starEach [a, b] X.env = (false, eval a X.env) :: starEach [b] X.env) (hs2 : starEach [b] X.env = [(false, eval b X.env)]) :
    PI X tg (.Call (.Name "range" p) [a, b] [] pos) (tI EC X (do
      let r ← f
      let q ← f2
      let v ← M.dat r
      let w ← M.dat q
      let i ← intM v
      let j ← intM w
      M.of (rngD i j))) := by
  refine PI.imp (pi_range2 hg hm (pa_cons ha (pa_cons hb pa_nil hs2) hs) (by rw [hs, hs2]) hs2) fun σ H R h => ?_
  obtain ⟨le, FR, G, ρ, τ, out, ρ', hs, he, hp⟩ := h
  rcases bind_some he with ⟨e, he1, rfl⟩ | ⟨r, ρ1, he1, h2⟩
  · exact ⟨le, FR, G, ρ, τ, _, _, hs, he1, hp⟩
  refine opd hs he1 (fun r2 c z H1 G1 g1 got st => ?_) fun e c => nomatch c
  cases c
  rcases bind_some h2 with ⟨e, he3, rfl⟩ | ⟨q, ρ2, he3, h3⟩
  · exact ⟨le, FR, G1, ρ1, τ, _, _, st, he3, wx_le g1 hp⟩
  refine opd st he3 (fun r2 c y H2 G2 g2 got2 st2 => ?_) fun e c => nomatch c
  cases c
  obtain ⟨v, hv, h4⟩ := dat_bind h3
  obtain ⟨w, hw, h5⟩ := dat_bind h4
  obtain ⟨i, rfl, h6⟩ := int_bind h5
  obtain ⟨j, rfl, h7⟩ := int_bind h6
  obtain ⟨ds, hd, rfl, rfl⟩ := of_some h7
  obtain ⟨⟨c1, c2, c3, c4, c5⟩, rfl, hl⟩ := rngD_some hd
  obtain rfl := (GotO.view (GotO.mono got g2) st2 hv).int
  obtain rfl := (GotO.view got2 st2 hw).int
  exact ⟨i, j, rfl, ⟨c1, c2, c3, c4⟩, hp _ H2 G2 (g1.trans g2) (walk_rng i (j - i).toNat) hl st2⟩
end
end TK

set_option Elab.async false
set_option linter.all false
set_option maxRecDepth 100000
set_option maxHeartbeats 3200000
/-! TKSet: set(v) over any v whose iterator is known to begin: the loop is handed on. -/
namespace TK
open PySem PySem.Spec PyProof.Rows L2
open AutoSeq1 (wpAny_loadPart')
abbrev newSetO (w : World) : Obj := { cls := .type "set", dict := none, data := .set #[] 0 (.fresh 0 0 (!w.params.followText "set-order")) }
/-- T(..): the object made, then its __init__ by whatever road -/
theorem type_made {P : Program} {w : World} {A : Around} {E : Value → Shared → Prop} {s : Shared} {T newId initId : String} {args : List Value} {Q Q₁ : Value → Shared → Prop} (ft : TypeCalled T newId initId) (hct : checkTypeCall T ⟨args, []⟩ = pure ())
    (made : codeAny (model P w) A.in1 (.call (.builtin newId) ⟨.type T :: args, []⟩) (wants Q₁ E) s)
    (init : ∀ obj s₁, Q₁ obj s₁ → s₁.TypeIs obj T ∧ codeAny (model P w) A.in1 (.call (.builtin initId) ⟨obj :: args, []⟩) (wants (fun r s₂ => r = .none ∧ Q obj s₂) E) s₁) : wpAny (model P w) A (call (.type T) args) Q E s := by
  have ⟨_, _, hmro⟩ := ft.mro
  have f1 := ft.made
  have f2 := ft.sub
  have f3 := ft.notType
  have f4 := ft.canCreate
  refine wpAny_call (codeAny_of_tree (wpAny_pure ⟨Code.quiet_builtin _ (by decide +kernel), codeAny_builtin F.entry_type_call ?_⟩))
  rw [Around.under_plain (weight_type_call_type T args []) rfl]
  repeat (any_goals (first | assumption | wp_step))
  refine codeAny_mono made ?_
  rintro (_ | _ | _ | _ | obj) s₁ hr <;> first | exact hr | exact hr.elim | skip
  obtain ⟨hT, hi⟩ := init _ _ hr
  have f5 := ft.init.lookup
  have f6 := ft.init.bind obj
  repeat (any_goals (first | assumption | wp_step))
  refine codeAny_mono hi ?_
  rintro (_ | _ | _ | _ | r) s₂ hr₂ <;> first | exact hr₂ | exact hr₂.elim | skip
  obtain ⟨rfl, hq⟩ := hr₂
  repeat (any_goals (first | assumption | wp_step))
theorem set_front {P : Program} {w : World} {A : Around} {E : Value → Shared → Prop} {s : Shared} {v : Value} {oI : Obj} {Hh : Heap → Prop} {T : String} {Q : Value → Shared → Prop} (B : Begins v oI Hh) (hv : Hh s.heap)
    (ty : ∀ s' : Shared, (∀ b o, s.heap.get? b = some o → s'.heap.get? b = some o) → s'.TypeIs v T) (n1 : isSubtype (.type T) (.type "set") = pure false) (n2 : isSubtype (.type T) (.type "frozenset") = pure false) (n3 : (Value.type T == Value.type "dict") = false)
    (loop : codeAny (model P w) A.in1.in1 (.builtin "set.update.loop" ⟨[.ref s.heap.objs.size, .ref (s.heap.objs.size + 1)], []⟩) (wants (fun _ s' => Q (.ref s.heap.objs.size) s') E) { s with heap := (s.heap.push (newSetO w)).push oI }) :
    wpAny (model P w) A (call (.type "set") [v]) Q E s := by
  refine type_made (Q₁ := fun obj s₁ => obj = .ref s.heap.objs.size ∧ s₁ = { s with heap := s.heap.push (newSetO w) }) F.called_set (F.typeCall_set_1 v) (code_set_led1 v ⟨rfl, rfl⟩) fun obj s₁ h₁ => ?_
  obtain ⟨rfl, rfl⟩ := h₁
  have hS : (s.heap.push (newSetO w)).get? s.heap.objs.size = some (newSetO w) := Heap.get?_push_size _ rfl
  have hT : Shared.TypeIs { s with heap := s.heap.push (newSetO w) } (.ref s.heap.objs.size) "set" := ⟨_, hS, rfl⟩
  have keep : ∀ b o, s.heap.get? b = some o → (s.heap.push (newSetO w)).get? b = some o := fun b o q => Heap.get?_push_of_some _ q
  have tv := ty { s with heap := s.heap.push (newSetO w) } keep
  refine ⟨hT, codeAny_call_builtin F.called_set.init.plain F.entry_set_init (check_set_init_1 hT ?_)⟩
  have go {A' : Around} {E' : Value → Shared → Prop} {Q' : Value → Shared → Prop} (q : Q' (.ref (s.heap.objs.size + 1)) { s with heap := (s.heap.push (newSetO w)).push oI }) : wpAny (model P w) A' (pyIter v) Q' E' { s with heap := s.heap.push (newSetO w) } := by
    refine B.iter P w A' E' { s with heap := s.heap.push (newSetO w) } Q' (B.keeps _ _ hv keep) ?_
    rw [show (s.heap.push (newSetO w)).objs.size = s.heap.objs.size + 1 from Heap.size_push ..]
    exact q
  unfold Builtin.«set.__init__» noKeywords Builtin.Frozenset.updateFrom Builtin.Frozenset.isAnySet
  generalize hPI : pyIter = PI
  wp_walk using wpAny_typeOf tv, wpAny_isInstance tv n1, wpAny_isInstance tv n2
  subst hPI
  refine go (wpAny_bind (wpAny_runValue (codeAny_mono loop fun r s' hr => ?_)))
  cases r with
  | error e => exact hr
  | ok f =>
    cases f with
    | ret x => exact wpAny_pure (wpAny_pure ⟨rfl, hr⟩)
    | next => exact hr.elim
    | brk => exact hr.elim
    | cont => exact hr.elim

/-- a sequence at l as it is walked: list or tuple -/
structure Seq (P : Program) (w : World) (l : Addr) (items : Array Value) (oI : Obj) (Hh : Heap → Prop) (T : String) (St : Addr → Nat → Heap → Prop) : Prop where
  B : Begins (.ref l) oI Hh
  ty : ∀ s : Shared, Hh s.heap → s.TypeIs (.ref l) T
  lt : ∀ h, Hh h → l < h.objs.size
  n1 : isSubtype (.type T) (.type "set") = pure false
  n2 : isSubtype (.type T) (.type "frozenset") = pure false
  n3 : (Value.type T == Value.type "dict") = false
  W : ∀ (A : Around) (I : Addr), A.handled = none → l ≠ I → Walks P w A I [I, l] [I] items.size (fun i v => items[i]? = some v) (St I)
  st : ∀ I h, Hh h → h.get? I = some oI → St I 0 h
theorem seq_list {P : Program} {w : World} (l : Addr) (items : Array Value) : Seq P w l items { cls := .type "list_iterator", data := .fields #[.ref l, .int 0 0] } (fun h => h.IsList l items) "list" (fun I i h => h.IsListIter I l i ∧ h.IsList l items) :=
  ⟨begins_list l items, fun s h => h.typeIs, fun h x => let ⟨_, e, _⟩ := x; Heap.lt_size e, F.sub_list_set, F.sub_list_frozenset, rfl, fun A I hh hne => Walks.list hh I l hne items, fun I h x e => ⟨⟨_, e, rfl, rfl⟩, x⟩⟩
theorem seq_tuple {P : Program} {w : World} (l : Addr) (items : Array Value) : Seq P w l items { cls := .type "tuple_iterator", data := .fields #[.ref l, .int 0 0] } (fun h => h.IsTuple l items) "tuple" (fun I i h => h.IsTupleIter I l i ∧ h.IsTuple l items) :=
  ⟨begins_tuple l items, fun s h => h.typeIs, fun h x => let ⟨_, e, _⟩ := x; Heap.lt_size e, F.sub_tuple_set, F.sub_tuple_frozenset, rfl, fun A I hh hne => Walks.tuple hh I l hne items, fun I h x e => ⟨⟨_, e, rfl, rfl⟩, x⟩⟩
section
variable {P : Program} {w : World} {A : Around} {E : Value → Shared → Prop} {s : Shared} {l : Addr} {items : Array Value} {oI : Obj} {Hh : Heap → Prop} {T : String} {St : Addr → Nat → Heap → Prop} {Q : Value → Shared → Prop}
/-- where the loop of set(v) begins -/
theorem Seq.start (q : Seq P w l items oI Hh T St) (hv : Hh s.heap) : St (s.heap.objs.size + 1) 0 ((s.heap.push (newSetO w)).push oI) ∧ ((s.heap.push (newSetO w)).push oI).get? s.heap.objs.size = some (newSetO w) ∧
    (∀ b o, s.heap.get? b = some o → ((s.heap.push (newSetO w)).push oI).get? b = some o) ∧ l ≠ s.heap.objs.size + 1 ∧ s.heap.objs.size ∉ [s.heap.objs.size + 1, l] := by
  have hl := q.lt _ hv
  have k : ∀ b o, s.heap.get? b = some o → ((s.heap.push (newSetO w)).push oI).get? b = some o := fun b o e => Heap.get?_push_of_some _ (Heap.get?_push_of_some _ e)
  have e1 := Heap.get?_push_size (s.heap.push (newSetO w)) q.B.free
  rw [show (s.heap.push (newSetO w)).objs.size = s.heap.objs.size + 1 from Heap.size_push ..] at e1
  have a1 : l ≠ s.heap.objs.size + 1 := Nat.ne_of_lt (Nat.lt_succ_of_lt hl)
  have a2 : s.heap.objs.size ≠ s.heap.objs.size + 1 := Nat.ne_of_lt (Nat.lt_succ_self _)
  have a3 : s.heap.objs.size ≠ l := Nat.ne_of_gt hl
  refine ⟨q.st _ _ (q.B.keeps _ _ hv k) e1, Heap.get?_push_of_some _ (Heap.get?_push_size _ rfl), k, a1, ?_⟩
  intro hm
  rcases List.mem_cons.mp hm with e | hm
  · exact a2 e
  · rcases List.mem_cons.mp hm with e | hm
    · exact a3 e
    · cases hm
/-- set(v) of ints -/
theorem set_ints (q : Seq P w l items oI Hh T St) (hv : Hh s.heap) (hh : A.handled = none) {ns : List Int} (hi : IntsAre items.toList ns) (hb : ns.length + 1 < scanBound)
    (h : ∀ (h' : Heap) (tk c : Nat), SetR w h' s.heap.objs.size (fun j => decide (j ∈ ns)) c → c ≤ ns.length → (∀ b o, s.heap.get? b = some o → h'.get? b = some o) → Q (.ref s.heap.objs.size) { s with heap := h', toks := tk }) :
    wpAny (model P w) A (call (.type "set") [.ref l]) Q E s := by
  obtain ⟨st, hS, k, n1, n2⟩ := q.start hv
  have hn : items.size = ns.length := by rw [← Array.length_toList]; exact IntsAre.length hi
  refine set_front q.B hv (fun s' k' => q.ty s' (q.B.keeps _ _ hv k')) q.n1 q.n2 q.n3 ?_
  refine set_update_ints ((q.W A.in1.in1.in1 _ (by simp [hh]) n1).toS) _ n2 ns hn hb (fun i v hv => ?_) (items.size - 0) 0 _ rfl (Nat.zero_le _) st ⟨0, Nat.le_refl 0, setR_new_at hS⟩ fun s' c hm hc hS' => ?_
  · have hi' : i < ns.length := by rw [← hn]; exact (Array.getElem?_eq_some_iff.mp hv).1
    obtain ⟨t, e⟩ := PyProof.Rows.IntsAre.int_at hi i v (by rw [Array.getElem?_toList]; exact hv)
    exact ⟨ns[i], t, List.getElem?_eq_getElem hi', by rw [e, List.getD_eq_getElem?_getD, List.getElem?_eq_getElem hi']; rfl⟩
  · have keep : ∀ b o, s.heap.get? b = some o → s'.heap.get? b = some o := fun b o e => hm.heap b o (by
      have hb : b < s.heap.objs.size := Heap.lt_size e
      intro hm
      rcases List.mem_cons.mp hm with e | hm
      · exact Nat.ne_of_lt hb e
      · rcases List.mem_cons.mp hm with e | hm
        · exact Nat.ne_of_lt (Nat.lt_succ_of_lt hb) e
        · cases hm) (k b o e)
    obtain ⟨h', g2, d', tk', os'⟩ := s'
    obtain rfl : g2 = s.gens := hm.gens
    obtain rfl : d' = s.drawn := hm.drawn
    obtain rfl : os' = s.os := hm.os
    exact h h' tk' c hS' (by rw [← hn]; exact hc) keep
/-- set(v) of tuples of ints, fewer than 64 -/
theorem set_tups (q : Seq P w l items oI Hh T St) (hv : Hh s.heap) (hh : A.handled = none) (hu : A.units + 3 < cLine) (ks : List (Addr × List Int)) (hit : items.toList = ks.map fun p => Value.ref p.1) (hk : ∀ p ∈ ks, L2.IsT P w s.heap p.2 p.1) (hfew : ks.length < 64)
    (h : ∀ (h' : Heap) (tk : Nat) L es ep t, SetTR P w h' s.heap.objs.size L es ep t → L2.Got ks ks.length L → (∀ b o, s.heap.get? b = some o → h'.get? b = some o) → Q (.ref s.heap.objs.size) { s with heap := h', toks := tk }) :
    wpAny (model P w) A (call (.type "set") [.ref l]) Q E s := by
  obtain ⟨st, hS, k, n1, n2⟩ := q.start hv
  have hn : items.size = ks.length := by rw [← Array.length_toList, hit, List.length_map]
  refine set_front q.B hv (fun s' k' => q.ty s' (q.B.keeps _ _ hv k')) q.n1 q.n2 q.n3 ?_
  refine set_update_tups ((q.W A.in1.in1.in1 _ (by simp [hh]) n1).toS) _ n2 ks hn hfew (fun i v hv => ?_) s.heap hk (Heap.get?_none_of_le (Nat.le_refl _)) (fun b hb => ?_) (by simp only [Around.in1_units]; omega) (items.size - 0) 0 _ rfl (Nat.zero_le _) st k ⟨[], _, _, _, setTR_fresh hS, L2.Got.zero ks⟩ fun s' L es ep t hm hS' g' keep => ?_
  · have e : items.toList[i]? = some v := by rw [Array.getElem?_toList]; exact hv
    rw [hit, List.getElem?_map] at e
    cases ek : ks[i]? with
    | none => rw [ek] at e; cases e
    | some p => rw [ek] at e; exact ⟨p, rfl, (Option.some.inj e).symm⟩
  · rcases List.mem_cons.mp hb with e | hb
    · rw [e]; exact Heap.get?_none_of_le (Nat.le_succ _)
    · cases hb
  · obtain ⟨h', g2, d', tk', os'⟩ := s'
    obtain rfl : g2 = s.gens := hm.gens
    obtain rfl : d' = s.drawn := hm.drawn
    obtain rfl : os' = s.os := hm.os
    exact h h' tk' L es ep t hS' (by rw [← hn]; exact g') keep
end

/-- a list or a tuple of these values stands at l -/
def SqAny (K : PySem.W.Frag) (H : Hp) (l : Addr) (vs : List V) : Prop := SqL K H l vs ∨ SqT K H l vs
section
variable {X : Cx}
theorem inv_seqAny {pins : List (Addr × Obj)} {σ : L2.St} {H : Hp} {s : Shared} {l : Addr} {vs : List V} (I : Inv X pins σ H s) (h : SqAny X.K H l vs) :
    ∃ (its : List Value) (oI : Obj) (Hh : Heap → Prop) (T : String) (St : Addr → Nat → Heap → Prop), Vals vs its ∧ Seq X.prog X.w l its.toArray oI Hh T St ∧ Hh s.heap := by
  rcases h with h | h
  · obtain ⟨its, r, pl, _⟩ := I.list h
    exact ⟨its, _, _, _, _, r, seq_list l its.toArray, pl.isList⟩
  · obtain ⟨its, r, ⟨o, h1, h2, n, h3⟩, _⟩ := I.tuple h
    exact ⟨its, _, _, _, _, r, seq_tuple l its.toArray, ⟨o, h1, h2, n, h3⟩⟩
/-- set(xs): ints, fewer than 64 -/
def rSetI (K : PySem.W.Frag) (w : World) : List V → Hp → VK → Prop := fun vs H Q => ∃ (l : Addr) (ns : List Int), vs = [V.ref l] ∧ SqAny K H l (ns.map V.int) ∧ ns.length < 64 ∧
  ∀ a c, H a = none → c ≤ ns.length → Q (.ref a) (upd H a (SetO w a (fun j => decide (j ∈ ns)) c))
/-- set(xs): tuples of ints, fewer than 64 -/
def rSetT (K : PySem.W.Frag) (P : Program) (w : World) : List V → Hp → VK → Prop := fun vs H Q => ∃ (l : Addr) (ks : List (Addr × List Int)), vs = [V.ref l] ∧ SqAny K H l (ks.map fun p : Addr × List Int => V.ref p.1) ∧ (∀ p ∈ ks, SqT K H p.1 (p.2.map V.int)) ∧ ks.length < 64 ∧
  ∀ a L, H a = none → (∀ p ∈ L, p ∈ ks) → (∀ p ∈ ks, p.2 ∈ L.map (·.2)) → Q (.ref a) (upd H a (SetTO P w a L))
theorem c_setI (hc : X.calm = true) : CallR X (.type "set") (rSetI X.K X.w) := by
  intro pins s σ H vs us Q I r h
  obtain ⟨l, ns, rfl, hs, hf, q⟩ := h
  obtain ⟨its, oI, Hh, T, St, rv, sq, hv⟩ := inv_seqAny I hs
  rw [Vals.ref1 r]
  refine set_ints sq hv (I.ok.hd hc) (ns := ns) (Vals.ints rv) (by rw [scanBound]; omega) fun h' tk c R hcn k => ?_
  exact ⟨V.ref s.heap.objs.size, _, I.laid (t' := tk) k (Nat.le_refl _) (setO_new R), rfl, q _ c (I.hok.fresh (Nat.le_refl _)) hcn⟩
theorem c_setT (hc : X.calm = true) (hu : X.A.units + 64 < cLine) : CallR X (.type "set") (rSetT X.K X.prog X.w) := by
  intro pins s σ H vs us Q I r h
  obtain ⟨l, ks, rfl, hs, hk, hf, q⟩ := h
  obtain ⟨its, oI, Hh, T, St, rv, sq, hv⟩ := inv_seqAny I hs
  rw [Vals.ref1 r]
  refine set_tups sq hv (I.ok.hd hc) (by omega) ks (refs_of_vals rv) (fun p hp => I.isT (hk p hp)) hf fun h' tk L es ep t R g k => ?_
  exact ⟨V.ref s.heap.objs.size, _, I.laid (t' := tk) k (Nat.le_refl _) (setTO_new R.t0), rfl, q _ L (I.hok.fresh (Nat.le_refl _)) (fun p hp => List.mem_of_mem_take (g.sub p hp)) fun p hp => g.all p (by rw [List.take_length]; exact hp)⟩
end
end TK

set_option Elab.async false
set_option linter.all false
set_option maxRecDepth 100000
set_option maxHeartbeats 1600000
/-! TKSet2: sorted(set(v)) over data. -/
namespace TK
open PySem PySem.Spec PyProof.Rows L2
variable {K : PySem.W.Frag} {G H : Hp}
theorem dpAll_ints : ∀ (ns : List Int), DpAll K G (ns.map V.int) (ns.map (.int : Int → D))
  | [] => .nil
  | n :: r => .cons (.int n) (dpAll_ints r)
theorem setSort_ints {w : World} {z : V} {d : D} {xs : List D} {ns : List Int} {Q : VK} (g : Le G H) (o : OpV K G H z d) (e : itemsOf d = some xs) (e2 : intsOf xs = some ns) (hl : ns.length < 64)
    (q : ∀ z' G' H', Ext G H G' H' → ResV K H G' H' z' (.ow (.list ((intO.sort ns).map .int))) → Q z' H') : rSetI K w [z] H fun v H1 => rSortedSet w [v] H1 Q := by
  obtain ⟨a, vs, rfl, s, dp⟩ := o.seq g e
  obtain rfl := intsOf_vals e2 dp
  refine ⟨a, ns, rfl, s.imp And.right And.right, hl, fun b c hb hc => ⟨b, _, c, rfl, upd_same, by omega, fun ms p hs hm hlen hp => ?_⟩⟩
  have em : ms = intO.sort ns := SLO.sort_eq (hs.imp fun h => by simpa [intO] using h) fun z => by rw [hm]; simp
  subst em
  have lb : Le H (upd H b (SetO w b (fun j => decide (j ∈ ns)) c)) := le_upd hb
  exact q _ G _ ((Ext.newL g hb).trans (Ext.newL (g.trans lb) hp)) ⟨p, rfl, lb.none hp, (g.trans lb).none hp, _, upd_same, dpAll_ints _⟩
theorem pairOf_is {x : D} {p : Int × Int} (h : pairOf x = some p) : x = .tuple [.int p.1, .int p.2] ∧ 0 ≤ p.1 ∧ p.1 < 64 ∧ 0 ≤ p.2 ∧ p.2 < 64 := by
  unfold pairOf at h
  split at h
  · split at h
    · next b => obtain rfl := Option.some.inj h; exact ⟨rfl, b⟩
    · cases h
  · cases h
theorem pairs_vals : ∀ {xs : List D} {ps : List (Int × Int)} {vs : List V}, pairsOf xs = some ps → DpAll K G vs xs →
    (∀ p ∈ ps, 0 ≤ p.1 ∧ p.1 < 64 ∧ 0 ≤ p.2 ∧ p.2 < 64) ∧ ∃ ks : List (Addr × List Int), vs = ks.map (fun p => V.ref p.1) ∧ ks.map (·.2) = ps.map (fun p => [p.1, p.2]) ∧ ∀ p ∈ ks, SqT K G p.1 (p.2.map V.int)
  | [], ps, vs, e, h => by
    obtain rfl := Option.some.inj e
    cases h
    exact ⟨fun p h => (nomatch h), [], rfl, rfl, fun p h => (nomatch h)⟩
  | x :: r, ps, vs, e, h => by
    have e : (pairOf x).bind (fun p => (pairsOf r).map (p :: ·)) = some ps := e
    cases q : pairOf x with
    | none => rw [q] at e; cases e
    | some p =>
      cases q2 : pairsOf r with
      | none => rw [q, q2] at e; cases e
      | some ms =>
        rw [q, q2] at e
        obtain rfl : p :: ms = ps := Option.some.inj e
        cases h with
        | cons h1 h2 =>
          obtain ⟨rfl, bp⟩ := pairOf_is q
          obtain ⟨bs, ks, rfl, ek, hk⟩ := pairs_vals q2 h2
          cases h1 with
          | tup s t =>
            rename_i a us
            obtain rfl : us = [V.int p.1, V.int p.2] := intsOf_vals (ns := [p.1, p.2]) rfl t
            exact ⟨fun y hy => (List.mem_cons.mp hy).elim (fun e => e ▸ bp) (bs y), (a, [p.1, p.2]) :: ks, rfl, by simp [ek], fun y hy => (List.mem_cons.mp hy).elim (fun e => by rw [e]; exact s) (hk y)⟩
/-- a key of two as a pair -/
def two (q : Addr × List Int) : Int × Int := (q.2.getD 0 0, q.2.getD 1 0)
theorem dpAll_pairs : ∀ (L : List (Addr × List Int)), (∀ q ∈ L, SqT K G q.1 (q.2.map V.int) ∧ q.2 = [(two q).1, (two q).2]) →
    DpAll K G (L.map fun q => V.ref q.1) ((L.map two).map fun p => (.tuple [.int p.1, .int p.2] : D))
  | [], _ => .nil
  | q :: r, h => by
    obtain ⟨s, e⟩ := h q List.mem_cons_self
    rw [e] at s
    exact .cons (.tup s (dpAll_ints [(two q).1, (two q).2])) (dpAll_pairs r fun y hy => h y (List.mem_cons_of_mem _ hy))
theorem setSort_pairs {P : Program} {w : World} {z : V} {d : D} {xs : List D} {ps : List (Int × Int)} {Q : VK} (g : Le G H) (o : OpV K G H z d) (e : itemsOf d = some xs) (e2 : pairsOf xs = some ps) (hl : xs.length < 64)
    (q : ∀ z' G' H', Ext G H G' H' → ResV K H G' H' z' (.ow (.list ((pairO.sort ps).map fun p => .tuple [.int p.1, .int p.2]))) → Q z' H') : rSetT K P w [z] H fun v H1 => rSortedT K P w [v] H1 Q := by
  obtain ⟨a, vs, rfl, s, dp⟩ := o.seq g e
  obtain ⟨bs, ks, rfl, ek, hk⟩ := pairs_vals e2 dp
  have hlen : ks.length < 64 := by
    have := dp.length
    rw [List.length_map] at this
    omega
  have key : ∀ p ∈ ks, ∃ y ∈ ps, p.2 = [y.1, y.2] := fun p hp => by
    have m : p.2 ∈ ks.map (·.2) := List.mem_map_of_mem hp
    rw [ek] at m
    obtain ⟨y, hy, ey⟩ := List.mem_map.mp m
    exact ⟨y, hy, ey.symm⟩
  refine ⟨a, ks, rfl, s.imp And.right And.right, fun p hp => sqT_mono g (hk p hp), hlen, fun b L hb hL hL2 => ?_⟩
  have lb : Le H (upd H b (SetTO P w b L)) := le_upd hb
  refine ⟨b, L, 2, 64, rfl, upd_same, fun p hp => sqT_mono (g.trans lb) (hk p (hL p hp)), by omega, fun p hp => ?_, fun M p pm nd _ pw hp => ?_⟩
  · obtain ⟨y, hy, ey⟩ := key p (hL p hp)
    rw [ey]
    refine ⟨rfl, fun m hm => ?_⟩
    have := bs y hy
    rcases List.mem_cons.mp hm with e | hm
    · omega
    · rcases List.mem_cons.mp hm with e | hm
      · omega
      · cases hm
  · have mk : ∀ x ∈ M, x ∈ ks := fun x hx => hL x (pm.mem_iff.mp hx)
    have tw : ∀ x ∈ M, two x ∈ ps ∧ x.2 = [(two x).1, (two x).2] := fun x hx => by
      obtain ⟨y, hy, ey⟩ := key x (mk x hx)
      have : two x = y := by unfold two; rw [ey]; rfl
      rw [this]
      exact ⟨hy, ey⟩
    have srt : (M.map two).Pairwise (fun a b => pairO.lt a b = true) := by
      rw [List.pairwise_map]
      have nd2 : M.Pairwise (fun a b => a.2 ≠ b.2) := List.pairwise_map.mp nd
      refine (List.Pairwise.and pw nd2).imp_of_mem fun {x y} hx hy hxy => ?_
      obtain ⟨mx, ex⟩ := tw x hx
      obtain ⟨my, ey⟩ := tw y hy
      have b1 := bs _ mx
      have b2 := bs _ my
      have h1 := hxy.1
      have h2 := hxy.2
      rw [ex, ey] at h1 h2
      have := pair_lt h1 h2 ⟨b1.1, b1.2.1⟩ b1.2.2 ⟨b2.1, b2.2.1⟩ b2.2.2
      simp only [pairO, decide_eq_true_eq]
      exact this
    have em : M.map two = pairO.sort ps := SLO.sort_eq srt fun z => by
      constructor
      · intro hz
        obtain ⟨x, hx, rfl⟩ := List.mem_map.mp hz
        exact (tw x hx).1
      · intro hz
        have : [z.1, z.2] ∈ ks.map (·.2) := by rw [ek]; exact List.mem_map.mpr ⟨z, hz, rfl⟩
        obtain ⟨x, hx, ex⟩ := List.mem_map.mp this
        obtain ⟨y, hy, ey⟩ := List.mem_map.mp (hL2 x hx)
        refine List.mem_map.mpr ⟨y, pm.mem_iff.mpr hy, ?_⟩
        unfold two
        rw [ey, ex]
        rfl
    refine q _ G _ ((Ext.newL g hb).trans (Ext.newL (g.trans lb) hp)) ⟨p, rfl, lb.none hp, (g.trans lb).none hp, _, upd_same, ?_⟩
    rw [← em]
    exact dpAll_pairs M fun x hx => ⟨hk x (mk x hx), (tw x hx).2⟩
end TK

set_option Elab.async false
set_option linter.all false
set_option maxRecDepth 100000
set_option maxHeartbeats 1000000
/-! TKComp: comprehensions. -/
namespace TK
open PySem PySem.Spec PyProof.Rows L2
section
variable {EC : Nat → Option Addr} {X : Cx} {K : PySem.W.Frag} {le : Nat → Option Addr} {FR G G' H H' : Hp} {o : Own} {ρ ρ' ρ1 ρ2 : En} {σ σ' σ0 : L2.St} {τ : List (RV × V)}

/-! ### readings where nothing is raised -/
def tEn (K : PySem.W.Frag) (f : M RV) : TE := fun σ H Q => ∃ le FR G ρ τ r ρ', StE K le FR G H ρ σ τ ∧ f ρ = some (.ok r, ρ') ∧ ∀ z H' G', Le G G' → (∀ i, r = .bw i → σ[i]? = some (some z)) → StE K le FR G' H' ρ' σ ((r, z) :: τ) → Q z H'
def tTn (K : PySem.W.Frag) (f : M Bool) : TT := fun σ H Q => ∃ le FR G ρ τ b ρ', StE K le FR G H ρ σ τ ∧ f ρ = some (.ok b, ρ') ∧ ∀ H' G', Le G G' → StE K le FR G' H' ρ' σ τ → Q b H'
def tIn (K : PySem.W.Frag) (f : M (List D)) : TI := fun σ H R => ∃ le FR G ρ τ ds ρ', StE K le FR G H ρ σ τ ∧ f ρ = some (.ok ds, ρ') ∧ ∀ J H' G', Le G G' → Walk K G' J ds → ds.length ≤ 16777216 → StE K le FR G' H' ρ' σ τ → R J H'
theorem tE_of {f : M RV} {Q : VK} (h : tEn X.K f σ H Q) : tE EC X f σ H Q := let ⟨le, FR, G, ρ, τ, r, ρ', hs, he, hp⟩ := h; ⟨le, FR, G, ρ, τ, .ok r, ρ', hs, he, hp⟩
theorem tT_of {f : M Bool} {Q : Bool → Hp → Prop} (h : tTn X.K f σ H Q) : tT EC X f σ H Q := let ⟨le, FR, G, ρ, τ, r, ρ', hs, he, hp⟩ := h; ⟨le, FR, G, ρ, τ, .ok r, ρ', hs, he, hp⟩
theorem tI_of {f : M (List D)} {R : L2.It → Hp → Prop} (h : tIn X.K f σ H R) : tI EC X f σ H R := let ⟨le, FR, G, ρ, τ, r, ρ', hs, he, hp⟩ := h; ⟨le, FR, G, ρ, τ, .ok r, ρ', hs, he, hp⟩
theorem tYes_of {Q : Bool → Hp → Prop} (h : tTn K (M.ret true) σ H Q) : tYes σ H Q := by
  obtain ⟨le, FR, G, ρ, τ, r, ρ', hs, he, hp⟩ := h
  cases he
  exact hp H G (Le.refl _) hs

/-! ### names forgotten -/
theorem wipe_get : ∀ {vs : List Nat} {i : Nat}, i ∉ vs → (wipe σ vs)[i]? = σ[i]?
  | [], _, _ => rfl
  | v :: vs, i, h => by
    unfold wipe
    rw [List.getElem?_set_ne (fun e => h (by rw [← e]; exact List.mem_cons_self)), wipe_get fun m => h (List.mem_cons_of_mem _ m)]
theorem wipe_in : ∀ {vs : List Nat} {i : Nat}, i ∈ vs → i < σ.length → (wipe σ vs)[i]? = some none
  | [], _, h, _ => by cases h
  | v :: vs, i, h, hl => by
    unfold wipe
    by_cases e : v = i
    · subst e; rw [List.getElem?_set_self (by rw [wipe_length]; exact hl)]
    · rw [List.getElem?_set_ne e]
      rcases List.mem_cons.mp h with rfl | h
      · exact absurd rfl e
      · exact wipe_in h hl
theorem wipe_ext {vs ms : List Nat} (hms : ∀ i ∈ ms, i ∈ vs) (h : OffAt ms σ0 σ') (e : ∀ i, i ∉ vs → σ0[i]? = σ[i]?) (hl : σ0.length = σ.length) : wipe σ' vs = wipe σ vs := by
  apply List.ext_getElem?
  intro i
  by_cases hi : i ∈ vs
  · by_cases hl' : i < σ.length
    · rw [wipe_in hi hl', wipe_in hi (by rw [h.1, hl]; exact hl')]
    · rw [List.getElem?_eq_none (by rw [wipe_length, h.1, hl]; omega), List.getElem?_eq_none (by rw [wipe_length]; omega)]
  · rw [wipe_get hi, wipe_get hi, h.2 i (fun m => hi (hms i m)), e i hi]
theorem wipeE_length (ρ : En) : ∀ vs : List Nat, (wipeE ρ vs).length = ρ.length
  | [] => rfl
  | v :: vs => by unfold wipeE; rw [List.length_set, wipeE_length ρ vs]
theorem wipeE_get : ∀ {vs : List Nat} {i : Nat}, i ∉ vs → (wipeE ρ vs)[i]? = ρ[i]?
  | [], _, _ => rfl
  | v :: vs, i, h => by
    unfold wipeE
    rw [List.getElem?_set_ne (fun e => h (by rw [← e]; exact List.mem_cons_self)), wipeE_get fun m => h (List.mem_cons_of_mem _ m)]
theorem wipeE_some : ∀ {vs : List Nat} {i : Nat} {r : RV}, (wipeE ρ vs)[i]? = some r → r = .un ∨ (i ∉ vs ∧ ρ[i]? = some r)
  | [], _, _, h => .inr ⟨by simp, h⟩
  | v :: vs, i, r, h => by
    unfold wipeE at h
    rcases set_get h with ⟨rfl, rfl, _⟩ | ⟨n, h⟩
    · exact .inl rfl
    · rcases wipeE_some h with h | ⟨h1, h2⟩
      · exact .inl h
      · exact .inr ⟨fun m => (List.mem_cons.mp m).elim n h1, h2⟩
theorem StOk.wipe (x : StOk K le FR G H o ρ σ τ) {vs : List Nat} (hv : ∀ v ∈ vs, le v = none) : StOk K le FR G H o (wipeE ρ vs) (L2.wipe σ vs) τ := by
  refine ⟨x.sub, x.fr, x.ow, by rw [wipeE_length, wipe_length]; exact x.len, fun i r e => ?_, fun i a e => ?_, x.tmp⟩
  · rcases wipeE_some e with rfl | ⟨h1, h2⟩
    · trivial
    · rw [wipe_get h1]; exact x.slot i r h2
  · have : i ∉ vs := fun m => by rw [hv i m] at e; cases e
    obtain ⟨d, q⟩ := x.lent i a e
    exact ⟨d, by rw [wipeE_get this]; exact q⟩
theorem wipe_wipe {vs : List Nat} : wipe (wipe σ vs) vs = wipe σ vs := wipe_ext (ms := []) (fun _ h => nomatch h) (OffAt.refl _) (fun i hi => wipe_get hi) (wipe_length _ _)
theorem StE.wipe' {σ2 : L2.St} (x : StE K le FR G H ρ σ2 τ) {vs : List Nat} (hv : ∀ v ∈ vs, le v = none) (e : L2.wipe σ2 vs = L2.wipe σ vs) : StE K le FR G H (wipeE ρ vs) (L2.wipe σ vs) τ := by
  obtain ⟨o, x⟩ := x
  have := x.wipe hv
  rw [e] at this
  exact ⟨o, this⟩
theorem restE_length (ρ0 ρ : En) : ∀ vs : List Nat, (restE ρ0 ρ vs).length = ρ.length
  | [] => rfl
  | v :: vs => by unfold restE; rw [List.length_set, restE_length ρ0 ρ vs]
theorem restE_get : ∀ {vs : List Nat} {i : Nat}, i ∉ vs → (restE ρ1 ρ vs)[i]? = ρ[i]?
  | [], _, _ => rfl
  | v :: vs, i, h => by
    unfold restE
    rw [List.getElem?_set_ne (fun e => h (by rw [← e]; exact List.mem_cons_self)), restE_get fun m => h (List.mem_cons_of_mem _ m)]
theorem restE_some : ∀ {vs : List Nat} {i : Nat} {r : RV}, (restE ρ1 ρ vs)[i]? = some r → (i ∈ vs ∧ r = ρ1.getD i .un) ∨ (i ∉ vs ∧ ρ[i]? = some r)
  | [], _, _, h => .inr ⟨by simp, h⟩
  | v :: vs, i, r, h => by
    unfold restE at h
    rcases set_get h with ⟨rfl, rfl, _⟩ | ⟨n, h⟩
    · exact .inl ⟨List.mem_cons_self, rfl⟩
    · rcases restE_some h with ⟨h1, h2⟩ | ⟨h1, h2⟩
      · exact .inl ⟨List.mem_cons_of_mem _ h1, h2⟩
      · exact .inr ⟨fun m => (List.mem_cons.mp m).elim n h1, h2⟩
theorem wipeOk_at {vs : List Nat} {v : Nat} (h : wipeOk ρ vs = true) (hv : v ∈ vs) : ρ[v]? = some .un ∨ ∃ d, ρ[v]? = some (.pl d) := by
  have := List.all_eq_true.mp h v hv
  cases e : ρ[v]? with
  | none => rw [e] at this; cases this
  | some r =>
    rw [e] at this
    cases r with
    | un => exact .inl rfl
    | pl d => exact .inr ⟨d, rfl⟩
    | _ => cases this
theorem StOk.rest {H0 : Hp} {o0 : Own} {τ0 : List (RV × V)} (x : StOk K le FR G' H o ρ2 (L2.wipe σ vs) τ) (y : StOk K le FR G H0 o0 ρ1 σ τ0) (g : Le G G') (hw : wipeOk ρ1 vs = true) : StOk K le FR G' H o (restE ρ1 ρ2 vs) σ τ := by
  refine ⟨x.sub, x.fr, x.ow, by rw [restE_length, x.len, wipe_length], fun i r e => ?_, fun i a e => ?_, x.tmp⟩
  · rcases restE_some e with ⟨h1, rfl⟩ | ⟨h1, h2⟩
    · rcases wipeOk_at hw h1 with q | ⟨d, q⟩
      · rw [List.getD_eq_getElem?_getD, q]; trivial
      · rw [List.getD_eq_getElem?_getD, q]
        obtain ⟨v, h3, h4⟩ := y.slot i _ q
        exact ⟨v, h3, h4.mono g _ _⟩
    · have := x.slot i r h2
      rw [wipe_get h1] at this
      exact this
  · have : i ∉ vs := fun m => by
      obtain ⟨d, q⟩ := y.lent i a e
      rcases wipeOk_at hw m with h | ⟨d', h⟩ <;> (rw [q] at h; cases h)
    obtain ⟨d, q⟩ := x.lent i a e
    exact ⟨d, by rw [restE_get this]; exact q⟩
theorem wipeOk_le (x : StE K le FR G H ρ σ τ) {vs : List Nat} (h : wipeOk ρ vs = true) : ∀ v ∈ vs, le v = none := by
  obtain ⟨o, x⟩ := x
  intro v hv
  cases e : le v with
  | none => rfl
  | some a =>
    obtain ⟨d, q⟩ := x.lent v a e
    rcases wipeOk_at h hv with h | ⟨d', h⟩ <;> (rw [q] at h; cases h)

/-- the list on top grows -/
theorem StE.changeTop {ds : List D} {z : V} (x : StE K le FR G H ρ σ ((.ow (.list ds), z) :: τ)) : ∃ a ws, z = .ref a ∧ H a = some (.lst ws) ∧ DpAll K G ws ds ∧
    ∀ ws' ds', DpAll K G ws' ds' → StE K le FR G (upd H a (.lst ws')) ρ σ ((.ow (.list ds'), z) :: τ) := by
  obtain ⟨o, x⟩ := x
  obtain ⟨a, h1, h2, ws, h3, h4⟩ := x.top
  obtain rfl := Option.some.inj h1
  refine ⟨a, ws, rfl, h3, h4, fun ws' ds' h5 => ⟨o, ?_⟩⟩
  have ga : G a = none := (x.ow a _ h2).1
  refine ⟨fun b y q => ?_, fun b y q => ?_, fun b w q => ?_, x.len, fun j r q => ?_, x.lent, ⟨a, rfl, h2, ws', upd_same, h5⟩, ?_⟩
  · rw [upd_ne (fun c => by rw [c, ga] at q; cases q)]; exact x.sub _ _ q
  · obtain ⟨k1, k2, k3⟩ := x.fr b y q
    exact ⟨by rw [upd_ne (fun c => by rw [c, h2] at k3; cases k3)]; exact k1, k2, k3⟩
  · obtain ⟨k1, y, k2⟩ := x.ow b w q
    by_cases c : b = a
    · subst c; exact ⟨k1, _, upd_same⟩
    · exact ⟨k1, y, by rw [upd_ne c]; exact k2⟩
  · refine (x.slot j r q).mono (Le.refl _) fun b c => ⟨upd_ne (fun z => ?_), c⟩
    rw [z, h2] at c; cases c
  · refine x.tmp.2.mono (Le.refl _) fun k hk b c => ⟨upd_ne (fun z => ?_), c⟩
    rw [z, h2] at c
    injection c with c; injection c with c; omega

/-! ### the loop of a comprehension -/
def LoopR (J : L2.It) (g : TG) (tt : TT) (te : TE) (vs : List Nat) (σ : L2.St) (Stop : Hp → Prop) (D : Addr) (H0 : Hp) : Prop := ∃ W : Nat → Nat → Hp → Prop, (∃ m, W 0 m H0) ∧ ∀ i m H, W i m H →
  (J.stop i H ∧ Stop H) ∨ (J.go i H ∧ ∃ Nx : Hp → Prop, (∀ H', Nx H' → ∃ m', m' < m ∧ W (i + 1) m' H') ∧ ∀ x H', J.yld i H x H' → g x (wipe σ vs) H' fun σ2 H2 => wipe σ2 vs = wipe σ vs ∧ tt σ2 H2 fun b H3 =>
    if b = true then te σ2 H3 fun y H4 => ∃ acc, H4 D = some (.lst acc) ∧ acc.length < sizeLine ∧ Nx (upd H4 D (.lst (acc ++ [y]))) else Nx H3)
theorem compLoop_cons {vs : List Nat} {tg : Tg} {cd : M Bool} {elt : M RV} {x : D} {xs rest : List D} (h : compLoop vs tg cd elt (x :: xs) ρ = some (.ok rest, ρ2)) :
    ∃ ρa, asgTg tg x ρ = some ρa ∧ ((∃ ρb r ρc v ys, cd ρa = some (.ok true, ρb) ∧ elt ρb = some (.ok r, ρc) ∧ plainOf r = some v ∧ compLoop vs tg cd elt xs (wipeE ρc vs) = some (.ok ys, ρ2) ∧ rest = v :: ys) ∨
      ∃ ρb, cd ρa = some (.ok false, ρb) ∧ compLoop vs tg cd elt xs (wipeE ρb vs) = some (.ok rest, ρ2)) := by
  unfold compLoop at h
  cases e1 : asgTg tg x ρ with
  | none => rw [e1] at h; cases h
  | some ρa =>
    rw [e1] at h
    refine ⟨ρa, rfl, ?_⟩
    simp only at h
    cases e2 : cd ρa with
    | none => rw [e2] at h; cases h
    | some p =>
      obtain ⟨ob, ρb⟩ := p
      rw [e2] at h
      cases ob with
      | ex e => cases h
      | ok b =>
        cases b with
        | false => exact .inr ⟨ρb, rfl, h⟩
        | true =>
          left
          simp only at h
          cases e3 : elt ρb with
          | none => rw [e3] at h; cases h
          | some p =>
            obtain ⟨oe, ρc⟩ := p
            rw [e3] at h
            cases oe with
            | ex e => cases h
            | ok r =>
              simp only at h
              cases e4 : plainOf r with
              | none => rw [e4] at h; cases h
              | some v =>
                rw [e4] at h
                simp only at h
                cases e5 : compLoop vs tg cd elt xs (wipeE ρc vs) with
                | none => rw [e5] at h; cases h
                | some p =>
                  obtain ⟨o5, ρ5⟩ := p
                  rw [e5] at h
                  cases o5 with
                  | ex e => cases h
                  | ok ys => cases h; exact ⟨ρb, r, ρc, v, ys, rfl, e3, e4, e5, rfl⟩
theorem compLoop_len {vs : List Nat} {tg : Tg} {cd : M Bool} {elt : M RV} : ∀ {xs rest : List D} {ρ : En}, compLoop vs tg cd elt xs ρ = some (.ok rest, ρ2) → rest.length ≤ xs.length
  | [], rest, ρ, h => by
    unfold compLoop at h
    obtain ⟨c, _⟩ := ret_some h
    cases c; exact Nat.le_refl _
  | x :: xs, rest, ρ, h => by
    obtain ⟨ρa, _, ⟨ρb, r, ρc, v, ys, _, _, _, q, rfl⟩ | ⟨ρb, _, q⟩⟩ := compLoop_cons h
    · have := compLoop_len q
      rw [List.length_cons, List.length_cons]; omega
    · have := compLoop_len q
      rw [List.length_cons]; omega
theorem plainOf_dat {r : RV} {v : D} (h : plainOf r = some v) : r.dat = some v ∧ r.free = true := by
  cases r with
  | pl d => exact ⟨h, rfl⟩
  | ow d => exact ⟨h, rfl⟩
  | ow2 d => exact ⟨h, rfl⟩
  | _ => cases h
theorem loop_ok {vs : List Nat} {tg : Tg} {cd : M Bool} {elt : M RV} {J : L2.It} {xs ds0 ys : List D} {D0 : Addr} {Stop : Hp → Prop} (hn : ∀ i ∈ tgNames tg, i ∈ vs) (hv : ∀ v ∈ vs, le v = none)
    (hs : StE K le FR G H (wipeE ρ1 vs) (wipe σ vs) ((.ow (.list ds0), .ref D0) :: τ)) (hl : compLoop vs tg cd elt xs (wipeE ρ1 vs) = some (.ok ys, ρ2)) (wk : Walk K G J xs) (hb : ds0.length + ys.length ≤ 16777216)
    (hstop : ∀ H' G', Le G G' → StE K le FR G' H' ρ2 (wipe σ vs) ((.ow (.list (ds0 ++ ys)), .ref D0) :: τ) → Stop H') : LoopR J (gT K tg) (tTn K cd) (tEn K elt) vs σ Stop D0 H := by
  refine ⟨fun i m H' => m + i = xs.length ∧ ∃ G' ρi ds rest, Le G G' ∧ StE K le FR G' H' ρi (wipe σ vs) ((.ow (.list (ds0 ++ ds)), .ref D0) :: τ) ∧ compLoop vs tg cd elt (xs.drop i) ρi = some (.ok rest, ρ2) ∧ ys = ds ++ rest, ⟨xs.length, rfl, G, _, [], ys, Le.refl _, by rw [List.append_nil]; exact hs, hl, rfl⟩, fun i m H1 w => ?_⟩
  obtain ⟨hm, G1, ρi, ds, rest, g1, st, hc, hy⟩ := w
  cases m with
  | zero =>
    left
    have hi : i = xs.length := by omega
    subst hi
    rw [List.drop_length] at hc
    unfold compLoop at hc
    obtain ⟨c, rfl⟩ := ret_some hc
    cases c
    rw [List.append_nil] at hy
    subst hy
    exact ⟨wk.stop H1 (g1.trans st.sub), hstop H1 G1 g1 st⟩
  | succ m =>
    right
    have hi : i < xs.length := by omega
    rw [List.drop_eq_getElem_cons hi] at hc
    have hx : xs[i]? = some xs[i] := List.getElem?_eq_getElem hi
    generalize xs[i] = x at hc hx
    obtain ⟨ρa, ha, hc⟩ := compLoop_cons hc
    refine ⟨wk.go i x H1 hx (g1.trans st.sub), fun H' => m + (i + 1) = xs.length ∧ ∃ G' ρi ds rest, Le G G' ∧ StE K le FR G' H' ρi (wipe σ vs) ((.ow (.list (ds0 ++ ds)), .ref D0) :: τ) ∧ compLoop vs tg cd elt (xs.drop (i + 1)) ρi = some (.ok rest, ρ2) ∧ ys = ds ++ rest, fun H' n => ⟨m, Nat.lt_succ_self _, n⟩, fun x' H2 hyl => ?_⟩
    obtain ⟨G2, ext, hd⟩ := wk.yld i x H1 x' H2 hx hyl G1 g1 st.sub
    have g2 := g1.trans ext.gg
    have st2 : StE K le FR G2 H2 ρi (wipe σ vs) ((.ow (.list (ds0 ++ ds)), .ref D0) :: τ) := by
      obtain ⟨o, s⟩ := st
      exact ⟨o, s.ext ext.hh ext.gg ext.sub ext.old⟩
    refine ⟨le, FR, G2, ρi, _, x, ρa, st2, hd, ha, fun σ2 off s2 => ?_⟩
    have we : wipe σ2 vs = wipe σ vs := wipe_ext hn off (fun i hi => wipe_get hi) (wipe_length _ _)
    refine ⟨we, ?_⟩
    have hm' : m + (i + 1) = xs.length := by omega
    rcases hc with ⟨ρb, r, ρc, v, ys', h1, h2, h3, h4, rfl⟩ | ⟨ρb, h1, h4⟩
    · refine ⟨le, FR, G2, ρa, _, true, ρb, s2, h1, fun H3 G3 g3 s3 => ?_⟩
      dsimp only
      rw [if_pos rfl]
      refine ⟨le, FR, G3, ρb, _, r, ρc, s3, h2, fun y H4 G4 g4 hbw s4 => ?_⟩
      obtain ⟨p1, p2⟩ := plainOf_dat h3
      obtain ⟨G5, g5, s5, hd5⟩ := s4.plain p1 p2
      obtain ⟨a, acc, ha5, hacc, dacc, ch⟩ := s5.changeTop
      cases ha5
      refine ⟨acc, hacc, ?_, hm', G5, _, ds ++ [v], ys', g2.trans (g3.trans (g4.trans g5)), ?_, h4, by rw [hy, List.append_assoc]; rfl⟩
      · have e := dacc.length
        rw [List.length_append] at e
        have := congrArg List.length hy
        rw [List.length_append, List.length_cons] at this
        rw [← line_eq]; omega
      · rw [← List.append_assoc]
        exact (ch (acc ++ [y]) (ds0 ++ ds ++ [v]) (dacc.append (.one hd5))).wipe' hv we
    · refine ⟨le, FR, G2, ρa, _, false, ρb, s2, h1, fun H3 G3 g3 s3 => ?_⟩
      dsimp only
      rw [if_neg Bool.false_ne_true]
      exact ⟨hm', G3, _, ds, rest, g2.trans g3, s3.wipe' hv we, h4, hy⟩

theorem compM_some {vs : List Nat} {tg : Tg} {it : M (List D)} {cd : M Bool} {elt : M RV} {out : Out RV} (h : compM vs tg it cd elt ρ = some (out, ρ')) : (∃ e, it ρ = some (.ex e, ρ') ∧ out = .ex e) ∨
    ∃ xs ρ1 ys ρ2, it ρ = some (.ok xs, ρ1) ∧ wipeOk ρ1 vs = true ∧ compLoop vs tg cd elt xs (wipeE ρ1 vs) = some (.ok ys, ρ2) ∧ out = .ok (.ow (.list ys)) ∧ ρ' = restE ρ1 ρ2 vs := by
  unfold compM at h
  cases e1 : it ρ with
  | none => rw [e1] at h; cases h
  | some p =>
    obtain ⟨o1, ρ1⟩ := p
    rw [e1] at h
    cases o1 with
    | ex e => cases h; exact .inl ⟨e, rfl, rfl⟩
    | ok xs =>
      right
      simp only at h
      by_cases hw : wipeOk ρ1 vs = true
      · rw [if_pos hw] at h
        cases e2 : compLoop vs tg cd elt xs (wipeE ρ1 vs) with
        | none => rw [e2] at h; cases h
        | some p =>
          obtain ⟨o2, ρ2⟩ := p
          rw [e2] at h
          cases o2 with
          | ex e => cases h
          | ok ys => cases h; exact ⟨xs, ρ1, ys, ρ2, rfl, hw, e2, rfl, rfl⟩
      · rw [if_neg hw] at h; cases h
theorem step_comp {vs : List Nat} {tg : Tg} {it : M (List D)} {cd : M Bool} {elt : M RV} {Q : VK} (hn : ∀ i ∈ tgNames tg, i ∈ vs) (h : tE EC X (compM vs tg it cd elt) σ H Q) : tLc (tI EC X it) (gT X.K tg) (tTn X.K cd) (tEn X.K elt) vs σ H Q := by
  obtain ⟨le, FR, G, ρ, τ, out, ρ', hs, he, hp⟩ := h
  rcases compM_some he with ⟨e, he1, rfl⟩ | ⟨xs, ρ1, ys, ρ2, he1, hw, hl, rfl, rfl⟩
  · exact ⟨le, FR, G, ρ, τ, _, _, hs, he1, hp⟩
  refine ⟨le, FR, G, ρ, τ, _, _, hs, he1, fun J H1 G1 g1 wk hz st D0 hD => ?_⟩
  have hv := wipeOk_le st hw
  have st0 : StE X.K le FR G1 (upd H1 D0 (.lst [])) (wipeE ρ1 vs) (wipe σ vs) ((.ow (.list []), .ref D0) :: τ) := by
    obtain ⟨o, s⟩ := st
    exact (s.wipe hv).push_list hD .nil
  have := compLoop_len hl
  refine loop_ok (ds0 := []) hn hv st0 hl wk (by simp; omega) fun H2 G2 g2 s2 => ?_
  obtain ⟨o, y⟩ := st
  obtain ⟨o2, s2⟩ := s2
  exact hp _ _ _ (g1.trans g2) (fun i c => nomatch c) ⟨o2, s2.rest y g2 hw⟩

/-! ### two loops -/
theorem compLoop2_cons {vs vs1 : List Nat} {tg : Tg} {cd : M Bool} {it1 : M (List D)} {inner : List D → M (List D)} {x : D} {xs rest : List D} (h : compLoop2 vs vs1 tg cd it1 inner (x :: xs) ρ = some (.ok rest, ρ2)) :
    ∃ ρa, asgTg tg x ρ = some ρa ∧ ((∃ ρb zs ρc ys ρd ws, cd ρa = some (.ok true, ρb) ∧ it1 ρb = some (.ok zs, ρc) ∧ inner zs (wipeE ρc vs1) = some (.ok ys, ρd) ∧ compLoop2 vs vs1 tg cd it1 inner xs (wipeE ρd vs) = some (.ok ws, ρ2) ∧ rest = ys ++ ws) ∨
      ∃ ρb, cd ρa = some (.ok false, ρb) ∧ compLoop2 vs vs1 tg cd it1 inner xs (wipeE ρb vs) = some (.ok rest, ρ2)) := by
  unfold compLoop2 at h
  cases e1 : asgTg tg x ρ with
  | none => rw [e1] at h; cases h
  | some ρa =>
    rw [e1] at h
    refine ⟨ρa, rfl, ?_⟩
    simp only at h
    cases e2 : cd ρa with
    | none => rw [e2] at h; cases h
    | some p =>
      obtain ⟨ob, ρb⟩ := p
      rw [e2] at h
      cases ob with
      | ex e => cases h
      | ok b =>
        cases b with
        | false => exact .inr ⟨ρb, rfl, h⟩
        | true =>
          left
          simp only at h
          cases e3 : it1 ρb with
          | none => rw [e3] at h; cases h
          | some p =>
            obtain ⟨oe, ρc⟩ := p
            rw [e3] at h
            cases oe with
            | ex e => cases h
            | ok zs =>
              simp only at h
              cases e4 : inner zs (wipeE ρc vs1) with
              | none => rw [e4] at h; cases h
              | some p =>
                obtain ⟨o4, ρd⟩ := p
                rw [e4] at h
                cases o4 with
                | ex e => cases h
                | ok ys =>
                  simp only at h
                  cases e5 : compLoop2 vs vs1 tg cd it1 inner xs (wipeE ρd vs) with
                  | none => rw [e5] at h; cases h
                  | some p =>
                    obtain ⟨o5, ρ5⟩ := p
                    rw [e5] at h
                    cases o5 with
                    | ex e => cases h
                    | ok ws => cases h; exact ⟨ρb, zs, ρc, ys, ρd, ws, rfl, e3, e4, e5, rfl⟩
theorem compM2_some {vs vs1 : List Nat} {tg tg1 : Tg} {it it1 : M (List D)} {cd cd1 : M Bool} {elt : M RV} {out : Out RV} (h : compM2 vs vs1 tg it cd tg1 it1 cd1 elt ρ = some (out, ρ')) : (∃ e, it ρ = some (.ex e, ρ') ∧ out = .ex e) ∨
    ∃ xs ρ1 ys ρ2, it ρ = some (.ok xs, ρ1) ∧ wipeOk ρ1 vs = true ∧ compLoop2 vs vs1 tg cd it1 (compLoop vs1 tg1 cd1 elt) xs (wipeE ρ1 vs) = some (.ok ys, ρ2) ∧ ys.length ≤ 16777216 ∧ out = .ok (.ow (.list ys)) ∧ ρ' = restE ρ1 ρ2 vs := by
  unfold compM2 at h
  cases e1 : it ρ with
  | none => rw [e1] at h; cases h
  | some p =>
    obtain ⟨o1, ρ1⟩ := p
    rw [e1] at h
    cases o1 with
    | ex e => cases h; exact .inl ⟨e, rfl, rfl⟩
    | ok xs =>
      right
      simp only at h
      by_cases hw : wipeOk ρ1 vs = true
      · rw [if_pos hw] at h
        cases e2 : compLoop2 vs vs1 tg cd it1 (compLoop vs1 tg1 cd1 elt) xs (wipeE ρ1 vs) with
        | none => rw [e2] at h; cases h
        | some p =>
          obtain ⟨o2, ρ2⟩ := p
          rw [e2] at h
          cases o2 with
          | ex e => cases h
          | ok ys =>
            simp only at h
            by_cases hz : ys.length ≤ 16777216
            · rw [if_pos hz] at h; cases h; exact ⟨xs, ρ1, ys, ρ2, rfl, hw, e2, hz, rfl, rfl⟩
            · rw [if_neg hz] at h; cases h
      · rw [if_neg hw] at h; cases h
theorem step_comp2 {vs vs1 : List Nat} {tg tg1 : Tg} {it it1 : M (List D)} {cd cd1 : M Bool} {elt : M RV} {Q : VK} (hn : ∀ i ∈ tgNames tg, i ∈ vs) (hn1 : ∀ i ∈ tgNames tg1, i ∈ vs1) (hvs : ∀ i ∈ vs1, i ∈ vs)
    (h : tE EC X (compM2 vs vs1 tg it cd tg1 it1 cd1 elt) σ H Q) : tLc2 (tI EC X it) (gT X.K tg) (tTn X.K cd) (tIn X.K it1) (gT X.K tg1) (tTn X.K cd1) (tEn X.K elt) vs vs1 σ H Q := by
  obtain ⟨le, FR, G, ρ, τ, out, ρ', hs, he, hp⟩ := h
  rcases compM2_some he with ⟨e, he1, rfl⟩ | ⟨xs, ρ1, ys, ρ2, he1, hw, hl, hys, rfl, rfl⟩
  · exact ⟨le, FR, G, ρ, τ, _, _, hs, he1, hp⟩
  refine ⟨le, FR, G, ρ, τ, _, _, hs, he1, fun J H1 G1 g1 wk hz st D0 hD => ?_⟩
  have hv := wipeOk_le st hw
  have hv1 : ∀ v ∈ vs1, le v = none := fun v m => hv v (hvs v m)
  have st0 : StE X.K le FR G1 (upd H1 D0 (.lst [])) (wipeE ρ1 vs) (wipe σ vs) ((.ow (.list []), .ref D0) :: τ) := by
    obtain ⟨o, s⟩ := st
    exact (s.wipe hv).push_list hD .nil
  refine ⟨fun i m H' => m + i = xs.length ∧ ∃ G' ρi ds rest, Le G1 G' ∧ StE X.K le FR G' H' ρi (wipe σ vs) ((.ow (.list ds), .ref D0) :: τ) ∧ compLoop2 vs vs1 tg cd it1 (compLoop vs1 tg1 cd1 elt) (xs.drop i) ρi = some (.ok rest, ρ2) ∧ ys = ds ++ rest, ⟨xs.length, rfl, G1, _, [], ys, Le.refl _, st0, hl, rfl⟩, fun i m H2 w => ?_⟩
  obtain ⟨hm, G2, ρi, ds, rest, g2, st2, hc, hy⟩ := w
  cases m with
  | zero =>
    left
    have hi : i = xs.length := by omega
    subst hi
    rw [List.drop_length] at hc
    unfold compLoop2 at hc
    obtain ⟨c, rfl⟩ := ret_some hc
    cases c
    rw [List.append_nil] at hy
    subst hy
    refine ⟨wk.stop H2 (g2.trans st2.sub), ?_⟩
    obtain ⟨o, y⟩ := st
    obtain ⟨o2, s2⟩ := st2
    exact hp _ _ _ (g1.trans g2) (fun i c => nomatch c) ⟨o2, s2.rest y g2 hw⟩
  | succ m =>
    right
    have hi : i < xs.length := by omega
    rw [List.drop_eq_getElem_cons hi] at hc
    have hx : xs[i]? = some xs[i] := List.getElem?_eq_getElem hi
    generalize xs[i] = x at hc hx
    obtain ⟨ρa, ha, hc⟩ := compLoop2_cons hc
    refine ⟨wk.go i x H2 hx (g2.trans st2.sub), fun H' => m + (i + 1) = xs.length ∧ ∃ G' ρi ds rest, Le G1 G' ∧ StE X.K le FR G' H' ρi (wipe σ vs) ((.ow (.list ds), .ref D0) :: τ) ∧ compLoop2 vs vs1 tg cd it1 (compLoop vs1 tg1 cd1 elt) (xs.drop (i + 1)) ρi = some (.ok rest, ρ2) ∧ ys = ds ++ rest, fun H' n => ⟨m, Nat.lt_succ_self _, n⟩, fun x' H3 hyl => ?_⟩
    obtain ⟨G3, ext, hd⟩ := wk.yld i x H2 x' H3 hx hyl G2 g2 st2.sub
    have g3 := g2.trans ext.gg
    have st3 : StE X.K le FR G3 H3 ρi (wipe σ vs) ((.ow (.list ds), .ref D0) :: τ) := by
      obtain ⟨o, s⟩ := st2
      exact ⟨o, s.ext ext.hh ext.gg ext.sub ext.old⟩
    refine ⟨le, FR, G3, ρi, _, x, ρa, st3, hd, ha, fun σ2 off s2 => ?_⟩
    have we : wipe σ2 vs = wipe σ vs := wipe_ext hn off (fun i hi => wipe_get hi) (wipe_length _ _)
    refine ⟨we, ?_⟩
    have hm' : m + (i + 1) = xs.length := by omega
    rcases hc with ⟨ρb, zs, ρc, ys1, ρd, ws, h1, h2, h3, h4, rfl⟩ | ⟨ρb, h1, h4⟩
    · refine ⟨le, FR, G3, ρa, _, true, ρb, s2, h1, fun H4 G4 g4 s4 => ?_⟩
      dsimp only
      rw [if_pos rfl]
      refine ⟨le, FR, G4, ρb, _, zs, ρc, s4, h2, fun J1 H5 G5 g5 wk1 hz1 s5 => ?_⟩
      have s5' : StE X.K le FR G5 H5 (wipeE ρc vs1) (wipe σ2 vs1) ((.ow (.list ds), .ref D0) :: τ) := s5.wipe' hv1 rfl
      have hb : ds.length + ys1.length ≤ 16777216 := by
        have := congrArg List.length hy
        simp only [List.length_append] at this
        omega
      refine loop_ok hn1 hv1 s5' h3 wk1 hb fun H6 G6 g6 s6 => ?_
      refine ⟨hm', G6, _, ds ++ ys1, ws, g3.trans (g4.trans (g5.trans g6)), ?_, h4, by rw [hy, List.append_assoc]⟩
      refine s6.wipe' hv ?_
      rw [← we]
      exact wipe_ext (ms := []) (fun _ h => nomatch h) (OffAt.refl _) (fun i hi => wipe_get fun m => hi (hvs i m)) (wipe_length _ _)
    · refine ⟨le, FR, G3, ρa, _, false, ρb, s2, h1, fun H4 G4 g4 s4 => ?_⟩
      dsimp only
      rw [if_neg Bool.false_ne_true]
      exact ⟨hm', G4, _, ds, rest, g3.trans g4, s4.wipe' hv we, h4, hy⟩
end
end TK

set_option Elab.async false
set_option linter.all false
set_option maxRecDepth 100000
set_option maxHeartbeats 1000000
/-! TKRel3: lists of lists of a place's own. -/
namespace TK
open PySem PySem.Spec PyProof.Rows L2
section
variable {EC : Nat → Option Addr} {X : Cx} {K : PySem.W.Frag} {le : Nat → Option Addr} {FR G G' H H' : Hp} {o o' : Own} {ρ ρ' ρ1 ρ2 : En} {σ σ' σ0 : L2.St} {τ τ' : List (RV × V)} {i : Nat} {d : D}

def hidFR (o : Own) (i : Nat) (FR H : Hp) : Hp := fun a => if o a = some (.slot i) then H a else FR a
def outOw (o o' : Own) (i : Nat) : Own := fun a => if o a = some (.slot i) then some (.slot i) else o' a
theorem StOk.hide (x : StOk K le FR G H o ρ σ τ) (e : ρ[i]? = some (.ow2 d)) : StOk K le (hidFR o i FR H) G H (letGo o (.slot i)) (ρ.set i .un) σ τ := by
  refine ⟨x.sub, fun a y q => ?_, fun a w q => ?_, by rw [List.length_set]; exact x.len, fun j r q => ?_, fun j a q => ?_, ?_⟩
  · unfold hidFR at q
    by_cases c : o a = some (.slot i)
    · rw [if_pos c] at q
      exact ⟨q, (x.ow a _ c).1, by unfold letGo; rw [if_pos c]⟩
    · rw [if_neg c] at q
      obtain ⟨h1, h2, h3⟩ := x.fr a y q
      exact ⟨h1, h2, by unfold letGo; rw [if_neg c]; exact h3⟩
  · unfold letGo at q
    by_cases c : o a = some (.slot i)
    · rw [if_pos c] at q; cases q
    · rw [if_neg c] at q; exact x.ow a w q
  · rcases set_get q with ⟨rfl, rfl, _⟩ | ⟨n, q⟩
    · trivial
    · exact (x.slot j r q).mono (Le.refl _) fun a c => ⟨rfl, letGo_ne c (fun u => n (by injection u))⟩
  · obtain ⟨d', c⟩ := x.lent j a q
    have n : j ≠ i := fun n => by subst n; rw [e] at c; cases c
    exact ⟨d', by rw [List.getElem?_set_ne (Ne.symm n)]; exact c⟩
  · exact x.tmp.mono (Le.refl _) fun k _ a c => ⟨rfl, letGo_ne c (fun u => nomatch u)⟩
theorem StOk.unhide (x : StOk K le FR G H o ρ σ τ) (e : ρ[i]? = some (.ow2 d)) (g : Le G G') (y : StOk K le (hidFR o i FR H) G' H' o' ρ' σ τ') (e' : ρ'[i]? = some .un) :
    StOk K le FR G' H' (outOw o o' i) (ρ'.set i (.ow2 d)) σ τ' ∧ ∀ a, o a = some (.slot i) → H' a = H a := by
  have keep : ∀ a, o a = some (.slot i) → H' a = H a ∧ G' a = none ∧ o' a = none := fun a c => by
    obtain ⟨_, u, hu⟩ := x.ow a _ c
    have : hidFR o i FR H a = some u := by unfold hidFR; rw [if_pos c]; exact hu
    obtain ⟨h1, h2, h3⟩ := y.fr a u this
    exact ⟨h1.trans hu.symm, h2, h3⟩
  have oth : ∀ a w, o' a = some w → o a ≠ some (.slot i) := fun a w c q => by rw [(keep a q).2.2] at c; cases c
  have lab : ∀ a w, o' a = some w → outOw o o' i a = some w := fun a w c => by unfold outOw; rw [if_neg (oth a w c)]; exact c
  refine ⟨⟨y.sub, fun a u q => ?_, fun a w q => ?_, by rw [List.length_set]; exact y.len, fun j r q => ?_, fun j a q => ?_, ?_⟩, fun a c => (keep a c).1⟩
  · obtain ⟨h1, h2, h3⟩ := x.fr a u q
    have c : o a ≠ some (.slot i) := by rw [h3]; exact fun q => nomatch q
    have : hidFR o i FR H a = some u := by unfold hidFR; rw [if_neg c]; exact q
    obtain ⟨k1, k2, k3⟩ := y.fr a u this
    exact ⟨k1, k2, by unfold outOw; rw [if_neg c]; exact k3⟩
  · unfold outOw at q
    by_cases c : o a = some (.slot i)
    · obtain ⟨_, u, hu⟩ := x.ow a _ c
      exact ⟨(keep a c).2.1, u, (keep a c).1.trans hu⟩
    · rw [if_neg c] at q; exact y.ow a w q
  · rcases set_get q with ⟨rfl, rfl, _⟩ | ⟨n, q⟩
    · exact (x.slot j _ e).mono g fun a c => ⟨(keep a c).1, by unfold outOw; rw [if_pos c]⟩
    · exact (y.slot j r q).mono (Le.refl _) fun a c => ⟨rfl, lab a _ c⟩
  · obtain ⟨d', c⟩ := y.lent j a q
    have n : j ≠ i := fun n => by subst n; rw [e'] at c; cases c
    exact ⟨d', by rw [List.getElem?_set_ne (Ne.symm n)]; exact c⟩
  · exact y.tmp.mono (Le.refl _) fun k _ a c => ⟨rfl, lab a _ c⟩
theorem hidden_bind {α β : Type} {m : M α} {f : α → M β} {out : Out β} (h : (hidden i m >>= f) ρ = some (out, ρ')) : ∃ d a ρ1, ρ[i]? = some (.ow2 d) ∧ m (ρ.set i .un) = some (.ok a, ρ1) ∧ ρ1[i]? = some .un ∧ f a (ρ1.set i (.ow2 d)) = some (out, ρ') := by
  have key : ∀ {u : Out α} {ρ3 : En}, hidden i m ρ = some (u, ρ3) → ∃ d a ρ1, ρ[i]? = some (.ow2 d) ∧ m (ρ.set i .un) = some (.ok a, ρ1) ∧ ρ1[i]? = some .un ∧ u = .ok a ∧ ρ3 = ρ1.set i (.ow2 d) := fun {u ρ3} h => by
    unfold hidden at h
    cases e : ρ[i]? with
    | none => rw [e] at h; cases h
    | some r =>
      rw [e] at h
      cases r with
      | ow2 d =>
        simp only at h
        cases e2 : m (ρ.set i .un) with
        | none => rw [e2] at h; cases h
        | some p =>
          obtain ⟨oa, ρ1⟩ := p
          rw [e2] at h
          cases oa with
          | ex e => cases h
          | ok a =>
            simp only at h
            cases e3 : ρ1[i]? with
            | none => rw [e3] at h; cases h
            | some q =>
              rw [e3] at h
              cases q with
              | un => cases h; exact ⟨d, a, ρ1, rfl, rfl, e3, rfl, rfl⟩
              | _ => cases h
      | _ => cases h
  rcases bind_some h with ⟨e, h, _⟩ | ⟨v, ρ3, h, h3⟩
  · obtain ⟨_, _, _, _, _, _, c, _⟩ := key h; cases c
  · obtain ⟨d, a, ρ1, h1, h2, h4, c, rfl⟩ := key h
    cases c
    exact ⟨d, _, ρ1, h1, h2, h4, h3⟩
theorem rowM_bind {β : Type} {k : Int} {f : List D → M β} {out : Out β} (h : (rowM i k >>= f) ρ = some (out, ρ')) : ∃ xs ys, ρ[i]? = some (.ow2 (.list xs)) ∧ atI xs k = some (.list ys) ∧ f ys ρ = some (out, ρ') := by
  have key : ∀ {u : Out (List D)} {ρ3 : En}, rowM i k ρ = some (u, ρ3) → ∃ xs ys, ρ[i]? = some (.ow2 (.list xs)) ∧ atI xs k = some (.list ys) ∧ u = .ok ys ∧ ρ3 = ρ := fun {u ρ3} h => by
    unfold rowM at h
    cases e : ρ[i]? with
    | none => rw [e] at h; cases h
    | some r =>
      rw [e] at h
      cases r with
      | ow2 d =>
        cases d with
        | list xs =>
          simp only at h
          cases e2 : atI xs k with
          | none => rw [e2] at h; cases h
          | some y =>
            rw [e2] at h
            cases y with
            | list ys => cases h; exact ⟨xs, ys, rfl, e2, rfl, rfl⟩
            | _ => cases h
        | _ => cases h
      | _ => cases h
  rcases bind_some h with ⟨e, h, _⟩ | ⟨v, ρ3, h, h3⟩
  · obtain ⟨_, _, _, _, c, _⟩ := key h; cases c
  · obtain ⟨xs, ys, h1, h2, c, rfl⟩ := key h
    cases c
    exact ⟨xs, _, h1, h2, h3⟩
theorem chk2_bind {β : Type} {f : Unit → M β} {out : Out β} (h : (chk2 i >>= f) ρ = some (out, ρ')) : (∃ xs, ρ[i]? = some (.ow2 (.list xs))) ∧ f () ρ = some (out, ρ') := by
  have key : ∀ {u : Out Unit} {ρ3 : En}, chk2 i ρ = some (u, ρ3) → (∃ xs, ρ[i]? = some (.ow2 (.list xs))) ∧ u = .ok () ∧ ρ3 = ρ := fun {u ρ3} h => by
    unfold chk2 at h
    cases e : ρ[i]? with
    | none => rw [e] at h; cases h
    | some r =>
      rw [e] at h
      cases r with
      | ow2 d =>
        cases d with
        | list xs => cases h; exact ⟨⟨xs, rfl⟩, rfl, rfl⟩
        | _ => cases h
      | _ => cases h
  rcases bind_some h with ⟨e, h, _⟩ | ⟨v, ρ3, h, h3⟩
  · obtain ⟨_, c, _⟩ := key h; cases c
  · obtain ⟨h1, c, rfl⟩ := key h
    exact ⟨h1, h3⟩
theorem chk2e_bind {β : Type} {f : Unit → M β} {out : Out β} (h : (chk2e i >>= f) ρ = some (out, ρ')) : ((∃ xs, ρ[i]? = some (.ow2 (.list xs))) ∨ ρ[i]? = some (.ow (.list []))) ∧ f () ρ = some (out, ρ') := by
  have key : ∀ {u : Out Unit} {ρ3 : En}, chk2e i ρ = some (u, ρ3) → ((∃ xs, ρ[i]? = some (.ow2 (.list xs))) ∨ ρ[i]? = some (.ow (.list []))) ∧ u = .ok () ∧ ρ3 = ρ := fun {u ρ3} h => by
    unfold chk2e at h
    cases e : ρ[i]? with
    | none => rw [e] at h; cases h
    | some r =>
      rw [e] at h
      cases r with
      | ow2 d =>
        cases d with
        | list xs => cases h; exact ⟨.inl ⟨xs, rfl⟩, rfl, rfl⟩
        | _ => cases h
      | ow d =>
        cases d with
        | list xs =>
          cases xs with
          | nil => cases h; exact ⟨.inr rfl, rfl, rfl⟩
          | cons _ _ => cases h
        | _ => cases h
      | _ => cases h
  rcases bind_some h with ⟨e, h, _⟩ | ⟨v, ρ3, h, h3⟩
  · obtain ⟨_, c, _⟩ := key h; cases c
  · obtain ⟨h1, c, rfl⟩ := key h
    exact ⟨h1, h3⟩

theorem Rows2.len {w : Wh} {bs : List Addr} {ds : List D} (h : Rows2 K G H o w bs ds) : bs.length = ds.length := by
  induction h with
  | nil => rfl
  | cons _ _ _ ih => rw [List.length_cons, List.length_cons, ih]
theorem Rows2.get {w : Wh} {bs : List Addr} {ds : List D} (h : Rows2 K G H o w bs ds) : ∀ {j : Nat} {d : D}, ds[j]? = some d → ∃ b ys, bs[j]? = some b ∧ d = .list ys ∧ o b = some w ∧ OwnAt K G H b (.list ys) := by
  induction h with
  | nil => intro j d e; simp at e
  | cons h1 h2 _ ih =>
    intro j d e
    cases j with
    | zero => simp at e; subst e; exact ⟨_, _, rfl, rfl, h1, h2⟩
    | succ j => obtain ⟨b, ys, e1, e2⟩ := ih (j := j) (d := d) (by simpa using e); exact ⟨b, ys, by simpa using e1, e2⟩
/-- a row: where it stands -/
theorem StOk.row (x : StOk K le FR G H o ρ σ τ) {xs ys : List D} {k : Int} (e : ρ[i]? = some (.ow2 (.list xs))) (ha : atI xs k = some (.list ys)) :
    ∃ a b bs j, σ[i]? = some (some (.ref a)) ∧ o a = some (.slot i) ∧ H a = some (.lst (bs.map .ref)) ∧ (a :: bs).Nodup ∧ Rows2 K G H o (.slot i) bs xs ∧ ixN xs.length k = some j ∧ bs[j]? = some b ∧ xs[j]? = some (.list ys) ∧
      atI (bs.map V.ref) k = some (.ref b) ∧ o b = some (.slot i) ∧ OwnAt K G H b (.list ys) := by
  obtain ⟨a, bs, ds, h1, h2, h3, h4, h5, h6⟩ := x.slot i _ e
  cases h2
  unfold atI at ha
  cases q : ixN xs.length k with
  | none => rw [q] at ha; cases ha
  | some j =>
    rw [q] at ha
    have ha : xs[j]? = some (.list ys) := ha
    obtain ⟨b, ys', e1, e2, e3, e4⟩ := h6.get ha
    cases e2
    refine ⟨a, b, bs, j, join_some h1, h3, h4, h5, h6, rfl, e1, ha, ?_, e3, e4⟩
    unfold atI
    rw [List.length_map, h6.len, q]
    show (bs.map V.ref)[j]? = _
    rw [List.getElem?_map, e1]; rfl

/-! ### found[x][y] -/
theorem step_item2 {f f2 : M RV} {Q : VK} (h : tE EC X (do
      chk2 i
      let r ← f
      let v ← M.dat r
      let k ← intM v
      let ys ← rowM i k
      let w ← hidden i (do
        let q ← f2
        M.dat q)
      let l ← intM w
      M.of ((L2.atI ys l).map .pl)) σ H Q) : tOp (rIxL X.K) (tOp (rIxL X.K) (tVar i) (tE EC X f)) (tE EC X f2) σ H Q := by
  obtain ⟨le, FR, G, ρ, τ, out, ρ', hs, he, hp⟩ := h
  obtain ⟨⟨xs0, hx0⟩, he⟩ := chk2_bind he
  have hz : ∃ a, σ[i]? = some (some (.ref a)) := by
    obtain ⟨o, s⟩ := hs
    obtain ⟨a, _, _, h1, _⟩ := s.slot i _ hx0
    exact ⟨a, join_some h1⟩
  obtain ⟨a, hz⟩ := hz
  refine ⟨_, hz, ?_⟩
  refine step1 hs he hp fun r ρ1 h2 z H1 G1 g1 got st hp1 => ?_
  obtain ⟨v, hv, h3⟩ := dat_bind h2
  obtain ⟨k, rfl, h4⟩ := int_bind h3
  obtain ⟨xs, ys, hx, hk, h5⟩ := rowM_bind h4
  have zk := (GotO.view got st hv).int
  obtain ⟨o, s⟩ := st
  obtain ⟨a', b, bs, j, w1, w2, w3, w4, w5, w6, w7, w8, w9, w10, w11⟩ := s.row hx hk
  rw [hz] at w1
  obtain rfl : a = a' := by cases w1; rfl
  refine ⟨a, _, k, .ref b, rfl, zk, .inl (.inl w3), w9, ?_⟩
  obtain ⟨d, w, ρ2, e1, e2, e3, h6⟩ := hidden_bind h5
  rw [hx] at e1
  cases e1
  rcases bind_some e2 with ⟨_, _, c⟩ | ⟨q, ρ3, e4, e5⟩
  · cases c
  obtain ⟨w', hw, c, rfl⟩ := dat_some e5
  cases c
  obtain ⟨l, rfl, h7⟩ := int_bind h6
  obtain ⟨r', hr, rfl, rfl⟩ := of_some h7
  obtain ⟨y, hy, rfl⟩ := Option.map_eq_some_iff.mp hr
  have hid := s.hide hx
  -- the second index
  refine opd ⟨_, hid⟩ e4 (fun r2 c z2 H2 G2 g2 got2 st2 => ?_) fun e c => nomatch c
  cases c
  have zl := (GotO.view got2 st2 hw).int
  obtain ⟨o2, s2⟩ := st2
  obtain ⟨s3, kp⟩ := s.unhide hx g2 s2 e3
  obtain ⟨vs, k1, k2⟩ := w11
  obtain ⟨yv, k3, k4⟩ := dpAll_at k2 hy
  refine ⟨b, vs, l, yv, rfl, zl, .inl (.inl ((kp b w10).trans k1)), k3, ?_⟩
  exact post_pl (EC := EC) (fun z H3 G3 g3 => hp1 z H3 G3 (g2.trans g3)) ⟨_, s3⟩ (k4.mono g2 _ _)
end
end TK

set_option Elab.async false
set_option linter.all false
set_option maxRecDepth 100000
set_option maxHeartbeats 1000000
/-! TKRel4: lists of lists changed. -/
namespace TK
open PySem PySem.Spec PyProof.Rows L2
section
variable {EC : Nat → Option Addr} {X : Cx} {K : PySem.W.Frag} {le : Nat → Option Addr} {FR G G' H H' : Hp} {o o' : Own} {ρ ρ' ρ1 ρ2 : En} {σ σ' σ0 : L2.St} {τ τ' : List (RV × V)} {i : Nat} {d : D}

theorem Rows2.set {w : Wh} {bs : List Addr} {ds : List D} (h : Rows2 K G H o w bs ds) : ∀ {j : Nat} {b : Addr} {ws : List V} {zs : List D}, bs.Nodup → bs[j]? = some b → DpAll K G ws zs → Rows2 K G (upd H b (.lst ws)) o w bs (ds.set j (.list zs)) := by
  induction h with
  | nil => intro j b ws zs _ e; simp at e
  | @cons b0 bs0 xs0 ds0 h1 h2 h3 ih =>
    intro j b ws zs nd e hd
    obtain ⟨n1, n2⟩ := List.nodup_cons.mp nd
    cases j with
    | zero =>
      simp at e; subst e
      refine .cons h1 ⟨ws, upd_same, hd⟩ (h3.mono (Le.refl _) (fun b' hb' => upd_ne fun q => n1 (q ▸ hb')) fun _ _ q => q)
    | succ j =>
      have e : bs0[j]? = some b := by simpa using e
      refine .cons h1 (h2.mono (Le.refl _) (upd_ne fun q => n1 (q ▸ List.mem_of_getElem? e))) (ih n2 e hd)
theorem Rows2.app {w : Wh} {bs : List Addr} {ds : List D} (h : Rows2 K G H o w bs ds) {c : Addr} {ys : List D} (h1 : o c = some w) (h2 : OwnAt K G H c (.list ys)) : Rows2 K G H o w (bs ++ [c]) (ds ++ [.list ys]) := by
  induction h with
  | nil => exact .cons h1 h2 .nil
  | cons k1 k2 _ ih => exact .cons k1 k2 ih
/-- found[x][y] = v -/
theorem StOk.set2 (x : StOk K le FR G H o ρ σ τ) {xs zs : List D} {bs : List Addr} {a b : Addr} {j : Nat} {ws : List V} (e : ρ[i]? = some (.ow2 (.list xs))) (hz : σ[i]? = some (some (.ref a)))
    (oa : o a = some (.slot i)) (ha : H a = some (.lst (bs.map .ref))) (nd : (a :: bs).Nodup) (hr : Rows2 K G H o (.slot i) bs xs) (hb : bs[j]? = some b) (ob : o b = some (.slot i)) (hd : DpAll K G ws zs) :
    StOk K le FR G (upd H b (.lst ws)) o (ρ.set i (.ow2 (.list (xs.set j (.list zs))))) σ τ := by
  obtain ⟨n1, n2⟩ := List.nodup_cons.mp nd
  have ne : a ≠ b := fun q => n1 (q ▸ List.mem_of_getElem? hb)
  refine x.change ob ⟨a, bs, _, by rw [hz]; rfl, rfl, oa, by rw [upd_ne ne]; exact ha, nd, hr.set n2 hb hd⟩ fun c q => ?_
  obtain ⟨d', c⟩ := x.lent i c q
  rw [e] at c; cases c
/-- found.append(row) -/
theorem StOk.app2 {z : V} {xs ys : List D} (x : StOk K le FR G H o ρ σ ((.ow (.list ys), z) :: τ)) (e : ρ[i]? = some (.ow2 (.list xs)) ∨ (ρ[i]? = some (.ow (.list [])) ∧ xs = [])) :
    ∃ a ws, σ[i]? = some (some (.ref a)) ∧ H a = some (.lst ws) ∧ ws.length = xs.length ∧ StE K le FR G (upd H a (.lst (ws ++ [z]))) (ρ.set i (.ow2 (.list (xs ++ [.list ys])))) σ τ := by
  obtain ⟨c, h1, oc, hc⟩ := x.top
  obtain rfl := Option.some.inj h1
  obtain ⟨a, bs, hz, oa, ha, nd, hr⟩ : ∃ a bs, σ[i]? = some (some (.ref a)) ∧ o a = some (.slot i) ∧ H a = some (.lst (bs.map .ref)) ∧ (a :: bs).Nodup ∧ Rows2 K G H o (.slot i) bs xs := by
    rcases e with e | ⟨e, rfl⟩
    · obtain ⟨a, bs, ds, h1, h2, h3, h4, h5, h6⟩ := x.slot i _ e
      cases h2
      exact ⟨a, bs, join_some h1, h3, h4, h5, h6⟩
    · obtain ⟨a, h1, h2, vs, h3, h4⟩ := x.slot i _ e
      cases h4
      exact ⟨a, [], join_some h1, h2, h3, by simp, .nil⟩
  refine ⟨a, bs.map .ref, hz, ha, by rw [List.length_map, hr.len], ?_⟩
  have nca : c ≠ a := fun q => by rw [q, oa] at oc; cases oc
  have ncb : c ∉ bs := fun q => by rw [(hr.owner c q).1] at oc; cases oc
  have nab : a ∉ bs := (List.nodup_cons.mp nd).1
  have ga : G a = none := (x.ow a _ oa).1
  have hil : i < ρ.length := by
    rcases e with e | ⟨e, _⟩ <;> exact (List.getElem?_eq_some_iff.mp e).1
  have lab : ∀ b, o b = some (.slot i) → reLab o (.tmp τ.length) (.slot i) b = some (.slot i) := fun b q => reLab_ne q (fun u => nomatch u)
  refine ⟨reLab o (.tmp τ.length) (.slot i), fun b y q => ?_, fun b y q => ?_, fun b w q => ?_, by rw [List.length_set]; exact x.len, fun j r q => ?_, fun j b q => ?_, ?_⟩
  · rw [upd_ne (fun c => by rw [c, ga] at q; cases q)]; exact x.sub _ _ q
  · obtain ⟨k1, k2, k3⟩ := x.fr b y q
    exact ⟨by rw [upd_ne (fun c => by rw [c, oa] at k3; cases k3)]; exact k1, k2, reLab_none k3⟩
  · obtain ⟨u, hu⟩ := reLab_some q
    obtain ⟨k1, y, k2⟩ := x.ow b u hu
    by_cases c : b = a
    · subst c; exact ⟨k1, _, upd_same⟩
    · exact ⟨k1, y, by rw [upd_ne c]; exact k2⟩
  · rcases set_get q with ⟨rfl, rfl, _⟩ | ⟨n, q⟩
    · refine ⟨a, bs ++ [c], _, by rw [hz]; rfl, rfl, lab a oa, by rw [upd_same, List.map_append]; rfl, ?_, ?_⟩
      · rw [List.nodup_cons, List.nodup_append]
        refine ⟨?_, (List.nodup_cons.mp nd).2, by simp, fun u hu v hv => ?_⟩
        · rw [List.mem_append]
          rintro (q | q)
          · exact nab q
          · exact nca (List.mem_singleton.mp q).symm
        · have : v = c := by simpa using hv
          subst this
          exact fun q => ncb (q ▸ hu)
      · have hr' : Rows2 K G (upd H a (.lst (bs.map .ref ++ [.ref c]))) (reLab o (.tmp τ.length) (.slot j)) (.slot j) bs xs := hr.mono (Le.refl _) (fun b hb => upd_ne fun q => nab (q ▸ hb)) fun b _ q => lab b q
        exact hr'.app (reLab_to oc) (hc.mono (Le.refl _) (upd_ne nca))
    · refine (x.slot j r q).mono (Le.refl _) fun b c => ⟨upd_ne (fun z => ?_), reLab_ne c (fun u => nomatch u)⟩
      rw [z, oa] at c
      exact n (by injection c with c; injection c with c; exact c.symm)
  · obtain ⟨d', k⟩ := x.lent j b q
    have n : j ≠ i := fun n => by
      subst n
      rcases e with e | ⟨e, _⟩ <;> (rw [e] at k; cases k)
    exact ⟨d', by rw [List.getElem?_set_ne (Ne.symm n)]; exact k⟩
  · refine x.tmp.2.mono (Le.refl _) fun k hk b c => ⟨upd_ne (fun z => ?_), reLab_ne c (fun u => by injection u with u; omega)⟩
    rw [z, oa] at c; cases c
theorem changeM_bind {β : Type} {f : List D → Option (List D)} {g : Unit → M β} {out : Out β} (h : (changeM i f >>= g) ρ = some (out, ρ')) : ∃ xs ys, f xs = some ys ∧
    ((ρ[i]? = some (.ow (.list xs)) ∧ g () (ρ.set i (.ow (.list ys))) = some (out, ρ')) ∨ (ρ[i]? = some (.io (.list xs)) ∧ g () (ρ.set i (.io (.list ys))) = some (out, ρ'))) := by
  have key : ∀ {u : Out Unit} {ρ3 : En}, changeM i f ρ = some (u, ρ3) → u = .ok () ∧ ∃ xs ys, f xs = some ys ∧ ((ρ[i]? = some (.ow (.list xs)) ∧ ρ3 = ρ.set i (.ow (.list ys))) ∨ (ρ[i]? = some (.io (.list xs)) ∧ ρ3 = ρ.set i (.io (.list ys)))) := fun {u ρ3} h => by
    unfold changeM at h
    cases e : ρ[i]? with
    | none => rw [e] at h; cases h
    | some r =>
      rw [e] at h
      cases r with
      | ow d =>
        cases d with
        | list xs =>
          simp only at h
          cases e2 : f xs with
          | none => rw [e2] at h; cases h
          | some ys => rw [e2] at h; cases h; exact ⟨rfl, xs, ys, e2, .inl ⟨rfl, rfl⟩⟩
        | _ => cases h
      | io d =>
        cases d with
        | list xs =>
          simp only at h
          cases e2 : f xs with
          | none => rw [e2] at h; cases h
          | some ys => rw [e2] at h; cases h; exact ⟨rfl, xs, ys, e2, .inr ⟨rfl, rfl⟩⟩
        | _ => cases h
      | _ => cases h
  rcases bind_some h with ⟨e, h, _⟩ | ⟨v, ρ3, h, h3⟩
  · obtain ⟨c, _⟩ := key h; cases c
  · obtain ⟨c, xs, ys, h1, h2⟩ := key h
    refine ⟨xs, ys, h1, ?_⟩
    rcases h2 with ⟨h2, rfl⟩ | ⟨h2, rfl⟩
    · exact .inl ⟨h2, h3⟩
    · exact .inr ⟨h2, h3⟩
theorem change2M_bind {β : Type} {f : List D → Option (List D)} {g : Unit → M β} {out : Out β} (h : (change2M i f >>= g) ρ = some (out, ρ')) : ∃ xs ys, f xs = some ys ∧
    (ρ[i]? = some (.ow2 (.list xs)) ∨ (ρ[i]? = some (.ow (.list [])) ∧ xs = [])) ∧ g () (ρ.set i (.ow2 (.list ys))) = some (out, ρ') := by
  have key : ∀ {u : Out Unit} {ρ3 : En}, change2M i f ρ = some (u, ρ3) → u = .ok () ∧ ∃ xs ys, f xs = some ys ∧ (ρ[i]? = some (.ow2 (.list xs)) ∨ (ρ[i]? = some (.ow (.list [])) ∧ xs = [])) ∧ ρ3 = ρ.set i (.ow2 (.list ys)) := fun {u ρ3} h => by
    unfold change2M at h
    cases e : ρ[i]? with
    | none => rw [e] at h; cases h
    | some r =>
      rw [e] at h
      cases r with
      | ow2 d =>
        cases d with
        | list xs =>
          simp only at h
          cases e2 : f xs with
          | none => rw [e2] at h; cases h
          | some ys => rw [e2] at h; cases h; exact ⟨rfl, xs, ys, e2, .inl rfl, rfl⟩
        | _ => cases h
      | ow d =>
        cases d with
        | list xs =>
          cases xs with
          | nil =>
            simp only at h
            cases e2 : f [] with
            | none => rw [e2] at h; cases h
            | some ys => rw [e2] at h; cases h; exact ⟨rfl, [], ys, e2, .inr ⟨rfl, rfl⟩, rfl⟩
          | cons _ _ => cases h
        | _ => cases h
      | _ => cases h
  rcases bind_some h with ⟨e, h, _⟩ | ⟨v, ρ3, h, h3⟩
  · obtain ⟨c, _⟩ := key h; cases c
  · obtain ⟨c, xs, ys, h1, h2, rfl⟩ := key h
    exact ⟨xs, ys, h1, h2, h3⟩
end
end TK

set_option Elab.async false
set_option linter.all false
set_option maxRecDepth 100000
set_option maxHeartbeats 1000000
/-! TKStm: statements: what the interpreter's step asks of the layer's readings. -/
namespace TK
open PySem PySem.Spec PyProof.Rows L2
section
variable (EC : Nat → Option Addr) (X : Cx)
def WSt (le : Nat → Option Addr) (FR G : Hp) (ρ' : En) (e : Exn) : WX := fun cls d σ' H' => ExV EC e cls d H' ∧ ∃ G', Le G G' ∧ StE X.K le FR G' H' ρ' σ' []
def PostSt (le : Nat → Option Addr) (FR G : Hp) (ρ' : En) : Out Fl → Ends → Prop
  | .ok .nx, D => ∀ σ' H' G', Le G G' → StE X.K le FR G' H' ρ' σ' [] → D.nx σ' H'
  | .ok (.rt r), D => ∀ z σ' H' G', Le G G' → r.keep = true → StE X.K le FR G' H' ρ' σ' [(r, z)] → D.rt z H'
  | .ex e, _ => Takes X (WSt EC X le FR G ρ' e)
def tS (m : M Fl) : TS := fun D σ H => ∃ le FR G ρ out ρ', StE X.K le FR G H ρ σ [] ∧ m ρ = some (out, ρ') ∧ PostSt EC X le FR G ρ' out D
end
section
variable {EC : Nat → Option Addr} {X : Cx} {le : Nat → Option Addr} {FR G G' H H' : Hp} {ρ ρ' : En} {σ : L2.St} {D : Ends} {i : Nat}
theorem wx_of {e : Exn} {τ : List (RV × V)} (hτ : τ = []) (h : Takes X (WSt EC X le FR G ρ' e)) : Takes X (WXx EC X le FR G ρ' σ τ e) := by
  subst hτ
  exact h.imp fun c d σ' H' ⟨h1, h2, G2, h3, h4⟩ => ⟨h2, G2, h3, by rw [h1]; exact h4⟩
theorem PostSt.up {out : Out Fl} (h : PostSt EC X le FR G ρ' out D) (g : Le G G') : PostSt EC X le FR G' ρ' out D := by
  cases out with
  | ex e => exact Takes.imp h fun c d σ' H' ⟨h1, G2, h3, h4⟩ => ⟨h1, G2, g.trans h3, h4⟩
  | ok f =>
    cases f with
    | nx => exact fun σ' H' G2 g2 => h σ' H' G2 (g.trans g2)
    | rt r => exact fun z σ' H' G2 g2 => h z σ' H' G2 (g.trans g2)
/-- an operand that may be kept as its own -/
theorem stE0 {f : M RV} {k : RV → M Fl} {out : Out Fl} {Q : VK} (hs : StE X.K le FR G H ρ σ []) (he : (f >>= k) ρ = some (out, ρ')) (hp : PostSt EC X le FR G ρ' out D)
    (ho : ∀ r ρ1, k r ρ1 = some (out, ρ') → ∀ z H1 G1, Le G G1 → (∀ i, r = .bw i → σ[i]? = some (some z)) → StE X.K le FR G1 H1 ρ1 σ [(r, z)] → PostSt EC X le FR G1 ρ' out D → Q z H1) : tE EC X f σ H Q := by
  rcases bind_some he with ⟨e, he1, rfl⟩ | ⟨r, ρ1, he1, h2⟩
  · exact ⟨le, FR, G, ρ, [], _, _, hs, he1, wx_of rfl hp⟩
  · exact ⟨le, FR, G, ρ, [], _, _, hs, he1, fun z H1 G1 g1 hb st => ho r ρ1 h2 z H1 G1 g1 hb st (hp.up g1)⟩
/-- an operand that is plain behind its step -/
theorem stE {f : M RV} {k : RV → M Fl} {out : Out Fl} {Q : VK} (hs : StE X.K le FR G H ρ σ []) (he : (f >>= k) ρ = some (out, ρ')) (hp : PostSt EC X le FR G ρ' out D)
    (ho : ∀ r ρ1, k r ρ1 = some (out, ρ') → ∀ z H1 G1, Le G G1 → GotO X.K G1 σ r z → StE X.K le FR G1 H1 ρ1 σ [] → PostSt EC X le FR G1 ρ' out D → Q z H1) : tE EC X f σ H Q := by
  rcases bind_some he with ⟨e, he1, rfl⟩ | ⟨r, ρ1, he1, h2⟩
  · exact opd hs he1 (fun r c => nomatch c) fun e' c => by cases c; exact wx_of rfl hp
  · refine opd hs he1 (fun r2 c z H1 G1 g1 got st => ?_) fun e c => nomatch c
    cases c
    exact ho r ρ1 h2 z H1 G1 g1 got st (hp.up g1)
theorem stT {f : M Bool} {k : Bool → M Fl} {out : Out Fl} {Q : Bool → Hp → Prop} (hs : StE X.K le FR G H ρ σ []) (he : (f >>= k) ρ = some (out, ρ')) (hp : PostSt EC X le FR G ρ' out D)
    (ho : ∀ b ρ1, k b ρ1 = some (out, ρ') → ∀ H1 G1, Le G G1 → StE X.K le FR G1 H1 ρ1 σ [] → PostSt EC X le FR G1 ρ' out D → Q b H1) : tT EC X f σ H Q := by
  rcases bind_some he with ⟨e, he1, rfl⟩ | ⟨b, ρ1, he1, h2⟩
  · exact ⟨le, FR, G, ρ, [], _, _, hs, he1, wx_of rfl hp⟩
  · exact ⟨le, FR, G, ρ, [], _, _, hs, he1, fun H1 G1 g1 st => ho b ρ1 h2 H1 G1 g1 st (hp.up g1)⟩
/-- it goes on -/
theorem nx_of {out : Out Fl} (h : (M.ret Fl.nx : M Fl) ρ = some (out, ρ')) (hp : PostSt EC X le FR G ρ' out D) (st : StE X.K le FR G H ρ σ []) : D.nx σ H := by
  obtain ⟨rfl, rfl⟩ := ret_some h
  exact hp σ H G (Le.refl _) st
theorem slot_bind {β : Type} {r : RV} {g : Unit → M β} {out : Out β} (h : (stSlot i r >>= g) ρ = some (out, ρ')) : ∃ q, ρ[i]? = some q ∧ q.free = true ∧ r.keep = true ∧ g () (ρ.set i r) = some (out, ρ') := by
  have key : ∀ {u : Out Unit} {ρ3 : En}, stSlot i r ρ = some (u, ρ3) → u = .ok () ∧ ∃ q, ρ[i]? = some q ∧ q.free = true ∧ r.keep = true ∧ ρ3 = ρ.set i r := fun {u ρ3} h => by
    unfold stSlot at h
    cases e : ρ[i]? with
    | none => rw [e] at h; cases h
    | some q =>
      rw [e] at h
      obtain ⟨c, e2⟩ := some_of (show (if (q.free && r.keep) = true then some (Out.ok (), ρ.set i r) else none) = some (u, ρ3) from h)
      cases e2
      simp only [Bool.and_eq_true] at c
      exact ⟨rfl, q, rfl, c.1, c.2, rfl⟩
  rcases bind_some h with ⟨e, h, _⟩ | ⟨v, ρ3, h, h3⟩
  · obtain ⟨c, _⟩ := key h; cases c
  · obtain ⟨c, q, h1, h2, h4, rfl⟩ := key h
    exact ⟨q, h1, h2, h4, h3⟩

theorem step_asg {f : M RV} (h : tS EC X (do
      let r ← f
      stSlot i r
      M.ret .nx) D σ H) : tAsg (tE EC X f) (gName i) D σ H := by
  obtain ⟨le, FR, G, ρ, out, ρ', hs, he, hp⟩ := h
  refine stE0 hs he hp fun r ρ1 h2 z H1 G1 g1 hb st hp1 => ?_
  obtain ⟨q, e, hq, hk, h3⟩ := slot_bind h2
  exact nx_of h3 hp1 (st.store e hq hk)
theorem step_asgT {f : M RV} {t : Tg} (h : tS EC X (do
      let r ← f
      let v ← plainM r
      fun ρ => match asgTg t v ρ with
        | some ρ' => some (.ok .nx, ρ')
        | none => none) D σ H) : tAsg (tE EC X f) (gT X.K t) D σ H := by
  obtain ⟨le, FR, G, ρ, out, ρ', hs, he, hp⟩ := h
  refine stE hs he hp fun r ρ1 h2 z H1 G1 g1 got st hp1 => ?_
  obtain ⟨v, hv, hf, h3⟩ := plain_bind h2
  have pv := GotO.plain got hv hf
  have h3 : (match asgTg t v ρ1 with
        | some ρ' => some (Out.ok Fl.nx, ρ')
        | none => none) = some (out, ρ') := h3
  cases e : asgTg t v ρ1 with
  | none => rw [e] at h3; cases h3
  | some ρ2 =>
    rw [e] at h3
    cases h3
    exact ⟨le, FR, G1, ρ1, [], v, ρ', st, pv, e, fun σ' off s' => hp1 σ' H1 G1 (Le.refl _) s'⟩
theorem step_par {f f2 : M RV} {j : Nat} (hij : i ≠ j) (h : tS EC X (do
      let r ← f
      let q ← f2
      stSlot i r
      stSlot j q
      M.ret .nx) D σ H) : tPar i j (tCons (tE EC X f) (tCons (tE EC X f2) tNil)) D σ H := by
  obtain ⟨le, FR, G, ρ, out, ρ', hs, he, hp⟩ := h
  rcases bind_some he with ⟨e, he1, rfl⟩ | ⟨r, ρ1, he1, h2⟩
  · exact ⟨le, FR, G, ρ, [], _, _, hs, he1, wx_of rfl hp⟩
  refine ⟨le, FR, G, ρ, [], _, _, hs, he1, fun z H1 G1 g1 hb st => ?_⟩
  rcases bind_some h2 with ⟨e, he2, rfl⟩ | ⟨q, ρ2, he2, h3⟩
  · refine ⟨le, FR, G1, ρ1, [(r, z)], _, _, st, he2, ?_⟩
    refine Takes.imp hp fun c d σ' H' ⟨h1, h2, G2, h3, o, h4⟩ => ⟨h2, G2, g1.trans h3, ?_⟩
    rw [h1]
    exact ⟨o, h4.pop⟩
  refine ⟨le, FR, G1, ρ1, [(r, z)], _, _, st, he2, fun y H2 G2 g2 hb2 st2 => ⟨z, y, rfl, ?_⟩⟩
  obtain ⟨p1, e1, q1, k1, h4⟩ := slot_bind h3
  obtain ⟨p2, e2, q2, k2, h5⟩ := slot_bind h4
  rw [List.getElem?_set_ne hij] at e2
  have s1 := st2.store e2 q2 k2
  have s2 := s1.store (i := i) (q := p1) (by rw [List.getElem?_set_ne (Ne.symm hij)]; exact e1) q1 k1
  rw [List.set_comm _ _ (Ne.symm hij), List.set_comm _ _ (Ne.symm hij)] at s2
  exact nx_of h5 (hp.up (g1.trans g2)) s2
theorem chkL_pre {β : Type} {f : Unit → M β} {o : Out β} (hs : StE X.K le FR G H ρ σ []) (h : (chkL i >>= f) ρ = some (o, ρ')) : (∃ a vs, σ[i]? = some (some (.ref a)) ∧ H a = some (.lst vs)) ∧ f () ρ = some (o, ρ') := by
  obtain ⟨⟨xs, hx⟩, h2⟩ := chkL_bind h
  obtain ⟨a, vs, h3, h4, _⟩ := hs.changeL (ys := xs) hx
  exact ⟨⟨a, vs, h3, h4⟩, h2⟩
/-- a list of its own at a place is changed -/
theorem change_at {f : List PyData → Option (List PyData)} {out : Out Fl} (hs : StE X.K le FR G H ρ σ []) (h : (changeM i f >>= fun _ => M.ret Fl.nx) ρ = some (out, ρ')) (hp : PostSt EC X le FR G ρ' out D) {a : Addr} (hz : σ[i]? = some (some (.ref a))) :
    ∃ xs ys vs, f xs = some ys ∧ H a = some (.lst vs) ∧ DpAll X.K G vs xs ∧ ∀ ws, DpAll X.K G ws ys → D.nx σ (upd H a (.lst ws)) := by
  obtain ⟨xs, ys, h1, h2⟩ := changeM_bind h
  obtain ⟨a', vs, h3, h4, h5, h6⟩ := hs.changeL (ys := ys) (h2.imp And.left And.left)
  rw [hz] at h3
  obtain rfl : a = a' := by cases h3; rfl
  refine ⟨xs, ys, vs, h1, h4, h5, fun ws hw => ?_⟩
  rcases h2 with ⟨h2, h7⟩ | ⟨h2, h7⟩
  · exact nx_of h7 hp ((h6 ws hw).1 h2)
  · exact nx_of h7 hp ((h6 ws hw).2 h2)
theorem setAt_some {k v : PyData} {xs ys : List PyData} (h : setAt k v xs = some ys) : ∃ i j, k = .int i ∧ ixN xs.length i = some j ∧ ys = xs.set j v := by
  cases k with
  | int i =>
    obtain ⟨j, h1, h2⟩ := Option.map_eq_some_iff.mp (show (ixN xs.length i).map (fun j => xs.set j v) = some ys from h)
    exact ⟨i, j, rfl, h1, h2.symm⟩
  | _ => cases h
theorem step_set1 {f g : M RV} (h : tS EC X (do
      let r ← f
      let x ← plainM r
      chkL i
      let q ← g
      let y ← M.dat q
      changeM i (setAt y x)
      M.ret .nx) D σ H) : tAsg (tE EC X f) (gSub (tVar i) (tE EC X g) rSetL) D σ H := by
  obtain ⟨le, FR, G, ρ, out, ρ', hs, he, hp⟩ := h
  refine stE hs he hp fun r ρ1 h2 z H1 G1 g1 got st hp1 => ?_
  obtain ⟨v, hv, hf, h3⟩ := plain_bind h2
  have pv := GotO.plain got hv hf
  obtain ⟨⟨a, vs, hz, _⟩, h4⟩ := chkL_pre st h3
  refine ⟨_, hz, ?_⟩
  refine stE st h4 hp1 fun q ρ2 h5 y H2 G2 g2 got2 st2 hp2 => ?_
  obtain ⟨w, hw, h6⟩ := dat_bind h5
  obtain ⟨xs, ys, ws, c1, c2, c3, c4⟩ := change_at st2 h6 hp2 hz
  obtain ⟨k, j, rfl, k1, rfl⟩ := setAt_some c1
  have zk := (GotO.view got2 st2 hw).int
  exact ⟨a, ws, k, j, rfl, zk, c2, by rw [c3.length]; exact k1, c4 _ (c3.set (pv.mono g2 _ _) j)⟩
theorem step_append {f : M RV} (h : tS EC X (do
      chkL i
      let r ← f
      let v ← plainM r
      changeM i fun xs => if xs.length < 16777216 then some (xs ++ [v]) else none
      M.ret .nx) D σ H) : tDrop (tBM X.K "list" rAppend (tVar i) (tCons (tE EC X f) tNil)) D σ H := by
  obtain ⟨le, FR, G, ρ, out, ρ', hs, he, hp⟩ := h
  obtain ⟨⟨a, vs, hz, ha⟩, h2⟩ := chkL_pre hs he
  refine ⟨_, hz, .inl ⟨rfl, vs, .inl (.inl ha)⟩, ?_⟩
  refine stE hs h2 hp fun r ρ1 h3 z H1 G1 g1 got st hp1 => ?_
  obtain ⟨v, hv, hf, h4⟩ := plain_bind h3
  obtain ⟨xs, ys, ws, c1, c2, c3, c4⟩ := change_at st h4 hp1 hz
  obtain ⟨c, rfl⟩ := some_of c1
  exact ⟨a, ws, z, rfl, rfl, c2, by rw [c3.length, ← line_eq]; exact c, c4 _ (c3.append (.one (GotO.plain got hv hf)))⟩
theorem step_extend {f : M RV} (h : tS EC X (do
      chkL i
      let r ← f
      match r with
        | .ow (.list ys) => do
          changeM i fun xs => if xs.length + ys.length ≤ 16777216 then some (xs ++ ys) else none
          M.ret .nx
        | _ => M.stuck) D σ H) : tDrop (tBM X.K "list" rExtend (tVar i) (tCons (tE EC X f) tNil)) D σ H := by
  obtain ⟨le, FR, G, ρ, out, ρ', hs, he, hp⟩ := h
  obtain ⟨⟨a, vs, hz, ha⟩, h2⟩ := chkL_pre hs he
  refine ⟨_, hz, .inl ⟨rfl, vs, .inl (.inl ha)⟩, ?_⟩
  refine stE0 hs h2 hp fun r ρ1 h3 z H1 G1 g1 hb st hp1 => ?_
  cases r with
  | ow d =>
    cases d with
    | list zs =>
      have h3 : (changeM i (fun xs => if xs.length + zs.length ≤ 16777216 then some (xs ++ zs) else none) >>= fun _ => M.ret Fl.nx) ρ1 = some (out, ρ') := h3
      obtain ⟨o, x⟩ := st
      obtain ⟨b, e1, e2, us, e3, e4⟩ := x.top
      obtain rfl := Option.some.inj e1
      obtain ⟨xs, ys, ws, c1, c2, c3, c4⟩ := change_at ⟨o, x.pop⟩ h3 hp1 hz
      obtain ⟨c, rfl⟩ := some_of c1
      exact ⟨a, b, ws, us, rfl, rfl, c2, e3, by rw [c3.length, e4.length, ← line_eq]; exact c, c4 _ (c3.append e4)⟩
    | _ => exact (stuck_some h3).elim
  | _ => exact (stuck_some h3).elim
theorem step_append2 {f : M RV} (h : tS EC X (do
      chk2e i
      let r ← f
      match r with
        | .ow (.list ys) => do
          change2M i fun xs => if xs.length < 16777216 then some (xs ++ [.list ys]) else none
          M.ret .nx
        | _ => M.stuck) D σ H) : tDrop (tBM X.K "list" rAppend (tVar i) (tCons (tE EC X f) tNil)) D σ H := by
  obtain ⟨le, FR, G, ρ, out, ρ', hs, he, hp⟩ := h
  obtain ⟨hc, h2⟩ := chk2e_bind he
  obtain ⟨a, vs, hz, ha⟩ : ∃ a vs, σ[i]? = some (some (.ref a)) ∧ H a = some (.lst vs) := by
    obtain ⟨o, x⟩ := hs
    rcases hc with ⟨xs, hx⟩ | hx
    · obtain ⟨a, bs, ds, h1, h2, h3, h4, _⟩ := x.slot i _ hx
      exact ⟨a, _, join_some h1, h4⟩
    · obtain ⟨a, h1, h2, vs, h3, h4⟩ := x.slot i _ hx
      exact ⟨a, vs, join_some h1, h3⟩
  refine ⟨_, hz, .inl ⟨rfl, vs, .inl (.inl ha)⟩, ?_⟩
  refine stE0 hs h2 hp fun r ρ1 h3 z H1 G1 g1 hb st hp1 => ?_
  cases r with
  | ow d =>
    cases d with
    | list zs =>
      have h3 : (change2M i (fun xs => if xs.length < 16777216 then some (xs ++ [.list zs]) else none) >>= fun _ => M.ret Fl.nx) ρ1 = some (out, ρ') := h3
      obtain ⟨o, x⟩ := st
      obtain ⟨xs, ys, c1, c2, c3⟩ := change2M_bind h3
      obtain ⟨c, rfl⟩ := some_of c1
      obtain ⟨a', ws, k1, k2, k3, k4⟩ := x.app2 c2
      rw [hz] at k1
      obtain rfl : a = a' := by cases k1; rfl
      exact ⟨a, ws, z, rfl, rfl, k2, by rw [k3, ← line_eq]; exact c, nx_of c3 hp1 k4⟩
    | _ => exact (stuck_some h3).elim
  | _ => exact (stuck_some h3).elim
theorem step_set2 {f g g2 : M RV} (h : tS EC X (do
      let r ← f
      let x ← plainM r
      chk2 i
      let q ← g
      let y ← M.dat q
      let k ← intM y
      let _ ← rowM i k
      let z ← hidden i (do
        let p ← g2
        M.dat p)
      let l ← intM z
      change2M i (setAt2 k l x)
      M.ret .nx) D σ H) : tAsg (tE EC X f) (gSub (tOp (rIxL X.K) (tVar i) (tE EC X g)) (tE EC X g2) rSetL) D σ H := by
  obtain ⟨le, FR, G, ρ, out, ρ', hs, he, hp⟩ := h
  refine stE hs he hp fun r ρ1 h2 z H1 G1 g1 got st hp1 => ?_
  obtain ⟨v, hv, hf, h3⟩ := plain_bind h2
  have pv := GotO.plain got hv hf
  obtain ⟨⟨xs0, hx0⟩, h4⟩ := chk2_bind h3
  obtain ⟨a, hz⟩ : ∃ a, σ[i]? = some (some (.ref a)) := by
    obtain ⟨o, s⟩ := st
    obtain ⟨a, _, _, h1, _⟩ := s.slot i _ hx0
    exact ⟨a, join_some h1⟩
  refine ⟨_, hz, ?_⟩
  refine stE st h4 hp1 fun q ρ2 h5 y H2 G2 g2' got2 st2 hp2 => ?_
  obtain ⟨w, hw, h6⟩ := dat_bind h5
  obtain ⟨k, rfl, h7⟩ := int_bind h6
  obtain ⟨xs, ys, hx, hk, h8⟩ := rowM_bind h7
  have zk := (GotO.view got2 st2 hw).int
  obtain ⟨o, s⟩ := st2
  obtain ⟨a', b, bs, j, w1, w2, w3, w4, w5, w6, w7, w8, w9, w10, w11⟩ := s.row hx hk
  rw [hz] at w1
  obtain rfl : a = a' := by cases w1; rfl
  refine ⟨a, _, k, .ref b, rfl, zk, .inl (.inl w3), w9, ?_⟩
  obtain ⟨d, l0, ρ3, e1, e2, e3, h9⟩ := hidden_bind h8
  rw [hx] at e1
  cases e1
  rcases bind_some e2 with ⟨_, _, c⟩ | ⟨p, ρ4, e4, e5⟩
  · cases c
  obtain ⟨w', hw', c, rfl⟩ := dat_some e5
  cases c
  obtain ⟨l, rfl, h10⟩ := int_bind h9
  obtain ⟨xs', ys', c1, c2, c3⟩ := change2M_bind h10
  have hid := s.hide hx
  refine opd ⟨_, hid⟩ e4 (fun r2 c y2 H3 G3 g3 got3 st3 => ?_) fun e c => nomatch c
  cases c
  have zl := (GotO.view got3 st3 hw').int
  obtain ⟨o3, s3⟩ := st3
  obtain ⟨s4, kp⟩ := s.unhide hx g3 s3 e3
  obtain ⟨vs, k1, k2⟩ := w11
  have hil : i < ρ3.length := (List.getElem?_eq_some_iff.mp e3).1
  have hx2 : (ρ3.set i (.ow2 (.list xs)))[i]? = some (.ow2 (.list xs)) := List.getElem?_set_self hil
  obtain rfl : xs' = xs := by
    rcases c2 with c2 | ⟨c2, _⟩
    · rw [hx2] at c2; cases c2; rfl
    · rw [hx2] at c2; cases c2
  -- the row that is changed
  unfold setAt2 at c1
  rw [w6] at c1
  have c1 : (match xs'[j]? with
    | some (.list ys) => (setAt (.int l) v ys).map fun zs => xs'.set j (.list zs)
    | _ => none) = some ys' := c1
  rw [w8] at c1
  obtain ⟨zs, z1, rfl⟩ := Option.map_eq_some_iff.mp c1
  obtain ⟨l', m, hl', z2, rfl⟩ := setAt_some z1
  cases hl'
  have own4 : outOw o o3 i b = some (.slot i) := by unfold outOw; rw [if_pos w10]
  have own5 : outOw o o3 i a = some (.slot i) := by unfold outOw; rw [if_pos w2]
  have rows4 : Rows2 X.K G3 H3 (outOw o o3 i) (.slot i) bs xs' := w5.mono g3 (fun b' hb' => kp b' (w5.owner b' hb').1) fun b' _ q => by unfold outOw; rw [if_pos q]
  have kk : DpAll X.K G3 vs ys := k2.mono g3 _ _
  have s5 := s4.set2 hx2 hz own5 ((kp a w2).trans w3) w4 rows4 w7 own4 (kk.set (pv.mono (g2'.trans g3) _ _) m)
  rw [List.set_set] at s5
  refine ⟨b, vs, l, m, rfl, zl, (kp b w10).trans k1, by rw [kk.length]; exact z2, ?_⟩
  rw [List.set_set] at c3
  exact nx_of c3 (hp2.up g3) ⟨_, s5⟩
end
end TK

set_option Elab.async false
set_option linter.all false
set_option maxRecDepth 100000
set_option maxHeartbeats 1000000
/-! TKStm2: more statements. -/
namespace TK
open PySem PySem.Spec PyProof.Rows L2
section
variable {EC : Nat → Option Addr} {X : Cx} {le : Nat → Option Addr} {FR G G' H H' : Hp} {ρ ρ' : En} {σ : L2.St} {D : Ends} {i : Nat}

theorem add_int {v w : PyData} {n : Int} (h : p2 .add v w = some (.pl (.int n))) : ∃ a b, v = .int a ∧ w = .int b ∧ n = a + b := by
  cases v with
  | int a =>
    cases w with
    | int b => cases h; exact ⟨a, b, rfl, rfl, rfl⟩
    | _ => cases h
  | list xs =>
    cases w with
    | list ys =>
      obtain ⟨_, c⟩ := some_of (show (if xs.length + ys.length ≤ 16777216 then some (RV.ow (.list (xs ++ ys))) else none) = _ from h)
      cases c
    | _ => cases h
  | tuple xs =>
    cases w with
    | tuple ys =>
      obtain ⟨_, c⟩ := some_of (show (if xs.length + ys.length ≤ 16777216 then some (RV.pl (.tuple (xs ++ ys))) else none) = _ from h)
      cases c
    | _ => cases h
  | _ => cases w <;> cases h
theorem rdVar_bind {β : Type} {g : RV → M β} {out : Out β} (h : (rdVar i >>= g) ρ = some (out, ρ')) : ∃ v, ρ[i]? = some (.pl v) ∧ g (.pl v) ρ = some (out, ρ') := by
  have key : ∀ {u : Out RV} {ρ3 : En}, rdVar i ρ = some (u, ρ3) → ∃ v, ρ[i]? = some (.pl v) ∧ u = .ok (.pl v) ∧ ρ3 = ρ := fun {u ρ3} h => by
    unfold rdVar at h
    cases e : ρ[i]? with
    | none => rw [e] at h; cases h
    | some r =>
      rw [e] at h
      cases r with
      | pl v => cases h; exact ⟨v, rfl, rfl, rfl⟩
      | _ => cases h
  rcases bind_some h with ⟨e, h, _⟩ | ⟨v, ρ3, h, h3⟩
  · obtain ⟨_, _, c, _⟩ := key h; cases c
  · obtain ⟨v', h1, c, rfl⟩ := key h
    cases c
    exact ⟨v', h1, h3⟩
theorem step_aug {f : M RV} (h : tS EC X (do
      let q ← rdVar i
      let v ← M.dat q
      let r ← f
      let w ← M.dat r
      let z ← M.of (p2 .add v w)
      match z with
        | .pl (.int n) => do
          stSlot i (.pl (.int n))
          M.ret .nx
        | _ => M.stuck) D σ H) : tAug i (tE EC X f) (ipI fun i j => i + j) D σ H := by
  obtain ⟨le, FR, G, ρ, out, ρ', hs, he, hp⟩ := h
  obtain ⟨v0, e0, he⟩ := rdVar_bind he
  obtain ⟨v, hv, he⟩ := dat_bind he
  cases hv
  obtain ⟨z, hz, dz⟩ : ∃ z, σ[i]? = some (some z) ∧ Dp X.K G z v0 := by obtain ⟨o, x⟩ := hs; exact x.var e0
  refine ⟨z, hz, ?_⟩
  refine stE hs he hp fun r ρ1 h2 y H1 G1 g1 got st hp1 => ?_
  obtain ⟨w, hw, h3⟩ := dat_bind h2
  obtain ⟨z1, hz1, h4⟩ := of_bind h3
  cases z1 with
  | pl d =>
    cases d with
    | int n =>
      obtain ⟨a, b, rfl, rfl, rfl⟩ := add_int hz1
      have zy := (GotO.view got st hw).int
      obtain rfl : z = .int a := by cases dz; rfl
      obtain ⟨q, e, hq, hk, h5⟩ := slot_bind (show (stSlot i (.pl (.int (a + b))) >>= fun _ => M.ret Fl.nx) ρ1 = some (out, ρ') from h4)
      exact ⟨a, b, rfl, zy, nx_of h5 hp1 (st.storeD (.int (a + b)) e hq)⟩
    | _ => exact (stuck_some h4).elim
  | _ => exact (stuck_some h4).elim
theorem step_expr {f : M RV} (h : tS EC X (do
      let _ ← f
      M.ret .nx) D σ H) : tDrop (tE EC X f) D σ H := by
  obtain ⟨le, FR, G, ρ, out, ρ', hs, he, hp⟩ := h
  refine stE0 hs he hp fun r ρ1 h2 y H1 G1 g1 hb st hp1 => ?_
  obtain ⟨o, x⟩ := st
  exact nx_of h2 hp1 ⟨o, x.pop⟩
theorem step_ret {f : M RV} (h : tS EC X (do
      let r ← f
      match r with
        | .bw _ => M.stuck
        | .io _ => M.stuck
        | .un => M.stuck
        | r => M.ret (.rt r)) D σ H) : tRet (tE EC X f) D σ H := by
  obtain ⟨le, FR, G, ρ, out, ρ', hs, he, hp⟩ := h
  refine stE0 hs he hp fun r ρ1 h2 y H1 G1 g1 hb st hp1 => ?_
  have fin : r.keep = true → (M.ret (Fl.rt r) : M Fl) ρ1 = some (out, ρ') → D.rt y H1 := fun hk h2 => by
    obtain ⟨rfl, rfl⟩ := ret_some h2
    exact hp1 y σ H1 G1 (Le.refl _) hk st
  cases r with
  | pl d => exact fin rfl h2
  | ow d => exact fin rfl h2
  | ow2 d => exact fin rfl h2
  | un => exact (stuck_some (α := Fl) h2).elim
  | io d => exact (stuck_some (α := Fl) h2).elim
  | bw d => exact (stuck_some (α := Fl) h2).elim
theorem step_retN (h : tS EC X (M.ret (.rt (.pl .none))) D σ H) : tRetN D σ H := by
  obtain ⟨le, FR, G, ρ, out, ρ', hs, he, hp⟩ := h
  obtain ⟨rfl, rfl⟩ := ret_some he
  obtain ⟨o, x⟩ := hs
  exact hp .non σ H G (Le.refl _) rfl ⟨o, x.push_pl .non⟩
theorem step_pass (h : tS EC X (M.ret .nx) D σ H) : tNext D σ H := by
  obtain ⟨le, FR, G, ρ, out, ρ', hs, he, hp⟩ := h
  exact nx_of he hp hs
theorem step_if {t : M Bool} {a b : M Fl} (h : tS EC X (do
      let k ← t
      if k then a else b) D σ H) : tIfS (tT EC X t) (tS EC X a) (tS EC X b) D σ H := by
  obtain ⟨le, FR, G, ρ, out, ρ', hs, he, hp⟩ := h
  refine stT hs he hp fun k ρ1 h2 H1 G1 g1 st hp1 => ?_
  cases k with
  | true => rw [if_pos rfl]; exact ⟨le, FR, G1, ρ1, out, ρ', st, h2, hp1⟩
  | false => rw [if_neg Bool.false_ne_true]; exact ⟨le, FR, G1, ρ1, out, ρ', st, h2, hp1⟩
theorem step_seq {a b : M Fl} (h : tS EC X (do
      let f ← a
      match f with
        | .nx => b
        | f => M.ret f) D σ H) : tSeq (tS EC X a) (tS EC X b) D σ H := by
  obtain ⟨le, FR, G, ρ, out, ρ', hs, he, hp⟩ := h
  rcases bind_some he with ⟨e, he1, rfl⟩ | ⟨f, ρ1, he1, h2⟩
  · exact ⟨le, FR, G, ρ, _, _, hs, he1, hp⟩
  · cases f with
    | nx => exact ⟨le, FR, G, ρ, _, _, hs, he1, fun σ' H' G' g st => ⟨le, FR, G', ρ1, out, ρ', st, h2, hp.up g⟩⟩
    | rt r =>
      obtain ⟨rfl, rfl⟩ := ret_some (show (M.ret (Fl.rt r) : M Fl) ρ1 = some (out, ρ') from h2)
      exact ⟨le, FR, G, ρ, _, _, hs, he1, hp⟩
theorem forLoop_cons {tg : Tg} {body : M Fl} {x : PyData} {xs : List PyData} {out : Out Fl} (h : forLoop tg body (x :: xs) ρ = some (out, ρ')) :
    ∃ ρa, asgTg tg x ρ = some ρa ∧ ((∃ ρb, body ρa = some (.ok .nx, ρb) ∧ forLoop tg body xs ρb = some (out, ρ')) ∨ (body ρa = some (out, ρ') ∧ out ≠ .ok .nx)) := by
  unfold forLoop at h
  cases e1 : asgTg tg x ρ with
  | none => rw [e1] at h; cases h
  | some ρa =>
    rw [e1] at h
    refine ⟨ρa, rfl, ?_⟩
    simp only at h
    cases e2 : body ρa with
    | none => rw [e2] at h; cases h
    | some p =>
      obtain ⟨o, ρb⟩ := p
      rw [e2] at h
      cases o with
      | ex e => cases h; exact .inr ⟨rfl, fun c => nomatch c⟩
      | ok f =>
        cases f with
        | nx => exact .inl ⟨ρb, rfl, h⟩
        | rt r => cases h; exact .inr ⟨rfl, fun c => nomatch c⟩
theorem PostSt.with {out : Out Fl} {N : L2.St → Hp → Prop} {D' : Ends} (h : PostSt EC X le FR G ρ' out D) (hr : D'.rt = D.rt) (hn : out ≠ .ok .nx) : PostSt EC X le FR G ρ' out D' := by
  cases out with
  | ex e => exact h
  | ok f =>
    cases f with
    | nx => exact absurd rfl hn
    | rt r => intro z σ' H' G' g k st; rw [hr]; exact h z σ' H' G' g k st
theorem step_for {it : M (List PyData)} {tg : Tg} {body : M Fl} (h : tS EC X (do
      let xs ← it
      forLoop tg body xs) D σ H) : tFor (tI EC X it) (gT X.K tg) (tS EC X body) D σ H := by
  obtain ⟨le, FR, G, ρ, out, ρ', hs, he, hp⟩ := h
  rcases bind_some he with ⟨e, he1, rfl⟩ | ⟨xs, ρ1, he1, h2⟩
  · exact ⟨le, FR, G, ρ, [], _, _, hs, he1, wx_of rfl hp⟩
  refine ⟨le, FR, G, ρ, [], _, _, hs, he1, fun J H1 G1 g1 wk hz st => ?_⟩
  refine ⟨fun i m σ H => m + i = xs.length ∧ ∃ G' ρi, Le G1 G' ∧ StE X.K le FR G' H ρi σ [] ∧ forLoop tg body (xs.drop i) ρi = some (out, ρ'), ⟨xs.length, rfl, G1, ρ1, Le.refl _, st, h2⟩, fun i m σ2 H2 w => ?_⟩
  obtain ⟨hm, G2, ρi, g2, st2, hl⟩ := w
  cases m with
  | zero =>
    left
    have hi : i = xs.length := by omega
    subst hi
    rw [List.drop_length] at hl
    unfold forLoop at hl
    exact ⟨wk.stop H2 (g2.trans st2.sub), nx_of hl (hp.up (g1.trans g2)) st2⟩
  | succ m =>
    right
    have hi : i < xs.length := by omega
    rw [List.drop_eq_getElem_cons hi] at hl
    have hx : xs[i]? = some xs[i] := List.getElem?_eq_getElem hi
    generalize xs[i] = x at hl hx
    obtain ⟨ρa, ha, hc⟩ := forLoop_cons hl
    refine ⟨wk.go i x H2 hx (g2.trans st2.sub), fun σ' H' => m + (i + 1) = xs.length ∧ ∃ G' ρi, Le G1 G' ∧ StE X.K le FR G' H' ρi σ' [] ∧ forLoop tg body (xs.drop (i + 1)) ρi = some (out, ρ'), fun σ' H' n => ⟨m, Nat.lt_succ_self _, n⟩, fun x' H3 hyl => ?_⟩
    obtain ⟨G3, ext, hd⟩ := wk.yld i x H2 x' H3 hx hyl G2 g2 st2.sub
    have st3 : StE X.K le FR G3 H3 ρi σ2 [] := by
      obtain ⟨o, s⟩ := st2
      exact ⟨o, s.ext ext.hh ext.gg ext.sub ext.old⟩
    refine ⟨le, FR, G3, ρi, [], x, ρa, st3, hd, ha, fun σ3 off s3 => ?_⟩
    have hm' : m + (i + 1) = xs.length := by omega
    rcases hc with ⟨ρb, h3, h4⟩ | ⟨h3, hn⟩
    · exact ⟨le, FR, G3, ρa, _, ρb, s3, h3, fun σ4 H4 G4 g4 s4 => ⟨hm', G4, ρb, (g2.trans ext.gg).trans g4, s4, h4⟩⟩
    · exact ⟨le, FR, G3, ρa, _, ρ', s3, h3, (hp.up ((g1.trans g2).trans ext.gg)).with (N := D.nx) rfl hn⟩
theorem step_while {t : M Bool} {body : M Fl} {n : Nat} (h : tS EC X (whileLoop t body n) D σ H) : tWhile (tT EC X t) (tS EC X body) D σ H := by
  obtain ⟨le, FR, G, ρ, out, ρ', hs, he, hp⟩ := h
  refine ⟨fun m σ H => ∃ G' ρi, Le G G' ∧ StE X.K le FR G' H ρi σ [] ∧ whileLoop t body m ρi = some (out, ρ'), ⟨n, G, ρ, Le.refl _, hs, he⟩, fun m σ1 H1 w => ?_⟩
  obtain ⟨G1, ρ1, g1, st, hw⟩ := w
  cases m with
  | zero => exact nomatch (show (none : Option (Out Fl × En)) = some (out, ρ') from hw)
  | succ m =>
    unfold whileLoop at hw
    cases e1 : t ρ1 with
    | none => rw [e1] at hw; cases hw
    | some p =>
      obtain ⟨ob, ρa⟩ := p
      rw [e1] at hw
      cases ob with
      | ex e => cases hw; exact ⟨le, FR, G1, ρ1, [], _, _, st, e1, wx_of rfl (hp.up g1)⟩
      | ok b =>
        refine ⟨le, FR, G1, ρ1, [], _, ρa, st, e1, fun H2 G2 g2 s2 => ?_⟩
        cases b with
        | false =>
          rw [if_neg Bool.false_ne_true]
          cases hw
          exact hp σ1 H2 G2 (g1.trans g2) s2
        | true =>
          rw [if_pos rfl]
          refine ⟨fun σ' H' => ∃ G' ρi, Le G G' ∧ StE X.K le FR G' H' ρi σ' [] ∧ whileLoop t body m ρi = some (out, ρ'), fun σ' H' n => ⟨m, Nat.lt_succ_self _, n⟩, ?_⟩
          simp only at hw
          cases e2 : body ρa with
          | none => rw [e2] at hw; cases hw
          | some p =>
            obtain ⟨o, ρb⟩ := p
            rw [e2] at hw
            have oth : some (o, ρb) = some (out, ρ') → o ≠ .ok .nx → tS EC X body { nx := fun σ' H' => ∃ G' ρi, Le G G' ∧ StE X.K le FR G' H' ρi σ' [] ∧ whileLoop t body m ρi = some (out, ρ'), rt := D.rt, bk := D.nx, ct := fun σ' H' => ∃ G' ρi, Le G G' ∧ StE X.K le FR G' H' ρi σ' [] ∧ whileLoop t body m ρi = some (out, ρ') } σ1 H2 := fun c hn => by
              cases c
              exact ⟨le, FR, G2, ρa, _, _, s2, e2, (hp.up (g1.trans g2)).with (N := D.nx) rfl hn⟩
            cases o with
            | ex e => exact oth hw fun c => nomatch c
            | ok f =>
              cases f with
              | rt r => exact oth hw fun c => nomatch c
              | nx => exact ⟨le, FR, G2, ρa, _, ρb, s2, e2, fun σ4 H4 G4 g4 s4 => ⟨G4, ρb, (g1.trans g2).trans g4, s4, hw⟩⟩
end
end TK

set_option Elab.async false
set_option linter.all false
set_option maxRecDepth 100000
set_option maxHeartbeats 1000000
/-! TKMat: the written expressions that the small language stands for: views and their readings. -/
namespace L2
open PySem PySem.Spec PyProof.Rows
variable {X : Cx}
theorem PE.imp {e : Expr} {t t' : TE} (h : PE X e t) (i : ∀ σ H Q, t' σ H Q → t σ H Q) : PE X e t' := TK.PE.imp h i
theorem PT.imp {e : Expr} {t t' : TT} (h : PT X e t) (i : ∀ σ H Q, t' σ H Q → t σ H Q) : PT X e t' := TK.PT.imp h i
theorem PA.imp {e : List Expr} {t t' : TA} (h : PA X e t) (i : ∀ σ H Q, t' σ H Q → t σ H Q) : PA X e t' := TK.PA.imp h i
end L2
namespace TK
open PySem PySem.Spec PyProof.Rows L2

/-- names: of the places, of unshadowed built-ins, of constants, of functions, of exception classes -/
structure Cfg where
  N : List Str
  bn : List Str
  gn : List Str
  fnm : List Str
  cn : List Str
structure Ok (C : Cfg) (EC : Nat → Option Addr) (gl : Nat → Option D) (cf : CallF) (X : Cx) (sc : Scope) : Prop where
  N : X.N = C.N
  nd : C.N.Nodup
  sc : X.env.scope = sc
  calm : X.calm = true
  room : X.A.units + 65 < cLine
  bn : ∀ x ∈ C.bn, X.mg x = none
  gn : ∀ g x d, C.gn[g]? = some x → gl g = some d → ∃ v u, X.mg x = some u ∧ RelV v u ∧ ∀ G, Dp X.K G v d
  fn : ∀ f x, C.fnm[f]? = some x → ∃ k fa fd ps, X.mg x = some (.ref fa) ∧ PySem.W.keepIn X.K (.ref fa) = true ∧ Binds X.K fd ps [] ∧ Room k X.A ∧ FnOk X.prog X.w X.K X.mg X.base (L2.CX X.prog X.w) k fa fd ps (spF EC X.K cf f)

/-! ### checks -/
def nmOk (x : Str) : Bool := !(x == ("__debug__" : Str)) && !(x == ("__classdict__" : Str)) && decide (x ≠ "__name__")
theorem nmOk_ok {x : Str} (h : nmOk x = true) : (x == ("__debug__" : Str)) = false ∧ (x == ("__classdict__" : Str)) = false ∧ x ≠ "__name__" := by
  unfold nmOk at h
  simp only [Bool.and_eq_true, Bool.not_eq_true'] at h
  exact ⟨h.1.1, h.1.2, of_decide_eq_true h.2⟩
def visB (sc : Scope) (x : Str) : Bool := match sc.names.lookup x with
  | some .local => true
  | some .cell => true
  | some .free => true
  | _ => false
theorem visB_ok {sc : Scope} {x : Str} (h : visB sc x = true) : Vis sc x := by
  unfold visB at h
  unfold Vis
  cases e : sc.names.lookup x with
  | none => rw [e] at h; cases h
  | some k => rw [e] at h; cases k <;> first | exact .inl rfl | exact .inr (.inl rfl) | exact .inr (.inr rfl) | cases h
def glB (sc : Scope) (x : Str) : Bool := match sc.names.lookup x with
  | some .globalImplicit => true
  | _ => false
theorem glB_ok {sc : Scope} {x : Str} (h : glB sc x = true) : sc.names.lookup x = some .globalImplicit := by
  unfold glB at h
  cases e : sc.names.lookup x with
  | none => rw [e] at h; cases h
  | some k => rw [e] at h; cases k <;> first | rfl | cases h
/-- a built-in's name -/
def blB (C : Cfg) (sc : Scope) (x y : Str) : Bool := decide (x = y) && C.bn.contains y && glB sc y && nmOk y
section
variable {C : Cfg} {EC : Nat → Option Addr} {gl : Nat → Option D} {cf : CallF} {X : Cx} {sc : Scope}
theorem Ok.gLo (k : Ok C EC gl cf X sc) {x : Str} (h : glB sc x = true) : Gl X x := by
  show X.env.scope.names.lookup x = _
  rw [k.sc]; exact glB_ok h
theorem Ok.bl (k : Ok C EC gl cf X sc) {x y : Str} (h : blB C sc x y = true) : x = y ∧ Gl X y ∧ X.mg y = none ∧ y ≠ "__name__" ∧ (y == ("__debug__" : Str)) = false := by
  unfold blB at h
  simp only [Bool.and_eq_true] at h
  obtain ⟨⟨⟨h1, h2⟩, h3⟩, h4⟩ := h
  obtain ⟨n1, n2, n3⟩ := nmOk_ok h4
  exact ⟨of_decide_eq_true h1, k.gLo h3, k.bn y (List.contains_iff_mem.mp h2), n3, n1⟩
theorem Ok.units (k : Ok C EC gl cf X sc) : X.A.units + 64 < cLine := by have := k.room; omega
end
def notStar : Expr → Bool
  | .Starred .. => false
  | _ => true
theorem star_cons {e : Expr} {es : List Expr} {env : Env} (h : notStar e = true) : starEach (e :: es) env = (false, eval e env) :: starEach es env := by
  cases e <;> first | rfl | cases h
theorem star_any : ∀ {es : List Expr} {env : Env} {pos : Pos}, es.all notStar = true → (backTo pos (starEach es env)).any (·.1) = false
  | [], _, _, _ => rfl
  | e :: es, env, pos, h => by
    simp only [List.all_cons, Bool.and_eq_true] at h
    rw [star_cons h.1]
    show (false || _) = false
    rw [Bool.false_or]
    exact star_any h.2
theorem star_not : ∀ {es : List Expr} {env : Env} {pos : Pos}, es.all notStar = true → (backTo pos (starEach es env)).all (fun x => !x.1) = true
  | [], _, _, _ => rfl
  | e :: es, env, pos, h => by
    simp only [List.all_cons, Bool.and_eq_true] at h
    rw [star_cons h.1]
    show (true && _) = true
    rw [Bool.true_and]
    exact star_not h.2
def notSet : Expr → Bool
  | .Set .. => false
  | _ => true
theorem notSet_fold {e : Expr} {env : Env} (h : notSet e = true) : ∀ x, foldedSetIterable e env x = pure x := by
  intro x
  cases e <;> first | rfl | cases h
def notSlice : Expr → Bool
  | .Slice .. => false
  | _ => true
theorem notSlice_ix {e : Expr} (h : notSlice e = true) : PlainIx e := by
  intro o i
  cases e <;> first | rfl | cases h
/-- its test is its value's truth -/
def plainT : Expr → Bool
  | .UnaryOp .Not .. => false
  | .BoolOp .. => false
  | .IfExp .. => false
  | .Compare .. => false
  | _ => true
theorem plainT_ok {e : Expr} {env : Env} (h : plainT e = true) : ∀ whole, isTrue e env whole = (do let v ← whole; standAt e.pos; holding [v] (truthy v)) := by
  intro whole
  cases e with
  | UnaryOp op a pos => cases op <;> first | rfl | cases h
  | BoolOp => cases h
  | IfExp => cases h
  | Compare => cases h
  | _ => rfl

section
variable {C : Cfg} {EC : Nat → Option Addr} {gl : Nat → Option D} {cf : CallF} {X : Cx} {sc : Scope}
theorem pt_of {e : Expr} {f : M RV} (h : PE X e (tE EC X f)) (he : plainT e = true) : PT X e (tT EC X (tMx f)) := (pt_truth h (plainT_ok he)).imp fun _ _ _ q => step_t q
abbrev Both (EC : Nat → Option Addr) (X : Cx) (e : Expr) (m : Ev) : Prop := PE X e (tE EC X m.1) ∧ PT X e (tT EC X m.2)
theorem both_of {e : Expr} {f : M RV} (h : PE X e (tE EC X f)) (he : plainT e = true) : Both EC X e (plainEv f) := ⟨h, pt_of h he⟩

/-! ### names, constants -/
def viewN (C : Cfg) (sc : Scope) (i : Nat) : Expr → Bool
  | .Name x _ => decide (C.N[i]? = some x) && visB sc x && nmOk x
  | _ => false
theorem viewN_ok (k : Ok C EC gl cf X sc) {i : Nat} {e : Expr} (h : viewN C sc i e = true) : PE X e (tVar i) ∧ plainT e = true := by
  cases e with
  | Name x p =>
    simp only [viewN, Bool.and_eq_true] at h
    obtain ⟨⟨h1, h2⟩, h3⟩ := h
    obtain ⟨n1, n2, n3⟩ := nmOk_ok h3
    exact ⟨pe_var (by rw [k.N]; exact of_decide_eq_true h1) (by rw [k.sc]; exact visB_ok h2) n1 n2, rfl⟩
  | _ => cases h
def viewC : D → Expr → Bool
  | .int i, .Constant (.int j) _ _ => decide (i = j)
  | .bool b, .Constant (.bool c) _ _ => b == c
  | .none, .Constant .none _ _ => true
  | .str x, .Constant (.str y) _ _ => decide (x = y)
  | _, _ => false
theorem viewC_ok {d : D} {e : Expr} (h : viewC d e = true) : Both EC X e (plainEv (M.ret (.pl d))) := by
  have fin {v : V} (hv : ∀ G, Dp X.K G v d) (he : PE X e (tC v)) (hp : plainT e = true) : Both EC X e (plainEv (M.ret (.pl d))) := both_of (he.imp fun _ _ _ q => step_cst hv q) hp
  cases d with
  | none =>
    cases e with
    | Constant c k p => cases c <;> first | exact fin (fun _ => .non) pe_non rfl | cases h
    | _ => cases h
  | bool b =>
    cases e with
    | Constant c k p =>
      cases c with
      | bool c => obtain rfl : b = c := by simpa [viewC] using h
                  exact fin (fun _ => .bl _) pe_bl rfl
      | _ => cases h
    | _ => cases h
  | int b =>
    cases e with
    | Constant c k p =>
      cases c with
      | int c => obtain rfl : b = c := by simpa [viewC] using h
                 exact fin (fun _ => .int _) pe_int rfl
      | _ => cases h
    | _ => cases h
  | str b =>
    cases e with
    | Constant c k p =>
      cases c with
      | str c => obtain rfl : b = c := by simpa [viewC] using h
                 exact fin (fun _ => .str _) pe_str rfl
      | _ => cases h
    | _ => cases h
  | _ => cases e <;> cases h
def viewG (C : Cfg) (sc : Scope) (g : Nat) : Expr → Bool
  | .Name x _ => decide (C.gn[g]? = some x) && glB sc x && nmOk x
  | _ => false
theorem viewG_ok (k : Ok C EC gl cf X sc) {g : Nat} {e : Expr} (h : viewG C sc g e = true) : Both EC X e (plainEv (match gl g with | some d => M.ret (.pl d) | none => M.stuck)) := by
  cases e with
  | Name x p =>
    simp only [viewG, Bool.and_eq_true] at h
    obtain ⟨⟨h1, h2⟩, h3⟩ := h
    obtain ⟨n1, n2, n3⟩ := nmOk_ok h3
    cases q : gl g with
    | none => exact both_of ⟨fun _ _ _ _ _ _ ⟨_, _, _, _, _, _, _, _, he, _⟩ => (stuck_some he).elim⟩ rfl
    | some d =>
      obtain ⟨v, u, hm, r, hd⟩ := k.gn g x d (of_decide_eq_true h1) q
      exact both_of ((pe_glob (k.gLo h2) hm r n1).imp fun _ _ _ q => step_cst hd q) rfl
  | _ => cases h

/-! ### one operand -/
def f1n : P1 → Str
  | .len => "len" | .abs => "abs" | .int => "int" | .tuple => "tuple" | .list => "list" | .sum => "sum" | .any => "any" | .all => "all" | _ => ""
def f1b : P1 → Bool
  | .len => true | .abs => true | .int => true | .tuple => true | .list => true | .sum => true | .any => true | .all => true | _ => false
def un1 : P1 → UnaryOp → Bool
  | .neg, .USub => true
  | .inv, .Invert => true
  | _, _ => false
def isC : P1 → CmpOp → Expr → Bool
  | .isNone, .Is, .Constant .none _ _ => true
  | .notNone, .IsNot, .Constant .none _ _ => true
  | .isTrue, .Is, .Constant (.bool true) _ _ => true
  | .isFalse, .Is, .Constant (.bool false) _ _ => true
  | .notTrue, .IsNot, .Constant (.bool true) _ _ => true
  | .notFalse, .IsNot, .Constant (.bool false) _ _ => true
  | _, _, _ => false
/-- isinstance(x, T) -/
def isiT (C : Cfg) (sc : Scope) (p : P1) : Expr → Bool
  | .Name x _ => isiB p && blB C sc x (isiName p : String)
  | _ => false
def viewU (C : Cfg) (sc : Scope) (p : P1) : Expr → Option Expr
  | .Call (.Name f _) [.Call (.Name g q) [x] [] q2] [] _ => if decide (p = .rngL) then (if blB C sc f "list" && blB C sc g "range" && notStar x then some x else none) else if decide (p = .setSorted) then (if blB C sc f "sorted" && blB C sc g "set" && notStar x then some x else none) else if f1b p && blB C sc f (f1n p) then some (.Call (.Name g q) [x] [] q2) else none
  | .Call (.Name f _) [x] [] _ => if f1b p && blB C sc f (f1n p) && notStar x then some x else none
  | .Call (.Name f _) [x, y] [] _ => if blB C sc f "isinstance" && isiT C sc p y && notStar x then some x else none
  | .UnaryOp op x _ => if un1 p op then some x else none
  | .Compare x [op] [y] _ => if isC p op y then some x else none
  | .Subscript x (.Slice none none (some (.UnaryOp .USub (.Constant (.int i) _ _) _)) _) _ => if decide (p = .rev) && decide (i = 1) then some x else none
  | _ => none
theorem pe_f1 (hc : X.calm = true) {p : P1} {x : Str} {a : Expr} {te : TE} {p0 pos : Pos} (h : f1b p = true) (hx : x = f1n p) (hg : Gl X x) (hm : X.mg x = none) (ha : PE X a te) (hs : notStar a = true) (hn : x ≠ "__name__") (hdb : (x == ("__debug__" : Str)) = false) :
    PE X (.Call (.Name x p0) [a] [] pos) (tCB (rC1 X.K p) (tCons te tNil)) := by
  have ha' := pa_cons ha pa_nil (star_cons hs)
  cases p with
  | len => subst hx; exact pe_callB c_len hg hm rfl ha' hn hdb (star_cons hs) rfl
  | abs => subst hx; exact pe_callB c_abs hg hm rfl ha' hn hdb (star_cons hs) rfl
  | sum => subst hx; exact pe_callB (c_sum hc) hg hm rfl ha' hn hdb (star_cons hs) rfl
  | any => subst hx; exact pe_callB (c_any hc) hg hm rfl ha' hn hdb (star_cons hs) rfl
  | all => subst hx; exact pe_callB (c_all hc) hg hm rfl ha' hn hdb (star_cons hs) rfl
  | int => subst hx; exact pe_callTy c_int hg hm rfl ha' hn hdb (star_cons hs) rfl
  | tuple => subst hx; exact pe_callTy c_tuple hg hm rfl ha' hn hdb (star_cons hs) rfl
  | list => subst hx; exact pe_callTy c_list hg hm rfl ha' hn hdb (star_cons hs) rfl
  | _ => cases h
abbrev mU (p : P1) (f : M RV) : M RV := do
  let r ← f
  let v ← M.dat r
  M.of (p1 p v)
theorem dat_pl {d : D} {ρ : En} : datOf (.pl d) ρ = some d := rfl
theorem mU_bool {p : P1} (hp : ∀ d r, p1 p d = some r → ∃ b, r = .pl (.bool b)) {f : M RV} : ∀ ρ r ρ' d, mU p f ρ = some (.ok r, ρ') → datOf r ρ' = some d → ∃ b, d = .bool b := by
  intro ρ r ρ' d h e
  rcases bind_some h with ⟨_, _, c⟩ | ⟨r1, ρ1, _, h2⟩
  · cases c
  · obtain ⟨v, _, h3⟩ := dat_bind h2
    obtain ⟨r2, hr, c, rfl⟩ := of_some h3
    cases c
    obtain ⟨b, rfl⟩ := hp _ _ hr
    exact ⟨b, (Option.some.inj e).symm⟩
theorem isC_bool {p : P1} {op : CmpOp} {y : Expr} (h : isC p op y = true) : ∀ d r, p1 p d = some r → ∃ b, r = .pl (.bool b) := by
  unfold isC at h
  split at h <;> first
    | cases h; done
    | exact fun d r e => ⟨_, (Option.some.inj e).symm⟩
    | exact fun d r e => by cases d <;> first | exact ⟨_, (Option.some.inj e).symm⟩ | cases e
theorem rng_dp {K : PySem.W.Frag} {G : Hp} (i : Int) : ∀ m : Nat, DpAll K G ((List.range m).map fun k : Nat => V.int (i + k)) ((List.range m).map fun k : Nat => .int (i + k)) := by
  intro m
  generalize List.range m = l
  induction l with
  | nil => exact .nil
  | cons a r ih => exact .cons (.int _) ih
section
variable {K : PySem.W.Frag} {G H : Hp}
def rSet2 (K : PySem.W.Frag) (P : Program) (w : World) : List V → Hp → VK → Prop := fun vs H Q => rSetI K w vs H Q ∨ rSetT K P w vs H Q
def rSrt2 (K : PySem.W.Frag) (P : Program) (w : World) : List V → Hp → VK → Prop := fun vs H Q => rSortedSet w vs H Q ∨ rSortedT K P w vs H Q
theorem rSetI.imp {w : World} {vs : List V} {Q Q' : VK} (h : rSetI K w vs H Q) (i : ∀ z H', Q z H' → Q' z H') : rSetI K w vs H Q' := by
  obtain ⟨l, ns, e, s, hl, q⟩ := h
  exact ⟨l, ns, e, s, hl, fun a c ha hc => i _ _ (q a c ha hc)⟩
theorem rSetT.imp {P : Program} {w : World} {vs : List V} {Q Q' : VK} (h : rSetT K P w vs H Q) (i : ∀ z H', Q z H' → Q' z H') : rSetT K P w vs H Q' := by
  obtain ⟨l, ks, e, s, hk, hl, q⟩ := h
  exact ⟨l, ks, e, s, hk, hl, fun a c h1 h2 h3 => i _ _ (q a c h1 h2 h3)⟩
theorem intsOf_len : ∀ {xs : List D} {ns : List Int} {vs : List V}, intsOf xs = some ns → DpAll K G vs xs → ns.length = xs.length := fun e h => by
  have a := h.length
  rw [intsOf_vals e h, List.length_map] at a
  exact a
theorem setSort_ask {P : Program} {w : World} {z : V} {d : D} {xs r : List D} {Q : VK} (g : Le G H) (o : OpV K G H z d) (e : itemsOf d = some xs) (e2 : setSortD xs = some r)
    (q : ∀ z' G' H', Ext G H G' H' → ResV K H G' H' z' (.ow (.list r)) → Q z' H') : rSet2 K P w [z] H fun v H1 => rSrt2 K P w [v] H1 Q := by
  unfold setSortD at e2
  split at e2
  · next hl =>
    split at e2
    · next ns e3 =>
      obtain rfl := Option.some.inj e2
      obtain ⟨a, vs, rfl, s, dp⟩ := o.seq g e
      exact .inl ((setSort_ints g o e e3 (by rw [intsOf_len e3 dp]; exact hl) q).imp fun _ _ h => .inl h)
    · obtain ⟨ps, e3, rfl⟩ := Option.map_eq_some_iff.mp e2
      exact .inr ((setSort_pairs g o e e3 hl q).imp fun _ _ h => .inr h)
  · cases e2
end
section
variable {X : Cx}
theorem c_set2 (hc : X.calm = true) (hu : X.A.units + 64 < cLine) : CallR X (.type "set") (rSet2 X.K X.prog X.w) := fun pins s σ H xs us Q I r h =>
  h.elim (c_setI hc pins s σ H xs us Q I r) (c_setT hc hu pins s σ H xs us Q I r)
theorem c_srt2 (hc : X.calm = true) : CallR X (.builtin "sorted") (rSrt2 X.K X.prog X.w) := fun pins s σ H xs us Q I r h =>
  h.elim (cr_sortedSet hc pins s σ H xs us Q I r) (cr_sortedT hc pins s σ H xs us Q I r)
theorem pe_srt2 (hc : X.calm = true) (hu : X.A.units + 64 < cLine) {a : Expr} {te : TE} {p0 p1 p2 p3 : Pos} (hg : Gl X "sorted") (hm : X.mg "sorted" = none) (hg2 : Gl X "set") (hm2 : X.mg "set" = none) (ha : PE X a te) (hs : notStar a = true) :
    PE X (.Call (.Name "sorted" p0) [.Call (.Name "set" p1) [a] [] p2] [] p3) (tCB (rSrt2 X.K X.prog X.w) (tCons (tCB (rSet2 X.K X.prog X.w) (tCons te tNil)) tNil)) := by
  have h1 : PE X (.Call (.Name "set" p1) [a] [] p2) (tCB (rSet2 X.K X.prog X.w) (tCons te tNil)) := pe_callTy (c_set2 hc hu) hg2 hm2 rfl (pa_cons ha pa_nil (star_cons hs)) (by decide) (by decide) (star_cons hs) rfl
  exact pe_callB (c_srt2 hc) hg hm rfl (pa_cons h1 pa_nil (star_cons rfl)) (by decide) (by decide) (star_cons rfl) rfl
end
theorem srt_ok (hc : X.calm = true) (hu : X.A.units + 64 < cLine) {x : Expr} {f : M RV} {p0 q0 q1 p3 : Pos} (hg : Gl X "sorted") (hm : X.mg "sorted" = none) (hg2 : Gl X "set") (hm2 : X.mg "set" = none) (hs : notStar x = true) (hx : PE X x (tE EC X f)) :
    PE X (.Call (.Name "sorted" p0) [.Call (.Name "set" q0) [x] [] q1] [] p3) (tE EC X (mU .setSorted f)) := by
  refine (pe_srt2 hc hu hg hm hg2 hm2 hx hs).imp fun σ H Q q => (step_u q).elim fun le q => ⟨le, ?_⟩
  obtain ⟨FR, G, ρ, τ, out, ρ', h1, h2, h3⟩ := q
  refine ⟨FR, G, ρ, τ, out, ρ', h1, h2, ?_⟩
  cases out with
  | ex e => exact h3
  | ok r =>
    intro z H' G' g hb st
    obtain ⟨G2, d, r2, g2, hv, e, q⟩ := h3 z H' G' g hb st
    obtain ⟨xs, e1, e2⟩ := Option.bind_eq_some_iff.mp (show (itemsOf d).bind (fun xs => (setSortD xs).map fun r => RV.ow (.list r)) = some r2 from e)
    obtain ⟨r, e3, rfl⟩ := Option.map_eq_some_iff.mp e2
    exact setSort_ask g2 hv e1 e3 q
theorem rngL_ok (hc : X.calm = true) {x : Expr} {f : M RV} {p0 q0 q1 p3 : Pos} (hg : Gl X "list") (hm : X.mg "list" = none) (hg2 : Gl X "range") (hm2 : X.mg "range" = none) (hs : notStar x = true) (hx : PE X x (tE EC X f)) :
    PE X (.Call (.Name "list" p0) [.Call (.Name "range" q0) [x] [] q1] [] p3) (tE EC X (mU .rngL f)) := by
  refine (pe_listRg hc hg hm (prg_1 hg2 hm2 hx (star_cons hs)) (star_cons rfl)).imp fun σ H Q q => (step_u q).elim fun le q => ⟨le, ?_⟩
  obtain ⟨FR, G, ρ, τ, out, ρ', h1, h2, h3⟩ := q
  refine ⟨FR, G, ρ, τ, out, ρ', h1, h2, ?_⟩
  cases out with
  | ex e => exact h3
  | ok r =>
    intro z H' G' g hb st
    obtain ⟨G2, d, r2, g2, hv, e, q⟩ := h3 z H' G' g hb st
    cases d with
    | int n =>
      obtain ⟨xs, e2, rfl⟩ := Option.map_eq_some_iff.mp (show (rngD 0 n).map (fun xs => RV.ow (.list xs)) = some r2 from e)
      obtain ⟨⟨c1, c2, c3, c4, c5⟩, rfl, _⟩ := rngD_some e2
      obtain rfl := hv.int
      refine ⟨n, rfl, ⟨c1, c2, c3, c4, by omega⟩, ?_⟩
      exact res_list g2 (rng_dp 0 (n - 0).toNat) q
    | _ => cases e
/-- x[::-1]: a list or a tuple, as the interpreter has found it -/
theorem rev_ok {x : Expr} {f : M RV} {k : Nat} {q1 q2 q3 pos : Pos} (hx : PE X x (tE EC X f)) : PE X (.Subscript x (.Slice none none (some (.UnaryOp .USub (.Constant (.int 1) k q1) q2)) q3) pos) (tE EC X (mU .rev f)) := ⟨fun pins s σ H Q I h => by
  obtain ⟨le, FR, G, ρ, τ, out, ρ', hs, he, hp⟩ := h
  rcases bind_some he with ⟨e, he1, rfl⟩ | ⟨r, ρ1, he1, h2⟩
  · exact (pe_revL hx).run pins s σ H Q I ⟨le, FR, G, ρ, τ, _, _, hs, he1, hp⟩
  obtain ⟨v, hv, h3⟩ := dat_bind h2
  obtain ⟨r', hr, rfl, rfl⟩ := of_some h3
  have res {z' : V} {G' H' G2 H2 : Hp} (g : Le G G') (st : StE X.K le FR G' H' ρ' σ τ) (ext : Ext G' H' G2 H2) (rv : ResV X.K H' G2 H2 z' r') : Q z' H2 := hp z' H2 G2 (g.trans ext.gg) (fun i c => by subst c; exact rv.elim) (st.res ext rv)
  cases v with
  | list ds =>
    cases hr
    refine (pe_revL hx).run pins s σ H Q I (opd hs he1 (fun r2 c z H' G' g got st => ?_) nofun)
    cases c
    obtain ⟨a, vs, rfl, hq, hd⟩ := (GotO.view got st hv).seq st.sub rfl
    rcases hq with ⟨_, hq⟩ | ⟨c, _⟩
    · exact ⟨a, vs, rfl, hq, res_list st.sub hd.rev fun z' G2 H2 ext rv => res g st ext rv⟩
    · cases c
  | tuple ds =>
    cases hr
    refine (pe_revT hx).run pins s σ H Q I (opd hs he1 (fun r2 c z H' G' g got st => ?_) nofun)
    cases c
    obtain ⟨a, vs, rfl, hq, hd⟩ := (GotO.view got st hv).seq st.sub rfl
    rcases hq with ⟨c, _⟩ | ⟨_, hq⟩
    · cases c
    · exact ⟨a, vs, rfl, hq, res_tup st.sub hd.rev fun z' G2 H2 ext rv => res g st ext rv⟩
  | _ => cases hr⟩
theorem viewU_ok (k : Ok C EC gl cf X sc) {p : P1} {e x : Expr} {f : M RV} (h : viewU C sc p e = some x) (hx : PE X x (tE EC X f)) : Both EC X e (plainEv (mU p f)) := by
  unfold viewU at h
  split at h
  · rename_i n1 p0 n2 q0 x0 q1 p3
    by_cases hp : decide (p = .rngL) = true
    · rw [if_pos hp] at h
      obtain ⟨c, rfl⟩ := some_of h
      obtain rfl := of_decide_eq_true hp
      simp only [Bool.and_eq_true] at c
      obtain ⟨⟨c1, c2⟩, c3⟩ := c
      obtain ⟨b1, b2, b3, _, _⟩ := k.bl c1
      obtain ⟨d1, d2, d3, _, _⟩ := k.bl c2
      subst b1; subst d1
      exact both_of (rngL_ok k.calm b2 b3 d2 d3 c3 hx) rfl
    · rw [if_neg hp] at h
      by_cases hp2 : decide (p = .setSorted) = true
      · rw [if_pos hp2] at h
        obtain ⟨c, rfl⟩ := some_of h
        obtain rfl := of_decide_eq_true hp2
        simp only [Bool.and_eq_true] at c
        obtain ⟨⟨c1, c2⟩, c3⟩ := c
        obtain ⟨b1, b2, b3, _, _⟩ := k.bl c1
        obtain ⟨d1, d2, d3, _, _⟩ := k.bl c2
        subst b1; subst d1
        exact both_of (srt_ok k.calm k.units b2 b3 d2 d3 c3 hx) rfl
      rw [if_neg hp2] at h
      obtain ⟨c, q⟩ := some_of h
      subst q
      simp only [Bool.and_eq_true] at c
      obtain ⟨c1, c2⟩ := c
      obtain ⟨b1, b2, b3, b4, b5⟩ := k.bl c2
      subst b1
      exact both_of ((pe_f1 k.calm c1 rfl b2 b3 hx rfl b4 b5).imp fun σ H Q q => (step_u q).elim fun le q => ⟨le, by
        obtain ⟨FR, G, ρ, τ, out, ρ', h1, h2, h3⟩ := q
        refine ⟨FR, G, ρ, τ, out, ρ', h1, h2, ?_⟩
        cases out with
        | ex e => exact h3
        | ok r => exact fun z H' G' g hb st => ⟨z, rfl, h3 z H' G' g hb st⟩⟩) rfl
  · obtain ⟨c, rfl⟩ := some_of h
    simp only [Bool.and_eq_true] at c
    obtain ⟨⟨c1, c2⟩, c3⟩ := c
    obtain ⟨b1, b2, b3, b4, b5⟩ := k.bl c2
    subst b1
    exact both_of ((pe_f1 k.calm c1 rfl b2 b3 hx c3 b4 b5).imp fun σ H Q q => (step_u q).elim fun le q => ⟨le, by
      obtain ⟨FR, G, ρ, τ, out, ρ', h1, h2, h3⟩ := q
      refine ⟨FR, G, ρ, τ, out, ρ', h1, h2, ?_⟩
      cases out with
      | ex e => exact h3
      | ok r => exact fun z H' G' g hb st => ⟨z, rfl, h3 z H' G' g hb st⟩⟩) rfl
  · rename_i f' p' x' y pos
    obtain ⟨c, rfl⟩ := some_of h
    simp only [Bool.and_eq_true] at c
    obtain ⟨⟨c1, c2⟩, c3⟩ := c
    obtain ⟨b1, b2, b3, b4, b5⟩ := k.bl c1
    subst b1
    cases y with
    | Name T pT =>
      simp only [isiT, Bool.and_eq_true] at c2
      obtain ⟨d1, d2⟩ := c2
      obtain ⟨e1, e2, e3, e4, e5⟩ := k.bl d2
      subst e1
      have hb : bootBuiltins (isiName p : String) = some (.type (isiName p)) := by cases p <;> first | rfl | cases d1
      have ht : PE X (.Name (isiName p : String) pT) (tC (.ty (isiName p))) := pe_bltn e2 e3 hb rfl e4 e5
      have hy : notStar (.Name (isiName p : String) pT) = true := rfl
      refine both_of ((pe_callB (c_isi p d1) b2 b3 rfl (pa_cons hx (pa_cons ht pa_nil (star_cons hy)) (star_cons c3)) b4 b5 (star_cons c3) rfl).imp fun σ H Q q => (step_u q).elim fun le q => ⟨le, by
        obtain ⟨FR, G, ρ, τ, out, ρ', h1, h2, h3⟩ := q
        refine ⟨FR, G, ρ, τ, out, ρ', h1, h2, ?_⟩
        cases out with
        | ex e => exact h3
        | ok r => exact fun z H' G' g hb st => ⟨z, rfl, h3 z H' G' g hb st⟩⟩) rfl
    | _ => cases c2
  · obtain ⟨c, rfl⟩ := some_of h
    rename_i op pos
    unfold un1 at c
    split at c
    · exact both_of ((pe_un u_neg hx).imp fun _ _ _ q => step_u q) rfl
    · exact both_of ((pe_un u_inv hx).imp fun _ _ _ q => step_u q) rfl
    · cases c
  · obtain ⟨c, rfl⟩ := some_of h
    rename_i op y pos
    have cb := isC_bool c
    have fin {r : R2} {v : V} (ho : OpR X (compareOp op) r) (hy : PE X y (tC v)) (hm : behindInMarks op y = false) (hr : ∀ x H Q, rP1 X.K p x H Q → r x v H Q) : Both EC X (.Compare x [op] [y] pos) (plainEv (mU p f)) := by
      have get {σ : L2.St} {H : Hp} {Q : VK} (q : tE EC X (mU p f) σ H Q) : tOp r (tE EC X f) (tC v) σ H Q := (step_u q).elim fun le q => ⟨le, by
        obtain ⟨FR, G, ρ, τ, out, ρ', h1, h2, h3⟩ := q
        refine ⟨FR, G, ρ, τ, out, ρ', h1, h2, ?_⟩
        cases out with
        | ex e => exact h3
        | ok r => exact fun z H' G' g hb st => hr _ _ _ (h3 z H' G' g hb st)⟩
      exact ⟨(pe_cmpR ho hx hy hm).imp fun _ _ _ q => get q, (pt_cmpR ho hx hy hm).imp fun _ _ _ q => get (step_tb (mU_bool cb) q)⟩
    unfold isC at c
    split at c
    · exact fin o_isNone pe_non rfl (fun _ _ _ q => And.intro rfl q)
    · exact fin o_notNone pe_non rfl (fun _ _ _ q => And.intro rfl q)
    · exact fin o_isTrue pe_bl rfl (fun _ _ _ q => And.intro rfl q)
    · exact fin o_isFalse pe_bl rfl (fun _ _ _ q => And.intro rfl q)
    · exact fin o_notTrue pe_bl rfl (fun _ _ _ q => And.intro rfl q)
    · exact fin o_notFalse pe_bl rfl (fun _ _ _ q => And.intro rfl q)
    · cases c
  · obtain ⟨c, rfl⟩ := some_of h
    simp only [Bool.and_eq_true] at c
    obtain ⟨c1, c2⟩ := c
    obtain rfl := of_decide_eq_true c1
    obtain rfl := of_decide_eq_true c2
    exact both_of (rev_ok hx) rfl
  · cases h
end
end TK

set_option Elab.async false
set_option linter.all false
set_option maxRecDepth 100000
set_option maxHeartbeats 1000000
/-! TKMat2: more views. -/
namespace TK
open PySem PySem.Spec PyProof.Rows L2
section
variable {C : Cfg} {EC : Nat → Option Addr} {gl : Nat → Option D} {cf : CallF} {X : Cx} {sc : Scope}

/-! ### two operands -/
def op2 : P2 → Operator → Bool
  | .add, .Add => true | .sub, .Sub => true | .mul, .Mult => true | .fdiv, .FloorDiv => true | .mod, .Mod => true | .shl, .LShift => true | .shr, .RShift => true
  | .band, .BitAnd => true | .bor, .BitOr => true | .bxor, .BitXor => true | _, _ => false
def cmp2 : P2 → CmpOp → Bool
  | .lt, .Lt => true | .le, .LtE => true | .gt, .Gt => true | .ge, .GtE => true | .eq, .Eq => true | .ne, .NotEq => true | .inn, .In => true | .notin, .NotIn => true | _, _ => false
theorem op2_ok {p : P2} {op : Operator} (h : op2 p op = true) : OpR X (binaryOp op) (rP2 X.K p) := by
  unfold op2 at h
  split at h
  · exact o_add
  · exact o_sub
  · exact o_mul
  · exact o_fdiv
  · exact o_mod
  · exact o_shl
  · exact o_shr
  · exact o_band
  · exact o_bor
  · exact o_bxor
  · cases h
theorem cmp2_ok (k : Ok C EC gl cf X sc) {p : P2} {op : CmpOp} (h : cmp2 p op = true) : OpR X (compareOp op) (rP2 X.K p) ∧ cmpP p = true := by
  unfold cmp2 at h
  split at h
  · exact ⟨o_lt k.units, rfl⟩
  · exact ⟨o_le, rfl⟩
  · exact ⟨o_gt, rfl⟩
  · exact ⟨o_ge, rfl⟩
  · exact ⟨o_eq k.units, rfl⟩
  · exact ⟨o_ne k.units, rfl⟩
  · exact ⟨o_in k.room, rfl⟩
  · exact ⟨o_notin k.room, rfl⟩
  · cases h
def mm2 (p : P2) : Str := match p with | .max2 => "max" | _ => "min"
def mm2b (p : P2) : Bool := match p with | .max2 => true | .min2 => true | _ => false
def viewB (C : Cfg) (sc : Scope) (p : P2) : Expr → Option (Expr × Expr)
  | .BinOp x op y _ => if op2 p op then some (x, y) else none
  | .Compare x [op] [y] _ => if cmp2 p op && !(behindInMarks op y) then some (x, y) else none
  | .Subscript x y _ => if decide (p = .item) && notSlice y then some (x, y) else none
  | .Call (.Name f _) [x, y] [] _ => if mm2b p && blB C sc f (mm2 p) && notStar x && notStar y then some (x, y) else none
  | _ => none
abbrev mB (p : P2) (f f2 : M RV) : M RV := do
  let r ← f
  let q ← f2
  let v ← M.dat r
  let w ← M.dat q
  M.of (p2 p v w)
theorem mB_bool {p : P2} (hp : cmpP p = true) {f f2 : M RV} : ∀ ρ r ρ' d, mB p f f2 ρ = some (.ok r, ρ') → datOf r ρ' = some d → ∃ b, d = .bool b := by
  intro ρ r ρ' d h e
  rcases bind_some h with ⟨_, _, c⟩ | ⟨r1, ρ1, _, h2⟩
  · cases c
  rcases bind_some h2 with ⟨_, _, c⟩ | ⟨r1, ρ1, _, h2⟩
  · cases c
  · obtain ⟨v, _, h3⟩ := dat_bind h2
    obtain ⟨w, _, h3⟩ := dat_bind h3
    obtain ⟨r2, hr, c, rfl⟩ := of_some h3
    cases c
    obtain ⟨b, rfl⟩ := cmp_bool hp hr
    exact ⟨b, (Option.some.inj e).symm⟩
theorem viewB_ok (k : Ok C EC gl cf X sc) {p : P2} {e x y : Expr} {f f2 : M RV} (h : viewB C sc p e = some (x, y)) (hx : PE X x (tE EC X f)) (hy : PE X y (tE EC X f2)) : Both EC X e (plainEv (mB p f f2)) := by
  unfold viewB at h
  split at h
  · obtain ⟨c, q⟩ := some_of h
    cases q
    exact both_of ((pe_op (op2_ok c) hx hy).imp fun _ _ _ q => step_b q) rfl
  · obtain ⟨c, q⟩ := some_of h
    cases q
    simp only [Bool.and_eq_true, Bool.not_eq_true'] at c
    obtain ⟨c1, c2⟩ := cmp2_ok k c.1
    exact ⟨(pe_cmpR c1 hx hy c.2).imp fun _ _ _ q => step_b q, (pt_cmpR c1 hx hy c.2).imp fun _ _ _ q => step_b (step_tb (mB_bool c2) q)⟩
  · obtain ⟨c, q⟩ := some_of h
    cases q
    simp only [Bool.and_eq_true] at c
    obtain rfl := of_decide_eq_true c.1
    exact both_of ((pe_ix i_item hx hy (notSlice_ix c.2)).imp fun _ _ _ q => step_b q) rfl
  · rename_i f' p' x' y' pos
    obtain ⟨c, q⟩ := some_of h
    cases q
    simp only [Bool.and_eq_true] at c
    obtain ⟨⟨⟨c1, c2⟩, c3⟩, c4⟩ := c
    obtain ⟨b1, b2, b3, b4, b5⟩ := k.bl c2
    subst b1
    have ha := pa_cons hx (pa_cons hy pa_nil (star_cons c4)) (star_cons c3)
    have hpl : (backTo pos (starEach [y] X.env)).any (·.1) = false := star_any (by simp [c4])
    have fin {σ : L2.St} {H : Hp} {Q : VK} (q : tE EC X (mB p f f2) σ H Q) : tCB (fun vs H Q => ∃ x y, vs = [x, y] ∧ rP2 X.K p x y H Q) (tCons (tE EC X f) (tCons (tE EC X f2) tNil)) σ H Q := by
      refine (step_b q).elim fun le q => ⟨le, ?_⟩
      obtain ⟨FR, G, ρ, τ, out, ρ', h1, h2, h3⟩ := q
      refine ⟨FR, G, ρ, τ, out, ρ', h1, h2, ?_⟩
      cases out with
      | ex e => exact h3
      | ok r =>
        intro z H' G' g hb st
        refine (h3 z H' G' g hb st).elim fun le q => ⟨le, ?_⟩
        obtain ⟨FR, G, ρ, τ, out, ρ', h1, h2, h3⟩ := q
        refine ⟨FR, G, ρ, τ, out, ρ', h1, h2, ?_⟩
        cases out with
        | ex e => exact h3
        | ok r => exact fun y' H' G' g hb st => ⟨z, y', rfl, h3 y' H' G' g hb st⟩
    cases p with
    | max2 => exact both_of ((pe_callB (c_max2 k.calm) b2 b3 rfl ha b4 b5 (star_cons c3) hpl).imp fun _ _ _ q => fin q) rfl
    | min2 => exact both_of ((pe_callB (c_min2 k.calm) b2 b3 rfl ha b4 b5 (star_cons c3) hpl).imp fun _ _ _ q => fin q) rfl
    | _ => cases c1
  · cases h

/-! ### and, or, not, if, chains -/
def viewBO (op : BoolOp) : Expr → Option (Expr × Expr)
  | .BoolOp op' (x :: y :: rest) pos => if op' == op then some (x, match rest with | [] => y | r => .BoolOp op' (y :: r) pos) else none
  | _ => none
theorem boolOp_eq {a b : BoolOp} (h : (a == b) = true) : a = b := by
  cases a <;> cases b <;> first | rfl | exact absurd h (by decide)
theorem pw_of {op : BoolOp} {es : List Expr} {pos : Pos} {t : TT} (h : PT X (.BoolOp op es pos) t) : PW X (.BoolOp op es pos) t := ⟨fun _ pins s σ H Q I q => h.run pins s σ H Q I q⟩
theorem viewAnd_ok {e x y : Expr} {m m2 : Ev} (h : viewBO .And e = some (x, y)) (hx : Both EC X x m) (hy : Both EC X y m2) : Both EC X e (do
      let r ← m.1
      let v ← M.dat r
      match v with
        | .bool true => m2.1
        | .bool false => M.ret (.pl (.bool false))
        | _ => M.stuck,
    do
      let t ← m.2
      if t then m2.2 else M.ret false) := by
  unfold viewBO at h
  split at h
  · rename_i op' x' y' rest pos
    obtain ⟨c, q⟩ := some_of h
    obtain rfl := boolOp_eq c
    obtain ⟨rfl, rfl⟩ := Prod.mk.inj q
    cases rest with
    | nil => exact ⟨(pe_and hx.1 (pe_one hy.1)).imp fun _ _ _ q => step_and q, (pw_and hx.2 (pw_and1 hy.2)).pt.imp fun _ _ _ q => step_andT q⟩
    | cons z zs => exact ⟨(pe_and hx.1 hy.1).imp fun _ _ _ q => step_and q, (pw_and hx.2 (pw_of hy.2)).pt.imp fun _ _ _ q => step_andT q⟩
  · cases h
theorem viewOr_ok {e x y : Expr} {m m2 : Ev} (h : viewBO .Or e = some (x, y)) (hx : Both EC X x m) (hy : Both EC X y m2) : Both EC X e (do
      let r ← m.1
      let v ← M.dat r
      match v with
        | .bool true => M.ret (.pl (.bool true))
        | .bool false => m2.1
        | _ => M.stuck,
    do
      let t ← m.2
      if t then M.ret true else m2.2) := by
  unfold viewBO at h
  split at h
  · rename_i op' x' y' rest pos
    obtain ⟨c, q⟩ := some_of h
    obtain rfl := boolOp_eq c
    obtain ⟨rfl, rfl⟩ := Prod.mk.inj q
    cases rest with
    | nil => exact ⟨(pe_or hx.1 (pe_one hy.1)).imp fun _ _ _ q => step_or q, (pw_or hx.2 (pw_or1 hy.2)).pt.imp fun _ _ _ q => step_orT q⟩
    | cons z zs => exact ⟨(pe_or hx.1 hy.1).imp fun _ _ _ q => step_or q, (pw_or hx.2 (pw_of hy.2)).pt.imp fun _ _ _ q => step_orT q⟩
  · cases h
theorem pe_notT {a : Expr} {ta : TE} {pos : Pos} (ha : PE X a ta) : PE X (.UnaryOp .Not a pos) (fun σ H Q => ta σ H fun x H1 => ∃ k, TruV X.K x H1 k ∧ Q (.bl (!k)) H1) := by
  refine ⟨fun pins s σ H Q I h => ?_⟩
  refine UnaryOp_ (thn (ha.run pins s σ H _ I h) fun v s1 ⟨x, H1, I1, r1, q1⟩ => ?_)
  refine not_of (thn (tru_ok pins s1 σ H1 x v (fun b H2 => Q (.bl (!b)) H2) I1 r1 q1) fun b s2 ⟨H2, I2, q2⟩ => ?_)
  exact ⟨.bl (!b), H2, I2, rfl, q2⟩
def viewNot : Expr → Option Expr
  | .UnaryOp .Not x _ => some x
  | _ => none
theorem viewNot_ok {e x : Expr} {m : Ev} (h : viewNot e = some x) (hx : Both EC X x m) : Both EC X e (do
      let t ← tMx m.1
      M.ret (.pl (.bool (!t))),
    do
      let t ← m.2
      M.ret (!t)) := by
  unfold viewNot at h
  split at h
  · cases h
    exact ⟨(pe_notT hx.1).imp fun _ _ _ q => step_not q, (pt_not hx.2).imp fun _ _ _ q => step_notT q⟩
  · cases h
def viewIte : Expr → Option (Expr × Expr × Expr)
  | .IfExp t a b _ => some (t, a, b)
  | _ => none
theorem pt_ifExp {c a b : Expr} {tA tB tC : TT} {pos : Pos} (hc : PT X c tA) (ha : PT X a tB) (hb : PT X b tC) : PT X (.IfExp c a b pos) (fun σ H Q => tA σ H fun c H1 => if c = true then tB σ H1 Q else tC σ H1 Q) := by
  refine ⟨fun pins s σ H Q I h => ?_⟩
  show wpAny _ _ (do if ← isTrue c X.env (eval c X.env) then isTrue a X.env (eval a X.env) else isTrue b X.env (eval b X.env)) _ _ _
  refine wpAny_bind (thn (hc.run pins s σ H _ I h) fun d s1 ⟨H1, I1, q1⟩ => ?_)
  cases d with
  | true => exact ha.run pins s1 σ H1 Q I1 q1
  | false => exact hb.run pins s1 σ H1 Q I1 q1
theorem viewIte_ok {e t a b : Expr} {m m2 m3 : Ev} (h : viewIte e = some (t, a, b)) (ht : Both EC X t m) (ha : Both EC X a m2) (hb : Both EC X b m3) : Both EC X e (do
      let k ← m.2
      if k then m2.1 else m3.1,
    do
      let k ← m.2
      if k then m2.2 else m3.2) := by
  unfold viewIte at h
  split at h
  · cases h
    exact ⟨(pe_ifExp ht.2 ha.1 hb.1).imp fun _ _ _ q => step_ite q, (pt_ifExp ht.2 ha.2 hb.2).imp fun _ _ _ q => step_iteT q⟩
  · cases h
def viewCh (p q : P2) : Expr → Option (Expr × Expr × Expr)
  | .Compare x [op, op'] [y, z] _ => if cmp2 p op && cmp2 q op' && !(lastMarks [op, op'] [y, z]) then some (x, y, z) else none
  | _ => none
abbrev mCh (p q : P2) (fa fb fc : M RV) : M RV := do
      let r ← fa
      let r2 ← fb
      let v ← M.dat r
      let w ← plainM r2
      let z ← M.of (p2 p v w)
      match z with
        | .pl (.bool true) => do
          let r3 ← fc
          let u ← M.dat r3
          M.of (p2 q w u)
        | .pl (.bool false) => M.ret (.pl (.bool false))
        | _ => M.stuck
theorem mCh_bool {p q : P2} (hp : cmpP p = true) (hq : cmpP q = true) {fa fb fc : M RV} : ∀ ρ r ρ' d, mCh p q fa fb fc ρ = some (.ok r, ρ') → datOf r ρ' = some d → ∃ b, d = .bool b := by
  intro ρ r ρ' d h e
  rcases bind_some h with ⟨_, _, c⟩ | ⟨r1, ρ1, _, h2⟩
  · cases c
  rcases bind_some h2 with ⟨_, _, c⟩ | ⟨r1, ρ1, _, h2⟩
  · cases c
  obtain ⟨v, _, h3⟩ := dat_bind h2
  obtain ⟨w, _, _, h4⟩ := plain_bind h3
  obtain ⟨z, hz, h5⟩ := of_bind h4
  obtain ⟨b, rfl⟩ := cmp_bool hp hz
  cases b with
  | true =>
    rcases bind_some (show _ = some (Out.ok r, ρ') from h5) with ⟨_, _, c⟩ | ⟨r3, ρ3, _, h6⟩
    · cases c
    · obtain ⟨u, _, h7⟩ := dat_bind h6
      obtain ⟨r2, hr, c, rfl⟩ := of_some h7
      cases c
      obtain ⟨b, rfl⟩ := cmp_bool hq hr
      exact ⟨b, (Option.some.inj e).symm⟩
  | false =>
    obtain ⟨c, rfl⟩ := ret_some h5
    cases c
    exact ⟨false, (Option.some.inj e).symm⟩
theorem viewCh_ok (k : Ok C EC gl cf X sc) {p q : P2} {e x y z : Expr} {fa fb fc : M RV} (h : viewCh p q e = some (x, y, z)) (hx : PE X x (tE EC X fa)) (hy : PE X y (tE EC X fb)) (hz : PE X z (tE EC X fc)) : Both EC X e (plainEv (mCh p q fa fb fc)) := by
  unfold viewCh at h
  split at h
  · obtain ⟨c, qq⟩ := some_of h
    cases qq
    simp only [Bool.and_eq_true, Bool.not_eq_true'] at c
    obtain ⟨c1, c2⟩ := cmp2_ok k c.1.1
    obtain ⟨d1, d2⟩ := cmp2_ok k c.1.2
    exact ⟨(pe_chain c1 d1 hx hy hz c.2).imp fun _ _ _ q => step_chain c2 q, (pt_chain c1 d1 hx hy hz c.2).imp fun _ _ _ q => step_chain c2 (step_tb (mCh_bool c2 d2) q)⟩
  · cases h

/-! ### displays, slices, calls, pops -/
def viewTup : Expr → Option (List Expr)
  | .Tuple xs _ _ => some xs
  | _ => none
def viewLst : Expr → Option (List Expr)
  | .List xs _ => some xs
  | _ => none
def exsLen : Exs → Nat
  | .nil => 0
  | .cons _ r => exsLen r + 1
theorem evs_len : ∀ {es : Exs} {ρ ρ' : En} {vs : List D}, evs gl cf es ρ = some (.ok vs, ρ') → vs.length = exsLen es
  | .nil, ρ, ρ', vs, h => by
    unfold evs at h
    obtain ⟨c, _⟩ := ret_some h
    cases c; rfl
  | .cons e es, ρ, ρ', vs, h => by
    unfold evs at h
    rcases bind_some h with ⟨_, _, c⟩ | ⟨r1, ρ1, _, h2⟩
    · cases c
    obtain ⟨v, _, _, h3⟩ := plain_bind h2
    rcases bind_some h3 with ⟨_, _, c⟩ | ⟨vs', ρ2, h4, h5⟩
    · cases c
    obtain ⟨c, _⟩ := ret_some h5
    cases c
    show vs'.length + 1 = exsLen es + 1
    rw [evs_len h4]
theorem step_tup' {σ : L2.St} {H : Hp} {es : Exs} (hz : exsLen es ≤ 1000) {Q : VK} (h : tE EC X (do
      let vs ← evs gl cf es
      M.ret (.pl (.tuple vs))) σ H Q) : tTup (tD EC X (evs gl cf es)) σ H Q := by
  obtain ⟨le, FR, G, ρ, τ, out, ρ', hs, he, hp⟩ := h
  rcases bind_some he with ⟨e, he1, rfl⟩ | ⟨vs, ρ1, he1, h2⟩
  · exact ⟨le, FR, G, ρ, τ, _, _, hs, he1, hp⟩
  · obtain ⟨rfl, rfl⟩ := ret_some h2
    refine ⟨le, FR, G, ρ, τ, _, _, hs, he1, fun zs H1 G1 g1 q st => ⟨by rw [q.length, evs_len he1, ← line_eq]; omega, fun p np => ?_⟩⟩
    have gp := st.sub.none np
    exact hp _ _ _ (g1.trans (le_upd gp)) (fun i c => nomatch c) (st.res (Ext.newT st.sub np) (show Dp X.K _ (.ref p) (.tuple vs) from .tup (.inl (.inl upd_same)) (q.mono (le_upd gp) _ _)))
theorem step_lst' {σ : L2.St} {H : Hp} {es : Exs} (hz : exsLen es ≤ 1000) {Q : VK} (h : tE EC X (do
      let vs ← evs gl cf es
      M.ret (.ow (.list vs))) σ H Q) : tLst (tD EC X (evs gl cf es)) σ H Q := by
  obtain ⟨le, FR, G, ρ, τ, out, ρ', hs, he, hp⟩ := h
  rcases bind_some he with ⟨e, he1, rfl⟩ | ⟨vs, ρ1, he1, h2⟩
  · exact ⟨le, FR, G, ρ, τ, _, _, hs, he1, hp⟩
  · obtain ⟨rfl, rfl⟩ := ret_some h2
    refine ⟨le, FR, G, ρ, τ, _, _, hs, he1, fun zs H1 G1 g1 q st => ⟨by rw [q.length, evs_len he1, ← line_eq]; omega, fun p np => ?_⟩⟩
    exact hp _ _ _ g1 (fun i c => nomatch c) (st.res (Ext.newL st.sub np) (show ResV X.K _ _ _ (.ref p) (.ow (.list vs)) from ⟨p, rfl, np, st.sub.none np, _, upd_same, q⟩))
theorem viewTup_ok {e : Expr} {xs : List Expr} {es : Exs} (h : viewTup e = some xs) (hz : exsLen es ≤ 1000) (ha : PA X xs (tD EC X (evs gl cf es))) : Both EC X e (plainEv (do
      let vs ← evs gl cf es
      M.ret (.pl (.tuple vs)))) := by
  unfold viewTup at h
  split at h
  · cases h
    exact both_of ((pe_tup ha).imp fun _ _ _ q => step_tup' hz q) rfl
  · cases h
theorem viewLst_ok {e : Expr} {xs : List Expr} {es : Exs} (h : viewLst e = some xs) (hz : exsLen es ≤ 1000) (ha : PA X xs (tD EC X (evs gl cf es))) : Both EC X e (plainEv (do
      let vs ← evs gl cf es
      M.ret (.ow (.list vs)))) := by
  unfold viewLst at h
  split at h
  · cases h
    exact both_of ((pe_lst ha).imp fun _ _ _ q => step_lst' hz q) rfl
  · cases h
def viewSl : Expr → Option (Expr × Option Expr × Option Expr)
  | .Subscript x (.Slice lo hi none _) _ => some (x, lo, hi)
  | _ => none
theorem viewSl_ok {e x : Expr} {lo hi : Option Expr} {f : M RV} {g k : M (Option D)} (h : viewSl e = some (x, lo, hi)) (hx : PE X x (tE EC X f)) (hl : PO X lo (tO EC X g)) (hh : PO X hi (tO EC X k)) : Both EC X e (plainEv (do
      let r ← f
      let l ← g
      let h ← k
      let v ← M.dat r
      M.of (slcD v l h))) := by
  unfold viewSl at h
  split at h
  · cases h
    exact both_of ((pe_slice s_slc hx hl hh).imp fun _ _ _ q => step_slc q) rfl
  · cases h
def viewCall (C : Cfg) (sc : Scope) (f : Nat) : Expr → Option (List Expr)
  | .Call (.Name x _) es [] _ => if decide (C.fnm[f]? = some x) && glB sc x && nmOk x && es.all notStar then some es else none
  | _ => none
theorem viewCall_ok (k : Ok C EC gl cf X sc) {f : Nat} {e : Expr} {xs : List Expr} {g : M (List RV)} (h : viewCall C sc f e = some xs) (ha : PA X xs (tR EC X g)) (hg : xs = [] → g = M.ret []) : Both EC X e (plainEv (do
      let rs ← g
      callM cf f rs)) := by
  unfold viewCall at h
  split at h
  · obtain ⟨c, q⟩ := some_of h
    cases q
    simp only [Bool.and_eq_true] at c
    obtain ⟨⟨⟨c1, c2⟩, c3⟩, c4⟩ := c
    obtain ⟨n1, n2, n3⟩ := nmOk_ok c3
    obtain ⟨kk, fa, fd, ps, h1, h2, h3, h4, h5⟩ := k.fn f _ (of_decide_eq_true c1)
    cases xs with
    | nil =>
      rw [hg rfl]
      exact both_of (pe_callT0 h5 h4 (k.gLo c2) h1 h2 h3 n1) rfl
    | cons y ys =>
      simp only [List.all_cons, Bool.and_eq_true] at c4
      exact both_of (pe_callT h5 h4 (k.gLo c2) h1 h2 h3 ha n1 (star_cons c4.1) (star_any c4.2)) rfl
  · cases h
/-- a method of a list at a place -/
def viewM (C : Cfg) (sc : Scope) (i : Nat) (m : Str) : Expr → Option Expr
  | .Call (.Attribute o a apos) [x] [] cpos => if viewN C sc i o && decide (a = m) && notStar x && (apos.endLine == cpos.line) then some x else none
  | _ => none
theorem bm_few {e : Expr} {cpos : Pos} {env : Env} (h : notStar e = true) : ((backTo cpos (starEach [e] env)).all (fun x => !x.1) && (backToKw cpos (keywordEach [] env)).all (fun x => x.1.isSome)
      && decide ([e].length + ([] : List Keyword).length + (if ([] : List Keyword).isEmpty then 0 else 1) < 30)) = true := by
  rw [star_cons h]; rfl
theorem viewM_ok (k : Ok C EC gl cf X sc) {i : Nat} {m : Str} {id : String} {e x : Expr} {te : TE} {r : V → List V → Hp → VK → Prop} (slot : Slot "list" m id) (hty : typeOf (.builtin id) = pure (.type "method_descriptor")) (hm : MtR X id r)
    (h : viewM C sc i m e = some x) (hx : PE X x te) : PE X e (tBM X.K "list" r (tVar i) (tCons te tNil)) ∧ plainT e = true := by
  unfold viewM at h
  split at h
  · rename_i o a apos y cpos
    obtain ⟨c, q⟩ := some_of h
    cases q
    simp only [Bool.and_eq_true] at c
    obtain ⟨⟨⟨c1, c2⟩, c3⟩, c4⟩ := c
    obtain rfl := of_decide_eq_true c2
    have ho := (viewN_ok k c1).1
    have hbase : attributeBase o a X.env (eval o X.env) = eval o X.env := by cases o <;> first | rfl | cases c1
    exact ⟨pe_bm PySem.F.plainAttrs_list slot hty hm ho (pa_cons hx pa_nil (star_cons c3)) hbase (bm_few c3) c4 (star_cons c3) rfl, rfl⟩
  · cases h
theorem viewPop_ok (k : Ok C EC gl cf X sc) {i : Nat} {e x : Expr} {f : M RV} (h : viewM C sc i "pop" e = some x) (hx : PE X x (tE EC X f)) : Both EC X e (plainEv (do
      chkL i
      let r ← f
      let v ← M.dat r
      let k ← intM v
      popM i k)) := by
  obtain ⟨h1, h2⟩ := viewM_ok k PySem.F.slot_list_pop PySem.F.type_list_pop mt_popAt h hx
  exact both_of (h1.imp fun _ _ _ q => step_pop q) h2
end
end TK

set_option Elab.async false
set_option linter.all false
set_option maxRecDepth 100000
set_option maxHeartbeats 1000000
/-! TKMat3: targets, comprehensions, iterables; the check of expressions is sound. -/
namespace TK
open PySem PySem.Spec PyProof.Rows L2

/-! ### targets -/
def locB (sc : Scope) (fnb : Str → Bool) (x : Str) : Bool := match sc.names.lookup x with
  | some .local => true
  | some .cell => fnb x
  | _ => false
mutual
def mTg (C : Cfg) (sc : Scope) (fnb : Str → Bool) : Tg → Expr → Bool
  | .nm i, .Name x _ => decide (C.N[i]? = some x) && locB sc fnb x
  | .tp ts, .Tuple es _ _ => mTgs C sc fnb ts es
  | _, _ => false
def mTgs (C : Cfg) (sc : Scope) (fnb : Str → Bool) : Tgs → List Expr → Bool
  | .nil, [] => true
  | .cons t r, e :: es => notStar e && mTg C sc fnb t e && mTgs C sc fnb r es
  | _, _ => false
end
section
variable {C : Cfg} {EC : Nat → Option Addr} {gl : Nat → Option D} {cf : CallF} {X : Cx} {sc : Scope} {fnb : Str → Bool}
theorem locB_ok {x : Str} (h : locB sc fnb x = true) (hs : X.env.scope = sc) (hf : X.fn = fnb) : L2.Loc X.env.scope x ∧ (X.fn x = true ∨ X.env.scope.names.lookup x = some .local) := by
  unfold locB at h
  unfold L2.Loc
  rw [hs, hf]
  cases e : sc.names.lookup x with
  | none => rw [e] at h; cases h
  | some k => rw [e] at h; cases k <;> first | exact ⟨.inl rfl, .inr rfl⟩ | exact ⟨.inr rfl, .inl h⟩ | cases h
theorem assign_cons {e : Expr} {es : List Expr} {env : Env} (h : notStar e = true) : assignEach (e :: es) env = (false, assign e env) :: assignEach es env := by
  cases e <;> first | rfl | cases h
theorem mTgs_len : ∀ {ts : Tgs} {es : List Expr} {env : Env}, mTgs C sc fnb ts es = true → (assignEach es env).length = tgsLen ts ∧ (assignEach es env).findIdx? (·.1) = none
  | .nil, [], env, _ => ⟨rfl, rfl⟩
  | .nil, _ :: _, _, h => by unfold mTgs at h; cases h
  | .cons _ _, [], _, h => by unfold mTgs at h; cases h
  | .cons t r, e :: es, env, h => by
    unfold mTgs at h
    simp only [Bool.and_eq_true] at h
    rw [assign_cons h.1.1]
    obtain ⟨h1, h2⟩ := mTgs_len (env := env) h.2
    refine ⟨by rw [List.length_cons, h1]; rfl, ?_⟩
    rw [List.findIdx?_cons, h2]; rfl
mutual
theorem mTg_ok (hN : X.N = C.N) (nd : C.N.Nodup) (hs : X.env.scope = sc) (hf : X.fn = fnb) (hc : X.calm = true) : ∀ (t : Tg) (e : Expr), mTg C sc fnb t e = true → PG X e (gT X.K t)
  | .nm i, e, h => by
    cases e with
    | Name x p =>
      unfold mTg at h
      simp only [Bool.and_eq_true] at h
      obtain ⟨h1, h2⟩ := locB_ok h.2 hs hf
      have := pg_name (X := X) (pos := p) (by rw [hN]; exact nd) (by rw [hN]; exact of_decide_eq_true h.1) h1 h2
      exact ⟨fun pins s σ H v u Q I r q => this.run pins s σ H v u Q I r (step_g_nm q)⟩
    | _ => unfold mTg at h; cases h
  | .tp ts, e, h => by
    cases e with
    | Tuple es k p =>
      unfold mTg at h
      have hs' := mTgs_ok hN nd hs hf hc ts es h
      obtain ⟨l1, l2⟩ := mTgs_len (env := X.env) h
      have p1 := pg_tup (k := k) (pos := p) hc hs' l1 l2
      have p2 := pg_lst (k := k) (pos := p) hc hs' l1 l2
      exact ⟨fun pins s σ H v u Q I r q => (step_g_tp q).elim (p1.run pins s σ H v u Q I r) (p2.run pins s σ H v u Q I r)⟩
    | _ => unfold mTg at h; cases h
theorem mTgs_ok (hN : X.N = C.N) (nd : C.N.Nodup) (hs : X.env.scope = sc) (hf : X.fn = fnb) (hc : X.calm = true) : ∀ (ts : Tgs) (es : List Expr), mTgs C sc fnb ts es = true → PGs X es (gTs X.K ts)
  | .nil, es, h => by
    cases es with
    | nil => exact ⟨fun pins s σ H v u Q I r q => pgs_nil.run pins s σ H v u Q I r (step_gs_nil q)⟩
    | cons _ _ => unfold mTgs at h; cases h
  | .cons t r, es, h => by
    cases es with
    | nil => unfold mTgs at h; cases h
    | cons e es =>
      unfold mTgs at h
      simp only [Bool.and_eq_true] at h
      have h1 := mTg_ok hN nd hs hf hc t e h.1.2
      have h2 := mTgs_ok hN nd hs hf hc r es h.2
      have := pgs_cons h1 h2 (by rw [assign_cons h.1.1]; rfl)
      exact ⟨fun pins s σ H v u Q I r q => this.run pins s σ H v u Q I r (step_gs_cons q)⟩
end
end

/-! ### iterables -/
def isTupE : Expr → Bool
  | .Tuple .. => true
  | _ => false
def viewI1 (C : Cfg) (sc : Scope) (n : Str) : Expr → Option Expr
  | .Call (.Name f _) [x] [] _ => if blB C sc f n && notStar x then some x else none
  | _ => none
def viewI2 (C : Cfg) (sc : Scope) (n : Str) : Expr → Option (Expr × Expr)
  | .Call (.Name f _) [x, y] [] _ => if blB C sc f n && notStar x && notStar y then some (x, y) else none
  | _ => none
theorem viewI1_ok {C : Cfg} {EC : Nat → Option Addr} {gl : Nat → Option D} {cf : CallF} {X : Cx} {sc : Scope} (k : Ok C EC gl cf X sc) {n : Str} {e x : Expr} (h : viewI1 C sc n e = some x) : ∃ p pos, e = .Call (.Name n p) [x] [] pos ∧ Gl X n ∧ X.mg n = none ∧ notStar x = true := by
  unfold viewI1 at h
  split at h
  · obtain ⟨c, q⟩ := some_of h
    cases q
    simp only [Bool.and_eq_true] at c
    obtain ⟨b1, b2, b3, b4, b5⟩ := k.bl c.1
    subst b1
    exact ⟨_, _, rfl, b2, b3, c.2⟩
  · cases h
theorem viewI2_ok {C : Cfg} {EC : Nat → Option Addr} {gl : Nat → Option D} {cf : CallF} {X : Cx} {sc : Scope} (k : Ok C EC gl cf X sc) {n : Str} {e x y : Expr} (h : viewI2 C sc n e = some (x, y)) : ∃ p pos, e = .Call (.Name n p) [x, y] [] pos ∧ Gl X n ∧ X.mg n = none ∧ notStar x = true ∧ notStar y = true := by
  unfold viewI2 at h
  split at h
  · obtain ⟨c, q⟩ := some_of h
    cases q
    simp only [Bool.and_eq_true] at c
    obtain ⟨b1, b2, b3, b4, b5⟩ := k.bl c.1.1
    subst b1
    exact ⟨_, _, rfl, b2, b3, c.1.2, c.2⟩
  · cases h

/-! ### comprehensions -/
def ownOf (C : Cfg) (vs : List Nat) : List (Str × Nat) := vs.map fun i => (C.N.getD i "", i)
theorem ownOf_snd {C : Cfg} (vs : List Nat) : (ownOf C vs).map (·.2) = vs := by
  unfold ownOf
  rw [List.map_map]
  induction vs with
  | nil => rfl
  | cons a r ih => rw [List.map_cons, ih]; rfl
def viewLc (C : Cfg) (sc : Scope) (vs : List Nat) : Expr → Option (Expr × Expr × Expr × Option Expr × Scope)
  | .ListComp elt [⟨tg, iter, ifs, a⟩] scope _ => if decide (a = 0) && blkC C.N sc scope (ownOf C vs) && notSet iter && decide (ifs.length ≤ 1) then some (elt, tg, iter, ifs.head?, scope) else none
  | _ => none
def viewLc2 (C : Cfg) (sc : Scope) (vs : List Nat) : Expr → Option (Expr × (Expr × Expr × Option Expr) × (Expr × Expr × Option Expr) × Scope)
  | .ListComp elt [⟨tg, iter, ifs, a⟩, ⟨tg1, iter1, ifs1, a1⟩] scope _ => if decide (a = 0) && decide (a1 = 0) && blkC C.N sc scope (ownOf C vs) && notSet iter && notSet iter1 && decide (ifs.length ≤ 1) && decide (ifs1.length ≤ 1) then some (elt, (tg, iter, ifs.head?), (tg1, iter1, ifs1.head?), scope) else none
  | _ => none
def viewIx2 (C : Cfg) (sc : Scope) (i : Nat) : Expr → Option (Expr × Expr)
  | .Subscript (.Subscript o s _) t _ => if viewN C sc i o && notSlice s && notSlice t then some (s, t) else none
  | _ => none
def fnOf (scope : Scope) : Str → Bool := fun x => scope.names.lookup x == some .cell

mutual
def mE (C : Cfg) (sc : Scope) : Ex → Expr → Bool
  | .var i, e => viewN C sc i e
  | .frz i, e => viewN C sc i e
  | .take i, e => viewN C sc i e
  | .bor i, e => viewN C sc i e
  | .cst d, e => viewC d e
  | .glb g, e => viewG C sc g e
  | .u p a, e => match viewU C sc p e with
    | some x => mE C sc a x
    | none => false
  | .b p a b, e => match viewB C sc p e with
    | some (x, y) => mE C sc a x && mE C sc b y
    | none => false
  | .slc a lo hi, e => match viewSl e with
    | some (x, l, h) => mE C sc a x && mO C sc lo l && mO C sc hi h
    | none => false
  | .and a b, e => match viewBO .And e with
    | some (x, y) => mE C sc a x && mE C sc b y
    | none => false
  | .or a b, e => match viewBO .Or e with
    | some (x, y) => mE C sc a x && mE C sc b y
    | none => false
  | .not a, e => match viewNot e with
    | some x => mE C sc a x
    | none => false
  | .ite t a b, e => match viewIte e with
    | some (x, y, z) => mE C sc t x && mE C sc a y && mE C sc b z
    | none => false
  | .chain p q a b c, e => match viewCh p q e with
    | some (x, y, z) => mE C sc a x && mE C sc b y && mE C sc c z
    | none => false
  | .tup es, e => match viewTup e with
    | some xs => mEs C sc es xs && decide (exsLen es ≤ 1000)
    | none => false
  | .lst es, e => match viewLst e with
    | some xs => mEs C sc es xs && decide (exsLen es ≤ 1000)
    | none => false
  | .call f es, e => match viewCall C sc f e with
    | some xs => mEs C sc es xs
    | none => false
  | .popAt i a, e => match viewM C sc i "pop" e with
    | some x => mE C sc a x
    | none => false
  | .item2 i a b, e => match viewIx2 C sc i e with
    | some (x, y) => mE C sc a x && mE C sc b y
    | none => false
  | .comp vs tg it cd elt, e => match viewLc C sc vs e with
    | some (elt', tg', it', cd', scope) => mTg C (relS scope sc) (fnOf scope) tg tg' && (tgNames tg).all (fun i => vs.contains i) && mI C sc it tg' it' && mO C (relS scope sc) cd cd' && mE C (relS scope sc) elt elt'
    | none => false
  | .comp2 vs vs1 tg it cd tg1 it1 cd1 elt, e => match viewLc2 C sc vs e with
    | some (elt', (tg', it', cd'), (tg1', it1', cd1'), scope) => mTg C (relS scope sc) (fnOf scope) tg tg' && (tgNames tg).all (fun i => vs.contains i) && mI C sc it tg' it' && mO C (relS scope sc) cd cd' &&
      mTg C (relS scope sc) (fnOf scope) tg1 tg1' && (tgNames tg1).all (fun i => vs1.contains i) && vs1.all (fun i => vs.contains i) && mI C (relS scope sc) it1 tg1' it1' && mO C (relS scope sc) cd1 cd1' && mE C (relS scope sc) elt elt'
    | none => false
def mEs (C : Cfg) (sc : Scope) : Exs → List Expr → Bool
  | .nil, [] => true
  | .cons a es, x :: xs => notStar x && mE C sc a x && mEs C sc es xs
  | _, _ => false
def mO (C : Cfg) (sc : Scope) : Exo → Option Expr → Bool
  | .no, none => true
  | .so a, some x => mE C sc a x
  | _, _ => false
def mI (C : Cfg) (sc : Scope) : It → Expr → Expr → Bool
  | .ex a, _, e => mE C sc a e
  | .rng1 a, _, e => match viewI1 C sc "range" e with
    | some x => mE C sc a x
    | none => false
  | .rng2 a b, _, e => match viewI2 C sc "range" e with
    | some (x, y) => mE C sc a x && mE C sc b y
    | none => false
  | .enum a, tg, e => match viewI1 C sc "enumerate" e with
    | some x => isTupE tg && mE C sc a x
    | none => false
  | .zip2 a b, tg, e => match viewI2 C sc "zip" e with
    | some (x, y) => isTupE tg && mE C sc a x && mE C sc b y
    | none => false
end

section
variable {C : Cfg} {EC : Nat → Option Addr} {gl : Nat → Option D} {cf : CallF}
theorem Ok.blk {X : Cx} {sc : Scope} (k : Ok C EC gl cf X sc) (s : Shared) (H : Hp) (scope : Scope) (A : Addr) (cl : List (Str × Addr)) (fp : List Addr) : Ok C EC gl cf (X.blk s H scope (compEnvC scope cl A X.env) fp) (relS scope sc) :=
  ⟨k.N, k.nd, by rw [← k.sc]; rfl, k.calm, k.room, k.bn, k.gn, k.fn⟩
theorem one_of {α : Type} {l : List α} (h : l.length ≤ 1) : l = l.head?.toList := by
  cases l with
  | nil => rfl
  | cons a r => cases r with
    | nil => rfl
    | cons b r => simp at h
theorem PTs.imp' {X : Cx} {es : List Expr} {t t' : TT} (h : PTs X es t) (i : ∀ σ H Q, t' σ H Q → t σ H Q) : PTs X es t' := ⟨fun pins s σ H Q I q => h.run pins s σ H Q I (i σ H Q q)⟩
theorem PO.imp' {X : Cx} {e : Option Expr} {t t' : TO} (h : PO X e t) (i : ∀ σ H Q, t' σ H Q → t σ H Q) : PO X e t' := ⟨fun pins s σ H Q I q => h.run pins s σ H Q I (i σ H Q q)⟩
theorem all_mem {vs : List Nat} {l : List Nat} (h : l.all (fun i => vs.contains i) = true) : ∀ i ∈ l, i ∈ vs := fun i hi => List.contains_iff_mem.mp (List.all_eq_true.mp h i hi)
mutual
theorem sE : ∀ (a : Ex) {X : Cx} {sc : Scope} {e : Expr}, Ok C EC gl cf X sc → mE C sc a e = true → Both EC X e (ev gl cf a)
  | .var i, X, sc, e, k, h => by
    unfold mE at h
    obtain ⟨h1, h2⟩ := viewN_ok k h
    exact both_of (h1.imp fun _ _ _ q => step_var q) h2
  | .frz i, X, sc, e, k, h => by
    unfold mE at h
    obtain ⟨h1, h2⟩ := viewN_ok k h
    exact both_of (h1.imp fun _ _ _ q => step_frz q) h2
  | .take i, X, sc, e, k, h => by
    unfold mE at h
    obtain ⟨h1, h2⟩ := viewN_ok k h
    exact both_of (h1.imp fun _ _ _ q => step_take q) h2
  | .bor i, X, sc, e, k, h => by
    unfold mE at h
    obtain ⟨h1, h2⟩ := viewN_ok k h
    exact both_of (h1.imp fun _ _ _ q => step_bor q) h2
  | .cst d, X, sc, e, k, h => by
    unfold mE at h
    exact viewC_ok h
  | .glb g, X, sc, e, k, h => by
    unfold mE at h
    exact viewG_ok k h
  | .u p a, X, sc, e, k, h => by
    unfold mE at h
    split at h
    · rename_i x hv
      exact viewU_ok k hv (sE a k h).1
    · cases h
  | .b p a b, X, sc, e, k, h => by
    unfold mE at h
    split at h
    · rename_i x y hv
      simp only [Bool.and_eq_true] at h
      exact viewB_ok k hv (sE a k h.1).1 (sE b k h.2).1
    · cases h
  | .slc a lo hi, X, sc, e, k, h => by
    unfold mE at h
    split at h
    · rename_i x l hh hv
      simp only [Bool.and_eq_true] at h
      exact viewSl_ok hv (sE a k h.1.1).1 (sO lo k h.1.2).1 (sO hi k h.2).1
    · cases h
  | .and a b, X, sc, e, k, h => by
    unfold mE at h
    split at h
    · rename_i x y hv
      simp only [Bool.and_eq_true] at h
      exact viewAnd_ok hv (sE a k h.1) (sE b k h.2)
    · cases h
  | .or a b, X, sc, e, k, h => by
    unfold mE at h
    split at h
    · rename_i x y hv
      simp only [Bool.and_eq_true] at h
      exact viewOr_ok hv (sE a k h.1) (sE b k h.2)
    · cases h
  | .not a, X, sc, e, k, h => by
    unfold mE at h
    split at h
    · rename_i x hv
      exact viewNot_ok hv (sE a k h)
    · cases h
  | .ite t a b, X, sc, e, k, h => by
    unfold mE at h
    split at h
    · rename_i x y z hv
      simp only [Bool.and_eq_true] at h
      exact viewIte_ok hv (sE t k h.1.1) (sE a k h.1.2) (sE b k h.2)
    · cases h
  | .chain p q a b c, X, sc, e, k, h => by
    unfold mE at h
    split at h
    · rename_i x y z hv
      simp only [Bool.and_eq_true] at h
      exact viewCh_ok k hv (sE a k h.1.1).1 (sE b k h.1.2).1 (sE c k h.2).1
    · cases h
  | .tup es, X, sc, e, k, h => by
    unfold mE at h
    split at h
    · rename_i xs hv
      simp only [Bool.and_eq_true] at h
      exact viewTup_ok hv (of_decide_eq_true h.2) (sEs es k h.1).1
    · cases h
  | .lst es, X, sc, e, k, h => by
    unfold mE at h
    split at h
    · rename_i xs hv
      simp only [Bool.and_eq_true] at h
      exact viewLst_ok hv (of_decide_eq_true h.2) (sEs es k h.1).1
    · cases h
  | .call f es, X, sc, e, k, h => by
    unfold mE at h
    split at h
    · rename_i xs hv
      refine viewCall_ok k hv (sEs es k h).2 fun e => ?_
      subst e
      cases es with
      | nil => unfold evr; rfl
      | cons _ _ => unfold mEs at h; cases h
    · cases h
  | .popAt i a, X, sc, e, k, h => by
    unfold mE at h
    split at h
    · rename_i x hv
      exact viewPop_ok k hv (sE a k h).1
    · cases h
  | .item2 i a b, X, sc, e, k, h => by
    unfold mE at h
    split at h
    · rename_i x y hv
      simp only [Bool.and_eq_true] at h
      unfold viewIx2 at hv
      split at hv
      · obtain ⟨c, q⟩ := some_of hv
        cases q
        simp only [Bool.and_eq_true] at c
        exact both_of ((pe_ix ix_list (pe_ix ix_list (viewN_ok k c.1.1).1 (sE a k h.1).1 (notSlice_ix c.1.2)) (sE b k h.2).1 (notSlice_ix c.2)).imp fun _ _ _ q => step_item2 q) rfl
      · cases hv
    · cases h
  | .comp vs tg it cd elt, X, sc, e, k, h => by
    unfold mE at h
    split at h
    · rename_i elt' tg' it' cd' scope hv
      simp only [Bool.and_eq_true] at h
      obtain ⟨⟨⟨⟨h1, h2⟩, h3⟩, h4⟩, h5⟩ := h
      unfold viewLc at hv
      split at hv
      · rename_i elt2 tg2 it2 ifs a scope2 pos
        obtain ⟨c, q⟩ := some_of hv
        cases q
        simp only [Bool.and_eq_true] at c
        obtain ⟨⟨⟨c1, c2⟩, c3⟩, c4⟩ := c
        obtain rfl := of_decide_eq_true c1
        have ok : BlkOk X.N X.env.scope scope (ownOf C vs) := by rw [k.N, k.sc]; exact blkOk_by c2
        have := pe_lc (pos := pos) (ifs := ifs) (g := gT X.K tg) (tt := tTn X.K (evC gl cf cd)) (te := tEn X.K (ev gl cf elt).1) k.calm (by rw [k.N]; exact k.nd) (sI it k h3) ok
          (fun s H A cl fp => (mTg_ok (X := X.blk s H scope (compEnvC scope cl A X.env) fp) k.N k.nd (by rw [← k.sc]; rfl) rfl k.calm tg tg' h1 : PG _ tg' (gT X.K tg)))
          (fun s H A cl fp => by
            rw [one_of (of_decide_eq_true c4)]
            exact PTs.imp' (sO cd (k.blk s H scope A cl fp) h4).2 fun _ _ _ q => tT_of q)
          (fun s H A cl fp => (sE elt (k.blk s H scope A cl fp) h5).1.imp fun _ _ _ q => tE_of q) (notSet_fold c3)
        rw [ownOf_snd] at this
        exact both_of (this.imp fun _ _ _ q => step_comp (all_mem h2) q) rfl
      · cases hv
    · cases h
  | .comp2 vs vs1 tg it cd tg1 it1 cd1 elt, X, sc, e, k, h => by
    unfold mE at h
    split at h
    · rename_i elt' tg' it' cd' tg1' it1' cd1' scope hv
      simp only [Bool.and_eq_true] at h
      obtain ⟨⟨⟨⟨⟨⟨⟨⟨⟨h1, h2⟩, h3⟩, h4⟩, j1⟩, j2⟩, j3⟩, j4⟩, j5⟩, h5⟩ := h
      unfold viewLc2 at hv
      split at hv
      · rename_i elt2 tg2 it2 ifs a tg3 it3 ifs1 a1 scope2 pos
        obtain ⟨c, q⟩ := some_of hv
        cases q
        simp only [Bool.and_eq_true] at c
        obtain ⟨⟨⟨⟨⟨⟨c1, c1'⟩, c2⟩, c3⟩, c3'⟩, c4⟩, c4'⟩ := c
        obtain rfl := of_decide_eq_true c1
        obtain rfl := of_decide_eq_true c1'
        have ok : BlkOk X.N X.env.scope scope (ownOf C vs) := by rw [k.N, k.sc]; exact blkOk_by c2
        have := pe_lc2 (pos := pos) (ifs := ifs) (ifs1 := ifs1) (vs1 := vs1) (g := gT X.K tg) (g1 := gT X.K tg1) (wi1 := tIn X.K (evI gl cf it1)) (tt := tTn X.K (evC gl cf cd)) (tt1 := tTn X.K (evC gl cf cd1)) (te := tEn X.K (ev gl cf elt).1) k.calm (by rw [k.N]; exact k.nd) (sI it k h3) ok (by rw [ownOf_snd]; exact all_mem j3)
          (fun s H A cl fp => (mTg_ok (X := X.blk s H scope (compEnvC scope cl A X.env) fp) k.N k.nd (by rw [← k.sc]; rfl) rfl k.calm tg tg' h1 : PG _ tg' (gT X.K tg)))
          (fun s H A cl fp => by
            rw [one_of (of_decide_eq_true c4)]
            exact PTs.imp' (sO cd (k.blk s H scope A cl fp) h4).2 fun _ _ _ q => tT_of q)
          (fun s H A cl fp => PI.imp (sI it1 (k.blk s H scope A cl fp) j4) fun _ _ _ q => tI_of q)
          (fun s H A cl fp => (mTg_ok (X := X.blk s H scope (compEnvC scope cl A X.env) fp) k.N k.nd (by rw [← k.sc]; rfl) rfl k.calm tg1 tg1' j1 : PG _ tg1' (gT X.K tg1)))
          (fun s H A cl fp => by
            rw [one_of (of_decide_eq_true c4')]
            exact PTs.imp' (sO cd1 (k.blk s H scope A cl fp) j5).2 fun _ _ _ q => tT_of q)
          (fun s H A cl fp => (sE elt (k.blk s H scope A cl fp) h5).1.imp fun _ _ _ q => tE_of q) (notSet_fold c3) (fun env => notSet_fold c3')
        rw [ownOf_snd] at this
        exact both_of (this.imp fun _ _ _ q => step_comp2 (all_mem h2) (all_mem j2) (all_mem j3) q) rfl
      · cases hv
    · cases h
theorem sEs : ∀ (es : Exs) {X : Cx} {sc : Scope} {xs : List Expr}, Ok C EC gl cf X sc → mEs C sc es xs = true → PA X xs (tD EC X (evs gl cf es)) ∧ PA X xs (tR EC X (evr gl cf es))
  | .nil, X, sc, xs, k, h => by
    cases xs with
    | nil => exact ⟨pa_nil.imp fun _ _ _ q => step_evs_nil (by unfold evs at q; exact q), pa_nil.imp fun _ _ _ q => step_evr_nil (by unfold evr at q; exact q)⟩
    | cons _ _ => unfold mEs at h; cases h
  | .cons a es, X, sc, xs, k, h => by
    cases xs with
    | nil => unfold mEs at h; cases h
    | cons x xs =>
      unfold mEs at h
      simp only [Bool.and_eq_true] at h
      have h1 := (sE a k h.1.2).1
      obtain ⟨h2, h3⟩ := sEs es k h.2
      exact ⟨(pa_cons h1 h2 (star_cons h.1.1)).imp fun _ _ _ q => step_evs_cons (by unfold evs at q; exact q), (pa_cons h1 h3 (star_cons h.1.1)).imp fun _ _ _ q => step_evr_cons (by unfold evr at q; exact q)⟩
theorem sO : ∀ (o : Exo) {X : Cx} {sc : Scope} {oe : Option Expr}, Ok C EC gl cf X sc → mO C sc o oe = true → PO X oe (tO EC X (evO gl cf o)) ∧ PTs X oe.toList (tT EC X (evC gl cf o))
  | .no, X, sc, oe, k, h => by
    cases oe with
    | none =>
      exact ⟨PO.imp' po_none fun _ _ _ q => step_o_no (by unfold evO at q; exact q), PTs.imp' pts_nil fun _ _ _ q => by
        unfold evC at q
        obtain ⟨le, FR, G, ρ, τ, out, ρ', hs, he, hp⟩ := q
        obtain ⟨rfl, rfl⟩ := ret_some he
        exact hp _ G (Le.refl _) hs⟩
    | some _ => unfold mO at h; cases h
  | .so a, X, sc, oe, k, h => by
    cases oe with
    | none => unfold mO at h; cases h
    | some x =>
      unfold mO at h
      have h1 := sE a k h
      exact ⟨PO.imp' (po_some h1.1) fun _ _ _ q => step_o_so (by unfold evO at q; exact q), by unfold evC; exact pts_one h1.2⟩
theorem sI : ∀ (it : It) {X : Cx} {sc : Scope} {tg e : Expr}, Ok C EC gl cf X sc → mI C sc it tg e = true → PI X tg e (tI EC X (evI gl cf it))
  | .ex a, X, sc, tg, e, k, h => by
    unfold mI at h
    unfold evI
    exact pi_ex (sE a k h).1
  | .rng1 a, X, sc, tg, e, k, h => by
    unfold mI at h
    unfold evI
    split at h
    · rename_i x hv
      obtain ⟨p, pos, rfl, g1, g2, g3⟩ := viewI1_ok k hv
      exact pi_rng1 (sE a k h).1 g1 g2 (star_cons g3)
    · cases h
  | .rng2 a b, X, sc, tg, e, k, h => by
    unfold mI at h
    unfold evI
    split at h
    · rename_i x y hv
      simp only [Bool.and_eq_true] at h
      obtain ⟨p, pos, rfl, g1, g2, g3, g4⟩ := viewI2_ok k hv
      exact pi_rng2 (sE a k h.1).1 (sE b k h.2).1 g1 g2 (star_cons g3) (star_cons g4)
    · cases h
  | .enum a, X, sc, tg, e, k, h => by
    unfold mI at h
    unfold evI
    split at h
    · rename_i x hv
      simp only [Bool.and_eq_true] at h
      obtain ⟨p, pos, rfl, g1, g2, g3⟩ := viewI1_ok k hv
      cases tg with
      | Tuple es kk tp => exact pi_enumX (sE a k h.2).1 g1 g2 (star_cons g3)
      | _ => cases h.1
    · cases h
  | .zip2 a b, X, sc, tg, e, k, h => by
    unfold mI at h
    unfold evI
    split at h
    · rename_i x y hv
      simp only [Bool.and_eq_true] at h
      obtain ⟨p, pos, rfl, g1, g2, g3, g4⟩ := viewI2_ok k hv
      cases tg with
      | Tuple es kk tp => exact pi_zipX (sE a k h.1.2).1 (sE b k h.2).1 g1 g2 (star_cons g3) (star_cons g4)
      | _ => cases h.1.1
    · cases h
end
end
end TK

set_option Elab.async false
set_option linter.all false
set_option maxRecDepth 100000
set_option maxHeartbeats 1000000
/-! TKSnd: the check of statements, and that it is sound. -/
namespace TK
open PySem PySem.Spec PyProof.Rows L2

structure OkS (C : Cfg) (EC : Nat → Option Addr) (gl : Nat → Option PyData) (cf : CallF) (X : Cx) (sc : Scope) : Prop extends Ok C EC gl cf X sc where
  fx : X.fn = fun _ => true
  pass : PassesOwn (model X.prog X.w) X.A X.env X.xe
  stk : X.stack = X.env :: X.outer
  fr : X.env.frame = some X.env.locals
  ex : ∀ c x, C.cn[c]? = some x → ∃ A bmB B newId initId, EC c = some A ∧ X.mg x = some (.ref A) ∧ PySem.W.keepIn X.K (.ref A) = true ∧ ExcBaseFacts B newId initId bmB ∧ PySem.W.excIn X.K A bmB newId = true ∧ Raises X (.ref A)
  exm : ∀ c c' A A', EC c = some A → EC c' = some A' → PySem.W.exmOne X.K (.ref A') (.ref A) = some (decide (c' = c))

/-! ### checks of stores -/
def bkind (sc : Scope) : ScopeKind := if sc.kind.isAnnotationScope then .function else sc.kind
def swapB (sc : Scope) (x : Str) (px : Pos) : Expr → Bool
  | .ListComp a b scope p => bkind sc == .function && sc.names.lookup x == some .local && px.line == p.line && !(scope.names.any fun (n, k) => n == x && (k == .local || k == .cell))
  | .SetComp a b scope p => bkind sc == .function && sc.names.lookup x == some .local && px.line == p.line && !(scope.names.any fun (n, k) => n == x && (k == .local || k == .cell))
  | .DictComp a b c scope p => bkind sc == .function && sc.names.lookup x == some .local && px.line == p.line && !(scope.names.any fun (n, k) => n == x && (k == .local || k == .cell))
  | _ => false
theorem swaps_eq {x : Str} {px : Pos} {v : Expr} {line : Nat} {env : Env} : swapsWith v (some (.Name x px)) line env = pure (swapB env.scope x px v) := by
  cases v <;> rfl
def notComp : Expr → Bool
  | .ListComp .. => false
  | .SetComp .. => false
  | .DictComp .. => false
  | _ => true
theorem swaps_no {v : Expr} {t : Option Expr} {line : Nat} {env : Env} (h : notComp v = true) : swapsWith v t line env = pure false := by
  cases v <;> first | rfl | cases h
theorem swaps_tup {v : Expr} {es : List Expr} {k : Nat} {p : Pos} {line : Nat} {env : Env} : swapsWithSole [.Tuple es k p] v line env = pure false := by
  cases v <;> rfl
theorem swaps_sub {v o i : Expr} {p : Pos} {line : Nat} {env : Env} : swapsWithSole [.Subscript o i p] v line env = pure false := by
  cases v <;> rfl
theorem stores_sub {v o i : Expr} {p : Pos} {env : Env} : swappedStores [.Subscript o i p] v env = pure none := by
  cases v <;> rfl
/-- the plain local names of a tuple of targets, on its first one's line -/
def locName (sc : Scope) (line : Nat) : Expr → Option Str
  | .Name id pos => if sc.names.lookup id == some .local && pos.line == line then some id else none
  | _ => none
def locNames (sc : Scope) (ts : List Expr) : List Str := ts.filterMap (locName sc ((ts.head?.map (·.pos.line)).getD 0))
def swpNone (sc : Scope) : Expr → Expr → Bool
  | .Tuple ts _ _, .Tuple vs _ _ => (!(ts.length == 2 || ts.length == 3) || vs.length != ts.length || bkind sc != .function) || ((vs.any fun | .Starred .. => true | _ => false) || (((locNames sc ts).length != ts.length || (locNames sc ts).eraseDups.length != (locNames sc ts).length) || vs.all (foldedForSure 8)))
  | .Tuple _ _ _, _ => true
  | _, _ => false
theorem swpNone_ok {env : Env} {tg v : Expr} (h : swpNone env.scope tg v = true) : swappedStores [tg] v env = pure none := by
  cases tg with
  | Tuple ts k p =>
    cases v with
    | Tuple vs k2 p2 =>
      unfold swpNone at h
      show (if (!(ts.length == 2 || ts.length == 3) || vs.length != ts.length || bkind env.scope != .function) = true then pure none else
        if (vs.any fun | .Starred .. => true | _ => false) = true then pure none else
        if ((locNames env.scope ts).length != ts.length || (locNames env.scope ts).eraseDups.length != (locNames env.scope ts).length) = true then pure none else
        if (vs.all (foldedForSure 8)) = true then pure none else do
          if (vs.all (constantsAlone 8)) = true then unsupported "assign.tuple-of-constant-expressions:order-of-the-stores"
          pure (some (locNames env.scope ts)) : Sem (Option (List Str))) = pure none
      split
      · rfl
      · rename_i h1
        split
        · rfl
        · rename_i h2
          split
          · rfl
          · rename_i h3
            split
            · rfl
            · rename_i h4
              simp only [Bool.not_eq_true] at h1 h2 h3 h4
              have h : ((!(ts.length == 2 || ts.length == 3) || vs.length != ts.length || bkind env.scope != .function) || ((vs.any fun | .Starred .. => true | _ => false) || (((locNames env.scope ts).length != ts.length || (locNames env.scope ts).eraseDups.length != (locNames env.scope ts).length) || vs.all (foldedForSure 8)))) = true := h
              rw [h1, h2, h3, h4] at h
              cases h
    | _ => rfl
  | _ => cases h
def swpPar (sc : Scope) (x y : Str) (px py : Pos) (a b : Expr) : Bool := sc.names.lookup x == some .local && sc.names.lookup y == some .local && px.line == py.line && decide (x ≠ y) && !([a, b].all (foldedForSure 8)) && !([a, b].all (constantsAlone 8)) && bkind sc == .function && notStar a && notStar b
theorem star_is (a : Expr) : (match a with | .Starred .. => true | _ => false) = !(notStar a) := by cases a <;> rfl
theorem starred_any {a b : Expr} (ha : notStar a = true) (hb : notStar b = true) : ([a, b].any fun | .Starred .. => true | _ => false) = false := by
  simp only [List.any_cons, List.any_nil, star_is, ha, hb]
  rfl
theorem swpPar_ok {env : Env} {x y : Str} {px py pt : Pos} {kt k2 : Nat} {pt2 : Pos} {a b : Expr} (h : swpPar env.scope x y px py a b = true) : swappedStores [.Tuple [.Name x px, .Name y py] kt pt] (.Tuple [a, b] k2 pt2) env = pure (some [x, y]) := by
  unfold swpPar at h
  simp only [Bool.and_eq_true, Bool.not_eq_true'] at h
  obtain ⟨⟨⟨⟨⟨⟨⟨⟨h1, h2⟩, h3⟩, h4⟩, h5⟩, h6⟩, h7⟩, h8⟩, h9⟩ := h
  have hn : locNames env.scope [.Name x px, .Name y py] = [x, y] := by
    unfold locNames
    have l1 : (env.scope.names.lookup x == some .local && px.line == px.line) = true := by rw [h1]; simp
    have l2 : (env.scope.names.lookup y == some .local && py.line == px.line) = true := by
      have : py.line = px.line := (beq_iff_eq.mp h3).symm
      rw [h2, this]; simp
    have f1 : locName env.scope px.line (.Name x px) = some x := if_pos l1
    have f2 : locName env.scope px.line (.Name y py) = some y := if_pos l2
    show List.filterMap (locName env.scope px.line) [.Name x px, .Name y py] = _
    rw [List.filterMap_cons_some f1, List.filterMap_cons_some f2, List.filterMap_nil]
  have hd : ([x, y] : List Str).eraseDups.length = 2 := by
    have : x ≠ y := of_decide_eq_true h4
    simp [List.eraseDups_cons, this.symm]
  show (if (!(([.Name x px, .Name y py] : List Expr).length == 2 || ([.Name x px, .Name y py] : List Expr).length == 3) || [a, b].length != ([.Name x px, .Name y py] : List Expr).length || bkind env.scope != .function) = true then pure none else
        if ([a, b].any fun | .Starred .. => true | _ => false) = true then pure none else
        if ((locNames env.scope [.Name x px, .Name y py]).length != ([.Name x px, .Name y py] : List Expr).length || (locNames env.scope [.Name x px, .Name y py]).eraseDups.length != (locNames env.scope [.Name x px, .Name y py]).length) = true then pure none else
        if ([a, b].all (foldedForSure 8)) = true then pure none else do
          if ([a, b].all (constantsAlone 8)) = true then unsupported "assign.tuple-of-constant-expressions:order-of-the-stores"
          pure (some (locNames env.scope [.Name x px, .Name y py])) : Sem (Option (List Str))) = _
  rw [hn, starred_any h8 h9, h5, h6]
  have c1 : (!(([.Name x px, .Name y py] : List Expr).length == 2 || ([.Name x px, .Name y py] : List Expr).length == 3) || [a, b].length != ([.Name x px, .Name y py] : List Expr).length || bkind env.scope != .function) = false := by
    have : (bkind env.scope != .function) = false := by
      rw [bne, h7]; rfl
    rw [this]; rfl
  have c2 : (([x, y] : List Str).length != ([.Name x px, .Name y py] : List Expr).length || ([x, y] : List Str).eraseDups.length != ([x, y] : List Str).length) = false := by rw [hd]; rfl
  rw [c1, c2]
  rfl
end TK

set_option Elab.async false
set_option linter.all false
set_option maxRecDepth 100000
set_option maxHeartbeats 2000000
/-! TKSnd2: the check of statements is sound. -/
namespace TK
open PySem PySem.Spec PyProof.Rows L2

def allT : Str → Bool := fun _ => true
/-- name = e -/
def viewSet (C : Cfg) (sc : Scope) (i : Nat) : Stmt → Option Expr
  | .Assign [.Name x _] v _ => if decide (C.N[i]? = some x) && locB sc allT x then some v else none
  | _ => none
def viewPar (C : Cfg) (sc : Scope) (i j : Nat) : Stmt → Option (Expr × Expr)
  | .Assign [.Tuple [.Name x px, .Name y py] kt pt] (.Tuple [a, b] k2 pt2) _ => if decide (C.N[i]? = some x) && decide (C.N[j]? = some y) && decide (i ≠ j) && (swpPar sc x y px py a b || (locB sc allT x && locB sc allT y && notStar a && notStar b && swpNone sc (.Tuple [.Name x px, .Name y py] kt pt) (.Tuple [a, b] k2 pt2))) then some (a, b) else none
  | _ => none
/-- a, b = x, y where some name is a cell: the pair is taken apart from the left -/
theorem ps_parC {X : Cx} {i j : Nat} {x y : Str} {a b : Expr} {ta : TA} {px py pt pos : Pos} {kt k2 : Nat} {pt2 : Pos} (hc : X.calm = true) (hN : X.N.Nodup) (hi : X.N[i]? = some x) (hj : X.N[j]? = some y)
    (hx : L2.Loc X.env.scope x) (hy : L2.Loc X.env.scope y) (fx : X.fn x = true ∨ X.env.scope.names.lookup x = some .local) (fy : X.fn y = true ∨ X.env.scope.names.lookup y = some .local) (ha : PA X [a, b] ta)
    (hw : swappedStores [.Tuple [.Name x px, .Name y py] kt pt] (.Tuple [a, b] k2 pt2) X.env = pure none)
    (hs : swapsWithSole [.Tuple [.Name x px, .Name y py] kt pt] (.Tuple [a, b] k2 pt2) pos.line X.env = pure false) :
    PS X (.Assign [.Tuple [.Name x px, .Name y py] kt pt] (.Tuple [a, b] k2 pt2) pos) (tPar i j ta) := by
  refine ⟨fun pins s σ H D I h => ?_⟩
  refine wpAny_Assign_stores (Tuple_ (thn (ha.run _ pins s σ H _ I h) fun us s1 ⟨vs, H1, I1, r1, q1⟩ => ?_)) hs hw
  obtain ⟨v, w, rfl, q1⟩ := q1
  cases r1 with
  | @cons _ p1 _ _ rv r2 =>
    cases r2 with
    | @cons _ p2 _ _ rw' r3 =>
      cases r3
      refine wpAny_newObj_type ?_ (by show 2 ≤ sizeLine; decide)
      have I2 : L2.Inv X pins σ H1 { s1 with heap := s1.heap.push { cls := .type "tuple", data := .seq #[p1, p2] } } := I1.kept (t' := s1.toks) fun _ _ e => Heap.get?_push_of_some _ e
      have hg : PGs X [.Name x px, .Name y py] (gCons (gName i) (gCons (gName j) gNil)) := pgs_cons (pg_name hN hi hx fx) (pgs_cons (pg_name hN hj hy fy) pgs_nil)
      have h1 : (assignEach [.Tuple [.Name x px, .Name y py] kt pt] X.env).map (·.2) = [assign (.Tuple [.Name x px, .Name y py] kt pt) X.env] := rfl
      rw [h1]
      refine assign_Tuple_tuple (I.ok.hd hc) (IsTup.new s1.heap _) rfl rfl fun h' hx' => ?_
      have I3 := I2.kept (h' := h') (t' := s1.toks) fun b o e => hx' b o (Nat.ne_of_lt (Heap.lt_size e)) e
      refine thn (hg.run pins _ σ H1 [v, w] _ (fun σ' H' => D.nx σ' H') I3 (.cons rv (.cons rw' .nil)) ⟨v, [w], rfl, w, [], rfl, rfl, q1⟩) fun _ s2 q => q
def viewAT (sc : Scope) : Stmt → Option (Expr × Expr)
  | .Assign [tg] v _ => if isTupE tg && swpNone sc tg v then some (tg, v) else none
  | _ => none
def viewS1 (C : Cfg) (sc : Scope) (i : Nat) : Stmt → Option (Expr × Expr)
  | .Assign [.Subscript o s _] v _ => if viewN C sc i o && notSlice s then some (s, v) else none
  | _ => none
def viewS2 (C : Cfg) (sc : Scope) (i : Nat) : Stmt → Option (Expr × Expr × Expr)
  | .Assign [.Subscript (.Subscript o s _) t _] v _ => if viewN C sc i o && notSlice s && notSlice t then some (s, t, v) else none
  | _ => none
def viewAug (C : Cfg) (sc : Scope) (i : Nat) : Stmt → Option Expr
  | .AugAssign (.Name x _) .Add e _ => if decide (C.N[i]? = some x) && locB sc allT x then some e else none
  | _ => none
def viewX (C : Cfg) (sc : Scope) (i : Nat) (m : Str) : Stmt → Option Expr
  | .Expr e _ => viewM C sc i m e
  | _ => none
def viewRaise (C : Cfg) (sc : Scope) (c : Nat) : Stmt → Bool
  | .Raise (some (.Call (.Name x _) [.Constant (.str _) _ _] [] _)) none _ => decide (C.cn[c]? = some x) && glB sc x && nmOk x
  | _ => false
def viewTry (C : Cfg) (sc : Scope) (c : Nat) : Stmt → Option (List Stmt × Expr)
  | .Try body [.ExceptHandler (some (.Name x _)) none [.Return (some e) _] _] [] [] _ => if decide (C.cn[c]? = some x) && glB sc x && nmOk x then some (body, e) else none
  | _ => none
/-- a comprehension may give up its list to the name -/
def compish : Ex → Bool
  | .comp .. => true
  | .comp2 .. => true
  | _ => false
def cstSuite : Sms → Option PyData
  | .cons (.ret (.cst d)) .nil => some d
  | _ => none
theorem cstSuite_ok {s : Sms} {d : PyData} (h : cstSuite s = some d) : s = .cons (.ret (.cst d)) .nil := by
  unfold cstSuite at h
  split at h
  · cases h; rfl
  · cases h
mutual
def mS (C : Cfg) (sc : Scope) : Sm → Stmt → Bool
  | .asg i e, st => match viewSet C sc i st with
    | some v => mE C sc e v && (notComp v || compish e)
    | none => false
  | .asgT t e, st => match viewAT sc st with
    | some (tg, v) => mTg C sc allT t tg && mE C sc e v
    | none => false
  | .par i j a b, st => match viewPar C sc i j st with
    | some (x, y) => mE C sc a x && mE C sc b y
    | none => false
  | .set1 i k v, st => match viewS1 C sc i st with
    | some (s, x) => mE C sc k s && mE C sc v x
    | none => false
  | .set2 i k l v, st => match viewS2 C sc i st with
    | some (s, t, x) => mE C sc k s && mE C sc l t && mE C sc v x
    | none => false
  | .aug i p e, st => match viewAug C sc i st with
    | some x => decide (p = .add) && mE C sc e x
    | none => false
  | .augS _ _ _ _, _ => false
  | .append i e, st => match viewX C sc i "append" st with
    | some x => mE C sc e x
    | none => false
  | .append2 i e, st => match viewX C sc i "append" st with
    | some x => mE C sc e x
    | none => false
  | .extend i e, st => match viewX C sc i "extend" st with
    | some x => mE C sc e x
    | none => false
  | .expr e, .Expr v _ => notComp v && mE C sc e v
  | .ret e, .Return (some v) _ => mE C sc e v
  | .retN, .Return none _ => true
  | .rais c .no, st => viewRaise C sc c st
  | .ife t a b, .If t' a' b' _ => mE C sc t t' && mSs C sc a a' && mSs C sc b b'
  | .forS tg it body, .For tg' it' body' [] _ => mTg C sc allT tg tg' && mI C sc it tg' it' && notSet it' && mSs C sc body body'
  | .whil t body, .While t' body' [] _ => mE C sc t t' && mSs C sc body body'
  | .tryE c body suite, st => match cstSuite suite, viewTry C sc c st with
    | some d, some (body', e) => viewC d e && mSs C sc body body'
    | _, _ => false
  | .pass, .Pass _ => true
  | _, _ => false
def mSs (C : Cfg) (sc : Scope) : Sms → List Stmt → Bool
  | .nil, [] => true
  | .cons s r, st :: sts => mS C sc s st && mSs C sc r sts
  | _, _ => false
end

section
variable {C : Cfg} {EC : Nat → Option Addr} {gl : Nat → Option PyData} {cf : CallF} {X : Cx} {sc : Scope}
theorem PS.imp' {st : Stmt} {t t' : TS} (h : PS X st t) (i : ∀ D σ H, t' D σ H → t D σ H) : PS X st t' := ⟨fun pins s σ H D I q => h.run pins s σ H D I (i D σ H q)⟩
theorem PSs.imp' {st : List Stmt} {t t' : TS} (h : PSs X st t) (i : ∀ D σ H, t' D σ H → t D σ H) : PSs X st t' := ⟨fun pins s σ H D I q => h.run pins s σ H D I (i D σ H q)⟩

/-- name = a comprehension whose list goes to the name -/
theorem asg_comp (k : OkS C EC gl cf X sc) {i : Nat} {x : Str} {px pos : Pos} {v : Expr} {vs : List Nat} {tg : Tg} {it : It} {cd : Exo} {elt : Ex} (hN : C.N[i]? = some x) (hsw : swapB sc x px v = true)
    (h : mE C sc (.comp vs tg it cd elt) v = true) : PS X (.Assign [.Name x px] v pos) (tAsg (tE EC X (ev gl cf (.comp vs tg it cd elt)).1) (gName i)) := by
  have hsw' : swapsWith v (some (.Name x px)) pos.line X.env = pure true := by rw [swaps_eq, k.sc, hsw]
  unfold mE at h
  split at h
  · rename_i elt' tg' it' cd' scope hv
    simp only [Bool.and_eq_true] at h
    obtain ⟨⟨⟨⟨h1, h2⟩, h3⟩, h4⟩, h5⟩ := h
    unfold viewLc at hv
    split at hv
    · rename_i elt2 tg2 it2 ifs a scope2 p2
      obtain ⟨c, q⟩ := some_of hv
      cases q
      simp only [Bool.and_eq_true] at c
      obtain ⟨⟨⟨c1, c2⟩, c3⟩, c4⟩ := c
      obtain rfl := of_decide_eq_true c1
      have ok : BlkOk X.N X.env.scope scope (ownOf C vs) := by rw [k.N, k.sc]; exact blkOk_by c2
      have hyl : X.env.scope.names.lookup x = some .local := by
        unfold swapB at hsw
        simp only [Bool.and_eq_true] at hsw
        rw [k.sc]
        exact beq_iff_eq.mp hsw.1.1.2
      have := ps_setLc (i := i) (y := x) (py := px) (spos := pos) (pos := p2) (ifs := ifs) (g := gT X.K tg) (tt := tTn X.K (evC gl cf cd)) (te := tEn X.K (ev gl cf elt).1) k.calm (by rw [k.N]; exact k.nd) (by rw [k.N]; exact hN) hyl hsw' (sI it k.toOk h3) ok
        (fun s H A cl fp => (mTg_ok (X := X.blk s H scope (compEnvC scope cl A X.env) fp) k.N k.nd (by rw [← k.sc]; rfl) rfl k.calm tg tg' h1 : PG _ tg' (gT X.K tg)))
        (fun s H A cl fp => by
          rw [one_of (of_decide_eq_true c4)]
          exact PTs.imp' (sO cd (k.toOk.blk s H scope A cl fp) h4).2 fun _ _ _ q => tT_of q)
        (fun s H A cl fp => (sE elt (k.toOk.blk s H scope A cl fp) h5).1.imp fun _ _ _ q => tE_of q) (notSet_fold c3)
      rw [ownOf_snd] at this
      exact PS.imp' this fun D σ H q => by
        have q : tE EC X (compM vs tg (evI gl cf it) (evC gl cf cd) (ev gl cf elt).1) σ H (fun x H1 => gName i x σ H1 D.nx) := by unfold ev at q; exact q
        exact step_comp (all_mem h2) q
    · cases hv
  · cases h
theorem asg_comp2 (k : OkS C EC gl cf X sc) {i : Nat} {x : Str} {px pos : Pos} {v : Expr} {vs vs1 : List Nat} {tg tg1 : Tg} {it it1 : It} {cd cd1 : Exo} {elt : Ex} (hN : C.N[i]? = some x) (hsw : swapB sc x px v = true)
    (h : mE C sc (.comp2 vs vs1 tg it cd tg1 it1 cd1 elt) v = true) : PS X (.Assign [.Name x px] v pos) (tAsg (tE EC X (ev gl cf (.comp2 vs vs1 tg it cd tg1 it1 cd1 elt)).1) (gName i)) := by
  have hsw' : swapsWith v (some (.Name x px)) pos.line X.env = pure true := by rw [swaps_eq, k.sc, hsw]
  unfold mE at h
  split at h
  · rename_i elt' tg' it' cd' tg1' it1' cd1' scope hv
    simp only [Bool.and_eq_true] at h
    obtain ⟨⟨⟨⟨⟨⟨⟨⟨⟨h1, h2⟩, h3⟩, h4⟩, j1⟩, j2⟩, j3⟩, j4⟩, j5⟩, h5⟩ := h
    unfold viewLc2 at hv
    split at hv
    · rename_i elt2 tg2 it2 ifs a tg3 it3 ifs1 a1 scope2 p2
      obtain ⟨c, q⟩ := some_of hv
      cases q
      simp only [Bool.and_eq_true] at c
      obtain ⟨⟨⟨⟨⟨⟨c1, c1'⟩, c2⟩, c3⟩, c3'⟩, c4⟩, c4'⟩ := c
      obtain rfl := of_decide_eq_true c1
      obtain rfl := of_decide_eq_true c1'
      have ok : BlkOk X.N X.env.scope scope (ownOf C vs) := by rw [k.N, k.sc]; exact blkOk_by c2
      have hyl : X.env.scope.names.lookup x = some .local := by
        unfold swapB at hsw
        simp only [Bool.and_eq_true] at hsw
        rw [k.sc]
        exact beq_iff_eq.mp hsw.1.1.2
      have := ps_setLc2 (i := i) (y := x) (py := px) (spos := pos) (pos := p2) (ifs := ifs) (ifs1 := ifs1) (vs1 := vs1) (g := gT X.K tg) (g1 := gT X.K tg1) (wi1 := tIn X.K (evI gl cf it1)) (tt := tTn X.K (evC gl cf cd)) (tt1 := tTn X.K (evC gl cf cd1)) (te := tEn X.K (ev gl cf elt).1) k.calm (by rw [k.N]; exact k.nd) (by rw [k.N]; exact hN) hyl hsw' (sI it k.toOk h3) ok (by rw [ownOf_snd]; exact all_mem j3)
        (fun s H A cl fp => (mTg_ok (X := X.blk s H scope (compEnvC scope cl A X.env) fp) k.N k.nd (by rw [← k.sc]; rfl) rfl k.calm tg tg' h1 : PG _ tg' (gT X.K tg)))
        (fun s H A cl fp => by
          rw [one_of (of_decide_eq_true c4)]
          exact PTs.imp' (sO cd (k.toOk.blk s H scope A cl fp) h4).2 fun _ _ _ q => tT_of q)
        (fun s H A cl fp => PI.imp (sI it1 (k.toOk.blk s H scope A cl fp) j4) fun _ _ _ q => tI_of q)
        (fun s H A cl fp => (mTg_ok (X := X.blk s H scope (compEnvC scope cl A X.env) fp) k.N k.nd (by rw [← k.sc]; rfl) rfl k.calm tg1 tg1' j1 : PG _ tg1' (gT X.K tg1)))
        (fun s H A cl fp => by
          rw [one_of (of_decide_eq_true c4')]
          exact PTs.imp' (sO cd1 (k.toOk.blk s H scope A cl fp) j5).2 fun _ _ _ q => tT_of q)
        (fun s H A cl fp => (sE elt (k.toOk.blk s H scope A cl fp) h5).1.imp fun _ _ _ q => tE_of q) (notSet_fold c3) (fun env => notSet_fold c3')
      rw [ownOf_snd] at this
      exact PS.imp' this fun D σ H q => by
        have q : tE EC X (compM2 vs vs1 tg (evI gl cf it) (evC gl cf cd) tg1 (evI gl cf it1) (evC gl cf cd1) (ev gl cf elt).1) σ H (fun x H1 => gName i x σ H1 D.nx) := by unfold ev at q; exact q
        exact step_comp2 (all_mem h2) (all_mem j2) (all_mem j3) q
    · cases hv
  · cases h

/-! ### try -/
def tSW (EC : Nat → Option Addr) (K : PySem.W.Frag) (W : WX) (m : M Fl) : TS := fun D σ H => ∃ le FR G ρ out ρ', StE K le FR G H ρ σ [] ∧ m ρ = some (out, ρ') ∧ match out with
  | .ex e => ∀ cls d σ' H', ExV EC e cls d H' → (∃ G', Le G G' ∧ StE K le FR G' H' ρ' σ' []) → W cls d σ' H'
  | .ok .nx => ∀ σ' H' G', Le G G' → StE K le FR G' H' ρ' σ' [] → D.nx σ' H'
  | .ok (.rt r) => ∀ z σ' H' G', Le G G' → r.keep = true → StE K le FR G' H' ρ' σ' [(r, z)] → D.rt z H'
theorem tSW_of {W : WX} {m : M Fl} (tk : Takes X W) {D : Ends} {σ : L2.St} {H : Hp} (h : tSW EC X.K W m D σ H) : tS EC X m D σ H := by
  obtain ⟨le, FR, G, ρ, out, ρ', hs, he, hp⟩ := h
  refine ⟨le, FR, G, ρ, out, ρ', hs, he, ?_⟩
  cases out with
  | ex e => exact tk.imp fun c d σ' H' ⟨h1, h2⟩ => hp c d σ' H' h1 h2
  | ok f => cases f <;> exact hp
theorem viewC_val {d : PyData} {e : Expr} (h : viewC d e = true) : ∃ v, (∀ K G, Dp K G v d) ∧ ∀ X, PE X e (tC v) := by
  cases d with
  | none =>
    cases e with
    | Constant c k p => cases c <;> first | exact ⟨_, fun _ _ => .non, fun _ => pe_non⟩ | cases h
    | _ => cases h
  | bool b =>
    cases e with
    | Constant c k p =>
      cases c with
      | bool c => obtain rfl : b = c := by simpa [viewC] using h
                  exact ⟨_, fun _ _ => .bl _, fun _ => pe_bl⟩
      | _ => cases h
    | _ => cases h
  | int b =>
    cases e with
    | Constant c k p =>
      cases c with
      | int c => obtain rfl : b = c := by simpa [viewC] using h
                 exact ⟨_, fun _ _ => .int _, fun _ => pe_int⟩
      | _ => cases h
    | _ => cases h
  | str b =>
    cases e with
    | Constant c k p =>
      cases c with
      | str c => obtain rfl : b = c := by simpa [viewC] using h
                 exact ⟨_, fun _ _ => .str _, fun _ => pe_str⟩
      | _ => cases h
    | _ => cases h
  | _ => cases e <;> cases h
theorem evS_try {c : Nat} {body : Sms} {d : PyData} : evS gl cf (.tryE c body (.cons (.ret (.cst d)) .nil)) = fun ρ => match evSs gl cf body ρ with
      | some (.ex e, ρ') => if e.c = c then some (.ok (.rt (.pl d)), ρ') else some (.ex e, ρ')
      | o => o := by
  funext ρ
  unfold evS
  cases h : evSs gl cf body ρ with
  | none => rfl
  | some p =>
    obtain ⟨o, ρ'⟩ := p
    cases o with
    | ok f => rfl
    | ex e =>
      show (if e.c = c then evSs gl cf (.cons (.ret (.cst d)) .nil) ρ' else _) = _
      have : evSs gl cf (.cons (.ret (.cst d)) .nil) ρ' = some (.ok (.rt (.pl d)), ρ') := by
        unfold evSs evS ev; rfl
      rw [this]
theorem OkS.tr (k : OkS C EC gl cf X sc) {pn : List (Addr × Obj)} {xe : Value → Shared → Prop} (hp : PassesOwn (model X.prog X.w) X.A X.env xe) : OkS C EC gl cf (X.tr pn xe) sc :=
  ⟨⟨k.N, k.nd, k.sc, k.calm, k.room, k.bn, k.gn, k.fn⟩, k.fx, hp, k.stk, k.fr, k.ex, k.exm⟩
theorem try_ok (k : OkS C EC gl cf X sc) {c : Nat} {x : Str} {body : Sms} {d : PyData} {body' : List Stmt} {e : Expr} {np p1 p2 pos : Pos} (hc : C.cn[c]? = some x) (hg : glB sc x = true) (hn : nmOk x = true) (hd : viewC d e = true)
    (hb : ∀ (pn : List (Addr × Obj)) (xe : Value → Shared → Prop), OkS C EC gl cf (X.tr pn xe) sc → PSs (X.tr pn xe) body' (tS EC (X.tr pn xe) (evSs gl cf body))) :
    PS X (.Try body' [.ExceptHandler (some (.Name x np)) none [.Return (some e) p1] p2] [] [] pos) (tS EC X (evS gl cf (.tryE c body (.cons (.ret (.cst d)) .nil)))) := by
  obtain ⟨A, bmB, B, newId, initId, hA, hm, hk, _⟩ := k.ex c x hc
  obtain ⟨v, dv, pv⟩ := viewC_val hd
  refine ⟨fun pins s σ H D I h => ?_⟩
  obtain ⟨le, FR, G, ρ, out, ρ', hs, he, hp⟩ := h
  rw [evS_try] at he
  dsimp only at he
  have hnm : Names X x (.ref A) := ⟨k.gLo hg, (nmOk_ok hn).1, .inl hm⟩
  -- what is wished of an exception that goes on
  have main : ∀ Wout : WX, Takes X Wout → (∀ D0 : Ends, D0 = D → tSW EC X.K (wOnly X.K (.ref A) (fun _ _ _ => tRet (tC v)) Wout D) (evSs gl cf body) D0 σ H) → wpAny (model X.prog X.w) X.A (exec (.Try body' [.ExceptHandler (some (.Name x np)) none [.Return (some e) p1] p2] [] [] pos) X.env) (SP X pins D) X.xe s := fun Wout tk hw =>
    (ps_try_only (np := np) (pos := pos) (pos' := p2) (suite := []) (b₀ := .Return (some e) p1) (ts := fun _ _ _ => tRet (tC v)) (tb := fun W => tSW EC X.K W (evSs gl cf body)) k.stk k.fr hnm tk
      (fun W pn xe tkW hpass => PSs.imp' (hb pn xe (k.tr hpass)) fun D σ H q => tSW_of tkW q)
      (fun a oe cls dd pn _ _ => pss_one (ps_ret (pv _)))).run pins s σ H D I (hw D rfl)
  cases hbd : evSs gl cf body ρ with
  | none => rw [hbd] at he; cases he
  | some p =>
    obtain ⟨o, ρ1⟩ := p
    rw [hbd] at he
    cases o with
    | ok f =>
      cases he
      refine main (fun _ _ _ _ => False) takes0 fun D0 hD => ⟨le, FR, G, ρ, .ok f, ρ', hs, hbd, ?_⟩
      subst hD
      cases f <;> exact hp
    | ex ee =>
      simp only at he
      by_cases hcc : ee.c = c
      · rw [if_pos hcc] at he
        cases he
        refine main (fun _ _ _ _ => False) takes0 fun D0 hD => ⟨le, FR, G, ρ, .ex ee, ρ', hs, hbd, ?_⟩
        intro cls dd σ' H' hev hst
        obtain ⟨A', e1, rfl, e2⟩ := hev
        refine ⟨true, ?_, fun _ a ha => ?_, fun c => nomatch c⟩
        · rw [k.exm c ee.c A A' hA e1]; simp [hcc]
        · obtain ⟨G', g, o, x⟩ := hst
          exact hp v σ' H' G' g rfl ⟨o, x.push_pl (dv _ _)⟩
      · rw [if_neg hcc] at he
        cases he
        refine main (WSt EC X le FR G ρ' ee) hp fun D0 hD => ⟨le, FR, G, ρ, .ex ee, ρ', hs, hbd, ?_⟩
        intro cls dd σ' H' hev hst
        have hev' := hev
        obtain ⟨A', e1, rfl, e2⟩ := hev
        refine ⟨false, ?_, fun c => absurd c Bool.false_ne_true, fun _ => ⟨hev', hst⟩⟩
        rw [k.exm c ee.c A A' hA e1]; simp [hcc]
/-- raise C('..') -/
theorem raise_ok (k : OkS C EC gl cf X sc) {c : Nat} {st : Stmt} (h : viewRaise C sc c st = true) : PS X st (tS EC X (evS gl cf (.rais c .no))) := by
  unfold viewRaise at h
  split at h
  · rename_i x p m j p2 cpos pos
    simp only [Bool.and_eq_true] at h
    obtain ⟨⟨h1, h2⟩, h3⟩ := h
    obtain ⟨A, bmB, B, newId, initId, hA, hm, hk, F, q, r⟩ := k.ex c x (of_decide_eq_true h1)
    have pm := pmk_own (X := X) (x := x) (m := m) (j := j) (p := p) (p2 := p2) (pos := cpos) F q hm hk r (k.gLo h2) (nmOk_ok h3).1
    refine ⟨fun pins s σ H D I hh => ?_⟩
    obtain ⟨le, FR, G, ρ, out, ρ', hs, he, hp⟩ := hh
    have he : some (Out.ex (⟨c, none⟩ : Exn), ρ) = some (out, ρ') := by unfold evS at he; exact he
    cases he
    exact (ps_raise (pos := pos) k.calm hp pm).run pins s σ H D I ⟨⟨A, hA, rfl, rfl⟩, G, Le.refl _, hs⟩
  · cases h

theorem swap_false (k : OkS C EC gl cf X sc) {x : Str} {px : Pos} {v : Expr} {line : Nat} (h : swapB sc x px v = false) : swapsWith v (some (.Name x px)) line X.env = pure false := by rw [swaps_eq, k.sc, h]
theorem viewX_ok (k : OkS C EC gl cf X sc) {i : Nat} {m : Str} {id : String} {st : Stmt} {x : Expr} {te : TE} {r : V → List V → Hp → VK → Prop} (slot : Slot "list" m id) (hty : typeOf (.builtin id) = pure (.type "method_descriptor")) (hm : MtR X id r)
    (h : viewX C sc i m st = some x) (hx : PE X x te) : PS X st (tDrop (tBM X.K "list" r (tVar i) (tCons te tNil))) := by
  unfold viewX at h
  split at h
  · rename_i e pos
    have := (viewM_ok k.toOk slot hty hm h hx).1
    have hn : notComp e = true := by cases e <;> first | rfl | cases h
    exact ps_expr this (swaps_no hn)
  · cases h
mutual
theorem sS : ∀ (s : Sm) {X : Cx} {sc : Scope} {st : Stmt}, OkS C EC gl cf X sc → mS C sc s st = true → PS X st (tS EC X (evS gl cf s))
  | .asg i e, X, sc, st, k, h => by
    unfold mS at h
    split at h
    · rename_i v hv
      simp only [Bool.and_eq_true] at h
      unfold viewSet at hv
      split at hv
      · rename_i x px v' pos
        obtain ⟨c, q⟩ := some_of hv
        cases q
        simp only [Bool.and_eq_true] at c
        have hN : C.N[i]? = some x := of_decide_eq_true c.1
        obtain ⟨l1, l2⟩ := locB_ok c.2 k.sc k.fx
        have fin : swapB sc x px v = false → PS X (.Assign [.Name x px] v pos) (tS EC X (evS gl cf (.asg i e))) := fun hs =>
          PS.imp' (ps_set (by rw [k.N]; exact k.nd) (by rw [k.N]; exact hN) l1 (sE e k.toOk h.1).1 (swap_false k hs) l2) fun D σ H q => step_asg (by unfold evS at q; exact q)
        cases hs : swapB sc x px v with
        | false => exact fin hs
        | true =>
          cases e with
          | comp vs tg it cd elt => exact PS.imp' (asg_comp k hN hs h.1) fun D σ H q => step_asg (by unfold evS at q; exact q)
          | comp2 vs vs1 tg it cd tg1 it1 cd1 elt => exact PS.imp' (asg_comp2 k hN hs h.1) fun D σ H q => step_asg (by unfold evS at q; exact q)
          | _ =>
            have hc : notComp v = true := by simpa [compish] using h.2
            have : swapB sc x px v = false := by cases v <;> first | rfl | cases hc
            rw [this] at hs; cases hs
      · cases hv
    · cases h
  | .asgT t e, X, sc, st, k, h => by
    unfold mS at h
    split at h
    · rename_i tg v hv
      simp only [Bool.and_eq_true] at h
      unfold viewAT at hv
      split at hv
      · rename_i tg' v' pos
        obtain ⟨c, q⟩ := some_of hv
        cases q
        simp only [Bool.and_eq_true] at c
        cases tg with
        | Tuple es kk tp =>
          exact PS.imp' (ps_asg (sE e k.toOk h.2).1 (mTg_ok k.N k.nd k.sc k.fx k.calm t _ h.1) swaps_tup (swpNone_ok (by rw [k.sc]; exact c.2)) rfl) fun D σ H q => step_asgT (by unfold evS at q; exact q)
        | _ => cases c.1
      · cases hv
    · cases h
  | .par i j a b, X, sc, st, k, h => by
    unfold mS at h
    split at h
    · rename_i x y hv
      simp only [Bool.and_eq_true] at h
      unfold viewPar at hv
      split at hv
      · rename_i n1 px n2 py kt pt a' b' k2 pt2 pos
        obtain ⟨c, q⟩ := some_of hv
        cases q
        simp only [Bool.and_eq_true, Bool.or_eq_true] at c
        obtain ⟨⟨⟨c1, c2⟩, c3⟩, c4⟩ := c
        rcases c4 with c4 | ⟨⟨⟨⟨l1, l2⟩, d8⟩, d9⟩, c4⟩
        · have c4' := c4
          unfold swpPar at c4'
          simp only [Bool.and_eq_true] at c4'
          obtain ⟨⟨⟨⟨⟨⟨⟨⟨d1, d2⟩, _⟩, _⟩, _⟩, _⟩, _⟩, d8⟩, d9⟩ := c4'
          exact PS.imp' (ps_par k.calm (by rw [k.N]; exact k.nd) (by rw [k.N]; exact of_decide_eq_true c1) (by rw [k.N]; exact of_decide_eq_true c2) (of_decide_eq_true c3) (by rw [k.sc]; exact beq_iff_eq.mp d1) (by rw [k.sc]; exact beq_iff_eq.mp d2)
            (pa_cons (sE a k.toOk h.1).1 (pa_cons (sE b k.toOk h.2).1 pa_nil (star_cons d9)) (star_cons d8)) (swpPar_ok (by rw [k.sc]; exact c4)) swaps_tup) fun D σ H q => step_par (of_decide_eq_true c3) (by unfold evS at q; exact q)
        · obtain ⟨lx, fx⟩ := locB_ok l1 k.sc k.fx
          obtain ⟨ly, fy⟩ := locB_ok l2 k.sc k.fx
          exact PS.imp' (ps_parC k.calm (by rw [k.N]; exact k.nd) (by rw [k.N]; exact of_decide_eq_true c1) (by rw [k.N]; exact of_decide_eq_true c2) lx ly fx fy
            (pa_cons (sE a k.toOk h.1).1 (pa_cons (sE b k.toOk h.2).1 pa_nil (star_cons d9)) (star_cons d8)) (swpNone_ok (by rw [k.sc]; exact c4)) swaps_tup) fun D σ H q => step_par (of_decide_eq_true c3) (by unfold evS at q; exact q)
      · cases hv
    · cases h
  | .set1 i kk v, X, sc, st, k, h => by
    unfold mS at h
    split at h
    · rename_i s x hv
      simp only [Bool.and_eq_true] at h
      unfold viewS1 at hv
      split at hv
      · rename_i o s' ps v' pos
        obtain ⟨c, q⟩ := some_of hv
        cases q
        simp only [Bool.and_eq_true] at c
        have ha : ∀ v, assign (.Subscript o s ps) X.env v = (do
            let ov ← holding [v] (eval o X.env)
            let iv ← holding [v, ov] (eval s X.env)
            standAt ps
            holding [v, ov, iv] (setItem ov iv v)
            release [v, ov, iv] []) := by
          intro v
          have := c.2
          cases s <;> first | rfl | cases this
        exact PS.imp' (ps_asg (sE v k.toOk h.2).1 (pg_sub (viewN_ok k.toOk c.1).1 (sE kk k.toOk h.1).1 set_list ha) swaps_sub stores_sub rfl) fun D σ H q => step_set1 (by unfold evS at q; exact q)
      · cases hv
    · cases h
  | .set2 i kk l v, X, sc, st, k, h => by
    unfold mS at h
    split at h
    · rename_i s t x hv
      simp only [Bool.and_eq_true] at h
      unfold viewS2 at hv
      split at hv
      · rename_i o s' ps1 t' ps v' pos
        obtain ⟨c, q⟩ := some_of hv
        cases q
        simp only [Bool.and_eq_true] at c
        have ha : ∀ v, assign (.Subscript (.Subscript o s ps1) t ps) X.env v = (do
            let ov ← holding [v] (eval (.Subscript o s ps1) X.env)
            let iv ← holding [v, ov] (eval t X.env)
            standAt ps
            holding [v, ov, iv] (setItem ov iv v)
            release [v, ov, iv] []) := by
          intro v
          have := c.2
          cases t <;> first | rfl | cases this
        exact PS.imp' (ps_asg (sE v k.toOk h.2).1 (pg_sub (pe_ix ix_list (viewN_ok k.toOk c.1.1).1 (sE kk k.toOk h.1.1).1 (notSlice_ix c.1.2)) (sE l k.toOk h.1.2).1 set_list ha) swaps_sub stores_sub rfl) fun D σ H q => step_set2 (by unfold evS at q; exact q)
      · cases hv
    · cases h
  | .aug i p e, X, sc, st, k, h => by
    unfold mS at h
    split at h
    · rename_i x hv
      simp only [Bool.and_eq_true] at h
      obtain rfl := of_decide_eq_true h.1
      unfold viewAug at hv
      split at hv
      · rename_i n pn e' pos
        obtain ⟨c, q⟩ := some_of hv
        cases q
        simp only [Bool.and_eq_true] at c
        obtain ⟨l1, l2⟩ := locB_ok c.2 k.sc k.fx
        exact PS.imp' (ps_aug (by rw [k.N]; exact k.nd) (by rw [k.N]; exact of_decide_eq_true c.1) l1 (sE e k.toOk h.2).1 ip_add l2) fun D σ H q => step_aug (by unfold evS at q; exact q)
      · cases hv
    · cases h
  | .augS _ _ _ _, X, sc, st, k, h => by
    unfold mS at h
    cases h
  | .append i e, X, sc, st, k, h => by
    unfold mS at h
    split at h
    · rename_i x hv
      exact PS.imp' (viewX_ok k PySem.F.slot_list_append PySem.F.type_list_append mt_append hv (sE e k.toOk h).1) fun D σ H q => step_append (by unfold evS at q; exact q)
    · cases h
  | .append2 i e, X, sc, st, k, h => by
    unfold mS at h
    split at h
    · rename_i x hv
      exact PS.imp' (viewX_ok k PySem.F.slot_list_append PySem.F.type_list_append mt_append hv (sE e k.toOk h).1) fun D σ H q => step_append2 (by unfold evS at q; exact q)
    · cases h
  | .extend i e, X, sc, st, k, h => by
    unfold mS at h
    split at h
    · rename_i x hv
      exact PS.imp' (viewX_ok k PySem.F.slot_list_extend PySem.F.type_list_extend mt_extend hv (sE e k.toOk h).1) fun D σ H q => step_extend (by unfold evS at q; exact q)
    · cases h
  | .expr e, X, sc, st, k, h => by
    cases st with
    | Expr v pos =>
      unfold mS at h
      simp only [Bool.and_eq_true] at h
      exact PS.imp' (ps_expr (sE e k.toOk h.2).1 (swaps_no h.1)) fun D σ H q => step_expr (by unfold evS at q; exact q)
    | _ => unfold mS at h; cases h
  | .ret e, X, sc, st, k, h => by
    cases st with
    | Return v pos =>
      cases v with
      | none => unfold mS at h; cases h
      | some v =>
        unfold mS at h
        exact PS.imp' (ps_ret (sE e k.toOk h).1) fun D σ H q => step_ret (by unfold evS at q; exact q)
    | _ => unfold mS at h; cases h
  | .retN, X, sc, st, k, h => by
    cases st with
    | Return v pos =>
      cases v with
      | some v => unfold mS at h; cases h
      | none => exact PS.imp' ps_retN fun D σ H q => step_retN (by unfold evS at q; exact q)
    | _ => unfold mS at h; cases h
  | .rais c (.so _), X, sc, st, k, h => by
    unfold mS at h
    cases h
  | .rais c .no, X, sc, st, k, h => by
    unfold mS at h
    exact raise_ok k h
  | .ife t a b, X, sc, st, k, h => by
    cases st with
    | If t' a' b' pos =>
      unfold mS at h
      simp only [Bool.and_eq_true] at h
      exact PS.imp' (ps_if (sE t k.toOk h.1.1).2 (sSs a k h.1.2) (sSs b k h.2)) fun D σ H q => step_if (by unfold evS at q; exact q)
    | _ => unfold mS at h; cases h
  | .forS tg it body, X, sc, st, k, h => by
    cases st with
    | For tg' it' body' els pos =>
      cases els with
      | cons _ _ => unfold mS at h; cases h
      | nil =>
        unfold mS at h
        simp only [Bool.and_eq_true] at h
        exact PS.imp' (ps_for k.pass k.calm (sI it k.toOk h.1.1.2) (mTg_ok k.N k.nd k.sc k.fx k.calm tg _ h.1.1.1) (sSs body k h.2) (notSet_fold h.1.2)) fun D σ H q => step_for (by unfold evS at q; exact q)
    | _ => unfold mS at h; cases h
  | .whil t body, X, sc, st, k, h => by
    cases st with
    | While t' body' els pos =>
      cases els with
      | cons _ _ => unfold mS at h; cases h
      | nil =>
        unfold mS at h
        simp only [Bool.and_eq_true] at h
        exact PS.imp' (ps_while k.pass (sE t k.toOk h.1).2 (sSs body k h.2)) fun D σ H q => step_while (by unfold evS at q; exact q)
    | _ => unfold mS at h; cases h
  | .tryE c body suite, X, sc, st, k, h => by
    unfold mS at h
    split at h
    · rename_i d body' e hs hv
      simp only [Bool.and_eq_true] at h
      obtain rfl := cstSuite_ok hs
      unfold viewTry at hv
      split at hv
      · rename_i b0 x np e' p1 p2 pos
        obtain ⟨c, q⟩ := some_of hv
        cases q
        simp only [Bool.and_eq_true] at c
        exact try_ok k (of_decide_eq_true c.1.1) c.1.2 c.2 h.1 fun pn xe k' => sSs body k' h.2
      · cases hv
    · cases h
  | .pass, X, sc, st, k, h => by
    cases st with
    | Pass pos => exact PS.imp' ps_pass fun D σ H q => step_pass (by unfold evS at q; exact q)
    | _ => unfold mS at h; cases h
theorem sSs : ∀ (ss : Sms) {X : Cx} {sc : Scope} {sts : List Stmt}, OkS C EC gl cf X sc → mSs C sc ss sts = true → PSs X sts (tS EC X (evSs gl cf ss))
  | .nil, X, sc, sts, k, h => by
    cases sts with
    | nil => exact PSs.imp' pss_nil fun D σ H q => step_pass (by unfold evSs at q; exact q)
    | cons _ _ => unfold mSs at h; cases h
  | .cons s r, X, sc, sts, k, h => by
    cases sts with
    | nil => unfold mSs at h; cases h
    | cons st sts =>
      unfold mSs at h
      simp only [Bool.and_eq_true] at h
      exact PSs.imp' (pss_cons (sS s k h.1) (sSs r k h.2)) fun D σ H q => step_seq (by unfold evSs at q; exact q)
end
end
end TK

set_option Elab.async false
set_option linter.all false
set_option maxRecDepth 100000
set_option maxHeartbeats 1000000
/-! TKFun: functions of a table: all keep their promise, at every level. -/
namespace TK
open PySem PySem.Spec PyProof.Rows L2

/-- a function of the table: its name, its written def, its parameters, its names, what it stands for -/
structure FD where
  x : Str
  st : Stmt
  ps : List Str
  N : List Str
  fn : Fn
def FT (tab : List FD) (f : Nat) : Option Fn := (tab[f]?).map (·.fn)
def cfgOf (bn gn cn : List Str) (tab : List FD) (d : FD) : Cfg := { N := d.N, bn := bn, gn := gn, fnm := tab.map (·.x), cn := cn }
def scopeC (N ps : List Str) (sc : Scope) : Bool := (match sc.kind with | .function => true | _ => false) && !sc.isCoroutine && !sc.isGenerator && decide N.Nodup && decide (N.take ps.length = ps) && (ps.all fun x => match sc.names.lookup x with | some .local => true | some .cell => true | _ => false) &&
  (sc.names.all fun y => match y.2 with | .free => false | _ => true)
theorem scopeC_ok {N ps : List Str} {sc : Scope} (h : scopeC N ps sc = true) : FnScope N ps sc := by
  unfold scopeC at h
  simp only [Bool.and_eq_true, Bool.not_eq_true'] at h
  obtain ⟨⟨⟨⟨⟨⟨h1, h2⟩, h3⟩, h4⟩, h5⟩, h6⟩, h7⟩ := h
  refine ⟨?_, h2, h3, of_decide_eq_true h4, of_decide_eq_true h5, fun x hx => ?_, fun y hy e => ?_⟩
  · cases q : sc.kind <;> first | rfl | (rw [q] at h1; cases h1)
  · have := List.all_eq_true.mp h6 x hx
    cases q : sc.names.lookup x with
    | none => rw [q] at this; cases this
    | some k => rw [q] at this; cases k <;> first | exact .inl rfl | exact .inr rfl | cases this
  · have := List.all_eq_true.mp h7 y hy
    rw [e] at this; cases this
def chkF (bn gn cn : List Str) (tab : List FD) (d : FD) : Bool := scopeC d.N d.ps (defScope d.st) && decide (d.fn.ns = d.N.length) && decide (d.fn.lent.length = d.ps.length) && mSs (cfgOf bn gn cn tab d) (defScope d.st) d.fn.body (defBody d.st)

/-- what stands in the module -/
structure Top (K : PySem.W.Frag) (mg : Str → Option Value) (EC : Nat → Option Addr) (gl : Nat → Option PyData) (bn gn cn : List Str) : Prop where
  bn : ∀ x ∈ bn, mg x = none
  gn : ∀ g x d, gn[g]? = some x → gl g = some d → ∃ v u, mg x = some u ∧ RelV v u ∧ ∀ G, Dp K G v d
  ex : ∀ c x, cn[c]? = some x → ∃ A bmB B newId initId, EC c = some A ∧ mg x = some (.ref A) ∧ PySem.W.keepIn K (.ref A) = true ∧ ExcBaseFacts B newId initId bmB ∧ PySem.W.excIn K A bmB newId = true ∧
    PySem.W.subIn K (.ref A) (.type "BaseException") = some true ∧ PySem.W.typeIn K (.ref A) = some (.type "type")
  exm : ∀ c c' A A', EC c = some A → EC c' = some A' → PySem.W.exmOne K (.ref A') (.ref A) = some (decide (c' = c))
structure FunK (K : PySem.W.Frag) (mg : Str → Option Value) (d : FD) (fa : Addr) (fd : FuncData) : Prop where
  F : L2.Fun K d.x d.x d.st fa fd
  mg : mg d.x = some (.ref fa)
  bi : ∀ us : List Value, us.length = d.ps.length → bindArgs fd ⟨us, []⟩ = pure (d.ps.zip us)
theorem FunK.b {K : PySem.W.Frag} {mg : Str → Option Value} {d : FD} {fa : Addr} {fd : FuncData} (h : FunK K mg d fa fd) : Binds K fd d.ps [] := .all h.bi

theorem argsOk_len : ∀ {l : List Bool} {as : List RV}, argsOk l as = true → as.length = l.length
  | [], [], _ => rfl
  | [], _ :: _, h => by cases h
  | b :: l, [], h => by cases b <;> cases h
  | true :: l, a :: as, h => by
    cases a <;> first | cases h | exact congrArg (· + 1) (argsOk_len (l := l) (as := as) h)
  | false :: l, a :: as, h => by
    cases a <;> first | cases h | exact congrArg (· + 1) (argsOk_len (l := l) (as := as) h)
theorem callF_some {gl : Nat → Option PyData} {T : Nat → Option Fn} {k f : Nat} {as fs : List RV} {out : Out RV} (h : callF gl T (k + 1) f as = some (out, fs)) :
    ∃ fn, T f = some fn ∧ argsOk fn.lent as = true ∧ ∃ o ρ, evSs gl (callF gl T k) fn.body (as ++ List.replicate (fn.ns - as.length) .un) = some (o, ρ) ∧ fs = ρ.take as.length ∧
      ((o = .ok .nx ∧ out = .ok (.pl .none)) ∨ (∃ r, o = .ok (.rt r) ∧ out = .ok r) ∨ ∃ e, o = .ex e ∧ out = .ex e) := by
  unfold callF at h
  cases e : T f with
  | none => rw [e] at h; cases h
  | some fn =>
    rw [e] at h
    refine ⟨fn, rfl, ?_⟩
    simp only at h
    by_cases ha : argsOk fn.lent as = true
    · rw [if_pos ha] at h
      refine ⟨ha, ?_⟩
      cases e2 : evSs gl (callF gl T k) fn.body (as ++ List.replicate (fn.ns - as.length) .un) with
      | none => rw [e2] at h; cases h
      | some p =>
        obtain ⟨o, ρ⟩ := p
        rw [e2] at h
        cases o with
        | ex e => cases h; exact ⟨_, ρ, rfl, rfl, .inr (.inr ⟨e, rfl, rfl⟩)⟩
        | ok f =>
          cases f with
          | nx => cases h; exact ⟨_, ρ, rfl, rfl, .inl ⟨rfl, rfl⟩⟩
          | rt r => cases h; exact ⟨_, ρ, rfl, rfl, .inr (.inl ⟨r, rfl, rfl⟩)⟩
    · rw [if_neg ha] at h; cases h
section
variable {K : PySem.W.Frag} {le : Nat → Option Addr} {FR G H : Hp} {o : Own} {ρ : En} {σ : L2.St} {τ : List (RV × V)}
/-- the body's own names: nothing yet -/
theorem StOk.more (x : StOk K le FR G H o ρ σ τ) (n : Nat) : StOk K le FR G H o (ρ ++ List.replicate n .un) (σ ++ List.replicate n none) τ := by
  refine ⟨x.sub, x.fr, x.ow, by rw [List.length_append, List.length_append, x.len, List.length_replicate, List.length_replicate], fun i r e => ?_, fun i a e => ?_, x.tmp⟩
  · by_cases hi : i < ρ.length
    · rw [List.getElem?_append_left hi] at e
      rw [List.getElem?_append_left (by rw [← x.len]; exact hi)]
      exact x.slot i r e
    · rw [List.getElem?_append_right (by omega)] at e
      have : r = .un := by
        have := List.getElem?_eq_some_iff.mp e
        obtain ⟨h1, h2⟩ := this
        rw [List.getElem_replicate] at h2
        exact h2.symm
      subst this
      trivial
  · obtain ⟨d, q⟩ := x.lent i a e
    exact ⟨d, by rw [List.getElem?_append_left (List.getElem?_eq_some_iff.mp q).1]; exact q⟩
end

variable {P : Program} {w : World} {K : PySem.W.Frag} {mg : Str → Option Value} {base : Heap} {EC : Nat → Option Addr} {gl : Nat → Option PyData} {bn gn cn : List Str} {tab : List FD} {fa : Nat → Addr} {fd : Nat → FuncData}
theorem spF_len {cf : CallF} {f : Nat} {d : FD} (hl : ∀ as r, cf f as = some r → as.length = d.ps.length) : ∀ vs H Q E, spF EC K cf f vs H Q E → vs.length = d.ps.length := by
  intro vs H Q E h
  obtain ⟨le, FR, G, as, out, fs, hs, _, _, hc, _⟩ := h
  obtain ⟨o, x⟩ := hs
  have := x.len
  rw [List.length_map] at this
  rw [← this, hl as _ hc]
theorem table_ok (top : Top K mg EC gl bn gn cn) (funs : ∀ f d, tab[f]? = some d → FunK K mg d (fa f) (fd f)) (chk : tab.all (chkF bn gn cn tab) = true) :
    ∀ (k f : Nat) (d : FD), tab[f]? = some d → FnOk P w K mg base (L2.CX P w) k (fa f) (fd f) d.ps (spF EC K (callF gl (FT tab) k) f) := by
  intro k
  induction k with
  | zero =>
    intro f d hd
    refine ⟨fun vs H Q E h => ?_, fun A outer s H args us vs Q E _ _ _ _ h => ?_⟩
    · obtain ⟨_, _, _, _, _, _, _, _, _, hc, _⟩ := h
      cases hc
    · obtain ⟨_, _, _, _, _, _, _, _, _, hc, _⟩ := h
      cases hc
  | succ k ih =>
    intro f d hd
    have hc := List.all_eq_true.mp chk d (List.mem_of_getElem? hd)
    unfold chkF at hc
    simp only [Bool.and_eq_true] at hc
    obtain ⟨⟨⟨c1, c2⟩, c3⟩, c4⟩ := hc
    have c2 : d.fn.ns = d.N.length := of_decide_eq_true c2
    have c3 : d.fn.lent.length = d.ps.length := of_decide_eq_true c3
    have S := scopeC_ok c1
    have hfn : FT tab f = some d.fn := by unfold FT; rw [hd]; rfl
    have len : ∀ vs H Q E, spF EC K (callF gl (FT tab) (k + 1)) f vs H Q E → vs.length = d.ps.length := spF_len fun as r hr => by
      obtain ⟨out, fs⟩ := r
      obtain ⟨fn, e1, e2, _⟩ := callF_some hr
      rw [hfn] at e1
      cases e1
      rw [argsOk_len e2, c3]
    refine (funs f d hd).F.okX S len fun cdv A outer s H vs Q E hr hsp => ?_
    have hvl := len vs H Q E hsp
    obtain ⟨le, FR, G, as, out, fs, hs, hall, hle, hcall, hp⟩ := hsp
    obtain ⟨fn, e1, e2, o, ρ, he, rfl, ho⟩ := callF_some hcall
    rw [hfn] at e1
    cases e1
    have hal : as.length = vs.length := by
      obtain ⟨_, x⟩ := hs
      have := x.len
      rw [List.length_map] at this
      exact this
    have oks : OkS (cfgOf bn gn cn tab d) EC gl (callF gl (FT tab) k) (cxOf (L2.CX P w) P w K mg base d.N d.x (defScope d.st) (fa f) cdv A outer s H E) (defScope d.st) := by
      refine ⟨⟨rfl, S.nd, rfl, rfl, ?_, top.bn, top.gn, fun g x hx => ?_⟩, rfl, passes_of rfl, rfl, rfl, fun c x hx => ?_, top.exm⟩
      · have := hr.un
        show (A.deeper _).units + 65 < cLine
        omega
      · have hx : (tab.map (·.x))[g]? = some x := hx
        rw [List.getElem?_map] at hx
        obtain ⟨d', hd', rfl⟩ := Option.map_eq_some_iff.mp hx
        have fk := funs g d' hd'
        exact ⟨k, fa g, fd g, d'.ps, fk.mg, fk.F.kp, fk.b, hr, ih g d' hd'⟩
      · obtain ⟨A', bmB, B, n1, n2, h1, h2, h3, h4, h5, h6, h7⟩ := top.ex c x hx
        exact ⟨A', bmB, B, n1, n2, h1, h2, h3, h4, h5, raises_own h6 h7⟩
    refine ⟨_, sSs d.fn.body oks c4, ?_⟩
    have hli : ∀ i a, le i = some a → i < as.length := fun i a h => by
      rw [hal]
      exact (List.getElem?_eq_some_iff.mp (hle i a h)).1
    refine ⟨le, FR, G, as ++ List.replicate (d.fn.ns - as.length) .un, o, ρ, ?_, he, ?_⟩
    · obtain ⟨oo, x⟩ := hs
      unfold L2.start
      rw [c2, hal]
      exact ⟨oo, x.more _⟩
    · rcases ho with ⟨rfl, rfl⟩ | ⟨r, rfl, rfl⟩ | ⟨e, rfl, rfl⟩
      · intro σ' H' G' g st
        obtain ⟨oo, x⟩ := st
        exact hp .non H' G' g rfl ⟨oo, (x.leave hli).push_pl .non⟩
      · intro z σ' H' G' g hk st
        obtain ⟨oo, x⟩ := st
        exact hp z H' G' g hk ⟨oo, x.leave hli⟩
      · refine (takes_of (E := E) rfl rfl rfl rfl).imp fun cls dd σ' H' ⟨h1, G', g, oo, x⟩ => ?_
        exact hp cls dd H' G' g h1 ⟨oo, x.leave hli⟩
end TK

set_option Elab.async false
set_option linter.all false
set_option maxRecDepth 100000
set_option maxHeartbeats 1000000
/-! TKEnd: from the table to the law. -/
namespace TK
open PySem PySem.Spec PyProof.Rows L2

inductive FunsK (K : PySem.W.Frag) (mg : Str → Option Value) : List FD → List (Addr × FuncData) → Prop
  | nil : FunsK K mg [] []
  | cons {d : FD} {f : Addr} {fd : FuncData} {ds : List FD} {l : List (Addr × FuncData)} : FunK K mg d f fd → FunsK K mg ds l → FunsK K mg (d :: ds) ((f, fd) :: l)
theorem FunsK.get {K : PySem.W.Frag} {mg : Str → Option Value} {tab : List FD} {l : List (Addr × FuncData)} (h : FunsK K mg tab l) (z : Addr × FuncData) : ∀ f d, tab[f]? = some d → FunK K mg d (l.getD f z).1 (l.getD f z).2 := by
  induction h with
  | nil => intro f d e; simp at e
  | @cons d0 f0 fd0 ds l hd _ ih =>
    intro f d e
    cases f with
    | zero => simp at e; subst e; exact hd
    | succ f => exact ih f d (by simpa using e)
theorem funK {K : PySem.W.Frag} {mg : Str → Option Value} {h : Heap} {d : FD} {f : Addr} {oc kV dc pm cd ct : Value} {od an : Option Addr} {sl : Array (Option Value)} (X : K.In h) (G : h.Ns mainGlobals mg)
    (a : PySem.W.nsIn K mainGlobals d.x = some (some (.ref f))) (l : K.lookup f = some ⟨oc, od, .func (PySem.W.fnOf d.x d.x (defArgs d.st) (defBody d.st) (defScope d.st) .none kV dc pm an cd ct), sl⟩) (c : PySem.W.codeIn K cd d.x = true) (k : PySem.W.keepIn K (.ref f) = true)
    (b : ∀ (kV doc pm : Value) (an : Option Addr) (cdv ct : Value) (us : List Value), us.length = d.ps.length → bindArgs (PySem.W.fnOf d.x d.x (defArgs d.st) (defBody d.st) (defScope d.st) .none kV doc pm an cdv ct) ⟨us, []⟩ = pure (d.ps.zip us)) :
    FunK K mg d f (PySem.W.fnOf d.x d.x (defArgs d.st) (defBody d.st) (defScope d.st) .none kV dc pm an cd ct) := by
  have F := fun_mk (x := d.x) (qual := d.x) (st := d.st) l c k
  exact ⟨F, PySem.W.mg_of X G a, fun us hl => b kV dc pm an cd ct us hl⟩
/-- names of built-ins, one after another -/
theorem bn_cons {mg : Str → Option Value} {y : Str} {r : List Str} (h : mg y = none) (t : ∀ x ∈ r, mg x = none) : ∀ x ∈ y :: r, mg x = none := fun x hx => (List.mem_cons.mp hx).elim (fun e => e ▸ h) (t x)
theorem bn_nil {mg : Str → Option Value} : ∀ x ∈ ([] : List Str), mg x = none := fun _ h => nomatch h

/-- the script as the law is called with it -/
theorem law_sp {EC : Nat → Option Addr} {K : PySem.W.Frag} {cf : CallF} {f : Nat} {fs : List RV} {ns : List Int} {H : Hp} {a : Addr} (h : cf f [.pl (.list (ns.map .int))] = some (.ok (.pl (.bool true)), fs)) (hS : SqL K H a (ns.map V.int)) :
    spF EC K cf f [.ref a] H (fun v _ => v = .bl true) fun _ _ _ => False := by
  refine ⟨fun _ => none, fun _ => none, H, _, _, fs, ⟨fun _ => none, Le.refl _, (fun _ _ e => nomatch e), (fun _ _ e => nomatch e), rfl, fun i r e => ?_, (fun _ _ e => nomatch e), trivial⟩, fun r hr => ?_, (fun _ _ e => nomatch e), h, ?_⟩
  · cases i with
    | zero =>
      have : r = .pl (.list (ns.map .int)) := by simpa using e.symm
      subst this
      exact ⟨.ref a, rfl, .lst hS (DpAll.of_ints ns)⟩
    | succ i => simp at e
  · have : r = .pl (.list (ns.map .int)) := by simpa using hr
    exact .inl ⟨_, this⟩
  · intro z H' G' g hk st
    obtain ⟨o, x⟩ := st
    obtain ⟨v, h1, h2⟩ := x.top
    obtain rfl := Option.some.inj h1
    cases h2; rfl

/-- where the exception classes stand -/
def ECof (K : PySem.W.Frag) (cn : List Str) : Nat → Option Addr := fun c => match cn[c]? with
  | some x => match PySem.W.nsIn K mainGlobals x with
    | some (some (.ref a)) => some a
    | _ => none
  | none => none
theorem all_mk {P : Program} {w : World} {K : PySem.W.Frag} {mg : Str → Option Value} {fa : Addr} {bn gn cn : List Str} {gl : Nat → Option PyData} {tab : List FD} {fl : List (Addr × FuncData)} {n f : Nat} {d : FD} {p : Str}
    (hfa : mg d.x = some (.ref fa)) (hd : tab[f]? = some d) (hp : d.ps = [p]) (funs : FunsK K mg tab fl) (top : Top K mg (ECof K cn) gl bn gn cn) (chk : tab.all (chkF bn gn cn tab) = true) :
    ∃ fd : FuncData, (∀ (s : Shared) (v : Value), BindsTo s fd ⟨[v], []⟩ [(p, v)]) ∧ ∀ base : Heap, K.In base → base.Ns mainGlobals mg → FnOk P w K mg base (L2.CX P w) n fa fd [p] (spF (ECof K cn) K (callF gl (FT tab) n) f) := by
  have fk := funs.get (0, default) f d hd
  have e : (fl.getD f (0, default)).1 = fa := by
    have := fk.mg.symm.trans hfa
    cases this; rfl
  refine ⟨(fl.getD f (0, default)).2, fun s v => .of_eq ?_, fun base _ _ => ?_⟩
  · rw [fk.bi [v] (by rw [hp]; rfl), hp]; rfl
  · have := table_ok (P := P) (w := w) (base := base) top (funs.get (0, default)) chk n f d hd
    rw [e, hp] at this
    exact this

theorem law_walk {l : PySem.W.OpenLaw} {n k : Nat} {q : Program} {loose : List Str} {XP : (Str → Option Value) → Heap → Prop} {YP : World → Heap → Prop} {d : DefRec} {K : Params → PySem.W.Frag} {x : Str} {cn : List Str} {cf : CallF} {f : Nat}
    (hn : l.most = some n) (hn2 : n ≤ sizeLine) (hdf : d.params.defaults = []) (hr : Room k callerA)
    (hY : ∀ (w : World) (h : Heap), YP w h → (K w.params).In h)
    (math : ∀ ns : List Int, ns.length ≤ n → ∃ fs, cf f [.pl (.list (ns.map .int))] = some (.ok (.pl (.bool true)), fs))
    (F : ∀ (w : World) (mg : Str → Option Value) (fa : Addr) (h : Heap), (K w.params).In h → h.Ns mainGlobals mg → mg d.name = some (.ref fa) →
      ∃ fd : FuncData, (∀ (s : Shared) (u : Value), BindsTo s fd ⟨[u], []⟩ [(x, u)]) ∧
        ∀ base : Heap, (K w.params).In base → base.Ns mainGlobals mg → FnOk l.prog w (K w.params) mg base (L2.CX l.prog w) k fa fd [x] (spF (ECof (K w.params) cn) (K w.params) cf f)) :
    PySem.W.WalkO q loose XP YP l.row.toRowW d [] (fun f vs => PySem.call f vs) :=
  walk_of (K := K) (CX := fun w => L2.CX l.prog w) (sp := fun w => spF (ECof (K w.params) cn) (K w.params) cf f) hn hn2 hdf hr hY F (fun w H a ns h1 _ h3 => law_sp (math ns h1).choose_spec h3) fun _ H s e s' h => by
    obtain ⟨_, _, _, _, _, _, _, _, _, _, _, _, z⟩ := h
    exact z
/-- one exception class without an own __init__ -/
theorem top1 {K : PySem.W.Frag} {mg : Str → Option Value} {h : Heap} {gl : Nat → Option PyData} {bn gn : List Str} {x : Str} {A : Addr} {bmB : List Value} {B newId initId : String} (X : K.In h) (G : h.Ns mainGlobals mg)
    (hb : ∀ x ∈ bn, mg x = none) (hg : ∀ g x d, gn[g]? = some x → gl g = some d → ∃ v u, mg x = some u ∧ RelV v u ∧ ∀ G, Dp K G v d)
    (F : ExcBaseFacts B newId initId bmB) (a : PySem.W.nsIn K mainGlobals x = some (some (.ref A))) (k : PySem.W.keepIn K (.ref A) = true) (q : PySem.W.excIn K A bmB newId = true)
    (s : PySem.W.subIn K (.ref A) (.type "BaseException") = some true) (t : PySem.W.typeIn K (.ref A) = some (.type "type")) (e : PySem.W.exmOne K (.ref A) (.ref A) = some true) : Top K mg (ECof K [x]) gl bn gn [x] := by
  have h0 : ∀ c A', ECof K [x] c = some A' → c = 0 ∧ A' = A := fun c A' hc => by
    cases c with
    | zero =>
      have : ECof K [x] 0 = some A := by unfold ECof; simp only [List.getElem?_cons_zero]; rw [a]
      rw [this] at hc; cases hc; exact ⟨rfl, rfl⟩
    | succ c => cases hc
  refine ⟨hb, hg, fun c y hc => ?_, fun c c' A1 A2 h1 h2 => ?_⟩
  · cases c with
    | zero =>
      have : x = y := by simpa using hc
      subst this
      exact ⟨A, bmB, B, newId, initId, by unfold ECof; simp only [List.getElem?_cons_zero]; rw [a], PySem.W.mg_of X G a, k, F, q, s, t⟩
    | succ c => simp at hc
  · obtain ⟨rfl, rfl⟩ := h0 _ _ h1
    obtain ⟨rfl, rfl⟩ := h0 _ _ h2
    rw [e]; rfl
theorem gn_nil {K : PySem.W.Frag} {mg : Str → Option Value} {gl : Nat → Option PyData} : ∀ (g : Nat) (x : Str) (d : PyData), ([] : List Str)[g]? = some x → gl g = some d → ∃ v u, mg x = some u ∧ RelV v u ∧ ∀ G, Dp K G v d := fun _ _ _ h => by simp at h
theorem gn_cons {K : PySem.W.Frag} {mg : Str → Option Value} {y : Str} {r : List Str} {d0 : PyData} {ds : List PyData} (h : ∃ v u, mg y = some u ∧ RelV v u ∧ ∀ G, Dp K G v d0)
    (t : ∀ (g : Nat) (x : Str) (d : PyData), r[g]? = some x → ds[g]? = some d → ∃ v u, mg x = some u ∧ RelV v u ∧ ∀ G, Dp K G v d) : ∀ (g : Nat) (x : Str) (d : PyData), (y :: r)[g]? = some x → (d0 :: ds)[g]? = some d → ∃ v u, mg x = some u ∧ RelV v u ∧ ∀ G, Dp K G v d := fun g x d h1 h2 => by
  cases g with
  | zero => simp at h1 h2; subst h1; subst h2; exact h
  | succ g => exact t g x d (by simpa using h1) (by simpa using h2)
theorem gn_int {K : PySem.W.Frag} {mg : Str → Option Value} {h : Heap} {y : Str} {n : Int} {t : Tok} (X : K.In h) (G : h.Ns mainGlobals mg) (a : PySem.W.nsIn K mainGlobals y = some (some (.int n t))) : ∃ v u, mg y = some u ∧ RelV v u ∧ ∀ G, Dp K G v (.int n) :=
  ⟨.int n, .int n t, PySem.W.mg_of X G a, ⟨t, rfl⟩, fun _ => .int n⟩
end TK

set_option Elab.async false
set_option linter.all false
set_option maxRecDepth 100000
/-! TKEd: data with a type of their own, and what the operations make of them. -/
namespace TK
open PySem

/-- a tuple of any length, its items of one type -/
structure Tup (α : Type) where
  l : List α
  deriving DecidableEq
/-- data of a type -/
class ED (α : Type) where
  ed : α → D
open ED (ed)
/-- .. that == tells apart -/
class LawE (α : Type) [ED α] [DecidableEq α] where
  sh : ∀ a : α, (ed a).canLay0 = true
  dep : Nat
  dle : ∀ a : α, (ed a).depth ≤ dep
  eqv : ∀ a b : α, PyData.eqv (ed a) (ed b) = decide (a = b)
instance : ED Int := ⟨.int⟩
instance : ED Nat := ⟨fun n => .int n⟩
instance : ED Bool := ⟨.bool⟩
instance : ED Unit := ⟨fun _ => .none⟩
instance : ED D := ⟨id⟩
instance {α β : Type} [ED α] [ED β] : ED (α × β) := ⟨fun p => .tuple [ed p.1, ed p.2]⟩
instance {α : Type} [ED α] : ED (Tup α) := ⟨fun t => .tuple (t.l.map ed)⟩
instance {α : Type} [ED α] : ED (List α) := ⟨fun t => .list (t.map ed)⟩
instance {α : Type} [ED α] : ED (Option α) := ⟨fun o => match o with | none => .none | some a => ed a⟩

instance : LawE Int := ⟨fun _ => rfl, 0, fun _ => Nat.le_refl _, fun a b => by
  show PyData.eqv (.int a) (.int b) = _
  simp only [PyData.eqv]; rw [Bool.eq_iff_iff, beq_iff_eq, decide_eq_true_eq]⟩
instance : LawE Nat := ⟨fun _ => rfl, 0, fun _ => Nat.le_refl _, fun a b => by
  show PyData.eqv (.int a) (.int b) = _
  simp only [PyData.eqv]; rw [Bool.eq_iff_iff, beq_iff_eq, decide_eq_true_eq]; omega⟩
instance : LawE Bool := ⟨fun _ => rfl, 0, fun _ => Nat.le_refl _, fun a b => by
  show PyData.eqv (.bool a) (.bool b) = _
  simp only [PyData.eqv]; cases a <;> cases b <;> rfl⟩
/-- a stands in L -/
def mem {α : Type} [DecidableEq α] (a : α) (L : List α) : Bool := decide (a ∈ L)
theorem mem_iff {α : Type} [DecidableEq α] {a : α} {L : List α} : mem a L = true ↔ a ∈ L := by unfold mem; exact decide_eq_true_iff
section
variable {α β : Type} [ED α] [DecidableEq α] [LawE α] [ED β] [DecidableEq β] [LawE β]
theorem sh_map : ∀ xs : List α, PyData.canLayAll0 (xs.map ed) = true
  | [] => rfl
  | x :: xs => by rw [List.map_cons, PyData.canLayAll0, LawE.sh x, sh_map xs]; rfl
theorem dep_map : ∀ xs : List α, PyData.depthAll (xs.map ed) ≤ LawE.dep α
  | [] => Nat.zero_le _
  | x :: xs => by rw [List.map_cons, PyData.depthAll]; exact Nat.max_le.mpr ⟨LawE.dle x, dep_map xs⟩
theorem eqv_map : ∀ xs ys : List α, PyData.eqvAll (xs.map ed) (ys.map ed) = decide (xs = ys)
  | [], [] => by simp [PyData.eqvAll]
  | [], _ :: _ => by simp [PyData.eqvAll]
  | _ :: _, [] => by simp [PyData.eqvAll]
  | x :: xs, y :: ys => by
    rw [List.map_cons, List.map_cons, PyData.eqvAll, LawE.eqv x y, eqv_map xs ys]
    by_cases h : x = y <;> by_cases k : xs = ys <;> simp [h, k]
instance : LawE (List α) := ⟨fun t => sh_map t, LawE.dep α + 1, fun t => by
  show PyData.depth (.list _) ≤ _
  simp only [PyData.depth]; exact Nat.succ_le_succ (dep_map t), fun a b => by
  show PyData.eqv (.list _) (.list _) = _
  simp only [PyData.eqv]; exact eqv_map a b⟩
instance : LawE (Tup α) := ⟨fun t => sh_map t.l, LawE.dep α + 1, fun t => by
  show PyData.depth (.tuple _) ≤ _
  simp only [PyData.depth]; exact Nat.succ_le_succ (dep_map t.l), fun a b => by
  show PyData.eqv (.tuple _) (.tuple _) = _
  simp only [PyData.eqv]; rw [eqv_map a.l b.l]
  cases a; cases b; simp⟩
instance : LawE (α × β) := ⟨fun p => by
  show PyData.canLayAll0 [ed p.1, ed p.2] = true
  simp [PyData.canLayAll0, LawE.sh], max (LawE.dep α) (LawE.dep β) + 1, fun p => by
  show PyData.depth (.tuple [ed p.1, ed p.2]) ≤ _
  simp only [PyData.depth, PyData.depthAll]
  have := LawE.dle p.1
  have := LawE.dle p.2
  omega, fun a b => by
  show PyData.eqv (.tuple [ed a.1, ed a.2]) (.tuple [ed b.1, ed b.2]) = _
  simp only [PyData.eqv, PyData.eqvAll, LawE.eqv, Bool.and_true]
  cases a; cases b
  simp only [Prod.mk.injEq]
  rw [Bool.eq_iff_iff]; simp⟩
theorem shaped_ed (h : LawE.dep α ≤ 64) (a : α) : SeqAt.shaped (ed a) = true := by
  unfold SeqAt.shaped
  rw [LawE.sh, Bool.true_and]
  exact decide_eq_true (Nat.le_trans (LawE.dle a) h)
theorem shaped_all (h : LawE.dep α ≤ 64) (L : List α) : (L.map ed).all SeqAt.shaped = true := by
  rw [List.all_map]
  exact List.all_eq_true.mpr fun a _ => shaped_ed h a
theorem in_ed (a : α) (L : List α) : inD (ed a) (L.map ed) = mem a L := by
  unfold inD mem
  rw [List.any_map, Bool.eq_iff_iff, List.any_eq_true, decide_eq_true_eq]
  constructor
  · rintro ⟨x, hx, h⟩
    have h : PyData.eqv (ed x) (ed a) = true := h
    rw [LawE.eqv, decide_eq_true_eq] at h
    subst h; exact hx
  · intro h
    refine ⟨a, h, ?_⟩
    show PyData.eqv (ed a) (ed a) = true
    rw [LawE.eqv, decide_eq_true_eq]
theorem q_eq (a b : α) (h : LawE.dep α ≤ 64) : p2 .eq (ed a) (ed b) = some (.pl (ed (decide (a = b)))) := by
  show (if eqOk _ _ then _ else _) = _
  rw [if_pos (by unfold eqOk; rw [shaped_ed h, shaped_ed h]; rfl), LawE.eqv]; rfl
theorem q_ne (a b : α) (h : LawE.dep α ≤ 64) : p2 .ne (ed a) (ed b) = some (.pl (ed (!decide (a = b)))) := by
  show (if eqOk _ _ then _ else _) = _
  rw [if_pos (by unfold eqOk; rw [shaped_ed h, shaped_ed h]; rfl), LawE.eqv]; rfl
/-- x in y, the items of y of one type -/
theorem q_in (a : α) {y : D} {L : List α} (hy : itemsOf y = some (L.map ed)) (h : LawE.dep α ≤ 64) : p2 .inn (ed a) y = some (.pl (ed (mem a L))) := by
  show (itemsOf y).bind _ = _
  rw [hy]
  show (if (SeqAt.shaped (ed a) && (L.map ed).all SeqAt.shaped) = true then _ else _) = _
  rw [if_pos (by rw [shaped_ed h, shaped_all h]; rfl), in_ed]; rfl
theorem q_notin (a : α) {y : D} {L : List α} (hy : itemsOf y = some (L.map ed)) (h : LawE.dep α ≤ 64) : p2 .notin (ed a) y = some (.pl (ed (!mem a L))) := by
  show (itemsOf y).bind _ = _
  rw [hy]
  show (if (SeqAt.shaped (ed a) && (L.map ed).all SeqAt.shaped) = true then _ else _) = _
  rw [if_pos (by rw [shaped_ed h, shaped_all h]; rfl), in_ed]; rfl

theorem ed_D (d : D) : (ed d : D) = d := rfl
theorem q_in2 (a x y : α) (h : LawE.dep α ≤ 64) : p2 .inn (ed a) (.list [ed x, ed y]) = some (.pl (ed (mem a [x, y]))) := q_in a (L := [x, y]) rfl h
theorem q_in3 (a x y z : α) (h : LawE.dep α ≤ 64) : p2 .inn (ed a) (.list [ed x, ed y, ed z]) = some (.pl (ed (mem a [x, y, z]))) := q_in a (L := [x, y, z]) rfl h
end
/-! ### one place -/
section
variable {α β : Type} [ED α] [ED β]
theorem q_len_tup (L : List α) : p1 .len (ed (Tup.mk L)) = some (.pl (ed L.length)) := by
  show some (RV.pl (.int (L.map ed).length)) = _
  rw [List.length_map]; rfl
theorem q_len_list (L : List α) : p1 .len (ed L) = some (.pl (ed L.length)) := by
  show some (RV.pl (.int (L.map ed).length)) = _
  rw [List.length_map]; rfl
theorem q_len_pair (p : α × β) : p1 .len (ed p) = some (.pl (ed (2 : Nat))) := rfl
theorem q_tuple (L : List α) : p1 .tuple (ed L) = some (.pl (ed (Tup.mk L))) := rfl
theorem q_tuple_tup (L : List α) : p1 .tuple (ed (Tup.mk L)) = some (.pl (ed (Tup.mk L))) := rfl
theorem q_list (L : List α) : p1 .list (ed (Tup.mk L)) = some (.ow (ed L)) := rfl
theorem q_list_list (L : List α) : p1 .list (ed L) = some (.ow (ed L)) := rfl
theorem boolsOf_map : ∀ L : List Bool, boolsOf (L.map ed) = some L
  | [] => rfl
  | b :: L => by
    show (boolsOf (L.map ed)).map _ = _
    rw [boolsOf_map L]; rfl
theorem q_all (L : List Bool) : p1 .all (ed L) = some (.pl (ed (L.all id))) := by
  show (boolsOf (L.map ed)).map _ = _
  rw [boolsOf_map]; rfl
theorem q_any (L : List Bool) : p1 .any (ed L) = some (.pl (ed (L.any id))) := by
  show (boolsOf (L.map ed)).map _ = _
  rw [boolsOf_map]; rfl
theorem q_all_map {γ : Type} (L : List γ) (f : γ → Bool) : p1 .all (ed (L.map f)) = some (.pl (ed (L.all f))) := by
  rw [q_all, List.all_map]; rfl
theorem q_any_map {γ : Type} (L : List γ) (f : γ → Bool) : p1 .any (ed (L.map f)) = some (.pl (ed (L.any f))) := by
  rw [q_any, List.any_map]; rfl
theorem intsOf_map : ∀ L : List Nat, intsOf (L.map ed) = some (L.map fun n : Nat => (n : Int))
  | [] => rfl
  | b :: L => by
    show (intsOf (L.map ed)).map _ = _
    rw [intsOf_map L]; rfl
theorem intsOf_ints : ∀ L : List Int, intsOf (L.map ed) = some L
  | [] => rfl
  | b :: L => by
    show (intsOf (L.map ed)).map _ = _
    rw [intsOf_ints L]; rfl
theorem sum_cast : ∀ L : List Nat, (L.map fun n : Nat => (n : Int)).sum = (L.sum : Nat)
  | [] => rfl
  | b :: L => by rw [List.map_cons, List.sum_cons, sum_cast L, List.sum_cons]; rfl
theorem q_sum (L : List Nat) : p1 .sum (ed L) = some (.pl (ed L.sum)) := by
  show (intsOf (L.map ed)).map _ = _
  rw [intsOf_map]
  show some (RV.pl (.int _)) = _
  rw [sum_cast]; rfl
theorem q_sum_int (L : List Int) : p1 .sum (ed L) = some (.pl (ed L.sum)) := by
  show (intsOf (L.map ed)).map _ = _
  rw [intsOf_ints]; rfl
theorem q_neg (n : Nat) : p1 .neg (ed n) = some (.pl (ed (-(n : Int)))) := rfl
theorem q_neg_int (n : Int) : p1 .neg (ed n) = some (.pl (ed (-n))) := rfl
theorem q_abs (n : Nat) : p1 .abs (ed n) = some (.pl (ed n)) := by
  show some (RV.pl (.int (if (n : Int) < 0 then _ else _))) = _
  rw [if_neg (by omega)]; rfl
theorem q_abs_int (i : Int) : p1 .abs (ed i) = some (.pl (ed i.natAbs)) := by
  show some (RV.pl (.int (if i < 0 then -i else i))) = some (RV.pl (.int (i.natAbs : Nat)))
  congr 3
  split <;> omega
theorem q_int (n : Nat) : p1 .int (ed n) = some (.pl (ed n)) := rfl
theorem q_int_int (n : Int) : p1 .int (ed n) = some (.pl (ed n)) := rfl
theorem q_rev_list (L : List α) : p1 .rev (ed L) = some (.ow (ed L.reverse)) := by
  show some (RV.ow (.list (L.map ed).reverse)) = _
  rw [← List.map_reverse]; rfl
theorem q_rev_tup (L : List α) : p1 .rev (ed (Tup.mk L)) = some (.pl (ed (Tup.mk L.reverse))) := by
  show some (RV.pl (.tuple (L.map ed).reverse)) = _
  rw [← List.map_reverse]; rfl
theorem rng_map (n : Nat) : ((List.range ((n : Int) - 0).toNat).map fun k : Nat => (.int (0 + k) : D)) = (List.range n).map ed := by
  rw [show ((n : Int) - 0).toNat = n by omega]
  refine List.map_congr_left fun k _ => ?_
  show PyData.int (0 + (k : Int)) = PyData.int (k : Int)
  rw [Int.zero_add]
theorem rng_ed {n : Nat} (h : n ≤ 16777216) : rngD 0 n = some ((List.range n).map ed) := by
  unfold rngD rngOk
  rw [if_pos (decide_eq_true (by omega)), rng_map]
theorem q_rngL (n : Nat) (h : n ≤ 16777216) : p1 .rngL (ed n) = some (.ow (ed (List.range n))) := by
  have e : p1 .rngL (ed n) = (rngD 0 (n : Int)).map fun xs => RV.ow (.list xs) := rfl
  rw [e, rng_ed h]; rfl
/-- from a to b - 1 -/
def rng (a b : Nat) : List Nat := (List.range (b - a)).map (a + ·)
theorem rng2_ed {a b : Nat} (h : b ≤ 16777216) (h2 : a ≤ 16777216) : rngD a b = some ((rng a b).map ed) := by
  unfold rngD rngOk
  rw [if_pos (decide_eq_true (by omega))]
  congr 1
  unfold rng
  rw [List.map_map]
  rw [show ((b : Int) - a).toNat = b - a by omega]
  exact List.map_congr_left fun k _ => rfl

theorem q_isTup_t (L : List α) : p1 .isTuple (ed (Tup.mk L)) = some (.pl (ed true)) := rfl
theorem q_isTup_p (p : α × β) : p1 .isTuple (ed p) = some (.pl (ed true)) := rfl
theorem q_isTup_l (L : List α) : p1 .isTuple (ed L) = some (.pl (ed false)) := rfl
theorem q_isTup_n (n : Nat) : p1 .isTuple (ed n) = some (.pl (ed false)) := rfl
theorem q_isInt_n (n : Nat) : p1 .isInt (ed n) = some (.pl (ed true)) := rfl
theorem q_isInt_i (n : Int) : p1 .isInt (ed n) = some (.pl (ed true)) := rfl
theorem q_isInt_b (n : Bool) : p1 .isInt (ed n) = some (.pl (ed true)) := rfl
theorem q_isBool_n (n : Nat) : p1 .isBool (ed n) = some (.pl (ed false)) := rfl
theorem q_isBool_i (n : Int) : p1 .isBool (ed n) = some (.pl (ed false)) := rfl
theorem q_isBool_b (n : Bool) : p1 .isBool (ed n) = some (.pl (ed true)) := rfl
theorem q_isTrue (b : Bool) : p1 .isTrue (ed b) = some (.pl (ed b)) := rfl
theorem q_notTrue (b : Bool) : p1 .notTrue (ed b) = some (.pl (ed (!b))) := rfl
theorem q_isFalse (b : Bool) : p1 .isFalse (ed b) = some (.pl (ed (!b))) := rfl
theorem q_notFalse (b : Bool) : p1 .notFalse (ed b) = some (.pl (ed b)) := rfl
def isTupD : D → Bool
  | .tuple _ => true
  | _ => false
def isIntD : D → Bool
  | .int _ => true
  | .bool _ => true
  | _ => false
def isBoolD : D → Bool
  | .bool _ => true
  | _ => false
def isStrD : D → Bool
  | .str _ => true
  | _ => false
theorem q_isTup (d : D) : p1 .isTuple d = some (.pl (ed (isTupD d))) := by cases d <;> rfl
theorem q_isInt (d : D) : p1 .isInt d = some (.pl (ed (isIntD d))) := by cases d <;> rfl
theorem q_isBool (d : D) : p1 .isBool d = some (.pl (ed (isBoolD d))) := by cases d <;> rfl
theorem q_isStr (d : D) : p1 .isStr d = some (.pl (ed (isStrD d))) := by cases d <;> rfl
theorem q_isNone (d : D) : p1 .isNone d = some (.pl (ed (isNoneD d))) := rfl
theorem q_notNone (d : D) : p1 .notNone d = some (.pl (ed (!isNoneD d))) := rfl

/-! ### two places -/
theorem q_add (a b : Nat) : p2 .add (ed a) (ed b) = some (.pl (ed (a + b))) := rfl
theorem q_add_int (a b : Int) : p2 .add (ed a) (ed b) = some (.pl (ed (a + b))) := rfl
theorem q_add_int_nat (a : Int) (b : Nat) : p2 .add (ed a) (ed b) = some (.pl (ed (a + (b : Int)))) := rfl
theorem q_add_nat_int (a : Nat) (b : Int) : p2 .add (ed a) (ed b) = some (.pl (ed ((a : Int) + b))) := rfl
theorem q_sub (a b : Nat) (h : b ≤ a) : p2 .sub (ed a) (ed b) = some (.pl (ed (a - b))) := by
  show some (RV.pl (.int ((a : Int) - b))) = some (RV.pl (.int ((a - b : Nat) : Int)))
  rw [Int.ofNat_sub h]
theorem q_sub_int (a b : Nat) : p2 .sub (ed a) (ed b) = some (.pl (ed ((a : Int) - (b : Int)))) := rfl
theorem q_mul_raw (a b : Nat) : p2 .mul (ed a) (ed b) = if (-(2 ^ 64) < (a : Int) ∧ (a : Int) < 2 ^ 64) ∨ (-(2 ^ 64) < (b : Int) ∧ (b : Int) < 2 ^ 64) then some (.pl (.int ((a : Int) * b))) else none := rfl
theorem q_mul (a b : Nat) (h : a < 2 ^ 64) : p2 .mul (ed a) (ed b) = some (.pl (ed (a * b))) := by
  rw [q_mul_raw, if_pos (.inl ⟨by omega, by omega⟩)]; rfl
theorem q_mul_r (a b : Nat) (h : b < 2 ^ 64) : p2 .mul (ed a) (ed b) = some (.pl (ed (a * b))) := by
  rw [q_mul_raw, if_pos (.inr ⟨by omega, by omega⟩)]; rfl
theorem q_mod (a b : Nat) (h : 0 < b) : p2 .mod (ed a) (ed b) = some (.pl (ed (a % b))) := by
  show (if _ then _ else _) = _
  rw [if_pos (by omega)]; rfl
theorem q_fdiv (a b : Nat) (h : 0 < b) (h2 : b < 1073741824) : p2 .fdiv (ed a) (ed b) = some (.pl (ed (a / b))) := by
  show (if _ then _ else _) = _
  rw [if_pos (by omega)]; rfl
theorem q_addL (L M : List α) (h : L.length + M.length ≤ 16777216) : p2 .add (ed L) (ed M) = some (.ow (ed (L ++ M))) := by
  show (if (L.map ed).length + (M.map ed).length ≤ 16777216 then _ else _) = _
  rw [if_pos (by simpa using h), ← List.map_append]; rfl
theorem q_addT (L M : List α) (h : L.length + M.length ≤ 16777216) : p2 .add (ed (Tup.mk L)) (ed (Tup.mk M)) = some (.pl (ed (Tup.mk (L ++ M)))) := by
  show (if (L.map ed).length + (M.map ed).length ≤ 16777216 then _ else _) = _
  rw [if_pos (by simpa using h), ← List.map_append]; rfl
theorem q_lt (a b : Nat) : p2 .lt (ed a) (ed b) = some (.pl (ed (decide (a < b)))) := by
  show some (RV.pl (.bool (decide ((a : Int) < b)))) = _
  rw [show decide ((a : Int) < b) = decide (a < b) from decide_eq_decide.mpr (by omega)]; rfl
theorem q_le (a b : Nat) : p2 .le (ed a) (ed b) = some (.pl (ed (decide (a ≤ b)))) := by
  show some (RV.pl (.bool (decide ((a : Int) ≤ b)))) = _
  rw [show decide ((a : Int) ≤ b) = decide (a ≤ b) from decide_eq_decide.mpr (by omega)]; rfl
theorem q_gt (a b : Nat) : p2 .gt (ed a) (ed b) = some (.pl (ed (decide (b < a)))) := by
  show some (RV.pl (.bool (decide ((b : Int) < a)))) = _
  rw [show decide ((b : Int) < a) = decide (b < a) from decide_eq_decide.mpr (by omega)]; rfl
theorem q_ge (a b : Nat) : p2 .ge (ed a) (ed b) = some (.pl (ed (decide (b ≤ a)))) := by
  show some (RV.pl (.bool (decide ((b : Int) ≤ a)))) = _
  rw [show decide ((b : Int) ≤ a) = decide (b ≤ a) from decide_eq_decide.mpr (by omega)]; rfl
theorem q_lt_int (a b : Int) : p2 .lt (ed a) (ed b) = some (.pl (ed (decide (a < b)))) := rfl
theorem q_le_int (a b : Int) : p2 .le (ed a) (ed b) = some (.pl (ed (decide (a ≤ b)))) := rfl
theorem q_lt_ni (a : Nat) (b : Int) : p2 .lt (ed a) (ed b) = some (.pl (ed (decide ((a : Int) < b)))) := rfl
theorem q_le_ni (a : Nat) (b : Int) : p2 .le (ed a) (ed b) = some (.pl (ed (decide ((a : Int) ≤ b)))) := rfl
theorem q_lt_in (a : Int) (b : Nat) : p2 .lt (ed a) (ed b) = some (.pl (ed (decide (a < (b : Int))))) := rfl
theorem q_le_in (a : Int) (b : Nat) : p2 .le (ed a) (ed b) = some (.pl (ed (decide (a ≤ (b : Int))))) := rfl
theorem ed_nat (n : Nat) : (ed n : D) = ed (n : Int) := rfl
theorem q_eq_in (a : Int) (b : Nat) : p2 .eq (ed a) (ed b) = some (.pl (ed (decide (a = (b : Int))))) := by rw [ed_nat]; exact q_eq a (b : Int) (by decide)
theorem q_eq_ni (a : Nat) (b : Int) : p2 .eq (ed a) (ed b) = some (.pl (ed (decide ((a : Int) = b)))) := by rw [ed_nat]; exact q_eq (a : Int) b (by decide)
theorem q_ne_in (a : Int) (b : Nat) : p2 .ne (ed a) (ed b) = some (.pl (ed (!decide (a = (b : Int))))) := by rw [ed_nat]; exact q_ne a (b : Int) (by decide)
theorem q_ne_ni (a : Nat) (b : Int) : p2 .ne (ed a) (ed b) = some (.pl (ed (!decide ((a : Int) = b)))) := by rw [ed_nat]; exact q_ne (a : Int) b (by decide)
theorem bitNot_nat (a : Nat) : Builtin.bitNot (a : Int) < 0 := by unfold Builtin.bitNot; omega
theorem bitAnd_nat (a b : Nat) : Builtin.bitAnd (a : Int) (b : Int) = ((a &&& b : Nat) : Int) := by
  unfold Builtin.bitAnd
  rw [decide_eq_true (by omega : (0 : Int) ≤ a), decide_eq_true (by omega : (0 : Int) ≤ b)]
  rfl
theorem bitNot_not (x : Int) : Builtin.bitNot (Builtin.bitNot x) = x := by unfold Builtin.bitNot; omega
theorem bitOr_nat (a b : Nat) : Builtin.bitOr (a : Int) (b : Int) = ((a ||| b : Nat) : Int) := by
  unfold Builtin.bitOr Builtin.bitAnd
  rw [decide_eq_false (by have := bitNot_nat a; omega), decide_eq_false (by have := bitNot_nat b; omega)]
  simp only [bitNot_not, Int.toNat_natCast]
theorem or_eq_xor_add_and (a b : Nat) : a ||| b = (a ^^^ b) + (a &&& b) := by
  have h : (a ^^^ b) &&& (a &&& b) = 0 := by
    apply Nat.eq_of_testBit_eq
    intro i
    simp only [Nat.testBit_and, Nat.testBit_xor, Nat.zero_testBit]
    cases a.testBit i <;> cases b.testBit i <;> rfl
  have h2 : (a ^^^ b) + (a &&& b) = (a ^^^ b) ||| (a &&& b) := by
    have : ∀ n (x y : Nat), x < 2 ^ n → y < 2 ^ n → x &&& y = 0 → x + y = x ||| y := by
      intro n
      induction n with
      | zero => intro x y hx hy _; have : x = 0 := by omega
                have : y = 0 := by omega
                subst x; subst y; rfl
      | succ n ih =>
        intro x y hx hy hz
        have h1 : (x / 2) &&& (y / 2) = 0 := by
          rw [← Nat.and_div_two, hz]
        have e := ih (x / 2) (y / 2) (by omega) (by omega) h1
        have h3 : (x ||| y) / 2 = (x / 2) ||| (y / 2) := Nat.or_div_two
        have h4 : (x ||| y) % 2 = (x % 2) ||| (y % 2) := by
          rw [← Nat.pow_one 2, Nat.or_mod_two_pow]
        have h5 : (x &&& y) % 2 = (x % 2) &&& (y % 2) := by
          rw [← Nat.pow_one 2, Nat.and_mod_two_pow]
        rw [hz] at h5
        have h6 : (x ||| y) = 2 * ((x ||| y) / 2) + (x ||| y) % 2 := by omega
        rw [h6, h3, ← e, h4]
        rcases Nat.mod_two_eq_zero_or_one x with hx2 | hx2 <;> rcases Nat.mod_two_eq_zero_or_one y with hy2 | hy2 <;> rw [hx2, hy2] at h5 ⊢ <;> simp at h5 ⊢ <;> omega
    have hx : (a ^^^ b) < 2 ^ (a + b + 1) := by
      refine Nat.xor_lt_two_pow ?_ ?_
      · exact Nat.lt_of_lt_of_le (Nat.lt_two_pow_self) (Nat.pow_le_pow_right (by omega) (by omega))
      · exact Nat.lt_of_lt_of_le (Nat.lt_two_pow_self) (Nat.pow_le_pow_right (by omega) (by omega))
    have hy : (a &&& b) < 2 ^ (a + b + 1) := Nat.and_lt_two_pow _ (Nat.lt_of_lt_of_le (Nat.lt_two_pow_self) (Nat.pow_le_pow_right (by omega) (by omega)))
    exact this _ _ _ hx hy h
  rw [h2]
  apply Nat.eq_of_testBit_eq
  intro i
  simp only [Nat.testBit_and, Nat.testBit_xor, Nat.testBit_or]
  cases a.testBit i <;> cases b.testBit i <;> rfl
theorem bitXor_nat (a b : Nat) : Builtin.bitXor (a : Int) (b : Int) = ((a ^^^ b : Nat) : Int) := by
  unfold Builtin.bitXor
  rw [bitOr_nat, bitAnd_nat, or_eq_xor_add_and]
  omega
theorem q_band (a b : Nat) : p2 .band (ed a) (ed b) = some (.pl (ed (a &&& b))) := by
  show some (RV.pl (.int (Builtin.bitAnd a b))) = _
  rw [bitAnd_nat]; rfl
theorem q_bor (a b : Nat) : p2 .bor (ed a) (ed b) = some (.pl (ed (a ||| b))) := by
  show some (RV.pl (.int (Builtin.bitOr a b))) = _
  rw [bitOr_nat]; rfl
theorem q_bxor (a b : Nat) : p2 .bxor (ed a) (ed b) = some (.pl (ed (a ^^^ b))) := by
  show some (RV.pl (.int (Builtin.bitXor a b))) = _
  rw [bitXor_nat]; rfl
theorem q_shr (a b : Nat) : p2 .shr (ed a) (ed b) = some (.pl (ed (a >>> b))) := by
  show (if (0 : Int) ≤ (b : Int) then some (RV.pl (.int ((a : Int) / 2 ^ (b : Int).toNat))) else none) = _
  rw [if_pos (by omega), Int.toNat_natCast]
  show _ = some (RV.pl (.int ((a >>> b : Nat) : Int)))
  rw [Nat.shiftRight_eq_div_pow]
  rfl
theorem q_shl (a b : Nat) (h : a < 2 ^ 64) (h2 : b ≤ 1000000) : p2 .shl (ed a) (ed b) = some (.pl (ed (a <<< b))) := by
  show (if _ then some (RV.pl (.int ((a : Int) * 2 ^ (b : Int).toNat))) else none) = _
  rw [if_pos ⟨by omega, by omega, by rw [Int.natAbs_natCast]; exact h⟩, Int.toNat_natCast]
  show _ = some (RV.pl (.int ((a <<< b : Nat) : Int)))
  rw [Nat.shiftLeft_eq]
  rfl
/-- the item at a place -/
def gt {α : Type} [Inhabited α] (L : List α) (i : Nat) : α := L.getD i default
theorem gt_mem {α : Type} [Inhabited α] {L : List α} {i : Nat} (h : i < L.length) : gt L i ∈ L := by
  unfold gt
  rw [List.getD_eq_getElem?_getD, List.getElem?_eq_getElem h]
  exact List.getElem_mem h
theorem gt_eq {α : Type} [Inhabited α] {L : List α} {i : Nat} (h : i < L.length) : gt L i = L[i] := by
  unfold gt
  rw [List.getD_eq_getElem?_getD, List.getElem?_eq_getElem h]; rfl
theorem atI_nat {L : List α} [Inhabited α] {i : Nat} (h : i < L.length) : L2.atI (L.map ed) (i : Int) = some (ed (gt L i)) := by
  unfold L2.atI L2.ixN
  rw [if_pos (by omega), if_pos (by rw [List.length_map]; omega)]
  show (L.map ed)[(i : Int).toNat]? = _
  rw [Int.toNat_natCast, List.getElem?_map, List.getElem?_eq_getElem h, gt_eq h]; rfl
theorem q_itemT [Inhabited α] (L : List α) (i : Nat) (h : i < L.length) : p2 .item (ed (Tup.mk L)) (ed i) = some (.pl (ed (gt L i))) := by
  show (L2.atI (L.map ed) (i : Int)).map RV.pl = _
  rw [atI_nat h]; rfl
theorem q_itemL [Inhabited α] (L : List α) (i : Nat) (h : i < L.length) : p2 .item (ed L) (ed i) = some (.pl (ed (gt L i))) := by
  show (L2.atI (L.map ed) (i : Int)).map RV.pl = _
  rw [atI_nat h]; rfl
theorem q_fst (a : α) (b : β) : p2 .item (ed (a, b)) (ed (0 : Nat)) = some (.pl (ed a)) := rfl
theorem q_snd (a : α) (b : β) : p2 .item (ed (a, b)) (ed (1 : Nat)) = some (.pl (ed b)) := rfl
theorem q_lastL [Inhabited α] (L : List α) (h : 0 < L.length) : p2 .item (ed L) (ed (-((1 : Nat) : Int))) = some (.pl (ed (gt L (L.length - 1)))) := by
  show (L2.atI (L.map ed) (-1)).map RV.pl = _
  unfold L2.atI L2.ixN
  rw [if_neg (by omega), if_pos (by rw [List.length_map]; omega)]
  show ((L.map ed)[(-1 + ((L.map ed).length : Int)).toNat]?).map _ = _
  rw [List.length_map, show (-1 + (L.length : Int)).toNat = L.length - 1 by omega, List.getElem?_map, List.getElem?_eq_getElem (by omega), gt_eq (by omega)]; rfl
theorem q_item0L (a : α) (L : List α) : p2 .item (ed (a :: L)) (ed (0 : Nat)) = some (.pl (ed a)) := by
  show (L2.atI ((a :: L).map ed) ((0 : Nat) : Int)).map RV.pl = _
  unfold L2.atI L2.ixN
  rw [if_pos (by omega), if_pos (by rw [List.length_map, List.length_cons]; omega)]; rfl
theorem q_item0T (a : α) (L : List α) : p2 .item (ed (Tup.mk (a :: L))) (ed (0 : Nat)) = some (.pl (ed a)) := by
  show (L2.atI ((a :: L).map ed) ((0 : Nat) : Int)).map RV.pl = _
  unfold L2.atI L2.ixN
  rw [if_pos (by omega), if_pos (by rw [List.length_map, List.length_cons]; omega)]; rfl
theorem q_lastA (L : List α) (a : α) : p2 .item (ed (L ++ [a])) (ed (-((1 : Nat) : Int))) = some (.pl (ed a)) := by
  have : Inhabited α := ⟨a⟩
  rw [q_lastL (L ++ [a]) (by simp), List.length_append]
  show some (RV.pl (ed (gt (L ++ [a]) (L.length + 1 - 1)))) = _
  rw [Nat.add_sub_cancel]
  unfold gt
  simp
theorem flat_rep (n : Nat) (x : D) : (List.replicate n [x]).flatten = List.replicate n x := by
  induction n with
  | zero => rfl
  | succ n ih => rw [List.replicate_succ, List.flatten_cons, ih]; rfl
theorem q_mulL1 (a : α) (n : Nat) (h : n ≤ 16777216) : p2 .mul (ed [a]) (ed n) = some (.ow (ed (List.replicate n a))) := by
  have e : p2 .mul (ed [a]) (ed n) = if -(2 ^ 63) ≤ (n : Int) ∧ (n : Int) < 2 ^ 63 ∧ [ed a].length * (n : Int).toNat ≤ 16777216 then some (.ow (.list (List.replicate (n : Int).toNat [ed a]).flatten)) else none := rfl
  rw [e, Int.toNat_natCast, if_pos ⟨by omega, by omega, by simpa using h⟩, flat_rep]
  show _ = some (RV.ow (.list ((List.replicate n a).map ed)))
  rw [List.map_replicate]
theorem q_mulT1 (a : α) (n : Nat) (h : 1 ≤ n) (h2 : n ≤ 1000) : p2 .mul (ed (Tup.mk [a])) (ed n) = some (.pl (ed (Tup.mk (List.replicate n a)))) := by
  have e : p2 .mul (ed (Tup.mk [a])) (ed n) = if [ed a].length ≠ 0 ∧ 2 ≤ (n : Int) ∧ (n : Int) ≤ 1000 ∧ [ed a].length ≤ 1000 then some (.pl (.tuple (List.replicate (n : Int).toNat [ed a]).flatten)) else if (n : Int) = 1 then some (.pl (.tuple [ed a])) else none := rfl
  rw [e, Int.toNat_natCast]
  by_cases h3 : n = 1
  · subst h3; rfl
  · rw [if_pos ⟨by simp, by omega, by omega, by simp⟩, flat_rep]
    show _ = some (RV.pl (.tuple ((List.replicate n a).map ed)))
    rw [List.map_replicate]
theorem q_item3 [Inhabited α] (x y z : α) (i : Nat) (h : i < 3) : p2 .item (.list [ed x, ed y, ed z]) (ed i) = some (.pl (ed (gt [x, y, z] i))) := q_itemL [x, y, z] i h
instance : Inhabited D := ⟨.none⟩
theorem q_addRaw (xs ys : List D) (h : xs.length + ys.length ≤ 16777216) : p2 .add (.list xs) (.list ys) = some (.ow (.list (xs ++ ys))) := by
  have e : p2 .add (.list xs) (.list ys) = if xs.length + ys.length ≤ 16777216 then some (.ow (.list (xs ++ ys))) else none := rfl
  rw [e, if_pos h]
theorem list_ed (xs : List D) : (.list xs : D) = ed xs := by show PyData.list xs = PyData.list (xs.map id); rw [List.map_id]
theorem q_addLR (xs ys : List D) (h : xs.length + ys.length ≤ 16777216) : p2 .add (ed xs) (.list ys) = some (.ow (ed (xs ++ ys))) := by
  rw [list_ed]; exact q_addL xs ys h
theorem q_itemRaw (xs : List D) (i : Nat) (h : i < xs.length) : p2 .item (.list xs) (ed i) = some (.pl (gt xs i)) := by
  have := q_itemL xs i h
  have e : (ed xs : D) = .list xs := by show PyData.list (xs.map id) = _; rw [List.map_id]
  rwa [e] at this
theorem q_max2 (a b : Nat) : p2 .max2 (ed a) (ed b) = some (.pl (ed (max a b))) := by
  show some (RV.pl (.int (if (b : Int) > a then (b : Int) else a))) = some (RV.pl (.int ((max a b : Nat) : Int)))
  congr 3; split <;> omega
theorem q_min2 (a b : Nat) : p2 .min2 (ed a) (ed b) = some (.pl (ed (min a b))) := by
  show some (RV.pl (.int (if (b : Int) < a then (b : Int) else a))) = some (RV.pl (.int ((min a b : Nat) : Int)))
  congr 3; split <;> omega
theorem q_lt_pair (a b c d : Nat) : p2 .lt (ed (a, b)) (ed (c, d)) = some (.pl (ed (decide (a < c ∨ a = c ∧ b < d)))) := by
  have e : ltOk (ed (a, b)) (ed (c, d)) = true := by
    show (PySem.W.alike (.tuple [.int a, .int b]) (.tuple [.int c, .int d]) && true && decide (PyData.depth (.tuple [.int a, .int b]) ≤ 8)) = true
    simp [PySem.W.alike, PySem.W.alikeAll, PyData.depth, PyData.depthAll]
  have e2 : p2 .lt (ed (a, b)) (ed (c, d)) = if ltOk (ed (a, b)) (ed (c, d)) = true then some (RV.pl (.bool (PySem.W.dataLt (.tuple [.int a, .int b]) (.tuple [.int c, .int d])))) else none := rfl
  rw [e2, if_pos e, PySem.W.dataLt_ii, show decide ((a : Int) < c ∨ ((a : Int) = c ∧ (b : Int) < d)) = decide (a < c ∨ a = c ∧ b < d) from decide_eq_decide.mpr (by omega)]; rfl
/-- a cut -/
theorem q_slcL (L : List α) (l h : Option Int) : slcD (ed L) (l.map .int) (h.map .int) = some (.ow (ed ((L.drop (HT.sIx L.length 0 l)).take (HT.sIx L.length L.length h - HT.sIx L.length 0 l)))) := by
  cases l <;> cases h <;> simp only [slcD, partOf, Option.map, Option.bind_some] <;> (show some (RV.ow (.list (cutD (L.map ed) _ _))) = _) <;> (unfold cutD; rw [List.length_map, ← List.map_drop, ← List.map_take]; rfl)
theorem q_slcT (L : List α) (l h : Option Int) : slcD (ed (Tup.mk L)) (l.map .int) (h.map .int) = some (.pl (ed (Tup.mk ((L.drop (HT.sIx L.length 0 l)).take (HT.sIx L.length L.length h - HT.sIx L.length 0 l))))) := by
  cases l <;> cases h <;> simp only [slcD, partOf, Option.map, Option.bind_some] <;> (show some (RV.pl (.tuple (cutD (L.map ed) _ _))) = _) <;> (unfold cutD; rw [List.length_map, ← List.map_drop, ← List.map_take]; rfl)
theorem q_fromL (L : List α) (n : Nat) : slcD (ed L) (some (ed n)) none = some (.ow (ed (L.drop n))) := by
  have := q_slcL L (some (n : Int)) none
  simp only [Option.map] at this
  refine this.trans ?_
  rw [HT.sIx_nat, HT.sIx_none]
  congr 3
  by_cases h : n ≤ L.length
  · rw [Nat.min_eq_left h, List.take_of_length_le (by rw [List.length_drop]; exact Nat.le_refl _)]
  · rw [Nat.min_eq_right (by omega), List.drop_of_length_le (by omega), List.drop_of_length_le (by omega)]; simp
theorem q_fromT (L : List α) (n : Nat) : slcD (ed (Tup.mk L)) (some (ed n)) none = some (.pl (ed (Tup.mk (L.drop n)))) := by
  have := q_slcT L (some (n : Int)) none
  simp only [Option.map] at this
  refine this.trans ?_
  rw [HT.sIx_nat, HT.sIx_none]
  congr 4
  by_cases h : n ≤ L.length
  · rw [Nat.min_eq_left h, List.take_of_length_le (by rw [List.length_drop]; exact Nat.le_refl _)]
  · rw [Nat.min_eq_right (by omega), List.drop_of_length_le (by omega), List.drop_of_length_le (by omega)]; simp
theorem q_toL (L : List α) (n : Nat) : slcD (ed L) none (some (ed n)) = some (.ow (ed (L.take n))) := by
  have := q_slcL L none (some (n : Int))
  simp only [Option.map] at this
  refine this.trans ?_
  rw [HT.sIx_nat, HT.sIx_none, List.drop_zero, Nat.sub_zero]
  congr 3
  by_cases h : n ≤ L.length
  · rw [Nat.min_eq_left h]
  · rw [Nat.min_eq_right (by omega), List.take_of_length_le (Nat.le_refl _), List.take_of_length_le (by omega)]
theorem q_toT (L : List α) (n : Nat) : slcD (ed (Tup.mk L)) none (some (ed n)) = some (.pl (ed (Tup.mk (L.take n)))) := by
  have := q_slcT L none (some (n : Int))
  simp only [Option.map] at this
  refine this.trans ?_
  rw [HT.sIx_nat, HT.sIx_none, List.drop_zero, Nat.sub_zero]
  congr 4
  by_cases h : n ≤ L.length
  · rw [Nat.min_eq_left h]
  · rw [Nat.min_eq_right (by omega), List.take_of_length_le (Nat.le_refl _), List.take_of_length_le (by omega)]
theorem q_butT (L : List α) : slcD (ed (Tup.mk L)) none (some (ed (-((1 : Nat) : Int)))) = some (.pl (ed (Tup.mk L.dropLast))) := by
  have := q_slcT L none (some (-1 : Int))
  simp only [Option.map] at this
  refine this.trans ?_
  rw [HT.sIx_none, List.drop_zero, Nat.sub_zero]
  have : HT.sIx L.length L.length (some (-1 : Int)) = L.length - 1 := by
    show (if (-1 : Int) < 0 then ((-1 : Int) + (L.length : Int)).toNat else min (-1 : Int).toNat L.length) = _
    rw [if_pos (by decide)]; omega
  rw [this, List.dropLast_eq_take]
theorem q_butL (L : List α) : slcD (ed L) none (some (ed (-((1 : Nat) : Int)))) = some (.ow (ed L.dropLast)) := by
  have := q_slcL L none (some (-1 : Int))
  simp only [Option.map] at this
  refine this.trans ?_
  rw [HT.sIx_none, List.drop_zero, Nat.sub_zero]
  have : HT.sIx L.length L.length (some (-1 : Int)) = L.length - 1 := by
    show (if (-1 : Int) < 0 then ((-1 : Int) + (L.length : Int)).toNat else min (-1 : Int).toNat L.length) = _
    rw [if_pos (by decide)]; omega
  rw [this, List.dropLast_eq_take]
/-- a bit of a set, as both programs ask for it -/
theorem bit_eq (a n : Nat) : decide (a >>> n &&& 1 = 1) = a.testBit n := by
  rw [Nat.testBit_eq_decide_div_mod_eq, Nat.shiftRight_eq_div_pow]
  congr 1
  rw [Nat.and_one_is_mod]
end
end TK

set_option Elab.async false
set_option linter.all false
set_option maxRecDepth 100000
/-! TKW: what a step of the core language leads to, rule by rule. -/
namespace TK
open PySem
open ED (ed)

@[irreducible] def W {α : Type} (m : M α) (ρ : En) (Q : α → En → Prop) (E : Exn → En → Prop) : Prop := match m ρ with
  | none => False
  | some (.ok a, ρ') => Q a ρ'
  | some (.ex e, ρ') => E e ρ'
section
variable {α β : Type} {m : M α} {ρ : En} {Q Q' : α → En → Prop} {E E' : Exn → En → Prop}
theorem W.out (h : W m ρ Q E) : (∃ a ρ', m ρ = some (.ok a, ρ') ∧ Q a ρ') ∨ ∃ e ρ', m ρ = some (.ex e, ρ') ∧ E e ρ' := by
  unfold W at h
  split at h
  · exact h.elim
  · next a ρ' e => exact .inl ⟨a, ρ', e, h⟩
  · next a ρ' e => exact .inr ⟨a, ρ', e, h⟩
theorem W.of_ok {a : α} {ρ' : En} (h : m ρ = some (.ok a, ρ')) (q : Q a ρ') : W m ρ Q E := by
  unfold W; rw [h]; exact q
theorem W.of_ex {e : Exn} {ρ' : En} (h : m ρ = some (.ex e, ρ')) (q : E e ρ') : W m ρ Q E := by
  unfold W; rw [h]; exact q
theorem W.imp (h : W m ρ Q E) (q : ∀ a ρ', Q a ρ' → Q' a ρ') (e : ∀ a ρ', E a ρ' → E' a ρ') : W m ρ Q' E' := by
  rcases h.out with ⟨a, ρ', h1, h2⟩ | ⟨a, ρ', h1, h2⟩
  · exact .of_ok h1 (q _ _ h2)
  · exact .of_ex h1 (e _ _ h2)
theorem W.bind {f : α → M β} {Q : β → En → Prop} (h : W m ρ (fun a ρ' => W (f a) ρ' Q E) E) : W (m >>= f) ρ Q E := by
  rcases h.out with ⟨a, ρ', h1, h2⟩ | ⟨a, ρ', h1, h2⟩
  · have : (m >>= f) ρ = f a ρ' := by show M.andThen m f ρ = _; unfold M.andThen; rw [h1]
    unfold W at h2 ⊢; rw [this]; exact h2
  · have : (m >>= f) ρ = some (.ex a, ρ') := by show M.andThen m f ρ = _; unfold M.andThen; rw [h1]
    exact .of_ex this h2
theorem W.ret {a : α} (q : Q a ρ) : W (M.ret a) ρ Q E := .of_ok rfl q
theorem W.pure {a : α} (q : Q a ρ) : W (Pure.pure a) ρ Q E := .of_ok rfl q
theorem W.of {a : α} {o : Option α} (h : o = some a) (q : Q a ρ) : W (M.of o) ρ Q E := by subst h; exact .of_ok rfl q
theorem W.no {P : Prop} (h : W (M.stuck : M α) ρ Q E) : P := by unfold W M.stuck at h; exact h.elim
end

section
variable (gl : Nat → Option D) (cf : CallF)
/-- a value -/
def WE (e : Ex) (ρ : En) (Q : RV → En → Prop) (E : Exn → En → Prop) : Prop := W (ev gl cf e).1 ρ Q E
/-- a truth -/
def WT (e : Ex) (ρ : En) (Q : Bool → En → Prop) (E : Exn → En → Prop) : Prop := W (ev gl cf e).2 ρ Q E
def WX (e : Exs) (ρ : En) (Q : List D → En → Prop) (E : Exn → En → Prop) : Prop := W (evs gl cf e) ρ Q E
def WR (e : Exs) (ρ : En) (Q : List RV → En → Prop) (E : Exn → En → Prop) : Prop := W (evr gl cf e) ρ Q E
def WO (e : Exo) (ρ : En) (Q : Option D → En → Prop) (E : Exn → En → Prop) : Prop := W (evO gl cf e) ρ Q E
def WC (e : Exo) (ρ : En) (Q : Bool → En → Prop) (E : Exn → En → Prop) : Prop := W (evC gl cf e) ρ Q E
def WI (e : It) (ρ : En) (Q : List D → En → Prop) (E : Exn → En → Prop) : Prop := W (evI gl cf e) ρ Q E
/-- a statement, and statements -/
def WS (s : Sm) (ρ : En) (Q : Fl → En → Prop) (E : Exn → En → Prop) : Prop := W (evS gl cf s) ρ Q E
def WSs (s : Sms) (ρ : En) (Q : Fl → En → Prop) (E : Exn → En → Prop) : Prop := W (evSs gl cf s) ρ Q E
/-- a call with values -/
def WCall (f : Nat) (rs : List RV) (ρ : En) (Q : RV → En → Prop) (E : Exn → En → Prop) : Prop := W (callM cf f rs) ρ Q E
end

/-! ### what a value is put to -/
/-- a place's operation -/
def K1 (p : P1) (Q : RV → En → Prop) (r : RV) (ρ : En) : Prop := ∃ v q, datOf r ρ = some v ∧ p1 p v = some q ∧ Q q ρ
theorem K1.mk {p : P1} {Q : RV → En → Prop} {r : RV} {ρ : En} {v : D} {q : RV} (h1 : datOf r ρ = some v) (h2 : p1 p v = some q) (h3 : Q q ρ) : K1 p Q r ρ := ⟨v, q, h1, h2, h3⟩
def K2 (p : P2) (Q : RV → En → Prop) (r q : RV) (ρ : En) : Prop := ∃ v w z, datOf r ρ = some v ∧ datOf q ρ = some w ∧ p2 p v w = some z ∧ Q z ρ
theorem K2.mk {p : P2} {Q : RV → En → Prop} {r q : RV} {ρ : En} {v w : D} {z : RV} (h1 : datOf r ρ = some v) (h2 : datOf q ρ = some w) (h3 : p2 p v w = some z) (h4 : Q z ρ) : K2 p Q r q ρ := ⟨v, w, z, h1, h2, h3, h4⟩
/-- a truth is asked of a value -/
def KT (Q : Bool → En → Prop) (r : RV) (ρ : En) : Prop := ∃ v b, datOf r ρ = some v ∧ truth v = some b ∧ Q b ρ
theorem KT.mk {Q : Bool → En → Prop} {r : RV} {ρ : En} {v : D} {b : Bool} (h1 : datOf r ρ = some v) (h2 : truth v = some b) (h3 : Q b ρ) : KT Q r ρ := ⟨v, b, h1, h2, h3⟩
/-- a value is to be plain -/
def KP (Q : D → En → Prop) (r : RV) (ρ : En) : Prop := ∃ v, plainOf r = some v ∧ Q v ρ
theorem KP.mk {Q : D → En → Prop} {r : RV} {ρ : En} {v : D} (h1 : plainOf r = some v) (h2 : Q v ρ) : KP Q r ρ := ⟨v, h1, h2⟩
/-- a value is stored -/
def KSt (i : Nat) (Q : En → Prop) (r : RV) (ρ : En) : Prop := ∃ q, ρ[i]? = some q ∧ (q.free && r.keep) = true ∧ Q (ρ.set i r)
theorem KSt.mk {i : Nat} {Q : En → Prop} {r q : RV} {ρ ρ' : En} (h1 : ρ[i]? = some q) (h2 : q.free = true) (hk : r.keep = true) (h3 : ρ.set i r = ρ') (h4 : Q ρ') : KSt i Q r ρ := ⟨q, h1, by rw [h2, hk]; rfl, h3 ▸ h4⟩
theorem wDat {r : RV} {ρ : En} {Q : D → En → Prop} {E : Exn → En → Prop} {v : D} (h : datOf r ρ = some v) (q : Q v ρ) : W (M.dat r) ρ Q E := by
  refine .of_ok (a := v) (ρ' := ρ) ?_ q
  unfold M.dat; rw [h]
theorem wPlain {r : RV} {ρ : En} {Q : D → En → Prop} {E : Exn → En → Prop} {v : D} (h : plainOf r = some v) (q : Q v ρ) : W (plainM r) ρ Q E := by
  refine .of_ok (a := v) (ρ' := ρ) ?_ q
  cases r <;> first | (obtain rfl := Option.some.inj h; rfl) | cases h
theorem wSt {i : Nat} {r q : RV} {ρ : En} {Q : Unit → En → Prop} {E : Exn → En → Prop} (h1 : ρ[i]? = some q) (h2 : (q.free && r.keep) = true) (h : Q () (ρ.set i r)) : W (stSlot i r) ρ Q E := by
  refine .of_ok (a := ()) (ρ' := ρ.set i r) ?_ h
  unfold stSlot
  rw [h1]
  exact if_pos h2
section
variable {gl : Nat → Option D} {cf : CallF} {ρ : En} {E : Exn → En → Prop}
section
variable {Q : RV → En → Prop}
theorem WE.run {e : Ex} {r : RV} {ρ' : En} (h : (ev gl cf e).1 ρ = some (.ok r, ρ')) (q : Q r ρ') : WE gl cf e ρ Q E := .of_ok h q
theorem WE.var {i : Nat} {v : D} (h : ρ[i]? = some (.pl v)) (q : Q (.pl v) ρ) : WE gl cf (.var i) ρ Q E :=
  .of_ok (a := .pl v) (ρ' := ρ) (by show rdVar i ρ = _; unfold rdVar; rw [h]) q
theorem WE.frz {i : Nat} {v : D} (h : ρ[i]? = some (.pl v)) (q : Q (.pl v) ρ) : WE gl cf (.frz i) ρ Q E :=
  .of_ok (a := .pl v) (ρ' := ρ) (by show rdFrz i ρ = _; unfold rdFrz; rw [h]) q
theorem WE.frzO {i : Nat} {v : D} {ρ' : En} (h : ρ[i]? = some (.ow v)) (e : ρ.set i (.pl v) = ρ') (q : Q (.pl v) ρ') : WE gl cf (.frz i) ρ Q E :=
  .of_ok (a := .pl v) (ρ' := ρ') (by show rdFrz i ρ = _; unfold rdFrz; rw [h]; subst e; rfl) q
theorem WE.frz2 {i : Nat} {v : D} {ρ' : En} (h : ρ[i]? = some (.ow2 v)) (e : ρ.set i (.pl v) = ρ') (q : Q (.pl v) ρ') : WE gl cf (.frz i) ρ Q E :=
  .of_ok (a := .pl v) (ρ' := ρ') (by show rdFrz i ρ = _; unfold rdFrz; rw [h]; subst e; rfl) q
theorem WE.take {i : Nat} {v : D} (h : ρ[i]? = some (.pl v)) (q : Q (.pl v) ρ) : WE gl cf (.take i) ρ Q E :=
  .of_ok (a := .pl v) (ρ' := ρ) (by show rdTake i ρ = _; unfold rdTake; rw [h]) q
theorem WE.takeO {i : Nat} {v : D} {ρ' : En} (h : ρ[i]? = some (.ow v)) (e : ρ.set i .un = ρ') (q : Q (.ow v) ρ') : WE gl cf (.take i) ρ Q E :=
  .of_ok (a := .ow v) (ρ' := ρ') (by show rdTake i ρ = _; unfold rdTake; rw [h]; subst e; rfl) q
theorem WE.take2 {i : Nat} {v : D} {ρ' : En} (h : ρ[i]? = some (.ow2 v)) (e : ρ.set i .un = ρ') (q : Q (.ow2 v) ρ') : WE gl cf (.take i) ρ Q E :=
  .of_ok (a := .ow2 v) (ρ' := ρ') (by show rdTake i ρ = _; unfold rdTake; rw [h]; subst e; rfl) q
def lookOk : Option RV → Bool
  | none => false
  | some .un => false
  | some (.bw _) => false
  | some _ => true
theorem WE.bor {i : Nat} (h : lookOk ρ[i]? = true) (q : Q (.bw i) ρ) : WE gl cf (.bor i) ρ Q E :=
  .of_ok (a := .bw i) (ρ' := ρ) (by
    show rdBor i ρ = _
    unfold rdBor
    cases e : ρ[i]? with
    | none => rw [e] at h; cases h
    | some r => cases r <;> first | rfl | (rw [e] at h; cases h)) q
theorem WE.cst {d : D} (q : Q (.pl d) ρ) : WE gl cf (.cst d) ρ Q E := W.ret q
theorem WE.cstN (k : Nat) (q : Q (.pl (ed (@OfNat.ofNat Nat k (instOfNatNat k)))) ρ) : WE gl cf (.cst (.int (@OfNat.ofNat Int k (@instOfNat k)))) ρ Q E := W.ret q
theorem WE.cstB (b : Bool) (q : Q (.pl (ed b)) ρ) : WE gl cf (.cst (.bool b)) ρ Q E := W.ret q
theorem WE.cstU (q : Q (.pl (ed ())) ρ) : WE gl cf (.cst .none) ρ Q E := W.ret q
theorem WE.glb {g : Nat} {d : D} (h : gl g = some d) (q : Q (.pl d) ρ) : WE gl cf (.glb g) ρ Q E := by
  show W (match gl g with | some d => M.ret (.pl d) | none => M.stuck) ρ Q E
  rw [h]; exact W.ret q
theorem WE.glbN {g n : Nat} (h : gl g = some (ed n)) (q : Q (.pl (ed n)) ρ) : WE gl cf (.glb g) ρ Q E := WE.glb h q
theorem WE.u {p : P1} {a : Ex} (h : WE gl cf a ρ (K1 p Q) E) : WE gl cf (.u p a) ρ Q E :=
  W.bind (W.imp h (fun r ρ' ⟨v, q, h1, h2, h3⟩ => W.bind (wDat h1 (W.of h2 h3))) fun _ _ h => h)
theorem WE.b {p : P2} {a c : Ex} (h : WE gl cf a ρ (fun r ρ1 => WE gl cf c ρ1 (fun q ρ2 => K2 p Q r q ρ2) E) E) : WE gl cf (.b p a c) ρ Q E :=
  W.bind (W.imp h (fun r ρ1 h => W.bind (W.imp h (fun q ρ2 ⟨v, w, z, h1, h2, h3, h4⟩ => W.bind (wDat h1 (W.bind (wDat h2 (W.of h3 h4))))) fun _ _ h => h)) fun _ _ h => h)
/-- slice -/
def KS (Q : RV → En → Prop) (l h : Option D) (r : RV) (ρ : En) : Prop := ∃ v z, datOf r ρ = some v ∧ slcD v l h = some z ∧ Q z ρ
theorem KS.mk {l h : Option D} {r z : RV} {v : D} (h1 : datOf r ρ = some v) (h2 : slcD v l h = some z) (h3 : Q z ρ) : KS Q l h r ρ := ⟨v, z, h1, h2, h3⟩
theorem WE.slc {a : Ex} {lo hi : Exo} (h : WE gl cf a ρ (fun r ρ1 => WO gl cf lo ρ1 (fun l ρ2 => WO gl cf hi ρ2 (fun h ρ3 => KS Q l h r ρ3) E) E) E) : WE gl cf (.slc a lo hi) ρ Q E :=
  W.bind (W.imp h (fun r ρ1 h => W.bind (W.imp h (fun l ρ2 h => W.bind (W.imp h (fun q ρ3 ⟨v, z, h1, h2, h3⟩ => W.bind (wDat h1 (W.of h2 h3))) fun _ _ h => h)) fun _ _ h => h)) fun _ _ h => h)
/-- and, or: joined where the second one keeps the places -/
def KAnd (c : Ex) (gl : Nat → Option D) (cf : CallF) (Q : RV → En → Prop) (E : Exn → En → Prop) (r : RV) (ρ : En) : Prop := ∃ b : Bool, datOf r ρ = some (ed b) ∧ (b = true → WE gl cf c ρ Q E) ∧ (b = false → Q (.pl (ed false)) ρ)
def KOr (c : Ex) (gl : Nat → Option D) (cf : CallF) (Q : RV → En → Prop) (E : Exn → En → Prop) (r : RV) (ρ : En) : Prop := ∃ b : Bool, datOf r ρ = some (ed b) ∧ (b = false → WE gl cf c ρ Q E) ∧ (b = true → Q (.pl (ed true)) ρ)
theorem KAnd.split {c : Ex} {r : RV} {b : Bool} (h1 : datOf r ρ = some (ed b)) (h2 : b = true → WE gl cf c ρ Q E) (h3 : b = false → Q (.pl (ed false)) ρ) : KAnd c gl cf Q E r ρ := ⟨b, h1, h2, h3⟩
theorem KOr.split {c : Ex} {r : RV} {b : Bool} (h1 : datOf r ρ = some (ed b)) (h2 : b = false → WE gl cf c ρ Q E) (h3 : b = true → Q (.pl (ed true)) ρ) : KOr c gl cf Q E r ρ := ⟨b, h1, h2, h3⟩
/-- a truth value that keeps the places -/
def EndB (c : Bool) (ρ0 : En) (r : RV) (ρ : En) : Prop := datOf r ρ = some (ed c) ∧ r.keep = true ∧ ρ = ρ0
theorem EndB.mk {c : Bool} : EndB c ρ (.pl (ed c)) ρ := ⟨rfl, rfl, rfl⟩
theorem EndB.pl {c : Bool} {ρ0 : En} {r : RV} (h : EndB c ρ0 r ρ) : r = .pl (ed c) ∨ r = .ow (ed c) ∨ r = .ow2 (ed c) := by
  obtain ⟨h1, h2, _⟩ := h
  cases r with
  | un => cases h2
  | bw => cases h2
  | io => cases h2
  | pl v => left; congr 1; exact Option.some.inj h1
  | ow v => right; left; congr 1; exact Option.some.inj h1
  | ow2 v => right; right; congr 1; exact Option.some.inj h1
/-- .. in its simplest form -/
def EndP (c : Bool) (ρ0 : En) (r : RV) (ρ : En) : Prop := r = .pl (ed c) ∧ ρ = ρ0
theorem EndP.mk {c : Bool} : EndP c ρ (.pl (ed c)) ρ := ⟨rfl, rfl⟩
theorem KAnd.join {c : Ex} {r : RV} {b d : Bool} (h1 : datOf r ρ = some (ed b)) (h2 : b = true → WE gl cf c ρ (EndP d ρ) (fun _ _ => False)) (h3 : Q (.pl (ed (b && d))) ρ) : KAnd c gl cf Q E r ρ := by
  refine ⟨b, h1, fun e => ?_, fun e => by subst e; exact h3⟩
  refine W.imp (h2 e) (fun r' ρ' h => ?_) fun _ _ h => h.elim
  obtain ⟨rfl, rfl⟩ := h
  subst e; exact h3
theorem KOr.join {c : Ex} {r : RV} {b d : Bool} (h1 : datOf r ρ = some (ed b)) (h2 : b = false → WE gl cf c ρ (EndP d ρ) (fun _ _ => False)) (h3 : Q (.pl (ed (b || d))) ρ) : KOr c gl cf Q E r ρ := by
  refine ⟨b, h1, fun e => ?_, fun e => by subst e; exact h3⟩
  refine W.imp (h2 e) (fun r' ρ' h => ?_) fun _ _ h => h.elim
  obtain ⟨rfl, rfl⟩ := h
  subst e; exact h3
theorem KAnd.no {c : Ex} {r : RV} {b : Bool} (h1 : datOf r ρ = some (ed b)) (e : b = false) (h3 : Q (.pl (ed false)) ρ) : KAnd c gl cf Q E r ρ := by
  subst e; exact ⟨false, h1, fun h => (by cases h), fun _ => h3⟩
theorem KOr.yes {c : Ex} {r : RV} {b : Bool} (h1 : datOf r ρ = some (ed b)) (e : b = true) (h3 : Q (.pl (ed true)) ρ) : KOr c gl cf Q E r ρ := by
  subst e; exact ⟨true, h1, fun h => (by cases h), fun _ => h3⟩
theorem WE.and {a c : Ex} (h : WE gl cf a ρ (KAnd c gl cf Q E) E) : WE gl cf (.and a c) ρ Q E :=
  W.bind (W.imp h (fun r ρ' ⟨b, h1, h2, h3⟩ => W.bind (wDat h1 (by cases b with | true => exact h2 rfl | false => exact W.ret (h3 rfl)))) fun _ _ h => h)
theorem WE.or {a c : Ex} (h : WE gl cf a ρ (KOr c gl cf Q E) E) : WE gl cf (.or a c) ρ Q E :=
  W.bind (W.imp h (fun r ρ' ⟨b, h1, h2, h3⟩ => W.bind (wDat h1 (by cases b with | true => exact W.ret (h3 rfl) | false => exact h2 rfl))) fun _ _ h => h)
theorem wTm {m : M RV} {Q : Bool → En → Prop} (h : W m ρ (KT Q) E) : W (tMx m) ρ Q E :=
  W.bind (W.imp h (fun r ρ' ⟨v, b, h1, h2, h3⟩ => W.bind (wDat h1 (W.of h2 h3))) fun _ _ h => h)
theorem WE.not {a : Ex} (h : WE gl cf a ρ (KT fun b ρ1 => Q (.pl (ed (!b))) ρ1) E) : WE gl cf (.not a) ρ Q E :=
  W.bind (wTm (W.imp h (fun r ρ' ⟨v, b, h1, h2, h3⟩ => ⟨v, b, h1, h2, W.ret h3⟩) fun _ _ h => h))
/-- if .. else ..: two ways -/
def KIf (Qt Qf : En → Prop) (b : Bool) (ρ : En) : Prop := (b = true → Qt ρ) ∧ (b = false → Qf ρ)
theorem KIf.mk {Qt Qf : En → Prop} {b : Bool} (h1 : b = true → Qt ρ) (h2 : b = false → Qf ρ) : KIf Qt Qf b ρ := ⟨h1, h2⟩
theorem KIf.yes {Qt Qf : En → Prop} {b : Bool} (e : b = true) (h1 : Qt ρ) : KIf Qt Qf b ρ := ⟨fun _ => h1, fun q => by rw [e] at q; cases q⟩
theorem KIf.no {Qt Qf : En → Prop} {b : Bool} (e : b = false) (h1 : Qf ρ) : KIf Qt Qf b ρ := ⟨fun q => (by rw [e] at q; cases q), fun _ => h1⟩
theorem WE.ite {t a c : Ex} (h : WT gl cf t ρ (KIf (fun ρ1 => WE gl cf a ρ1 Q E) (fun ρ1 => WE gl cf c ρ1 Q E)) E) : WE gl cf (.ite t a c) ρ Q E :=
  W.bind (W.imp h (fun b ρ' h => by cases b with | true => exact h.1 rfl | false => exact h.2 rfl) fun _ _ h => h)
/-- a chain: joined -/
def KCh (p q : P2) (c : Ex) (gl : Nat → Option D) (cf : CallF) (Q : RV → En → Prop) (E : Exn → En → Prop) (r r2 : RV) (ρ : En) : Prop := ∃ v w, ∃ b : Bool, datOf r ρ = some v ∧ plainOf r2 = some w ∧ p2 p v w = some (.pl (ed b)) ∧
  (b = true → WE gl cf c ρ (fun r3 ρ1 => ∃ u z, datOf r3 ρ1 = some u ∧ p2 q w u = some z ∧ Q z ρ1) E) ∧ (b = false → Q (.pl (ed false)) ρ)
theorem WE.chain {p q : P2} {a b c : Ex} (h : WE gl cf a ρ (fun r ρ1 => WE gl cf b ρ1 (fun r2 ρ2 => KCh p q c gl cf Q E r r2 ρ2) E) E) : WE gl cf (.chain p q a b c) ρ Q E := by
  refine W.bind (W.imp h (fun r ρ1 h => W.bind (W.imp h (fun r2 ρ2 h => ?_) fun _ _ h => h)) fun _ _ h => h)
  obtain ⟨v, w, b, h1, h2, h3, h4, h5⟩ := h
  refine W.bind (wDat h1 (W.bind (wPlain h2 (W.bind (W.of h3 ?_)))))
  cases b with
  | true =>
    refine W.bind (W.imp (h4 rfl) (fun r3 ρ3 h => ?_) fun _ _ h => h)
    obtain ⟨u, z, k1, k2, k3⟩ := h
    exact W.bind (wDat k1 (W.of k2 k3))
  | false => exact W.ret (h5 rfl)
def KCh2 (q : P2) (w : D) (d : Bool) (ρ0 : En) (r : RV) (ρ : En) : Prop := ∃ u, datOf r ρ = some u ∧ p2 q w u = some (.pl (ed d)) ∧ ρ = ρ0
theorem KCh2.mk {q : P2} {w u : D} {d : Bool} {r : RV} (h1 : datOf r ρ = some u) (h2 : p2 q w u = some (.pl (ed d))) : KCh2 q w d ρ r ρ := ⟨u, h1, h2, rfl⟩
theorem KCh.join {p q : P2} {c : Ex} {r r2 : RV} {v w : D} {b d : Bool} (h1 : datOf r ρ = some v) (h2 : plainOf r2 = some w) (h3 : p2 p v w = some (.pl (ed b))) (h4 : b = true → WE gl cf c ρ (KCh2 q w d ρ) (fun _ _ => False)) (h5 : Q (.pl (ed (b && d))) ρ) :
    KCh p q c gl cf Q E r r2 ρ := by
  refine ⟨v, w, b, h1, h2, h3, fun e => W.imp (h4 e) (fun r3 ρ1 h => ?_) fun _ _ h => h.elim, fun e => by subst e; exact h5⟩
  obtain ⟨u, k1, k2, rfl⟩ := h
  subst e
  exact ⟨u, _, k1, k2, h5⟩
theorem WE.tup {es : Exs} (h : WX gl cf es ρ (fun vs ρ1 => Q (.pl (.tuple vs)) ρ1) E) : WE gl cf (.tup es) ρ Q E := W.bind (W.imp h (fun _ _ h => W.ret h) fun _ _ h => h)
theorem WE.lst {es : Exs} (h : WX gl cf es ρ (fun vs ρ1 => Q (.ow (.list vs)) ρ1) E) : WE gl cf (.lst es) ρ Q E := W.bind (W.imp h (fun _ _ h => W.ret h) fun _ _ h => h)
/-- a value of a type is to be plain -/
def KD {α : Type} (iα : ED α) (Q : α → En → Prop) (r : RV) (ρ : En) : Prop := ∃ x : α, plainOf r = some (ed x) ∧ Q x ρ
theorem KD.mk {α : Type} {iα : ED α} {Q : α → En → Prop} {r : RV} {x : α} (h : plainOf r = some (ed x)) (q : Q x ρ) : KD iα Q r ρ := ⟨x, h, q⟩
theorem KD.rawD {Q : D → En → Prop} {r : RV} {x : D} (h : plainOf r = some x) (q : Q x ρ) : KD (inferInstance : ED D) Q r ρ := ⟨x, h, q⟩
theorem WE.tup2 {α β : Type} {iα : ED α} {iβ : ED β} {a c : Ex} (h : WE gl cf a ρ (KD iα fun x ρ1 => WE gl cf c ρ1 (KD iβ fun y ρ2 => Q (.pl (ed (x, y))) ρ2) E) E) : WE gl cf (.tup (.cons a (.cons c .nil))) ρ Q E := by
  refine WE.tup ?_
  refine W.bind (W.imp h (fun r ρ1 ⟨x, h1, h2⟩ => W.bind (wPlain h1 (W.bind ?_))) fun _ _ h => h)
  refine W.bind (W.imp h2 (fun r2 ρ2 ⟨y, k1, k2⟩ => W.bind (wPlain k1 (W.bind (W.ret (W.ret (W.ret k2)))))) fun _ _ h => h)
theorem WE.tup1 {α : Type} {iα : ED α} {a : Ex} (h : WE gl cf a ρ (KD iα fun x ρ1 => Q (.pl (ed (Tup.mk [x]))) ρ1) E) : WE gl cf (.tup (.cons a .nil)) ρ Q E := by
  refine WE.tup ?_
  exact W.bind (W.imp h (fun r ρ1 ⟨x, h1, h2⟩ => W.bind (wPlain h1 (W.bind (W.ret (W.ret h2))))) fun _ _ h => h)
theorem WE.lst1 {α : Type} {iα : ED α} {a : Ex} (h : WE gl cf a ρ (KD iα fun x ρ1 => Q (.ow (ed [x])) ρ1) E) : WE gl cf (.lst (.cons a .nil)) ρ Q E := by
  refine WE.lst ?_
  exact W.bind (W.imp h (fun r ρ1 ⟨x, h1, h2⟩ => W.bind (wPlain h1 (W.bind (W.ret (W.ret h2))))) fun _ _ h => h)
theorem WE.call {f : Nat} {es : Exs} (h : WR gl cf es ρ (fun rs ρ1 => WCall cf f rs ρ1 Q E) E) : WE gl cf (.call f es) ρ Q E := W.bind h
end
/-! truths -/
section
variable {Q : Bool → En → Prop}
theorem WT.plain {e : Ex} (p : (ev gl cf e).2 = tMx (ev gl cf e).1) (h : WE gl cf e ρ (KT Q) E) : WT gl cf e ρ Q E := by
  unfold WT; rw [p]; exact wTm h
theorem WT.not {a : Ex} (h : WT gl cf a ρ (fun b ρ1 => Q (!b) ρ1) E) : WT gl cf (.not a) ρ Q E := W.bind (W.imp h (fun _ _ h => W.ret h) fun _ _ h => h)
def KTAnd (c : Ex) (gl : Nat → Option D) (cf : CallF) (Q : Bool → En → Prop) (E : Exn → En → Prop) (b : Bool) (ρ : En) : Prop := (b = true → WT gl cf c ρ Q E) ∧ (b = false → Q false ρ)
def KTOr (c : Ex) (gl : Nat → Option D) (cf : CallF) (Q : Bool → En → Prop) (E : Exn → En → Prop) (b : Bool) (ρ : En) : Prop := (b = false → WT gl cf c ρ Q E) ∧ (b = true → Q true ρ)
theorem WT.and {a c : Ex} (h : WT gl cf a ρ (KTAnd c gl cf Q E) E) : WT gl cf (.and a c) ρ Q E :=
  W.bind (W.imp h (fun b ρ' h => by cases b with | true => exact h.1 rfl | false => exact W.ret (h.2 rfl)) fun _ _ h => h)
theorem WT.or {a c : Ex} (h : WT gl cf a ρ (KTOr c gl cf Q E) E) : WT gl cf (.or a c) ρ Q E :=
  W.bind (W.imp h (fun b ρ' h => by cases b with | true => exact W.ret (h.2 rfl) | false => exact h.1 rfl) fun _ _ h => h)
def EndT (c : Bool) (ρ0 : En) (b : Bool) (ρ : En) : Prop := b = c ∧ ρ = ρ0
theorem EndT.mk {c : Bool} : EndT c ρ c ρ := ⟨rfl, rfl⟩
theorem KTAnd.split {c : Ex} {b : Bool} (h2 : b = true → WT gl cf c ρ Q E) (h3 : b = false → Q false ρ) : KTAnd c gl cf Q E b ρ := ⟨h2, h3⟩
theorem KTOr.split {c : Ex} {b : Bool} (h2 : b = false → WT gl cf c ρ Q E) (h3 : b = true → Q true ρ) : KTOr c gl cf Q E b ρ := ⟨h2, h3⟩
theorem KTAnd.join {c : Ex} {b d : Bool} (h2 : b = true → WT gl cf c ρ (EndT d ρ) (fun _ _ => False)) (h3 : Q (b && d) ρ) : KTAnd c gl cf Q E b ρ := by
  refine ⟨fun e => W.imp (h2 e) (fun b' ρ' h => ?_) fun _ _ h => h.elim, fun e => by subst e; exact h3⟩
  obtain ⟨rfl, rfl⟩ := h
  subst e; exact h3
theorem KTOr.join {c : Ex} {b d : Bool} (h2 : b = false → WT gl cf c ρ (EndT d ρ) (fun _ _ => False)) (h3 : Q (b || d) ρ) : KTOr c gl cf Q E b ρ := by
  refine ⟨fun e => W.imp (h2 e) (fun b' ρ' h => ?_) fun _ _ h => h.elim, fun e => by subst e; exact h3⟩
  obtain ⟨rfl, rfl⟩ := h
  subst e; exact h3
theorem KTOr.yes {c : Ex} {b : Bool} (e : b = true) (h3 : Q true ρ) : KTOr c gl cf Q E b ρ := by
  subst e; exact ⟨fun h => (by cases h), fun _ => h3⟩
theorem KTAnd.no {c : Ex} {b : Bool} (e : b = false) (h3 : Q false ρ) : KTAnd c gl cf Q E b ρ := by
  subst e; exact ⟨fun h => (by cases h), fun _ => h3⟩
theorem WT.ite {t a c : Ex} (h : WT gl cf t ρ (KIf (fun ρ1 => WT gl cf a ρ1 Q E) (fun ρ1 => WT gl cf c ρ1 Q E)) E) : WT gl cf (.ite t a c) ρ Q E :=
  W.bind (W.imp h (fun b ρ' h => by cases b with | true => exact h.1 rfl | false => exact h.2 rfl) fun _ _ h => h)
theorem WC.no (q : Q true ρ) : WC gl cf .no ρ Q E := W.ret q
theorem WC.so {e : Ex} (h : WT gl cf e ρ Q E) : WC gl cf (.so e) ρ Q E := h
end
section
variable {Q : List D → En → Prop}
theorem WX.nil (q : Q [] ρ) : WX gl cf .nil ρ Q E := W.ret q
theorem WX.cons {e : Ex} {es : Exs} (h : WE gl cf e ρ (KP fun v ρ1 => WX gl cf es ρ1 (fun vs ρ2 => Q (v :: vs) ρ2) E) E) : WX gl cf (.cons e es) ρ Q E :=
  W.bind (W.imp h (fun r ρ1 ⟨v, h1, h2⟩ => W.bind (wPlain h1 (W.bind (W.imp h2 (fun _ _ h => W.ret h) fun _ _ h => h)))) fun _ _ h => h)
end
section
variable {Q : List RV → En → Prop}
theorem WR.nil (q : Q [] ρ) : WR gl cf .nil ρ Q E := W.ret q
theorem WR.cons {e : Ex} {es : Exs} (h : WE gl cf e ρ (fun r ρ1 => WR gl cf es ρ1 (fun rs ρ2 => Q (r :: rs) ρ2) E) E) : WR gl cf (.cons e es) ρ Q E :=
  W.bind (W.imp h (fun r ρ1 h => W.bind (W.imp h (fun _ _ h => W.ret h) fun _ _ h => h)) fun _ _ h => h)
end
/-! bounds of slices -/
section
variable {Q : Option D → En → Prop}
theorem WO.no (q : Q none ρ) : WO gl cf .no ρ Q E := W.ret q
def KO (Q : Option D → En → Prop) (r : RV) (ρ : En) : Prop := ∃ i : Int, datOf r ρ = some (.int i) ∧ Q (some (.int i)) ρ
theorem KO.nat {r : RV} {n : Nat} (h : datOf r ρ = some (ed n)) (q : Q (some (ed n)) ρ) : KO Q r ρ := ⟨n, h, q⟩
theorem KO.int {r : RV} {n : Int} (h : datOf r ρ = some (ed n)) (q : Q (some (ed n)) ρ) : KO Q r ρ := ⟨n, h, q⟩
theorem WO.so {e : Ex} (h : WE gl cf e ρ (KO Q) E) : WO gl cf (.so e) ρ Q E :=
  W.bind (W.imp h (fun r ρ1 ⟨i, h1, h2⟩ => W.bind (wDat h1 (W.bind (W.of_ok (a := i) (ρ' := ρ1) rfl (W.ret h2))))) fun _ _ h => h)
end
/-! ### what is walked -/
section
variable {Q : List D → En → Prop}
def rItems : RV → Option (List D)
  | .pl v => itemsOf v
  | .ow v => itemsOf v
  | .ow2 v => itemsOf v
  | _ => none
def KIt (Q : List D → En → Prop) (r : RV) (ρ : En) : Prop := ∃ xs, rItems r = some xs ∧ Q xs ρ
theorem KIt.mk {α : Type} {_ : ED α} {L : List α} {r : RV} (h : rItems r = some (L.map ed)) (q : Q (L.map ed) ρ) : KIt Q r ρ := ⟨_, h, q⟩
theorem KIt.two {α : Type} {iα : ED α} {a b : α} {r : RV} (h : rItems r = some [ed a, ed b]) (q : Q ([a, b].map ed) ρ) : KIt Q r ρ := ⟨_, h, q⟩
theorem KIt.three {α : Type} {iα : ED α} {a b c : α} {r : RV} (h : rItems r = some [ed a, ed b, ed c]) (q : Q ([a, b, c].map ed) ρ) : KIt Q r ρ := ⟨_, h, q⟩
theorem KIt.raw {xs : List D} {r : RV} (h : rItems r = some xs) (q : Q xs ρ) : KIt Q r ρ := ⟨_, h, q⟩
theorem wItems {r : RV} {xs : List D} (h : rItems r = some xs) (q : Q xs ρ) : W (itemsM r) ρ Q E := by
  cases r <;> first | exact W.of h q | cases h
theorem WI.ex {e : Ex} (h : WE gl cf e ρ (KIt Q) E) : WI gl cf (.ex e) ρ Q E :=
  W.bind (W.imp h (fun r ρ1 ⟨xs, h1, h2⟩ => wItems h1 h2) fun _ _ h => h)
theorem wInt {i : Int} {Q : Int → En → Prop} (q : Q i ρ) : W (intM (.int i)) ρ Q E := W.ret q
theorem wRng1 {o : Int → Option (List D)} {r : RV} {n : Nat} {xs : List D} (h1 : datOf r ρ = some (ed n)) (h2 : o (n : Int) = some xs) (q : Q xs ρ) : W (do
      let v ← M.dat r
      let j ← intM v
      M.of (o j)) ρ Q E := W.bind (wDat h1 (W.bind (wInt (i := (n : Int)) (W.of h2 q))))
theorem wRng2 {o : Int → Int → Option (List D)} {r q : RV} {a b : Nat} {xs : List D} (h1 : datOf r ρ = some (ed a)) (h2 : datOf q ρ = some (ed b)) (h3 : o (a : Int) (b : Int) = some xs) (k : Q xs ρ) : W (do
      let v ← M.dat r
      let w ← M.dat q
      let i ← intM v
      let j ← intM w
      M.of (o i j)) ρ Q E := W.bind (wDat h1 (W.bind (wDat h2 (W.bind (wInt (i := (a : Int)) (W.bind (wInt (i := (b : Int)) (W.of h3 k))))))))
def KRng (Q : List D → En → Prop) (r : RV) (ρ : En) : Prop := ∃ n : Nat, datOf r ρ = some (ed n) ∧ n ≤ 16777216 ∧ Q ((List.range n).map ed) ρ
theorem KRng.mk {r : RV} {n : Nat} (h1 : datOf r ρ = some (ed n)) (h2 : n ≤ 16777216) (q : Q ((List.range n).map ed) ρ) : KRng Q r ρ := ⟨n, h1, h2, q⟩
theorem WI.rng1 {a : Ex} (h : WE gl cf a ρ (KRng Q) E) : WI gl cf (.rng1 a) ρ Q E :=
  W.bind (W.imp h (fun r ρ1 h => by
    obtain ⟨n, h1, h2, h3⟩ := h
    exact wRng1 (o := rngD 0) h1 (rng_ed h2) h3) fun _ _ h => h)
def KRng2 (Q : List D → En → Prop) (r q : RV) (ρ : En) : Prop := ∃ a b : Nat, datOf r ρ = some (ed a) ∧ datOf q ρ = some (ed b) ∧ b ≤ 16777216 ∧ a ≤ 16777216 ∧ Q ((rng a b).map ed) ρ
theorem KRng2.mk {r q : RV} {a b : Nat} (h1 : datOf r ρ = some (ed a)) (h2 : datOf q ρ = some (ed b)) (h3 : b ≤ 16777216) (h4 : a ≤ 16777216) (k : Q ((rng a b).map ed) ρ) : KRng2 Q r q ρ := ⟨a, b, h1, h2, h3, h4, k⟩
theorem WI.rng2 {a b : Ex} (h : WE gl cf a ρ (fun r ρ1 => WE gl cf b ρ1 (fun q ρ2 => KRng2 Q r q ρ2) E) E) : WI gl cf (.rng2 a b) ρ Q E :=
  W.bind (W.imp h (fun r ρ1 h => W.bind (W.imp h (fun q ρ2 h => by
    obtain ⟨a, b, h1, h2, h3, h4, h5⟩ := h
    exact wRng2 (o := rngD) h1 h2 (rng2_ed h3 h4) h5) fun _ _ h => h)) fun _ _ h => h)
theorem zip_enum {α : Type} [ED α] (L : List α) : (List.range (L.map ed).length).zipWith (fun (k : Nat) x => (.tuple [.int k, x] : D)) (L.map ed) = ((List.range L.length).zip L).map ed := by
  rw [List.length_map, List.zip, List.map_zipWith, List.zipWith_map_right]
  rfl
def KEn (Q : List D → En → Prop) (r : RV) (ρ : En) : Prop := ∃ xs, rItems r = some xs ∧ Q ((List.range xs.length).zipWith (fun (k : Nat) x => .tuple [.int k, x]) xs) ρ
theorem KEn.mk {α : Type} {_ : ED α} {L : List α} {r : RV} (h : rItems r = some (L.map ed)) (q : Q (((List.range L.length).zip L).map ed) ρ) : KEn Q r ρ := ⟨_, h, by rw [zip_enum]; exact q⟩
theorem WI.enum {a : Ex} (h : WE gl cf a ρ (KEn Q) E) : WI gl cf (.enum a) ρ Q E :=
  W.bind (W.imp h (fun r ρ1 ⟨xs, h1, h2⟩ => W.bind (wItems h1 (W.ret h2))) fun _ _ h => h)
def KZip (Q : List D → En → Prop) (r q : RV) (ρ : En) : Prop := ∃ xs ys, rItems r = some xs ∧ rItems q = some ys ∧ sameSeq r q = true ∧ Q (xs.zipWith (fun x y => .tuple [x, y]) ys) ρ
theorem KZip.mk {α β : Type} {_ : ED α} {_ : ED β} {L : List α} {N : List β} {r q : RV} (h : rItems r = some (L.map ed)) (h2 : rItems q = some (N.map ed)) (h3 : sameSeq r q = true) (k : Q ((L.zip N).map ed) ρ) : KZip Q r q ρ :=
  ⟨_, _, h, h2, h3, by rw [List.zipWith_map]; rw [List.zip, List.map_zipWith] at k; exact k⟩
theorem WI.zip2 {a b : Ex} (h : WE gl cf a ρ (fun r ρ1 => WE gl cf b ρ1 (fun q ρ2 => KZip Q r q ρ2) E) E) : WI gl cf (.zip2 a b) ρ Q E :=
  W.bind (W.imp h (fun r ρ1 h => W.bind (W.imp h (fun q ρ2 ⟨xs, ys, h1, h2, h3, h4⟩ => W.bind (wItems h1 (W.bind (wItems h2 (by rw [if_pos h3]; exact W.ret h4))))) fun _ _ h => h)) fun _ _ h => h)
end
/-! ### comprehensions -/
theorem asgNm {i : Nat} {x : D} {q : RV} {ρ' : En} (h : ρ[i]? = some q) (f : q.free = true) (e : ρ.set i (.pl x) = ρ') : asgTg (.nm i) x ρ = some ρ' := by
  unfold asgTg; rw [h]; subst e; exact if_pos f
theorem asgTp2 {i j : Nat} {α β : Type} [ED α] [ED β] {x : α × β} {p q : RV} {ρ1 ρ2 : En} (h1 : ρ[i]? = some p) (f1 : p.free = true) (e1 : ρ.set i (.pl (ed x.1)) = ρ1) (h2 : ρ1[j]? = some q) (f2 : q.free = true) (e2 : ρ1.set j (.pl (ed x.2)) = ρ2) :
    asgTg (.tp (.cons (.nm i) (.cons (.nm j) .nil))) (ed x) ρ = some ρ2 := by
  have e : (ed x : D) = .tuple [ed x.1, ed x.2] := rfl
  rw [e]
  simp only [asgTg, itemsOf, Option.bind_some]
  unfold asgTgs
  rw [asgNm h1 f1 e1, Option.bind_some]
  unfold asgTgs
  rw [asgNm h2 f2 e2, Option.bind_some]
  rfl
theorem restE_at (ρ0 : En) : ∀ (vs : List Nat) (ρ : En) (i : Nat), (restE ρ0 ρ vs)[i]? = if i ∈ vs then (ρ[i]?).map (fun _ => ρ0.getD i .un) else ρ[i]?
  | [], ρ, i => by simp [restE]
  | v :: vs, ρ, i => by
    unfold restE
    rw [List.getElem?_set]
    have ih := restE_at ρ0 vs ρ i
    have len : ∀ (ρ : En) (vs : List Nat), (restE ρ0 ρ vs).length = ρ.length := fun ρ vs => by
      induction vs with
      | nil => rfl
      | cons v vs ih => unfold restE; rw [List.length_set, ih]
    by_cases h : v = i
    · subst h
      rw [if_pos rfl, len]
      by_cases hl : v < ρ.length
      · rw [if_pos hl, if_pos List.mem_cons_self, List.getElem?_eq_getElem hl]; rfl
      · rw [if_neg hl, if_pos List.mem_cons_self, List.getElem?_eq_none (by omega)]; rfl
    · rw [if_neg h, ih]
      by_cases hm : i ∈ vs
      · rw [if_pos hm, if_pos (List.mem_cons_of_mem _ hm)]
      · rw [if_neg hm, if_neg (by simp; exact ⟨fun e => h e.symm, hm⟩)]
theorem wipeE_at : ∀ (vs : List Nat) (ρ : En) (i : Nat), (wipeE ρ vs)[i]? = if i ∈ vs then (ρ[i]?).map (fun _ => .un) else ρ[i]?
  | [], ρ, i => by simp [wipeE]
  | v :: vs, ρ, i => by
    unfold wipeE
    rw [List.getElem?_set]
    have ih := wipeE_at vs ρ i
    have len : ∀ (ρ : En) (vs : List Nat), (wipeE ρ vs).length = ρ.length := fun ρ vs => by
      induction vs with
      | nil => rfl
      | cons v vs ih => unfold wipeE; rw [List.length_set, ih]
    by_cases h : v = i
    · subst h
      rw [if_pos rfl, len]
      by_cases hl : v < ρ.length
      · rw [if_pos hl, if_pos List.mem_cons_self, List.getElem?_eq_getElem hl]; rfl
      · rw [if_neg hl, if_pos List.mem_cons_self, List.getElem?_eq_none (by omega)]; rfl
    · rw [if_neg h, ih]
      by_cases hm : i ∈ vs
      · rw [if_pos hm, if_pos (List.mem_cons_of_mem _ hm)]
      · rw [if_neg hm, if_neg (by simp; exact ⟨fun e => h e.symm, hm⟩)]
theorem rest_wipe (ρ : En) (vs : List Nat) : restE ρ (wipeE ρ vs) vs = ρ := by
  apply List.ext_getElem?
  intro i
  rw [restE_at, wipeE_at]
  by_cases h : i ∈ vs
  · rw [if_pos h, if_pos h]
    cases e : ρ[i]? with
    | none => rfl
    | some r =>
      show some (ρ.getD i .un) = _
      rw [List.getD_eq_getElem?_getD, e]; rfl
  · rw [if_neg h, if_neg h]
/-- one round of a comprehension over ρ -/
def KEl {β : Type} (iβ : ED β) (vs : List Nat) (ρ : En) (v : β) (r : RV) (ρ' : En) : Prop := plainOf r = some (@ed β iβ v) ∧ wipeE ρ' vs = ρ
theorem KEl.mk {β : Type} {iβ : ED β} {vs : List Nat} {ρ ρ' : En} {v : β} {r : RV} (h1 : plainOf r = some (@ed β iβ v)) (h2 : wipeE ρ' vs = ρ) : KEl iβ vs ρ v r ρ' := ⟨h1, h2⟩
def KCd (p : Bool) (K : En → Prop) (vs : List Nat) (ρw : En) (b : Bool) (ρ : En) : Prop := b = p ∧ (b = true → K ρ) ∧ (b = false → wipeE ρ vs = ρw)
theorem KCd.mk {p : Bool} {K : En → Prop} {vs : List Nat} {ρw ρ : En} (h2 : wipeE ρ vs = ρw) (h1 : p = true → K ρ) : KCd p K vs ρw p ρ := ⟨rfl, h1, fun _ => h2⟩
def KComp (gl : Nat → Option D) (cf : CallF) (vs : List Nat) (tg : Tg) (cd : Exo) (elt : Ex) (Q : RV → En → Prop) (xs : List D) (ρ : En) : Prop :=
  W (fun ρ1 => if wipeOk ρ1 vs then match compLoop vs tg (evC gl cf cd) (ev gl cf elt).1 xs (wipeE ρ1 vs) with
      | some (.ok ys, ρ2) => some (.ok (.ow (.list ys)), restE ρ1 ρ2 vs)
      | _ => none
    else none) ρ Q (fun _ _ => False)
theorem WE.comp {vs : List Nat} {tg : Tg} {it : It} {cd : Exo} {elt : Ex} {Q : RV → En → Prop} (h : WI gl cf it ρ (KComp gl cf vs tg cd elt Q) E) : WE gl cf (.comp vs tg it cd elt) ρ Q E := by
  show W (compM vs tg (evI gl cf it) (evC gl cf cd) (ev gl cf elt).1) ρ Q E
  rcases W.out h with ⟨xs, ρ', h1, h2⟩ | ⟨a, ρ', h1, h2⟩
  · rcases W.out h2 with ⟨r, ρ2, k1, k2⟩ | ⟨_, _, _, k⟩
    · refine .of_ok (a := r) (ρ' := ρ2) ?_ k2
      unfold compM
      rw [h1]
      exact k1
    · exact k.elim
  · refine .of_ex (e := a) (ρ' := ρ') ?_ h2
    unfold compM
    rw [h1]
section
variable {α β : Type} {iα : ED α} {iβ : ED β} {vs : List Nat} {tg : Tg} {cd : Exo} {elt : Ex} {Q : RV → En → Prop}
theorem compL_pure {ρw : En} {p : α → Bool} {g : α → β} : ∀ (L : List α), (∀ a ∈ L, ∃ ρ1, asgTg tg (ed a) ρw = some ρ1 ∧ WC gl cf cd ρ1 (KCd (p a) (fun ρ2 => WE gl cf elt ρ2 (KEl iβ vs ρw (g a)) (fun _ _ => False)) vs ρw) (fun _ _ => False)) →
    compLoop vs tg (evC gl cf cd) (ev gl cf elt).1 (L.map ed) ρw = some (.ok (((L.filter p).map g).map ed), ρw)
  | [], _ => rfl
  | a :: L, h => by
    have ih := compL_pure L fun x hx => h x (List.mem_cons_of_mem _ hx)
    obtain ⟨ρ1, h1, h2⟩ := h a List.mem_cons_self
    rw [List.map_cons]
    unfold compLoop
    simp only [h1]
    rcases W.out h2 with ⟨b, ρ2, k1, e, k2, k3⟩ | ⟨_, _, _, k⟩
    · subst e
      simp only [k1]
      cases e : p a with
      | true =>
        rw [e] at k2
        rcases W.out (k2 rfl) with ⟨r, ρ3, l1, l2, l3⟩ | ⟨_, _, _, k⟩
        · simp only [l1, l2, l3, ih]
          rw [List.filter_cons, if_pos e]; rfl
        · exact k.elim
      | false =>
        rw [e] at k3
        simp only [k3 rfl, ih]
        rw [List.filter_cons, if_neg (by rw [e]; decide)]
    · exact k.elim
/-- a comprehension with a test -/
theorem KComp.mk {L : List α} {ρw : En} {p : α → Bool} {g : α → β} (h1 : wipeOk ρ vs = true) (h2 : wipeE ρ vs = ρw)
    (h3 : ∀ a ∈ L, ∃ ρ1, asgTg tg (ed a) ρw = some ρ1 ∧ WC gl cf cd ρ1 (KCd (p a) (fun ρ2 => WE gl cf elt ρ2 (KEl iβ vs ρw (g a)) (fun _ _ => False)) vs ρw) (fun _ _ => False))
    (q : Q (.ow (ed ((L.filter p).map g))) ρ) : KComp gl cf vs tg cd elt Q (L.map ed) ρ := by
  subst h2
  have := compL_pure L h3
  refine .of_ok (a := .ow (ed ((L.filter p).map g))) (ρ' := ρ) ?_ q
  simp only [h1, this, rest_wipe, if_true]
  rfl
/-- .. without one -/
theorem KComp.all {L : List α} {ρw : En} {g : α → β} (h1 : wipeOk ρ vs = true) (h2 : wipeE ρ vs = ρw)
    (h3 : ∀ a ∈ L, ∃ ρ1, asgTg tg (ed a) ρw = some ρ1 ∧ WE gl cf elt ρ1 (KEl iβ vs ρw (g a)) (fun _ _ => False))
    (q : Q (.ow (ed (L.map g))) ρ) : KComp gl cf vs tg .no elt Q (L.map ed) ρ := by
  refine KComp.mk (p := fun _ => true) h1 h2 (fun a ha => ?_) (by rw [List.filter_eq_self.mpr fun _ _ => rfl]; exact q)
  obtain ⟨ρ1, k1, k2⟩ := h3 a ha
  exact ⟨ρ1, k1, W.ret ⟨rfl, fun _ => k2, fun h => nomatch h⟩⟩
end
/-! two loops -/
section
variable {α β : Type} {iα : ED α} {iβ : ED β} {vs vs1 : List Nat} {tg tg1 : Tg} {it1 : It} {cd1 : Exo} {elt : Ex} {Q : RV → En → Prop}
def KIn (gl : Nat → Option D) (cf : CallF) (iβ : ED β) (vs vs1 : List Nat) (tg1 : Tg) (cd1 : Exo) (elt : Ex) (ρw : En) (R : List β) (zs : List D) (ρ : En) : Prop := ∃ ρ', compLoop vs1 tg1 (evC gl cf cd1) (ev gl cf elt).1 zs (wipeE ρ vs1) = some (.ok (R.map (@ed β iβ)), ρ') ∧ wipeE ρ' vs = ρw
theorem KIn.mk {γ : Type} {iγ : ED γ} {M : List γ} {ρw ρv : En} {p : γ → Bool} {g : γ → β} (h2 : wipeE ρ vs1 = ρv) (h4 : wipeE ρv vs = ρw)
    (h3 : ∀ a ∈ M, ∃ ρ1, asgTg tg1 (ed a) ρv = some ρ1 ∧ WC gl cf cd1 ρ1 (KCd (p a) (fun ρ2 => WE gl cf elt ρ2 (KEl iβ vs1 ρv (g a)) (fun _ _ => False)) vs1 ρv) (fun _ _ => False)) :
    KIn gl cf iβ vs vs1 tg1 cd1 elt ρw ((M.filter p).map g) (M.map ed) ρ := by
  subst h2
  exact ⟨_, compL_pure M h3, h4⟩
theorem KIn.all {γ : Type} {iγ : ED γ} {M : List γ} {ρw ρv : En} {g : γ → β} (h2 : wipeE ρ vs1 = ρv) (h4 : wipeE ρv vs = ρw)
    (h3 : ∀ a ∈ M, ∃ ρ1, asgTg tg1 (ed a) ρv = some ρ1 ∧ WE gl cf elt ρ1 (KEl iβ vs1 ρv (g a)) (fun _ _ => False)) :
    KIn gl cf iβ vs vs1 tg1 .no elt ρw (M.map g) (M.map ed) ρ := by
  have := KIn.mk (gl := gl) (cf := cf) (iβ := iβ) (vs := vs) (tg1 := tg1) (cd1 := .no) (elt := elt) (M := M) (p := fun _ => true) (g := g) (ρ := ρ) h2 h4 (fun a ha => by
    obtain ⟨ρ1, k1, k2⟩ := h3 a ha
    exact ⟨ρ1, k1, W.ret ⟨rfl, fun _ => k2, fun h => nomatch h⟩⟩)
  rwa [List.filter_eq_self.mpr fun _ _ => rfl] at this
def KComp2 (gl : Nat → Option D) (cf : CallF) (vs vs1 : List Nat) (tg : Tg) (tg1 : Tg) (it1 : It) (cd1 : Exo) (elt : Ex) (Q : RV → En → Prop) (xs : List D) (ρ : En) : Prop :=
  W (fun ρ1 => if wipeOk ρ1 vs then match compLoop2 vs vs1 tg (evC gl cf .no) (evI gl cf it1) (compLoop vs1 tg1 (evC gl cf cd1) (ev gl cf elt).1) xs (wipeE ρ1 vs) with
      | some (.ok ys, ρ2) => if ys.length ≤ 16777216 then some (.ok (.ow (.list ys)), restE ρ1 ρ2 vs) else none
      | _ => none
    else none) ρ Q (fun _ _ => False)
theorem WE.comp2 {it : It} (h : WI gl cf it ρ (KComp2 gl cf vs vs1 tg tg1 it1 cd1 elt Q) E) : WE gl cf (.comp2 vs vs1 tg it .no tg1 it1 cd1 elt) ρ Q E := by
  show W (compM2 vs vs1 tg (evI gl cf it) (evC gl cf .no) tg1 (evI gl cf it1) (evC gl cf cd1) (ev gl cf elt).1) ρ Q E
  rcases W.out h with ⟨xs, ρ', h1, h2⟩ | ⟨a, ρ', h1, h2⟩
  · rcases W.out h2 with ⟨r, ρ2, k1, k2⟩ | ⟨_, _, _, k⟩
    · refine .of_ok (a := r) (ρ' := ρ2) ?_ k2
      unfold compM2
      rw [h1]
      exact k1
    · exact k.elim
  · refine .of_ex (e := a) (ρ' := ρ') ?_ h2
    unfold compM2
    rw [h1]
theorem compL2_pure {ρw : En} {R : α → List β} : ∀ (L : List α), (∀ a ∈ L, ∃ ρ1, asgTg tg (ed a) ρw = some ρ1 ∧ WI gl cf it1 ρ1 (KIn gl cf iβ vs vs1 tg1 cd1 elt ρw (R a)) (fun _ _ => False)) →
    compLoop2 vs vs1 tg (evC gl cf .no) (evI gl cf it1) (compLoop vs1 tg1 (evC gl cf cd1) (ev gl cf elt).1) (L.map ed) ρw = some (.ok ((L.flatMap R).map ed), ρw)
  | [], _ => rfl
  | a :: L, h => by
    have ih := compL2_pure L fun x hx => h x (List.mem_cons_of_mem _ hx)
    obtain ⟨ρ1, h1, h2⟩ := h a List.mem_cons_self
    rcases W.out h2 with ⟨zs, ρ2, k1, ρ3, k2, k3⟩ | ⟨_, _, _, k⟩
    · rw [List.map_cons]
      unfold compLoop2
      have hc : evC gl cf .no ρ1 = some (.ok true, ρ1) := rfl
      simp only [h1, hc, k1, k2, k3, ih]
      rw [List.flatMap_cons, List.map_append]
    · exact k.elim
theorem KComp2.mk {L : List α} {ρw : En} {R : α → List β} (h1 : wipeOk ρ vs = true) (h2 : wipeE ρ vs = ρw)
    (h3 : ∀ a ∈ L, ∃ ρ1, asgTg tg (ed a) ρw = some ρ1 ∧ WI gl cf it1 ρ1 (KIn gl cf iβ vs vs1 tg1 cd1 elt ρw (R a)) (fun _ _ => False))
    (h4 : (L.flatMap R).length ≤ 16777216) (q : Q (.ow (ed (L.flatMap R))) ρ) : KComp2 gl cf vs vs1 tg tg1 it1 cd1 elt Q (L.map ed) ρ := by
  subst h2
  have := compL2_pure L h3
  refine .of_ok (a := .ow (ed (L.flatMap R))) (ρ' := ρ) ?_ q
  simp only [h1, this, rest_wipe, if_true, List.length_map, h4]
  rfl
end
theorem exAsg {i : Nat} {x : D} {q : RV} {ρ' : En} {P : En → Prop} (h : ρ[i]? = some q) (f : q.free = true) (e : ρ.set i (.pl x) = ρ') (k : P ρ') : ∃ ρ1, asgTg (.nm i) x ρ = some ρ1 ∧ P ρ1 := ⟨ρ', asgNm h f e, k⟩
theorem exAsg2 {i j : Nat} {α β : Type} {iα : ED α} {iβ : ED β} {x : α} {y : β} {p q : RV} {ρ1 ρ2 : En} {P : En → Prop} (h1 : ρ[i]? = some p) (f1 : p.free = true) (e1 : ρ.set i (.pl (ed x)) = ρ1) (h2 : ρ1[j]? = some q) (f2 : q.free = true) (e2 : ρ1.set j (.pl (ed y)) = ρ2) (k : P ρ2) :
    ∃ ρ1, asgTg (.tp (.cons (.nm i) (.cons (.nm j) .nil))) (ed (x, y)) ρ = some ρ1 ∧ P ρ1 := ⟨ρ2, asgTp2 (x := (x, y)) h1 f1 e1 h2 f2 e2, k⟩
/-! ### calls -/
/-- hands back r, changing nothing that was lent -/
def Ret (cf : CallF) (f : Nat) (as : List RV) (r : RV) : Prop := ∃ fs, cf f as = some (.ok r, fs) ∧ fs.length = as.length
def Rai (cf : CallF) (f : Nat) (as : List RV) (e : Exn) : Prop := ∃ fs, cf f as = some (.ex e, fs) ∧ fs.length = as.length
/-- a call's outcome in general -/
@[irreducible] def CW (cf : CallF) (f : Nat) (as : List RV) (Q : RV → List RV → Prop) (E : Exn → List RV → Prop) : Prop := match cf f as with
  | none => False
  | some (.ok r, fs) => fs.length = as.length ∧ Q r fs
  | some (.ex e, fs) => fs.length = as.length ∧ E e fs
theorem back_none : ∀ (rs fs : List RV) (ρ : En), bwsOf rs = [] → fs.length = rs.length → backArgs rs fs ρ = some ρ
  | [], [], _, _, _ => rfl
  | [], _ :: _, _, _, h => by cases h
  | _ :: _, [], _, _, h => by cases h
  | r :: rs, f :: fs, ρ, hb, h => by
    cases r with
    | bw i => cases hb
    | _ => exact back_none rs fs ρ hb (Nat.succ.inj h)
theorem pass_len : ∀ {rs as : List RV}, passArgs rs ρ = some as → as.length = rs.length
  | [], as, h => by obtain rfl := Option.some.inj h; rfl
  | r :: rs, as, h => by
    unfold passArgs at h
    cases e : passArgs rs ρ with
    | none => rw [e] at h; cases h
    | some vs =>
      rw [e] at h
      have ih := pass_len e
      cases r with
      | un => cases h
      | io => cases h
      | pl v => obtain rfl := Option.some.inj h; exact congrArg (· + 1) ih
      | ow v => obtain rfl := Option.some.inj h; exact congrArg (· + 1) ih
      | ow2 v => obtain rfl := Option.some.inj h; exact congrArg (· + 1) ih
      | bw i =>
        simp only at h
        split at h <;> first | (obtain rfl := Option.some.inj h; exact congrArg (· + 1) ih) | cases h
section
variable {f : Nat} {rs as : List RV} {Q : RV → En → Prop}
theorem WCall.ret {r : RV} (hb : bwsOf rs = []) (hp : passArgs rs ρ = some as) (h : Ret cf f as r) (q : Q r ρ) : WCall cf f rs ρ Q E := by
  obtain ⟨fs, h1, h2⟩ := h
  refine .of_ok (a := r) (ρ' := ρ) ?_ q
  unfold callM
  simp only [hp, hb, List.nodup_nil, h1, back_none rs fs ρ hb (by rw [h2, pass_len hp]), if_true]
theorem WCall.rai {e : Exn} (hb : bwsOf rs = []) (hp : passArgs rs ρ = some as) (h : Rai cf f as e) (q : E e ρ) : WCall cf f rs ρ Q E := by
  obtain ⟨fs, h1, h2⟩ := h
  refine .of_ex (e := e) (ρ' := ρ) ?_ q
  unfold callM
  simp only [hp, hb, List.nodup_nil, h1, back_none rs fs ρ hb (by rw [h2, pass_len hp]), if_true]
/-- the general call -/
theorem WCall.cw (hb : (bwsOf rs).Nodup) (hp : passArgs rs ρ = some as) (h : CW cf f as (fun r fs => ∃ ρ', backArgs rs fs ρ = some ρ' ∧ Q r ρ') (fun e fs => ∃ ρ', backArgs rs fs ρ = some ρ' ∧ E e ρ')) : WCall cf f rs ρ Q E := by
  unfold CW at h
  split at h
  · exact h.elim
  · next r fs e =>
    obtain ⟨_, ρ', h1, h2⟩ := h
    refine .of_ok (a := r) (ρ' := ρ') ?_ h2
    unfold callM
    simp only [hp, hb, e, h1, if_true]
  · next r fs e =>
    obtain ⟨_, ρ', h1, h2⟩ := h
    refine .of_ex (e := r) (ρ' := ρ') ?_ h2
    unfold callM
    simp only [hp, hb, e, h1, if_true]
theorem CW.imp {Q Q' : RV → List RV → Prop} {E E' : Exn → List RV → Prop} (h : CW cf f as Q E) (q : ∀ r fs, fs.length = as.length → Q r fs → Q' r fs) (e : ∀ r fs, fs.length = as.length → E r fs → E' r fs) : CW cf f as Q' E' := by
  unfold CW at *
  split at h
  · exact h.elim
  · next r fs e => exact ⟨h.1, q r fs h.1 h.2⟩
  · next r fs e' => exact ⟨h.1, e r fs h.1 h.2⟩
end
/-- a call through its body -/
def KRet (n : Nat) (Q : RV → List RV → Prop) (fl : Fl) (ρ : En) : Prop := n ≤ ρ.length ∧ match fl with
  | .rt r => Q r (ρ.take n)
  | .nx => Q (.pl .none) (ρ.take n)
theorem CW.body {FT : Nat → Option Fn} {k f : Nat} {fn : Fn} {as : List RV} {ρ0 : En} {Q : RV → List RV → Prop} {E : Exn → List RV → Prop} (h1 : FT f = some fn) (h2 : argsOk fn.lent as = true) (h3 : as ++ List.replicate (fn.ns - as.length) .un = ρ0)
    (h : WSs gl (callF gl FT k) fn.body ρ0 (KRet as.length Q) (fun e ρ => as.length ≤ ρ.length ∧ E e (ρ.take as.length))) : CW (callF gl FT (k + 1)) f as Q E := by
  subst h3
  have len : ∀ ρ : En, as.length ≤ ρ.length → (ρ.take as.length).length = as.length := fun ρ h => by rw [List.length_take]; omega
  rcases W.out h with ⟨fl, ρ', k1, k2⟩ | ⟨e, ρ', k1, k2⟩
  · unfold CW callF
    simp only [h1, h2, k1, if_true]
    cases fl with
    | nx => exact ⟨len _ k2.1, k2.2⟩
    | rt r => exact ⟨len _ k2.1, k2.2⟩
  · unfold CW callF
    simp only [h1, h2, k1, if_true]
    exact ⟨len _ k2.1, k2.2⟩
theorem CW.fn {FT : Nat → Option Fn} {k f ns n : Nat} {lent : List Bool} {b : Sms} {as : List RV} {ρ0 : En} {Q : RV → List RV → Prop} {E : Exn → List RV → Prop} (h1 : FT f = some ⟨lent, ns, b⟩) (h2 : argsOk lent as = true) (h4 : as.length = n) (h3 : as ++ List.replicate (ns - n) .un = ρ0)
    (h : WSs gl (callF gl FT k) b ρ0 (KRet n Q) (fun e ρ => n ≤ ρ.length ∧ E e (ρ.take n))) : CW (callF gl FT (k + 1)) f as Q E := by
  subst h4; exact CW.body h1 h2 h3 h
theorem KRet.rt {n : Nat} {Q : RV → List RV → Prop} {r : RV} (h : Nat.ble n ρ.length = true) (q : Q r (ρ.take n)) : KRet n Q (.rt r) ρ := ⟨Nat.le_of_ble_eq_true h, q⟩
theorem KRet.nx {n : Nat} {Q : RV → List RV → Prop} (h : Nat.ble n ρ.length = true) (q : Q (.pl .none) (ρ.take n)) : KRet n Q .nx ρ := ⟨Nat.le_of_ble_eq_true h, q⟩
theorem Ret.of {f : Nat} {as : List RV} {r : RV} (h : CW cf f as (fun q _ => q = r) (fun _ _ => False)) : Ret cf f as r := by
  unfold CW at h
  split at h
  · exact h.elim
  · next q fs e => obtain ⟨h1, rfl⟩ := h; exact ⟨fs, e, h1⟩
  · exact h.2.elim
theorem Rai.of {f : Nat} {as : List RV} {x : Exn} (h : CW cf f as (fun _ _ => False) (fun e _ => e = x)) : Rai cf f as x := by
  unfold CW at h
  split at h
  · exact h.elim
  · exact h.2.elim
  · next q fs e => obtain ⟨h1, rfl⟩ := h; exact ⟨fs, e, h1⟩
/-! ### statements -/
section
variable {Q : Fl → En → Prop} {rest : Sms}
theorem WSs.nil (q : Q .nx ρ) : WSs gl cf .nil ρ Q E := W.ret q
/-- what follows a statement -/
def KNx (gl : Nat → Option D) (cf : CallF) (rest : Sms) (Q : Fl → En → Prop) (E : Exn → En → Prop) (fl : Fl) (ρ : En) : Prop := match fl with
  | .nx => WSs gl cf rest ρ Q E
  | .rt r => Q (.rt r) ρ
theorem KNx.nx (h : WSs gl cf rest ρ Q E) : KNx gl cf rest Q E .nx ρ := h
theorem KNx.rt {r : RV} (h : Q (.rt r) ρ) : KNx gl cf rest Q E (.rt r) ρ := h
theorem WSs.cons {s : Sm} (h : WS gl cf s ρ (KNx gl cf rest Q E) E) : WSs gl cf (.cons s rest) ρ Q E :=
  W.bind (W.imp h (fun fl ρ1 h => by cases fl with | nx => exact h | rt r => exact W.ret h) fun _ _ h => h)
/-- a statement by what holds behind it -/
def SeqJ (J : En → Prop) (fl : Fl) (ρ : En) : Prop := fl = .nx ∧ J ρ
theorem SeqJ.mk {J : En → Prop} (h : J ρ) : SeqJ J .nx ρ := ⟨rfl, h⟩
theorem WSs.seq {s : Sm} (J : En → Prop) (h : WS gl cf s ρ (SeqJ J) E) (h2 : ∀ ρ1, J ρ1 → WSs gl cf rest ρ1 Q E) : WSs gl cf (.cons s rest) ρ Q E :=
  WSs.cons (W.imp h (fun fl ρ1 ⟨e, h⟩ => by subst e; exact h2 ρ1 h) fun _ _ h => h)
theorem WS.asg {i : Nat} {e : Ex} (h : WE gl cf e ρ (KSt i (Q .nx)) E) : WS gl cf (.asg i e) ρ Q E :=
  W.bind (W.imp h (fun r ρ1 ⟨q, h1, h2, h3⟩ => W.bind (wSt h1 h2 (W.ret h3))) fun _ _ h => h)
def KTg (t : Tg) (Q : En → Prop) (v : D) (ρ : En) : Prop := ∃ ρ', asgTg t v ρ = some ρ' ∧ Q ρ'
theorem KTg.mk {t : Tg} {Q : En → Prop} {v : D} {ρ ρ' : En} (h1 : asgTg t v ρ = some ρ') (h2 : Q ρ') : KTg t Q v ρ := ⟨ρ', h1, h2⟩
theorem KTg.two {i j : Nat} {α β : Type} {iα : ED α} {iβ : ED β} {Q : En → Prop} {x : α} {y : β} {p q : RV} {ρ1 ρ2 : En} (h1 : ρ[i]? = some p) (f1 : p.free = true) (e1 : ρ.set i (.pl (ed x)) = ρ1) (h2 : ρ1[j]? = some q) (f2 : q.free = true) (e2 : ρ1.set j (.pl (ed y)) = ρ2) (k : Q ρ2) :
    KTg (.tp (.cons (.nm i) (.cons (.nm j) .nil))) Q (ed (x, y)) ρ := ⟨ρ2, asgTp2 (x := (x, y)) h1 f1 e1 h2 f2 e2, k⟩
theorem WS.asgT {t : Tg} {e : Ex} (h : WE gl cf e ρ (KP (KTg t (Q .nx))) E) : WS gl cf (.asgT t e) ρ Q E :=
  W.bind (W.imp h (fun r ρ1 ⟨v, h1, ρ', h2, h3⟩ => W.bind (wPlain h1 (W.of_ok (a := .nx) (ρ' := ρ') (by simp only [h2]) h3))) fun _ _ h => h)
theorem WS.par {i j : Nat} {a b : Ex} (h : WE gl cf a ρ (fun r ρ1 => WE gl cf b ρ1 (fun q ρ2 => KSt i (fun ρ3 => KSt j (Q .nx) q ρ3) r ρ2) E) E) : WS gl cf (.par i j a b) ρ Q E :=
  W.bind (W.imp h (fun r ρ1 h => W.bind (W.imp h (fun q ρ2 ⟨p, h1, h2, p2, h3, h4, h5⟩ => W.bind (wSt h1 h2 (W.bind (wSt h3 h4 (W.ret h5))))) fun _ _ h => h)) fun _ _ h => h)
theorem WS.expr {e : Ex} (h : WE gl cf e ρ (fun _ ρ1 => Q .nx ρ1) E) : WS gl cf (.expr e) ρ Q E := W.bind (W.imp h (fun _ _ h => W.ret h) fun _ _ h => h)
def retOk : RV → Bool
  | .bw _ => false
  | .io _ => false
  | .un => false
  | _ => true
def KR (Q : Fl → En → Prop) (r : RV) (ρ : En) : Prop := retOk r = true ∧ Q (.rt r) ρ
theorem KR.mk {r : RV} (h : retOk r = true) (q : Q (.rt r) ρ) : KR Q r ρ := ⟨h, q⟩
theorem WS.ret {e : Ex} (h : WE gl cf e ρ (KR Q) E) : WS gl cf (.ret e) ρ Q E :=
  W.bind (W.imp h (fun r ρ1 ⟨h1, h2⟩ => by cases r <;> first | exact W.ret h2 | cases h1) fun _ _ h => h)
theorem WS.retN (q : Q (.rt (.pl .none)) ρ) : WS gl cf .retN ρ Q E := W.ret q
theorem WS.rais {c : Nat} (q : E ⟨c, none⟩ ρ) : WS gl cf (.rais c .no) ρ Q E := W.of_ex rfl q
theorem WS.raisV {c : Nat} {e : Ex} (h : WE gl cf e ρ (KP fun v ρ1 => E ⟨c, some v⟩ ρ1) E) : WS gl cf (.rais c (.so e)) ρ Q E :=
  W.bind (W.imp h (fun r ρ1 ⟨v, h1, h2⟩ => W.bind (wPlain h1 (W.of_ex rfl h2))) fun _ _ h => h)
theorem WS.ife {t : Ex} {a b : Sms} (h : WT gl cf t ρ (KIf (fun ρ1 => WSs gl cf a ρ1 Q E) (fun ρ1 => WSs gl cf b ρ1 Q E)) E) : WS gl cf (.ife t a b) ρ Q E :=
  W.bind (W.imp h (fun b ρ' h => by cases b with | true => exact h.1 rfl | false => exact h.2 rfl) fun _ _ h => h)
theorem WS.pass (q : Q .nx ρ) : WS gl cf .pass ρ Q E := W.ret q
def KTry (gl : Nat → Option D) (cf : CallF) (c : Nat) (suite : Sms) (Q : Fl → En → Prop) (E : Exn → En → Prop) (e : Exn) (ρ : En) : Prop := if e.c = c then WSs gl cf suite ρ Q E else E e ρ
theorem KTry.yes {c : Nat} {suite : Sms} {x : Option D} (h : WSs gl cf suite ρ Q E) : KTry gl cf c suite Q E ⟨c, x⟩ ρ := by
  unfold KTry; rw [if_pos rfl]; exact h
theorem WS.tryE {c : Nat} {body suite : Sms} (h : WSs gl cf body ρ Q (KTry gl cf c suite Q E)) : WS gl cf (.tryE c body suite) ρ Q E := by
  rcases W.out h with ⟨a, ρ', h1, h2⟩ | ⟨e, ρ', h1, h2⟩
  · refine .of_ok (a := a) (ρ' := ρ') ?_ h2
    show (match evSs gl cf body ρ with | some (.ex e, ρ') => if e.c = c then evSs gl cf suite ρ' else some (.ex e, ρ') | o => o) = _
    rw [h1]
  · unfold KTry at h2
    show W (fun ρ => match evSs gl cf body ρ with | some (.ex e, ρ') => if e.c = c then evSs gl cf suite ρ' else some (.ex e, ρ') | o => o) ρ Q E
    unfold W
    simp only [h1]
    by_cases hc : e.c = c
    · rw [if_pos hc] at h2
      simp only [if_pos hc]
      unfold WSs W at h2
      exact h2
    · rw [if_neg hc] at h2
      simp only [if_neg hc]
      exact h2
/-! changes of a list at a place -/
theorem wChkL {i : Nat} {Q : Unit → En → Prop} {xs : List D} (h : ρ[i]? = some (.ow (.list xs)) ∨ ρ[i]? = some (.io (.list xs))) (q : Q () ρ) : W (chkL i) ρ Q E := by
  refine .of_ok (a := ()) (ρ' := ρ) ?_ q
  unfold chkL
  rcases h with h | h <;> rw [h]
/-- the list at a place -/
def KL (i : Nat) (f : List D → Option (List D)) (Q : En → Prop) (ρ : En) : Prop := (∃ xs ys, ρ[i]? = some (.ow (.list xs)) ∧ f xs = some ys ∧ Q (ρ.set i (.ow (.list ys)))) ∨ ∃ xs ys, ρ[i]? = some (.io (.list xs)) ∧ f xs = some ys ∧ Q (ρ.set i (.io (.list ys)))
theorem KL.ow {i : Nat} {f : List D → Option (List D)} {Q : En → Prop} {xs ys : List D} {ρ' : En} (h1 : ρ[i]? = some (.ow (.list xs))) (h2 : f xs = some ys) (h3 : ρ.set i (.ow (.list ys)) = ρ') (q : Q ρ') : KL i f Q ρ := .inl ⟨xs, ys, h1, h2, h3 ▸ q⟩
theorem KL.io {i : Nat} {f : List D → Option (List D)} {Q : En → Prop} {xs ys : List D} {ρ' : En} (h1 : ρ[i]? = some (.io (.list xs))) (h2 : f xs = some ys) (h3 : ρ.set i (.io (.list ys)) = ρ') (q : Q ρ') : KL i f Q ρ := .inr ⟨xs, ys, h1, h2, h3 ▸ q⟩
theorem KL.imp {i : Nat} {f : List D → Option (List D)} {Q Q' : En → Prop} (h : KL i f Q ρ) (q : ∀ ρ, Q ρ → Q' ρ) : KL i f Q' ρ := by
  rcases h with ⟨xs, ys, h1, h2, h3⟩ | ⟨xs, ys, h1, h2, h3⟩
  · exact .inl ⟨xs, ys, h1, h2, q _ h3⟩
  · exact .inr ⟨xs, ys, h1, h2, q _ h3⟩
theorem wChange {i : Nat} {f : List D → Option (List D)} {Q : Unit → En → Prop} (h : KL i f (Q ()) ρ) : W (changeM i f) ρ Q E := by
  rcases h with ⟨xs, ys, h1, h2, h3⟩ | ⟨xs, ys, h1, h2, h3⟩
  · exact .of_ok (a := ()) (ρ' := ρ.set i (.ow (.list ys))) (by unfold changeM; rw [h1]; simp only [h2]) h3
  · exact .of_ok (a := ()) (ρ' := ρ.set i (.io (.list ys))) (by unfold changeM; rw [h1]; simp only [h2]) h3
def hasL (ρ : En) (i : Nat) : Bool := match ρ[i]? with
  | some (.ow (.list _)) => true
  | some (.io (.list _)) => true
  | _ => false
theorem wChk {i : Nat} {Q : Unit → En → Prop} (h : hasL ρ i = true) (q : Q () ρ) : W (chkL i) ρ Q E := by
  refine .of_ok (a := ()) (ρ' := ρ) ?_ q
  unfold hasL at h
  unfold chkL
  cases e : ρ[i]? with
  | none => rw [e] at h; cases h
  | some r =>
    rw [e] at h
    cases r with
    | ow v => cases v <;> first | rfl | cases h
    | io v => cases v <;> first | rfl | cases h
    | _ => cases h
def appF (v : D) (xs : List D) : Option (List D) := if xs.length < 16777216 then some (xs ++ [v]) else none
def extF (ys xs : List D) : Option (List D) := if xs.length + ys.length ≤ 16777216 then some (xs ++ ys) else none
theorem KL.appO {α : Type} {iα : ED α} {i : Nat} {Q : En → Prop} {L : List α} {a : α} {ρ' : En} (h1 : ρ[i]? = some (.ow (ed L))) (h2 : L.length < 16777216) (h3 : ρ.set i (.ow (ed (L ++ [a]))) = ρ') (q : Q ρ') : KL i (appF (ed a)) Q ρ := by
  refine KL.ow (xs := L.map ed) (ys := (L ++ [a]).map ed) h1 ?_ h3 q
  unfold appF
  rw [if_pos (by rw [List.length_map]; exact h2), List.map_append]; rfl
theorem KL.appD {i : Nat} {Q : En → Prop} {L : List D} {v : D} {ρ' : En} (h1 : ρ[i]? = some (.ow (ed L))) (h2 : L.length < 16777216) (h3 : ρ.set i (.ow (ed (L ++ [v]))) = ρ') (q : Q ρ') : KL i (appF v) Q ρ := KL.appO (a := v) h1 h2 h3 q
theorem KL.appI {α : Type} {iα : ED α} {i : Nat} {Q : En → Prop} {L : List α} {a : α} {ρ' : En} (h1 : ρ[i]? = some (.io (ed L))) (h2 : L.length < 16777216) (h3 : ρ.set i (.io (ed (L ++ [a]))) = ρ') (q : Q ρ') : KL i (appF (ed a)) Q ρ := by
  refine KL.io (xs := L.map ed) (ys := (L ++ [a]).map ed) h1 ?_ h3 q
  unfold appF
  rw [if_pos (by rw [List.length_map]; exact h2), List.map_append]; rfl
theorem KL.extO {α : Type} {iα : ED α} {i : Nat} {Q : En → Prop} {L M : List α} {ρ' : En} (h1 : ρ[i]? = some (.ow (ed L))) (h2 : L.length + M.length ≤ 16777216) (h3 : ρ.set i (.ow (ed (L ++ M))) = ρ') (q : Q ρ') : KL i (extF (M.map ed)) Q ρ := by
  refine KL.ow (xs := L.map ed) (ys := (L ++ M).map ed) h1 ?_ h3 q
  unfold extF
  rw [if_pos (by rw [List.length_map, List.length_map]; exact h2), List.map_append]
theorem setAt_ed {α : Type} [ED α] (L : List α) (k : Nat) (a : α) (h : k < L.length) : setAt (ed k) (ed a) (L.map ed) = some ((L.set k a).map ed) := by
  show (L2.ixN (L.map ed).length (k : Int)).map _ = _
  unfold L2.ixN
  rw [if_pos (by omega), if_pos (by rw [List.length_map]; omega), Option.map_some, Int.toNat_natCast, List.map_set]
/-- a list's item is changed -/
theorem KL.setO {α : Type} {iα : ED α} {i k : Nat} {Q : En → Prop} {L : List α} {a : α} {ρ' : En} (h1 : ρ[i]? = some (.ow (ed L))) (h2 : k < L.length) (h3 : ρ.set i (.ow (ed (L.set k a))) = ρ') (q : Q ρ') : KL i (setAt (ed k) (ed a)) Q ρ :=
  KL.ow (xs := L.map ed) h1 (setAt_ed L k a h2) h3 q
theorem KL.setI {α : Type} {iα : ED α} {i k : Nat} {Q : En → Prop} {L : List α} {a : α} {ρ' : En} (h1 : ρ[i]? = some (.io (ed L))) (h2 : k < L.length) (h3 : ρ.set i (.io (ed (L.set k a))) = ρ') (q : Q ρ') : KL i (setAt (ed k) (ed a)) Q ρ :=
  KL.io (xs := L.map ed) h1 (setAt_ed L k a h2) h3 q
theorem WS.append {i : Nat} {e : Ex} (h0 : hasL ρ i = true) (h : WE gl cf e ρ (KP fun v ρ1 => KL i (appF v) (Q .nx) ρ1) E) : WS gl cf (.append i e) ρ Q E :=
  W.bind (wChk h0 (W.bind (W.imp h (fun r ρ1 ⟨v, h1, h2⟩ => W.bind (wPlain h1 (W.bind (wChange (KL.imp h2 fun _ h => W.ret h))))) fun _ _ h => h)))
def KExt (i : Nat) (Q : En → Prop) (r : RV) (ρ : En) : Prop := ∃ ys, r = .ow (.list ys) ∧ KL i (extF ys) Q ρ
theorem KExt.mk {α : Type} {_ : ED α} {i : Nat} {Q : En → Prop} {L : List α} (h : KL i (extF (L.map ed)) Q ρ) : KExt i Q (.ow (ed L)) ρ := ⟨_, rfl, h⟩
theorem WS.extend {i : Nat} {e : Ex} (h0 : hasL ρ i = true) (h : WE gl cf e ρ (KExt i (Q .nx)) E) : WS gl cf (.extend i e) ρ Q E :=
  W.bind (wChk h0 (W.bind (W.imp h (fun r ρ1 ⟨ys, h1, h2⟩ => by subst h1; exact W.bind (wChange (KL.imp h2 fun _ h => W.ret h))) fun _ _ h => h)))
def KSet (k : Ex) (gl : Nat → Option D) (cf : CallF) (i : Nat) (Q : En → Prop) (E : Exn → En → Prop) (x : D) (ρ : En) : Prop := hasL ρ i = true ∧ WE gl cf k ρ (fun r ρ2 => ∃ y, datOf r ρ2 = some y ∧ KL i (setAt y x) Q ρ2) E
def KSet2 (i : Nat) (Q : En → Prop) (x : D) (r : RV) (ρ : En) : Prop := ∃ y, datOf r ρ = some y ∧ KL i (setAt y x) Q ρ
theorem KSet2.mk {i : Nat} {Q : En → Prop} {x y : D} {r : RV} (h1 : datOf r ρ = some y) (h2 : KL i (setAt y x) Q ρ) : KSet2 i Q x r ρ := ⟨y, h1, h2⟩
theorem KSet.mk {k : Ex} {i : Nat} {Q : En → Prop} {x : D} (h1 : hasL ρ i = true) (h2 : WE gl cf k ρ (KSet2 i Q x) E) : KSet k gl cf i Q E x ρ := ⟨h1, h2⟩
theorem WS.set1 {i : Nat} {k v : Ex} (h : WE gl cf v ρ (KP (KSet k gl cf i (Q .nx) E)) E) : WS gl cf (.set1 i k v) ρ Q E :=
  W.bind (W.imp h (fun r ρ1 ⟨x, h1, h0, h2⟩ => W.bind (wPlain h1 (W.bind (wChk h0 (W.bind (W.imp h2 (fun q ρ2 ⟨y, k1, k2⟩ => W.bind (wDat k1 (W.bind (wChange (KL.imp k2 fun _ h => W.ret h))))) fun _ _ h => h)))))) fun _ _ h => h)
def KAug (i : Nat) (Q : En → Prop) (z : RV) (ρ : En) : Prop := ∃ n : Int, z = .pl (.int n) ∧ KSt i Q (.pl (.int n)) ρ
theorem KAug.nat {i : Nat} {Q : En → Prop} {n : Nat} (h : KSt i Q (.pl (ed n)) ρ) : KAug i Q (.pl (ed n)) ρ := ⟨n, rfl, h⟩
theorem KAug.int {i : Nat} {Q : En → Prop} {n : Int} (h : KSt i Q (.pl (ed n)) ρ) : KAug i Q (.pl (ed n)) ρ := ⟨n, rfl, h⟩
def KA2 (p : P2) (v : D) (i : Nat) (Q : En → Prop) (r : RV) (ρ : En) : Prop := ∃ w z, datOf r ρ = some w ∧ p2 p v w = some z ∧ KAug i Q z ρ
theorem KA2.mk {p : P2} {v w : D} {i : Nat} {Q : En → Prop} {r z : RV} (h1 : datOf r ρ = some w) (h2 : p2 p v w = some z) (h3 : KAug i Q z ρ) : KA2 p v i Q r ρ := ⟨w, z, h1, h2, h3⟩
theorem WS.aug {i : Nat} {p : P2} {e : Ex} {v : D} (h0 : ρ[i]? = some (.pl v)) (h : WE gl cf e ρ (KA2 p v i (Q .nx)) E) : WS gl cf (.aug i p e) ρ Q E := by
  refine W.bind (.of_ok (a := .pl v) (ρ' := ρ) (by unfold rdVar; rw [h0]) (W.bind (wDat rfl (W.bind (W.imp h (fun r ρ1 h => ?_) fun _ _ h => h)))))
  obtain ⟨w, z, h1, h2, n, rfl, q, k1, k2, k3⟩ := h
  exact W.bind (wDat h1 (W.bind (W.of h2 (W.bind (wSt k1 k2 (W.ret k3))))))
end
/-! ### loops -/
section
variable {α : Type} {iα : ED α} {tg : Tg} {body : Sms}
/-- one turn of a for -/
def KTurn (I : En → Prop) (Q : Fl → En → Prop) (fl : Fl) (ρ : En) : Prop := match fl with
  | .nx => I ρ
  | .rt r => Q (.rt r) ρ
theorem KTurn.nx {I : En → Prop} {Q : Fl → En → Prop} (h : I ρ) : KTurn I Q .nx ρ := h
theorem KTurn.rt {I : En → Prop} {Q : Fl → En → Prop} {r : RV} (h : Q (.rt r) ρ) : KTurn I Q (.rt r) ρ := h
def KFor (gl : Nat → Option D) (cf : CallF) (tg : Tg) (body : Sms) (Q : Fl → En → Prop) (E : Exn → En → Prop) (xs : List D) (ρ : En) : Prop := W (forLoop tg (evSs gl cf body) xs) ρ Q E
theorem WS.forS {it : It} {Q : Fl → En → Prop} (h : WI gl cf it ρ (KFor gl cf tg body Q E) E) : WS gl cf (.forS tg it body) ρ Q E := W.bind h
/-- a for by an invariant of what is done and what is left -/
theorem KFor.mk {L : List α} {Q : Fl → En → Prop} (I : List α → List α → En → Prop) (h0 : I [] L ρ)
    (h1 : ∀ done a left ρ, L = done ++ a :: left → I done (a :: left) ρ → ∃ ρ1, asgTg tg (ed a) ρ = some ρ1 ∧ WSs gl cf body ρ1 (KTurn (I (done ++ [a]) left) Q) E)
    (h2 : ∀ ρ, I L [] ρ → Q .nx ρ) : KFor gl cf tg body Q E (L.map ed) ρ := by
  have go : ∀ (left done : List α) (ρ : En), L = done ++ left → I done left ρ → W (forLoop tg (evSs gl cf body) (left.map ed)) ρ Q E := by
    intro left
    induction left with
    | nil => intro done ρ e h; rw [List.append_nil] at e; subst e; exact W.ret (h2 ρ h)
    | cons a left ih =>
      intro done ρ e h
      obtain ⟨ρ1, k1, k2⟩ := h1 done a left ρ e h
      rcases W.out k2 with ⟨fl, ρ2, l1, l2⟩ | ⟨x, ρ2, l1, l2⟩
      · cases fl with
        | nx =>
          have := ih (done ++ [a]) ρ2 (by rw [e]; simp) l2
          rw [List.map_cons]
          unfold W at this ⊢
          unfold forLoop
          simp only [k1, l1]
          exact this
        | rt r =>
          rw [List.map_cons]
          refine .of_ok (a := .rt r) (ρ' := ρ2) ?_ l2
          unfold forLoop
          simp only [k1, l1]
      · rw [List.map_cons]
        refine .of_ex (e := x) (ρ' := ρ2) ?_ l2
        unfold forLoop
        simp only [k1, l1]
  exact go L [] ρ rfl h0
/-- a while by an invariant and a measure -/
theorem WS.whil {t : Ex} {Q : Fl → En → Prop} (I : Nat → En → Prop) (n : Nat) (hn : n < 1000000) (h0 : I n ρ)
    (h1 : ∀ n ρ, I n ρ → WT gl cf t ρ (KIf (fun ρ1 => WSs gl cf body ρ1 (KTurn (fun ρ2 => ∃ m, m < n ∧ I m ρ2) Q) E) (Q .nx)) E) : WS gl cf (.whil t body) ρ Q E := by
  have go : ∀ (k n : Nat) (ρ : En), n < k → I n ρ → W (whileLoop (ev gl cf t).2 (evSs gl cf body) k) ρ Q E := by
    intro k
    induction k with
    | zero => intro n ρ h; omega
    | succ k ih =>
      intro n ρ hk hI
      rcases W.out (h1 n ρ hI) with ⟨b, ρ1, k1, k2, k3⟩ | ⟨x, ρ2, l1, l2⟩
      · cases b with
        | true =>
          rcases W.out (k2 rfl) with ⟨fl, ρ2, l1, l2⟩ | ⟨x, ρ2, l1, l2⟩
          · cases fl with
            | nx =>
              obtain ⟨m, hm, l2⟩ := l2
              have := ih m ρ2 (by omega) l2
              unfold W at this ⊢
              unfold whileLoop
              simp only [k1, l1]
              exact this
            | rt r =>
              refine .of_ok (a := .rt r) (ρ' := ρ2) ?_ l2
              unfold whileLoop
              simp only [k1, l1]
          · refine .of_ex (e := x) (ρ' := ρ2) ?_ l2
            unfold whileLoop
            simp only [k1, l1]
        | false =>
          refine .of_ok (a := .nx) (ρ' := ρ1) ?_ (k3 rfl)
          unfold whileLoop
          simp only [k1]
      · refine .of_ex (e := x) (ρ' := ρ2) ?_ l2
        unfold whileLoop
        simp only [l1]
  exact go most n ρ hn h0
end
end
theorem rep0 {α : Type} (a : α) : List.replicate 0 a = [] := rfl
theorem rep1 {α : Type} (a : α) : List.replicate 1 a = [a] := rfl
theorem rep2 {α : Type} (a : α) : List.replicate 2 a = [a, a] := rfl
theorem rep3 {α : Type} (a : α) : List.replicate 3 a = [a, a, a] := rfl
theorem rep4 {α : Type} (a : α) : List.replicate 4 a = [a, a, a, a] := rfl
theorem rep5 {α : Type} (a : α) : List.replicate 5 a = [a, a, a, a, a] := rfl
theorem rep6 {α : Type} (a : α) : List.replicate 6 a = [a, a, a, a, a, a] := rfl
theorem rep7 {α : Type} (a : α) : List.replicate 7 a = [a, a, a, a, a, a, a] := rfl
theorem rep8 {α : Type} (a : α) : List.replicate 8 a = [a, a, a, a, a, a, a, a] := rfl
theorem rep9 {α : Type} (a : α) : List.replicate 9 a = [a, a, a, a, a, a, a, a, a] := rfl
theorem rep10 {α : Type} (a : α) : List.replicate 10 a = [a, a, a, a, a, a, a, a, a, a] := rfl
theorem rep11 {α : Type} (a : α) : List.replicate 11 a = [a, a, a, a, a, a, a, a, a, a, a] := rfl
theorem rep12 {α : Type} (a : α) : List.replicate 12 a = [a, a, a, a, a, a, a, a, a, a, a, a] := rfl
theorem rep13 {α : Type} (a : α) : List.replicate 13 a = [a, a, a, a, a, a, a, a, a, a, a, a, a] := rfl
theorem rep14 {α : Type} (a : α) : List.replicate 14 a = [a, a, a, a, a, a, a, a, a, a, a, a, a, a] := rfl
theorem rep15 {α : Type} (a : α) : List.replicate 15 a = [a, a, a, a, a, a, a, a, a, a, a, a, a, a, a] := rfl
theorem rep16 {α : Type} (a : α) : List.replicate 16 a = [a, a, a, a, a, a, a, a, a, a, a, a, a, a, a, a] := rfl
theorem rep17 {α : Type} (a : α) : List.replicate 17 a = [a, a, a, a, a, a, a, a, a, a, a, a, a, a, a, a, a] := rfl
theorem rep18 {α : Type} (a : α) : List.replicate 18 a = [a, a, a, a, a, a, a, a, a, a, a, a, a, a, a, a, a, a] := rfl
theorem rep19 {α : Type} (a : α) : List.replicate 19 a = [a, a, a, a, a, a, a, a, a, a, a, a, a, a, a, a, a, a, a] := rfl
theorem rep20 {α : Type} (a : α) : List.replicate 20 a = [a, a, a, a, a, a, a, a, a, a, a, a, a, a, a, a, a, a, a, a] := rfl
theorem rep21 {α : Type} (a : α) : List.replicate 21 a = [a, a, a, a, a, a, a, a, a, a, a, a, a, a, a, a, a, a, a, a, a] := rfl
theorem rep22 {α : Type} (a : α) : List.replicate 22 a = [a, a, a, a, a, a, a, a, a, a, a, a, a, a, a, a, a, a, a, a, a, a] := rfl
theorem rep23 {α : Type} (a : α) : List.replicate 23 a = [a, a, a, a, a, a, a, a, a, a, a, a, a, a, a, a, a, a, a, a, a, a, a] := rfl
theorem rep24 {α : Type} (a : α) : List.replicate 24 a = [a, a, a, a, a, a, a, a, a, a, a, a, a, a, a, a, a, a, a, a, a, a, a, a] := rfl
theorem rep25 {α : Type} (a : α) : List.replicate 25 a = [a, a, a, a, a, a, a, a, a, a, a, a, a, a, a, a, a, a, a, a, a, a, a, a, a] := rfl
theorem rep26 {α : Type} (a : α) : List.replicate 26 a = [a, a, a, a, a, a, a, a, a, a, a, a, a, a, a, a, a, a, a, a, a, a, a, a, a, a] := rfl
theorem rep27 {α : Type} (a : α) : List.replicate 27 a = [a, a, a, a, a, a, a, a, a, a, a, a, a, a, a, a, a, a, a, a, a, a, a, a, a, a, a] := rfl
theorem rep28 {α : Type} (a : α) : List.replicate 28 a = [a, a, a, a, a, a, a, a, a, a, a, a, a, a, a, a, a, a, a, a, a, a, a, a, a, a, a, a] := rfl
theorem rep29 {α : Type} (a : α) : List.replicate 29 a = [a, a, a, a, a, a, a, a, a, a, a, a, a, a, a, a, a, a, a, a, a, a, a, a, a, a, a, a, a] := rfl
theorem rep30 {α : Type} (a : α) : List.replicate 30 a = [a, a, a, a, a, a, a, a, a, a, a, a, a, a, a, a, a, a, a, a, a, a, a, a, a, a, a, a, a, a] := rfl
section
variable {gl : Nat → Option D} {cf : CallF} {ρ : En} {E : Exn → En → Prop}
theorem isLt {a b : Nat} (h : a < b) : a < b := h
theorem isSet {ρ ρ' : En} {i : Nat} {r : RV} (h : ρ.set i r = ρ') : ρ.set i r = ρ' := h
theorem isWE {e : Ex} {Q : RV → En → Prop} (h : WE gl cf e ρ Q E) : WE gl cf e ρ Q E := h
theorem isWT {e : Ex} {Q : Bool → En → Prop} (h : WT gl cf e ρ Q E) : WT gl cf e ρ Q E := h
theorem isWS {e : Sm} {Q : Fl → En → Prop} (h : WS gl cf e ρ Q E) : WS gl cf e ρ Q E := h
theorem isK1 {p : P1} {Q : RV → En → Prop} {r : RV} (h : K1 p Q r ρ) : K1 p Q r ρ := h
theorem isK2 {p : P2} {Q : RV → En → Prop} {r q : RV} (h : K2 p Q r q ρ) : K2 p Q r q ρ := h
end
end TK

set_option Elab.async false
set_option linter.all false
set_option maxRecDepth 100000
/-! TKW2: lists that are popped, lists of lists, and what draws. -/
namespace TK
open PySem
open ED (ed)
section
variable {gl : Nat → Option D} {cf : CallF} {ρ : En} {E : Exn → En → Prop}
/-! ### pop -/
def KPop (i : Nat) (Q : RV → En → Prop) (r : RV) (ρ : En) : Prop := ∃ k : Int, ∃ q ρ', datOf r ρ = some (.int k) ∧ popM i k ρ = some (.ok q, ρ') ∧ Q q ρ'
theorem WE.popAt {i : Nat} {a : Ex} {Q : RV → En → Prop} (h0 : hasL ρ i = true) (h : WE gl cf a ρ (KPop i Q) E) : WE gl cf (.popAt i a) ρ Q E :=
  W.bind (wChk h0 (W.bind (W.imp h (fun r ρ1 ⟨k, q, ρ', h1, h2, h3⟩ => W.bind (wDat h1 (W.bind (wInt (W.of_ok h2 h3)))) ) fun _ _ h => h)))
theorem seqIx_nat {k n : Nat} (h : k < n) : seqIndex? (k : Int) n = some k := by
  unfold seqIndex?
  have h1 : ¬ (k : Int) < 0 := by omega
  have h2 : (decide ((0 : Int) ≤ (k : Int)) && decide ((k : Int) < (n : Int))) = true := by simp; exact h
  simp only [if_neg h1, if_pos h2, Int.toNat_natCast]
theorem erase_map {α β : Type} (f : α → β) : ∀ (L : List α) (k : Nat), (L.map f).eraseIdx k = (L.eraseIdx k).map f
  | [], _ => rfl
  | _ :: _, 0 => rfl
  | x :: L, k + 1 => by
    show f x :: (L.map f).eraseIdx k = f x :: (L.eraseIdx k).map f
    rw [erase_map f L k]
theorem getq {α : Type} [Inhabited α] {L : List α} {k : Nat} (h : k < L.length) : L[k]? = some (gt L k) := by
  rw [List.getElem?_eq_getElem h, gt_eq h]
theorem KPop.ow {α : Type} {iα : ED α} {i k : Nat} {Q : RV → En → Prop} {r : RV} {L : List α} {a : α} {ρ' : En} (h1 : datOf r ρ = some (ed k)) (h2 : ρ[i]? = some (.ow (ed L))) (h0 : L[k]? = some a) (h4 : L.length ≤ 16777216) (h5 : ρ.set i (.ow (ed (L.eraseIdx k))) = ρ') (q : Q (.pl (ed a)) ρ') : KPop i Q r ρ := by
  have h3 : k < L.length := (List.getElem?_eq_some_iff.mp h0).1
  refine ⟨k, .pl (ed a), ρ', h1, ?_, q⟩
  subst h5
  have e : (ed L : D) = .list (L.map ed) := rfl
  unfold popM
  rw [h2, e]
  simp only [List.length_map, seqIx_nat h3]
  rw [if_pos (by omega)]
  simp only [List.getElem?_map, h0, Option.map_some]
  show some (Out.ok _, ρ.set i (.ow (.list ((L.map ed).eraseIdx k)))) = some (Out.ok _, ρ.set i (.ow (.list ((L.eraseIdx k).map ed))))
  rw [erase_map]
theorem q_ne_nil {α : Type} [ED α] (L : List α) (h : (ed L : D).canLay0 = true ∧ (ed L : D).depth ≤ 64) : p2 .ne (ed L) (.list []) = some (.pl (ed (!L.isEmpty))) := by
  have : p2 .ne (ed L) (.list []) = if eqOk (ed L) (.list []) then some (.pl (.bool (!PyData.eqv (ed L) (.list [])))) else none := rfl
  rw [this, if_pos]
  · cases L <;> simp [ED.ed, PyData.eqv, PyData.eqvAll]
  · unfold eqOk SeqAt.shaped
    rw [h.1, decide_eq_true h.2]; rfl
theorem shaped2 {α : Type} [ED α] [DecidableEq α] [LawE α] (h : LawE.dep α ≤ 63) (L : List α) : (ed L : D).canLay0 = true ∧ (ed L : D).depth ≤ 64 := ⟨LawE.sh L, Nat.le_trans (LawE.dle L) (by show LawE.dep α + 1 ≤ 64; omega)⟩
theorem q_ne_nilN (L : List Nat) : p2 .ne (ed L) (.list []) = some (.pl (ed (!L.isEmpty))) := q_ne_nil L (shaped2 (by decide) L)
theorem q_neT_nil {α : Type} [ED α] [DecidableEq α] [LawE α] (L : List α) (h : LawE.dep α ≤ 63) : p2 .ne (ed (Tup.mk L)) (.tuple []) = some (.pl (ed (!L.isEmpty))) := by
  have : p2 .ne (ed (Tup.mk L)) (.tuple []) = if eqOk (ed (Tup.mk L)) (.tuple []) then some (.pl (.bool (!PyData.eqv (ed (Tup.mk L)) (.tuple [])))) else none := rfl
  rw [this, if_pos]
  · cases L <;> simp [ED.ed, PyData.eqv, PyData.eqvAll]
  · unfold eqOk
    rw [shaped_ed (α := Tup α) (by show LawE.dep α + 1 ≤ 64; omega)]; rfl

/-! ### lists of lists -/
/-- a list of lists as it stands at a place: an empty one is a plain one yet -/
def o2 {α : Type} [ED α] (R : List (List α)) : RV := match R with
  | [] => .ow (.list [])
  | R => .ow2 (ed R)
theorem o2_ne {α : Type} [ED α] {R : List (List α)} (h : R ≠ []) : o2 R = .ow2 (ed R) := by
  cases R with
  | nil => exact (h rfl).elim
  | cons => rfl
def KA2L (i : Nat) (Q : En → Prop) (r : RV) (ρ : En) : Prop := ∃ ys ρ', r = .ow (.list ys) ∧ change2M i (fun xs => if xs.length < 16777216 then some (xs ++ [.list ys]) else none) ρ = some (.ok (), ρ') ∧ Q ρ'
theorem KA2L.mk {α : Type} {iα : ED α} {i : Nat} {Q : En → Prop} {L : List α} {R : List (List α)} {ρ' : En} (h1 : ρ[i]? = some (o2 R)) (h2 : R.length < 16777216) (h3 : ρ.set i (o2 (R ++ [L])) = ρ') (q : Q ρ') : KA2L i Q (.ow (ed L)) ρ := by
  refine ⟨L.map ed, ρ', rfl, ?_, q⟩
  subst h3
  rw [o2_ne (R := R ++ [L]) (by simp)]
  unfold change2M
  rw [h1]
  cases R with
  | nil => rfl
  | cons x R =>
    have e : (o2 (x :: R) : RV) = .ow2 (.list ((x :: R).map ed)) := rfl
    rw [e]
    simp only [List.length_map, if_pos h2]
    show _ = some (Out.ok (), ρ.set i (.ow2 (.list (((x :: R) ++ [L]).map ed))))
    rw [List.map_append]; rfl
def has2e (ρ : En) (i : Nat) : Prop := ∃ u, chk2e i ρ = some (.ok u, ρ)
theorem has2e_o2 {α : Type} {_ : ED α} {i : Nat} {R : List (List α)} (h : ρ[i]? = some (o2 R)) : has2e ρ i := by
  refine ⟨(), ?_⟩
  unfold chk2e
  rw [h]
  cases R <;> rfl
theorem WS.append2 {i : Nat} {e : Ex} {Q : Fl → En → Prop} (h0 : has2e ρ i) (h : WE gl cf e ρ (KA2L i (Q .nx)) E) : WS gl cf (.append2 i e) ρ Q E := by
  obtain ⟨u, h0⟩ := h0
  refine W.bind (W.of_ok h0 (W.bind (W.imp h (fun r ρ1 h => ?_) fun _ _ h => h)))
  obtain ⟨ys, ρ', rfl, h2, h3⟩ := h
  exact W.bind (W.of_ok h2 (W.ret h3))
theorem rowM_ed {α : Type} [ED α] {i k : Nat} {R : List (List α)} (h1 : ρ[i]? = some (.ow2 (ed R))) (h2 : k < R.length) : rowM i (k : Int) ρ = some (.ok ((gt R k).map ed), ρ) := by
  unfold rowM
  rw [h1]
  have e : (ed R : D) = .list (R.map ed) := rfl
  rw [e]
  simp only [atI_nat h2]
  rfl
theorem hidden_ok {α : Type} {i : Nat} {m : M α} {d : D} {a : α} (h1 : ρ[i]? = some (.ow2 d)) (h2 : m (ρ.set i .un) = some (.ok a, ρ.set i .un)) : hidden i m ρ = some (.ok a, ρ) := by
  have hi : i < ρ.length := (List.getElem?_eq_some_iff.mp h1).1
  unfold hidden
  rw [h1]
  simp only [h2, List.getElem?_set, hi, if_true, List.set_set]
  rw [show ρ.set i (.ow2 d) = ρ from ?_]
  apply List.ext_getElem?
  intro j
  rw [List.getElem?_set]
  by_cases hj : i = j
  · subst hj; rw [if_pos rfl, if_pos hi, h1]
  · rw [if_neg hj]
theorem atI_get {α : Type} [ED α] {L : List α} {l : Nat} {a : α} (h : L[l]? = some a) : L2.atI (L.map ed) (l : Int) = some (ed a) := by
  have : Inhabited α := ⟨a⟩
  have hl : l < L.length := (List.getElem?_eq_some_iff.mp h).1
  rw [atI_nat hl]
  rw [getq hl] at h
  cases h; rfl
/-- the second place is read with the list out of sight -/
def KIx (ρ0 : En) (l : Nat) (r : RV) (ρ : En) : Prop := datOf r ρ = some (ed l) ∧ ρ = ρ0
theorem KIx.mk {l : Nat} {r : RV} (h : datOf r ρ = some (ed l)) : KIx ρ l r ρ := ⟨h, rfl⟩
def KItm2 (gl : Nat → Option D) (cf : CallF) (i : Nat) (c : Ex) (Q : RV → En → Prop) (r : RV) (ρ : En) : Prop := ∃ k : Int, ∃ l : Int, ∃ ys v, datOf r ρ = some (.int k) ∧ rowM i k ρ = some (.ok ys, ρ) ∧
  hidden i (do
        let q ← (ev gl cf c).1
        M.dat q) ρ = some (.ok (.int l), ρ) ∧ L2.atI ys l = some v ∧ Q (.pl v) ρ
theorem KItm2.mk {α : Type} {iα : ED α} {i k l : Nat} {c : Ex} {Q : RV → En → Prop} {r : RV} {R : List (List α)} {a : α} {ρw : En} (h1 : datOf r ρ = some (ed k)) (h2 : ρ[i]? = some (.ow2 (ed R))) (h3 : k < R.length) (h4 : ρ.set i .un = ρw) (h5 : WE gl cf c ρw (KIx ρw l) (fun _ _ => False)) (h6 : (gt R k)[l]? = some a) (q : Q (.pl (ed a)) ρ) : KItm2 gl cf i c Q r ρ := by
  subst h4
  refine ⟨k, l, _, _, h1, rowM_ed h2 h3, ?_, atI_get h6, q⟩
  rcases W.out h5 with ⟨q, ρ', k1, k2, k3⟩ | ⟨_, _, _, k⟩
  · subst k3
    refine hidden_ok h2 ?_
    show M.andThen _ _ _ = _
    unfold M.andThen
    rw [k1]
    show M.dat q _ = _
    unfold M.dat
    rw [k2]; rfl
  · exact k.elim
def has2 (ρ : En) (i : Nat) : Bool := match ρ[i]? with
  | some (.ow2 (.list _)) => true
  | _ => false
theorem wChk2 {i : Nat} {Q : Unit → En → Prop} (h : has2 ρ i = true) (q : Q () ρ) : W (chk2 i) ρ Q E := by
  refine .of_ok (a := ()) (ρ' := ρ) ?_ q
  unfold has2 at h
  unfold chk2
  cases e : ρ[i]? with
  | none => rw [e] at h; cases h
  | some r =>
    rw [e] at h
    cases r with
    | ow2 v => cases v <;> first | rfl | cases h
    | _ => cases h
theorem WE.item2 {i : Nat} {a c : Ex} {Q : RV → En → Prop} (h0 : has2 ρ i = true) (h : WE gl cf a ρ (KItm2 gl cf i c Q) E) : WE gl cf (.item2 i a c) ρ Q E := by
  refine W.bind (wChk2 h0 (W.bind (W.imp h (fun r ρ1 h => ?_) fun _ _ h => h)))
  obtain ⟨k, l, ys, v, h1, h2, h3, h4, h5⟩ := h
  refine W.bind (wDat h1 (W.bind (wInt (W.bind (W.of_ok h2 (W.bind (W.of_ok h3 (W.bind (wInt ?_)))))))))
  exact W.of (a := .pl v) (by rw [h4]; rfl) h5
def KSt2 (gl : Nat → Option D) (cf : CallF) (i : Nat) (c : Ex) (x : D) (Q : En → Prop) (r : RV) (ρ : En) : Prop := ∃ k : Int, ∃ l : Int, ∃ ys ρ', datOf r ρ = some (.int k) ∧ rowM i k ρ = some (.ok ys, ρ) ∧
  hidden i (do
        let q ← (ev gl cf c).1
        M.dat q) ρ = some (.ok (.int l), ρ) ∧ change2M i (setAt2 k l x) ρ = some (.ok (), ρ') ∧ Q ρ'
def set2 {α : Type} (R : List (List α)) (k l : Nat) (x : α) : List (List α) := R.set k ((gt R k).set l x)
theorem KSt2.mk {α : Type} {iα : ED α} {i k l : Nat} {c : Ex} {Q : En → Prop} {r : RV} {R : List (List α)} {x : α} {ρw ρ' : En} (h1 : datOf r ρ = some (ed k)) (h2 : ρ[i]? = some (.ow2 (ed R))) (h3 : k < R.length) (h4 : ρ.set i .un = ρw) (h5 : WE gl cf c ρw (KIx ρw l) (fun _ _ => False)) (h6 : l < (gt R k).length) (h7 : ρ.set i (.ow2 (ed (set2 R k l x))) = ρ') (q : Q ρ') : KSt2 gl cf i c (ed x) Q r ρ := by
  subst h4
  subst h7
  refine ⟨k, l, _, _, h1, rowM_ed h2 h3, ?_, ?_, q⟩
  · rcases W.out h5 with ⟨q, ρ', k1, k2, k3⟩ | ⟨_, _, _, k⟩
    · subst k3
      refine hidden_ok h2 ?_
      show M.andThen _ _ _ = _
      unfold M.andThen
      rw [k1]
      show M.dat q _ = _
      unfold M.dat
      rw [k2]; rfl
    · exact k.elim
  · unfold change2M
    rw [h2]
    have e : (ed R : D) = .list (R.map ed) := rfl
    rw [e]
    have e2 : setAt2 (k : Int) (l : Int) (ed x) (R.map ed) = some ((set2 R k l x).map ed) := by
      unfold setAt2 L2.ixN
      rw [if_pos (by omega), if_pos (by rw [List.length_map]; omega)]
      simp only [Option.bind_some, Int.toNat_natCast, List.getElem?_map, List.getElem?_eq_getElem h3, Option.map_some]
      have e3 : (ed R[k] : D) = .list ((gt R k).map ed) := by rw [gt_eq h3]; rfl
      rw [e3]
      simp only
      have e4 : setAt (.int (l : Int)) (ed x) ((gt R k).map ed) = some (((gt R k).set l x).map ed) := setAt_ed (gt R k) l x h6
      rw [e4, Option.map_some]
      unfold set2
      show some ((R.map ed).set k (ed ((gt R k).set l x))) = _
      rw [List.map_set]
    simp only [e2]
    rfl
def KSt2p (gl : Nat → Option D) (cf : CallF) (i : Nat) (k l : Ex) (Q : En → Prop) (E : Exn → En → Prop) (x : D) (ρ : En) : Prop := has2 ρ i = true ∧ WE gl cf k ρ (KSt2 gl cf i l x Q) E
theorem KSt2p.mk {i : Nat} {k l : Ex} {Q : En → Prop} {x : D} (h1 : has2 ρ i = true) (h2 : WE gl cf k ρ (KSt2 gl cf i l x Q) E) : KSt2p gl cf i k l Q E x ρ := ⟨h1, h2⟩
theorem WS.set2 {i : Nat} {k l v : Ex} {Q : Fl → En → Prop} (h : WE gl cf v ρ (KP (KSt2p gl cf i k l (Q .nx) E)) E) : WS gl cf (.set2 i k l v) ρ Q E := by
  refine W.bind (W.imp h (fun r ρ1 h => ?_) fun _ _ h => h)
  obtain ⟨x, h1, h2, h3⟩ := h
  refine W.bind (wPlain h1 (W.bind (wChk2 h2 (W.bind (W.imp h3 (fun r ρ2 h => ?_) fun _ _ h => h)))))
  obtain ⟨k, l, ys, ρ', k1, k2, k3, k4, k5⟩ := h
  exact W.bind (wDat k1 (W.bind (wInt (W.bind (W.of_ok k2 (W.bind (W.of_ok k3 (W.bind (wInt (W.bind (W.of_ok k4 (W.ret k5)))))))))))) 

/-- a place that may be used anew -/
def Fr (q : RV) : Prop := q = .un ∨ ∃ v, q = .pl v
theorem Fr.un : Fr .un := .inl rfl
theorem Fr.pl (v : D) : Fr (.pl v) := .inr ⟨v, rfl⟩
theorem Fr.free {q : RV} (h : Fr q) : q.free = true := by rcases h with rfl | ⟨v, rfl⟩ <;> rfl
def frB : Option RV → Bool
  | some .un => true
  | some (.pl _) => true
  | _ => false
theorem wipe1 {ρ : En} {v : Nat} {q : RV} (h : ρ[v]? = some q) (f : Fr q) : wipeOk ρ [v] = true := by
  show ((match ρ[v]? with | some .un => true | some (.pl _) => true | _ => false) && true) = true
  rw [h]
  rcases f with rfl | ⟨v, rfl⟩ <;> rfl
/-! ### what draws -/
/-- cells, place, digits, seed -/
def drD (s : List Nat) (i : Int) (c e : Nat) : D := .list [ed s, ed i, ed c, ed e]
def Dr (d : D) : Prop := ∃ s i c e, -1 ≤ i ∧ d = drD s i c e
/-- a call that draws: hands back a value of a type -/
def Draws {α : Type} (iα : ED α) (mk : D → RV) (cf : CallF) (f : Nat) (as : List RV) (P : α → Prop) : Prop := ∀ d, Dr d → ∃ a d' fs, P a ∧ Dr d' ∧ fs.length = as.length ∧ cf f (.io d :: as) = some (.ok (mk (ed a)), .io d' :: fs)
section
variable {α : Type} {iα : ED α} {mk : D → RV} {f i : Nat} {as rs : List RV} {d : D} {P : α → Prop} {Q : RV → En → Prop} {ρf : D → En}
theorem WCall.drawI (h1 : ρ[i]? = some (.io d)) (h2 : bwsOf rs = []) (h3 : passArgs rs ρ = some as) (hd : Dr d) (h : Draws iα mk cf f as P) (e : ∀ d', ρ.set i (.io d') = ρf d') (q : ∀ a d', P a → Dr d' → Q (mk (ed a)) (ρf d')) : WCall cf f (.bw i :: rs) ρ Q E := by
  obtain ⟨a, d', fs, k1, k2, k3, k4⟩ := h d hd
  have hp : passArgs (.bw i :: rs) ρ = some (.io d :: as) := by unfold passArgs; rw [h3]; simp only [h1]
  refine .of_ok (a := mk (ed a)) (ρ' := ρf d') ?_ (q a d' k1 k2)
  have hb : backArgs (.bw i :: rs) (.io d' :: fs) ρ = some (ρf d') := by
    unfold backArgs
    simp only [h1]
    rw [back_none rs fs _ h2 (by rw [k3, pass_len h3]), e]
  unfold callM
  have hn : (bwsOf (.bw i :: rs)).Nodup := by show (i :: bwsOf rs).Nodup; rw [h2]; simp
  simp only [hp, if_pos hn, k4, hb]
theorem WCall.drawO (h1 : ρ[i]? = some (.ow d)) (h2 : bwsOf rs = []) (h3 : passArgs rs ρ = some as) (hd : Dr d) (h : Draws iα mk cf f as P) (e : ∀ d', ρ.set i (.ow d') = ρf d') (q : ∀ a d', P a → Dr d' → Q (mk (ed a)) (ρf d')) : WCall cf f (.bw i :: rs) ρ Q E := by
  obtain ⟨a, d', fs, k1, k2, k3, k4⟩ := h d hd
  have hp : passArgs (.bw i :: rs) ρ = some (.io d :: as) := by unfold passArgs; rw [h3]; simp only [h1]
  refine .of_ok (a := mk (ed a)) (ρ' := ρf d') ?_ (q a d' k1 k2)
  have hb : backArgs (.bw i :: rs) (.io d' :: fs) ρ = some (ρf d') := by
    unfold backArgs
    simp only [h1]
    rw [back_none rs fs _ h2 (by rw [k3, pass_len h3]), e]
  unfold callM
  have hn : (bwsOf (.bw i :: rs)).Nodup := by show (i :: bwsOf rs).Nodup; rw [h2]; simp
  simp only [hp, if_pos hn, k4, hb]
theorem Draws.of (h : ∀ d, Dr d → CW cf f (.io d :: as) (fun r fs => ∃ a d', P a ∧ Dr d' ∧ r = mk (ed a) ∧ fs.head? = some (.io d')) (fun _ _ => False)) : Draws iα mk cf f as P := by
  intro d hd
  have h := h d hd
  unfold CW at h
  split at h
  · exact h.elim
  · next r fs e =>
    obtain ⟨h1, a, d', h2, h3, rfl, h4⟩ := h
    cases fs with
    | nil => cases h4
    | cons x fs =>
      obtain rfl := Option.some.inj h4
      exact ⟨a, d', fs, h2, h3, Nat.succ.inj h1, e⟩
  · exact h.2.elim
end
section
variable {α β : Type} {iα : ED α} {iβ : ED β} {vs : List Nat} {tg : Tg} {cd : Exo} {elt : Ex} {Q : RV → En → Prop}
theorem compL_inv (I : List β → En → Prop) : ∀ (L : List α) (acc : List β) (ρ1 : En), I acc ρ1 → (∀ a ∈ L, ∀ acc ρ1, I acc ρ1 → ∃ ρ2, asgTg tg (ed a) ρ1 = some ρ2 ∧ WC gl cf cd ρ2 (fun b ρ3 => (b = true → WE gl cf elt ρ3 (fun r ρ4 => ∃ x : β, plainOf r = some (ed x) ∧ I (acc ++ [x]) (wipeE ρ4 vs)) (fun _ _ => False)) ∧ (b = false → I acc (wipeE ρ3 vs))) (fun _ _ => False)) →
    ∃ R ρ2, compLoop vs tg (evC gl cf cd) (ev gl cf elt).1 (L.map ed) ρ1 = some (.ok (R.map (@ed β iβ)), ρ2) ∧ I (acc ++ R) ρ2
  | [], acc, ρ1, h, _ => ⟨[], ρ1, rfl, by rw [List.append_nil]; exact h⟩
  | a :: L, acc, ρ1, h, st => by
    obtain ⟨ρ2, h1, h2⟩ := st a List.mem_cons_self acc ρ1 h
    rcases W.out h2 with ⟨b, ρ3, k1, k2, k3⟩ | ⟨_, _, _, k⟩
    · cases b with
      | true =>
        rcases W.out (k2 rfl) with ⟨r, ρ4, l1, x, l2, l3⟩ | ⟨_, _, _, k⟩
        · obtain ⟨R, ρ5, m1, m2⟩ := compL_inv I L (acc ++ [x]) _ l3 fun a ha => st a (List.mem_cons_of_mem _ ha)
          refine ⟨x :: R, ρ5, ?_, by rw [List.append_assoc] at m2; exact m2⟩
          rw [List.map_cons]
          unfold compLoop
          simp only [h1, k1, l1, l2, m1]
          rfl
        · exact k.elim
      | false =>
        obtain ⟨R, ρ5, m1, m2⟩ := compL_inv I L acc _ (k3 rfl) fun a ha => st a (List.mem_cons_of_mem _ ha)
        refine ⟨R, ρ5, ?_, m2⟩
        rw [List.map_cons]
        unfold compLoop
        simp only [h1, k1, m1]
    · exact k.elim
theorem KComp.inv {L : List α} {ρw : En} (I : List β → En → Prop) (h1 : wipeOk ρ vs = true) (h2 : wipeE ρ vs = ρw) (h0 : I [] ρw)
    (st : ∀ a ∈ L, ∀ acc ρ1, I acc ρ1 → ∃ ρ2, asgTg tg (ed a) ρ1 = some ρ2 ∧ WC gl cf cd ρ2 (fun b ρ3 => (b = true → WE gl cf elt ρ3 (fun r ρ4 => ∃ x : β, plainOf r = some (ed x) ∧ I (acc ++ [x]) (wipeE ρ4 vs)) (fun _ _ => False)) ∧ (b = false → I acc (wipeE ρ3 vs))) (fun _ _ => False))
    (q : ∀ R ρ', I R ρ' → Q (.ow (ed R)) (restE ρ ρ' vs)) : KComp gl cf vs tg cd elt Q (L.map ed) ρ := by
  subst h2
  obtain ⟨R, ρ2, k1, k2⟩ := compL_inv I L [] _ h0 st
  refine .of_ok (a := .ow (ed R)) (ρ' := restE ρ ρ2 vs) ?_ (q R ρ2 k2)
  simp only [h1, k1, if_true]
  rfl
theorem compL_len : ∀ (L : List α) (ρ1 : En) (R : List β) (ρ2 : En), compLoop vs tg (evC gl cf cd) (ev gl cf elt).1 (L.map ed) ρ1 = some (.ok (R.map (@ed β iβ)), ρ2) → R.length ≤ L.length
  | [], ρ1, R, ρ2, h => by
    cases R with
    | nil => exact Nat.le_refl _
    | cons => cases h
  | a :: L, ρ1, R, ρ2, h => by
    rw [List.map_cons] at h
    unfold compLoop at h
    split at h
    · cases h
    · split at h
      · split at h
        · split at h
          · split at h
            · next e5 =>
              cases R with
              | nil => exact Nat.zero_le _
              | cons x R =>
                rw [List.map_cons] at h
                injection h with h
                injection h with h h'
                injection h with h
                injection h with h3 h4
                subst h4
                have := compL_len L _ R _ e5
                rw [List.length_cons, List.length_cons]; omega
            · cases h
          · cases h
        · cases h
      · have := compL_len L _ R _ h
        rw [List.length_cons]; omega
      · cases h
/-- each round may draw, also in its test -/
theorem KComp.drawIf {L : List α} {ρf : D → En} {ρg : D → En} {d : D} (P : β → Prop) (h1 : wipeOk ρ vs = true) (h2 : wipeE ρ vs = ρf d) (hd : Dr d) (hw : ∀ d', restE ρ (ρf d') vs = ρg d')
    (st : ∀ a ∈ L, ∀ d', Dr d' → ∃ ρ2, asgTg tg (ed a) (ρf d') = some ρ2 ∧ WC gl cf cd ρ2 (KIf (fun ρ3 => WE gl cf elt ρ3 (fun r ρ4 => ∃ x : β, ∃ d', plainOf r = some (ed x) ∧ P x ∧ Dr d' ∧ wipeE ρ4 vs = ρf d') (fun _ _ => False)) (fun ρ3 => ∃ d', Dr d' ∧ wipeE ρ3 vs = ρf d')) (fun _ _ => False))
    (q : ∀ (R : List β) d', R.length ≤ L.length → (∀ x ∈ R, P x) → Dr d' → Q (.ow (ed R)) (ρg d')) : KComp gl cf vs tg cd elt Q (L.map ed) ρ := by
  obtain ⟨R, ρ2, k1, d', k2, k3, rfl⟩ := compL_inv (iα := iα) (iβ := iβ) (vs := vs) (tg := tg) (cd := cd) (elt := elt) (gl := gl) (cf := cf) (fun acc ρ1 => ∃ d', Dr d' ∧ (∀ x ∈ acc, P x) ∧ ρ1 = ρf d') L [] (ρf d) ⟨d, hd, (fun _ h => nomatch h), rfl⟩ (by
    rintro a ha acc _ ⟨d', hd', hP, rfl⟩
    obtain ⟨ρ2, k1, k2⟩ := st a ha d' hd'
    refine ⟨ρ2, k1, W.imp k2 (fun b ρ3 h => ⟨fun hb => ?_, fun hb => ?_⟩) fun _ _ h => h⟩
    · refine W.imp (h.1 hb) (fun r ρ4 ⟨x, d'', l1, l2, l3, l4⟩ => ⟨x, l1, d'', l3, ?_, l4⟩) fun _ _ h => h
      intro y hy
      rcases List.mem_append.mp hy with hy | hy
      · exact hP y hy
      · rw [List.mem_singleton.mp hy]; exact l2
    · obtain ⟨d'', l3, l4⟩ := h.2 hb
      exact ⟨d'', l3, hP, l4⟩)
  refine .of_ok (a := .ow (ed R)) (ρ' := ρg d') ?_ (q R d' (compL_len _ _ _ _ k1) (by simpa using k3) k2)
  rw [← hw]
  simp only [h1, h2, k1, if_true]
  rfl
/-- .. each round one draw, no test -/
theorem KComp.draw {L : List α} {ρf : D → En} {ρg : D → En} {d : D} (P : β → Prop) (h1 : wipeOk ρ vs = true) (h2 : wipeE ρ vs = ρf d) (hd : Dr d) (hw : ∀ d', restE ρ (ρf d') vs = ρg d')
    (st : ∀ a ∈ L, ∀ d', Dr d' → ∃ ρ2, asgTg tg (ed a) (ρf d') = some ρ2 ∧ WE gl cf elt ρ2 (fun r ρ4 => ∃ x : β, ∃ d', plainOf r = some (ed x) ∧ P x ∧ Dr d' ∧ wipeE ρ4 vs = ρf d') (fun _ _ => False))
    (q : ∀ (R : List β) d', R.length = L.length → (∀ x ∈ R, P x) → Dr d' → Q (.ow (ed R)) (ρg d')) : KComp gl cf vs tg .no elt Q (L.map ed) ρ := by
  have len : ∀ (L : List α) (ρ1 : En) (R : List β) (ρ2 : En), compLoop vs tg (evC gl cf .no) (ev gl cf elt).1 (L.map ed) ρ1 = some (.ok (R.map (@ed β iβ)), ρ2) → R.length = L.length := by
    intro L
    induction L with
    | nil => intro ρ1 R ρ2 h; cases R with | nil => rfl | cons => cases h
    | cons a L ih =>
      intro ρ1 R ρ2 h
      rw [List.map_cons] at h
      unfold compLoop at h
      cases e1 : asgTg tg (ed a) ρ1 with
      | none => rw [e1] at h; cases h
      | some ρ3 =>
        rw [e1] at h
        have hc : evC gl cf .no ρ3 = some (.ok true, ρ3) := rfl
        simp only [hc] at h
        split at h
        · split at h
          · split at h
            · next e5 =>
              cases R with
              | nil => cases h
              | cons x R =>
                rw [List.map_cons] at h
                injection h with h
                injection h with h h'
                injection h with h
                injection h with h3 h4
                subst h4
                rw [List.length_cons, List.length_cons, ih _ R _ e5]
            · cases h
          · cases h
        · cases h
  obtain ⟨R, ρ2, k1, d', k2, k3, rfl⟩ := compL_inv (iα := iα) (iβ := iβ) (vs := vs) (tg := tg) (cd := .no) (elt := elt) (gl := gl) (cf := cf) (fun acc ρ1 => ∃ d', Dr d' ∧ (∀ x ∈ acc, P x) ∧ ρ1 = ρf d') L [] (ρf d) ⟨d, hd, (fun _ h => nomatch h), rfl⟩ (by
    rintro a ha acc _ ⟨d', hd', hP, rfl⟩
    obtain ⟨ρ2, k1, k2⟩ := st a ha d' hd'
    refine ⟨ρ2, k1, W.ret ⟨fun _ => ?_, fun h => nomatch h⟩⟩
    refine W.imp k2 (fun r ρ4 ⟨x, d'', l1, l2, l3, l4⟩ => ⟨x, l1, d'', l3, ?_, l4⟩) fun _ _ h => h
    intro y hy
    rcases List.mem_append.mp hy with hy | hy
    · exact hP y hy
    · rw [List.mem_singleton.mp hy]; exact l2)
  refine .of_ok (a := .ow (ed R)) (ρ' := ρg d') ?_ (q R d' (len _ _ _ _ k1) (by simpa using k3) k2)
  rw [← hw]
  simp only [h1, h2, k1, if_true]
  rfl
end
end
end TK

namespace K73
open PySem TK
abbrev F_is_whole : Nat := 0
def b_is_whole : Sms := (.cons (.ret (.and (.u .isInt (.var 0)) (.not (.u .isBool (.var 0))))) .nil)
def f_is_whole : Fn := { lent := [false], ns := 1, body := b_is_whole }
abbrev F_has : Nat := 1
def b_has : Sms := (.cons (.ret (.b .eq (.b .band (.b .shr (.var 0) (.var 1)) (.cst (.int 1))) (.cst (.int 1)))) .nil)
def f_has : Fn := { lent := [false, false], ns := 2, body := b_has }
abbrev F_things_in : Nat := 2
def b_things_in : Sms := (.cons (.ret (.comp [1] (.nm 1) (.rng1 (.glb 0)) (.so (.call 1 (.cons (.var 0) (.cons (.var 1) .nil)))) (.var 1))) .nil)
def f_things_in : Fn := { lent := [false], ns := 2, body := b_things_in }
abbrev F_is_tie : Nat := 3
def b_is_tie : Sms := (.cons (.ife (.or (.not (.u .isTuple (.var 0))) (.not (.chain .le .le (.cst (.int 1)) (.u .len (.var 0)) (.glb 0)))) (.cons (.ret (.cst (.bool false))) .nil) .nil) (.cons (.ret (.u .all (.comp [1] (.nm 1) (.ex (.var 0)) .no (.and (.call 0 (.cons (.var 1) .nil)) (.chain .le .lt (.cst (.int 0)) (.var 1) (.b .shl (.cst (.int 1)) (.u .len (.var 0)))))))) .nil))
def f_is_tie : Fn := { lent := [false], ns := 2, body := b_is_tie }
abbrev F_is_thing : Nat := 4
def b_is_thing : Sms := (.cons (.ret (.and (.call 0 (.cons (.var 1) .nil)) (.chain .le .lt (.cst (.int 0)) (.var 1) (.u .len (.var 0))))) .nil)
def f_is_thing : Fn := { lent := [false, false], ns := 2, body := b_is_thing }
abbrev F_is_frame : Nat := 5
def b_is_frame : Sms := (.cons (.ife (.or (.not (.u .isTuple (.var 0))) (.or (.b .ne (.u .len (.var 0)) (.cst (.int 2))) (.or (.not (.call 3 (.cons (.b .item (.var 0) (.cst (.int 0))) .nil))) (.not (.u .isTuple (.b .item (.var 0) (.cst (.int 1)))))))) (.cons (.ret (.cst (.bool false))) .nil) .nil) (.cons (.asgT (.tp (.cons (.nm 1) (.cons (.nm 2) .nil))) (.var 0)) (.cons (.ret (.and (.b .eq (.u .len (.bor 2)) (.u .len (.bor 1))) (.u .all (.comp [3] (.nm 3) (.ex (.frz 2)) .no (.and (.call 0 (.cons (.var 3) .nil)) (.chain .le .le (.cst (.int 0)) (.var 3) (.glb 1))))))) .nil)))
def f_is_frame : Fn := { lent := [false], ns := 4, body := b_is_frame }
abbrev F_check_frame : Nat := 6
def b_check_frame : Sms := (.cons (.ife (.not (.call 5 (.cons (.var 0) .nil))) (.cons (.rais 0 .no) .nil) .nil) .nil)
def f_check_frame : Fn := { lent := [false], ns := 1, body := b_check_frame }
abbrev F_check_two : Nat := 7
def b_check_two : Sms := (.cons (.expr (.call 6 (.cons (.var 0) .nil))) (.cons (.expr (.call 6 (.cons (.var 1) .nil))) .nil))
def f_check_two : Fn := { lent := [false, false], ns := 2, body := b_check_two }
abbrev F_are_pairs : Nat := 8
def b_are_pairs : Sms := (.cons (.ife (.or (.not (.u .isTuple (.var 2))) (.not (.u .all (.comp [5] (.nm 5) (.ex (.var 2)) .no (.and (.u .isTuple (.var 5)) (.b .eq (.u .len (.var 5)) (.cst (.int 2)))))))) (.cons (.ret (.cst (.bool false))) .nil) .nil) (.cons (.ife (.not (.u .all (.comp [6, 7] (.tp (.cons (.nm 6) (.cons (.nm 7) .nil))) (.ex (.var 2)) .no (.and (.call 4 (.cons (.b .item (.var 0) (.cst (.int 0))) (.cons (.var 6) .nil))) (.call 4 (.cons (.b .item (.var 1) (.cst (.int 0))) (.cons (.var 7) .nil))))))) (.cons (.ret (.cst (.bool false))) .nil) .nil) (.cons (.ret (.u .all (.comp [3, 4] (.tp (.cons (.nm 3) (.cons (.nm 4) .nil))) (.zip2 (.var 2) (.slc (.var 2) (.so (.cst (.int 1))) .no)) .no (.b .lt (.var 3) (.var 4))))) .nil)))
def f_are_pairs : Fn := { lent := [false, false, false], ns := 8, body := b_are_pairs }
abbrev F_answers : Nat := 9
def b_answers : Sms := (.cons (.ret (.u .all (.comp [5] (.nm 5) (.ex (.call 2 (.cons (.b .item (.b .item (.var 0) (.cst (.int 0))) (.var 3)) .nil))) .no (.u .any (.comp [6] (.nm 6) (.ex (.call 2 (.cons (.b .item (.b .item (.var 1) (.cst (.int 0))) (.var 4)) .nil))) .no (.b .inn (.tup (.cons (.var 5) (.cons (.var 6) .nil))) (.var 2))))))) .nil)
def f_answers : Fn := { lent := [false, false, false, false, false], ns := 7, body := b_answers }
abbrev F_answers_back : Nat := 10
def b_answers_back : Sms := (.cons (.ret (.u .all (.comp [5] (.nm 5) (.ex (.call 2 (.cons (.b .item (.b .item (.var 1) (.cst (.int 0))) (.var 4)) .nil))) .no (.u .any (.comp [6] (.nm 6) (.ex (.call 2 (.cons (.b .item (.b .item (.var 0) (.cst (.int 0))) (.var 3)) .nil))) .no (.b .inn (.tup (.cons (.var 6) (.cons (.var 5) .nil))) (.var 2))))))) .nil)
def f_answers_back : Fn := { lent := [false, false, false, false, false], ns := 7, body := b_answers_back }
abbrev F_fits : Nat := 11
def b_fits : Sms := (.cons (.ife (.or (.b .ne (.b .item (.b .item (.var 0) (.cst (.int 1))) (.var 3)) (.b .item (.b .item (.var 1) (.cst (.int 1))) (.var 4))) (.not (.call 9 (.cons (.var 0) (.cons (.var 1) (.cons (.var 2) (.cons (.var 3) (.cons (.var 4) .nil)))))))) (.cons (.ret (.cst (.bool false))) .nil) .nil) (.cons (.ret (.or (.not (.var 5)) (.call 10 (.cons (.var 0) (.cons (.var 1) (.cons (.var 2) (.cons (.var 3) (.cons (.var 4) .nil)))))))) .nil))
def f_fits : Fn := { lent := [false, false, false, false, false, false], ns := 6, body := b_fits }
abbrev F_takes_match : Nat := 12
def b_takes_match : Sms := (.cons (.expr (.call 7 (.cons (.var 0) (.cons (.var 1) .nil)))) (.cons (.ret (.and (.call 8 (.cons (.var 0) (.cons (.var 1) (.cons (.var 2) .nil)))) (.u .all (.comp [3, 4] (.tp (.cons (.nm 3) (.cons (.nm 4) .nil))) (.ex (.var 2)) .no (.call 11 (.cons (.var 0) (.cons (.var 1) (.cons (.var 2) (.cons (.var 3) (.cons (.var 4) (.cons (.cst (.bool true)) .nil))))))))))) .nil))
def f_takes_match : Fn := { lent := [false, false, false], ns := 5, body := b_takes_match }
abbrev F_takes_copy : Nat := 13
def b_takes_copy : Sms := (.cons (.expr (.call 7 (.cons (.var 0) (.cons (.var 1) .nil)))) (.cons (.ret (.and (.call 8 (.cons (.var 0) (.cons (.var 1) (.cons (.var 2) .nil)))) (.u .all (.comp [3, 4] (.tp (.cons (.nm 3) (.cons (.nm 4) .nil))) (.ex (.var 2)) .no (.call 11 (.cons (.var 0) (.cons (.var 1) (.cons (.var 2) (.cons (.var 3) (.cons (.var 4) (.cons (.cst (.bool false)) .nil))))))))))) .nil))
def f_takes_copy : Fn := { lent := [false, false, false], ns := 5, body := b_takes_copy }
abbrev F_all_pairs : Nat := 14
def b_all_pairs : Sms := (.cons (.asg 2 (.comp2 [3, 4] [4] (.nm 3) (.rng1 (.u .len (.b .item (.var 0) (.cst (.int 0))))) .no (.nm 4) (.rng1 (.u .len (.b .item (.var 1) (.cst (.int 0))))) .no (.tup (.cons (.var 3) (.cons (.var 4) .nil))))) (.cons (.ret (.comp [3, 4] (.tp (.cons (.nm 3) (.cons (.nm 4) .nil))) (.ex (.frz 2)) (.so (.b .eq (.b .item (.b .item (.var 0) (.cst (.int 1))) (.var 3)) (.b .item (.b .item (.var 1) (.cst (.int 1))) (.var 4)))) (.tup (.cons (.var 3) (.cons (.var 4) .nil))))) .nil))
def f_all_pairs : Fn := { lent := [false, false], ns := 5, body := b_all_pairs }
abbrev F_layers : Nat := 15
def b_layers : Sms := (.cons (.asg 3 (.lst (.cons (.call 14 (.cons (.var 0) (.cons (.var 1) .nil))) .nil))) (.cons (.asg 4 (.comp [5, 6] (.tp (.cons (.nm 5) (.cons (.nm 6) .nil))) (.ex (.b .item (.bor 3) (.cst (.int 0)))) (.so (.call 11 (.cons (.var 0) (.cons (.var 1) (.cons (.b .item (.bor 3) (.cst (.int 0))) (.cons (.var 5) (.cons (.var 6) (.cons (.var 2) .nil)))))))) (.tup (.cons (.var 5) (.cons (.var 6) .nil))))) (.cons (.whil (.b .lt (.u .len (.bor 4)) (.u .len (.b .item (.bor 3) (.u .neg (.cst (.int 1)))))) (.cons (.append 3 (.frz 4)) (.cons (.asg 4 (.comp [5, 6] (.tp (.cons (.nm 5) (.cons (.nm 6) .nil))) (.ex (.b .item (.bor 3) (.u .neg (.cst (.int 1))))) (.so (.call 11 (.cons (.var 0) (.cons (.var 1) (.cons (.b .item (.bor 3) (.u .neg (.cst (.int 1)))) (.cons (.var 5) (.cons (.var 6) (.cons (.var 2) .nil)))))))) (.tup (.cons (.var 5) (.cons (.var 6) .nil))))) .nil))) (.cons (.ret (.take 3)) .nil))))
def f_layers : Fn := { lent := [false, false, false], ns := 7, body := b_layers }
abbrev F_greatest_match : Nat := 16
def b_greatest_match : Sms := (.cons (.expr (.call 7 (.cons (.var 0) (.cons (.var 1) .nil)))) (.cons (.ret (.u .tuple (.b .item (.call 15 (.cons (.var 0) (.cons (.var 1) (.cons (.cst (.bool true)) .nil)))) (.u .neg (.cst (.int 1)))))) .nil))
def f_greatest_match : Fn := { lent := [false, false], ns := 2, body := b_greatest_match }
abbrev F_greatest_copy : Nat := 17
def b_greatest_copy : Sms := (.cons (.expr (.call 7 (.cons (.var 0) (.cons (.var 1) .nil)))) (.cons (.ret (.u .tuple (.b .item (.call 15 (.cons (.var 0) (.cons (.var 1) (.cons (.cst (.bool false)) .nil)))) (.u .neg (.cst (.int 1)))))) .nil))
def f_greatest_copy : Fn := { lent := [false, false], ns := 2, body := b_greatest_copy }
abbrev F_all_matched : Nat := 18
def b_all_matched : Sms := (.cons (.asg 2 (.call 16 (.cons (.var 0) (.cons (.var 1) .nil)))) (.cons (.asgT (.tp (.cons (.nm 3) (.cons (.nm 4) .nil))) (.tup (.cons (.comp [5, 6] (.tp (.cons (.nm 5) (.cons (.nm 6) .nil))) (.ex (.frz 2)) .no (.var 5)) (.cons (.comp [5, 6] (.tp (.cons (.nm 5) (.cons (.nm 6) .nil))) (.ex (.frz 2)) .no (.var 6)) .nil)))) (.cons (.ret (.and (.u .all (.comp [5] (.nm 5) (.rng1 (.u .len (.b .item (.var 0) (.cst (.int 0))))) .no (.b .inn (.var 5) (.bor 3)))) (.u .all (.comp [6] (.nm 6) (.rng1 (.u .len (.b .item (.var 1) (.cst (.int 0))))) .no (.b .inn (.var 6) (.bor 4)))))) .nil)))
def f_all_matched : Fn := { lent := [false, false], ns := 7, body := b_all_matched }
abbrev F_law_draw : Nat := 19
def b_law_draw : Sms := (.cons (.asg 1 (.cst (.int 7))) (.cons (.forS (.nm 2) (.ex (.var 0)) (.cons (.asg 1 (.b .mod (.u .int (.b .add (.b .add (.b .mul (.bor 1) (.cst (.int 48271))) (.b .mod (.u .abs (.u .int (.bor 2))) (.cst (.int 65521)))) (.cst (.int 1)))) (.cst (.int 2147483647)))) .nil)) (.cons (.ret (.lst (.cons (.comp [2] (.nm 2) (.ex (.var 0)) .no (.u .abs (.u .int (.var 2)))) (.cons (.u .neg (.cst (.int 1))) (.cons (.cst (.int 0)) (.cons (.frz 1) .nil)))))) .nil)))
def f_law_draw : Fn := { lent := [false], ns := 3, body := b_law_draw }
abbrev F_law_take : Nat := 20
def b_law_take : Sms := (.cons (.ife (.b .eq (.b .item (.bor 0) (.cst (.int 2))) (.cst (.int 0))) (.cons (.set1 0 (.cst (.int 1)) (.b .add (.b .item (.bor 0) (.cst (.int 1))) (.cst (.int 1)))) (.cons (.ife (.b .lt (.b .item (.bor 0) (.cst (.int 1))) (.u .len (.b .item (.bor 0) (.cst (.int 0))))) (.cons (.set1 0 (.cst (.int 2)) (.b .item (.b .item (.bor 0) (.cst (.int 0))) (.b .item (.bor 0) (.cst (.int 1))))) .nil) .nil) (.cons (.ife (.b .eq (.b .item (.bor 0) (.cst (.int 2))) (.cst (.int 0))) (.cons (.set1 0 (.cst (.int 3)) (.b .mod (.u .int (.b .add (.b .mul (.b .item (.bor 0) (.cst (.int 3))) (.cst (.int 48271))) (.cst (.int 11)))) (.cst (.int 2147483647)))) (.cons (.set1 0 (.cst (.int 2)) (.b .item (.bor 0) (.cst (.int 3)))) .nil)) .nil) .nil))) .nil) (.cons (.asg 2 (.b .mod (.u .int (.b .item (.bor 0) (.cst (.int 2)))) (.var 1))) (.cons (.set1 0 (.cst (.int 2)) (.b .fdiv (.b .item (.bor 0) (.cst (.int 2))) (.var 1))) (.cons (.ret (.take 2)) .nil))))
def f_law_take : Fn := { lent := [true, false], ns := 3, body := b_law_take }
abbrev F_law_says : Nat := 21
def b_law_says : Sms := (.cons (.ret (.and (.u .isBool (.var 0)) (.b .eq (.var 0) (.var 1)))) .nil)
def f_law_says : Fn := { lent := [false, false], ns := 2, body := b_law_says }
abbrev F_law_order : Nat := 22
def b_law_order : Sms := (.cons (.par 2 3 (.u .rngL (.var 1)) (.lst .nil)) (.cons (.whil (.b .ne (.bor 2) (.lst .nil)) (.cons (.append 3 (.popAt 2 (.call 20 (.cons (.bor 0) (.cons (.u .len (.bor 2)) .nil))))) .nil)) (.cons (.ret (.take 3)) .nil)))
def f_law_order : Fn := { lent := [true, false], ns := 4, body := b_law_order }
abbrev F_law_styled : Nat := 23
def b_law_styled : Sms := (.cons (.asg 3 (.comp [7] (.nm 7) (.rng1 (.var 2)) .no (.call 20 (.cons (.bor 0) (.cons (.var 2) .nil))))) (.cons (.asg 4 (.call 22 (.cons (.bor 0) (.cons (.var 2) .nil)))) (.cons (.asg 5 (.b .add (.cst (.int 1)) (.call 20 (.cons (.bor 0) (.cons (.cst (.int 3)) .nil))))) (.cons (.asg 6 (.lst .nil)) (.cons (.forS (.nm 7) (.rng1 (.var 2)) (.cons (.asg 8 (.lst .nil)) (.cons (.forS (.nm 9) (.rng1 (.var 2)) (.cons (.asg 10 (.b .lt (.call 20 (.cons (.bor 0) (.cons (.cst (.int 4)) .nil))) (.bor 5))) (.cons (.ife (.b .inn (.var 1) (.lst (.cons (.cst (.int 1)) (.cons (.cst (.int 2)) (.cons (.cst (.int 3)) .nil))))) (.cons (.append 8 (.b .item (.lst (.cons (.b .gt (.b .item (.bor 3) (.bor 7)) (.b .item (.bor 3) (.bor 9))) (.cons (.b .ge (.b .item (.bor 3) (.bor 7)) (.b .item (.bor 3) (.bor 9))) (.cons (.b .gt (.b .item (.bor 3) (.bor 7)) (.b .add (.b .item (.bor 3) (.bor 9)) (.cst (.int 1)))) .nil)))) (.b .sub (.var 1) (.cst (.int 1))))) .nil) (.cons (.ife (.b .eq (.var 1) (.cst (.int 4))) (.cons (.append 8 (.b .eq (.b .item (.bor 3) (.bor 7)) (.b .item (.bor 3) (.bor 9)))) .nil) (.cons (.ife (.b .eq (.var 1) (.cst (.int 5))) (.cons (.append 8 (.or (.b .eq (.b .item (.bor 4) (.bor 7)) (.bor 9)) (.and (.b .eq (.bor 5) (.cst (.int 1))) (.b .eq (.bor 7) (.bor 9))))) .nil) (.cons (.ife (.b .eq (.var 1) (.cst (.int 6))) (.cons (.append 8 (.or (.b .eq (.bor 7) (.bor 9)) (.and (.b .eq (.bor 5) (.cst (.int 1))) (.and (.bor 10) (.b .lt (.b .item (.bor 4) (.bor 7)) (.b .item (.bor 4) (.bor 9))))))) .nil) (.cons (.ife (.b .eq (.var 1) (.cst (.int 7))) (.cons (.append 8 (.and (.b .lt (.b .item (.bor 4) (.bor 7)) (.b .item (.bor 4) (.bor 9))) (.or (.bor 10) (.b .gt (.bor 5) (.cst (.int 1)))))) .nil) (.cons (.append 8 (.frz 10)) .nil)) .nil)) .nil)) .nil)) .nil)) .nil))) (.cons (.append2 6 (.take 8)) .nil)))) (.cons (.ret (.take 6)) .nil))))))
def f_law_styled : Fn := { lent := [true, false, false], ns := 11, body := b_law_styled }
abbrev F_law_tie : Nat := 24
def b_law_tie : Sms := (.cons (.asg 2 (.b .add (.cst (.int 1)) (.call 20 (.cons (.bor 0) (.cons (.var 1) .nil))))) (.cons (.asg 3 (.call 23 (.cons (.bor 0) (.cons (.call 20 (.cons (.bor 0) (.cons (.cst (.int 12)) .nil))) (.cons (.frz 2) .nil))))) (.cons (.asg 4 (.call 20 (.cons (.bor 0) (.cons (.cst (.int 9)) .nil)))) (.cons (.forS (.nm 5) (.rng1 (.bor 2)) (.cons (.ife (.b .inn (.bor 4) (.lst (.cons (.cst (.int 1)) (.cons (.cst (.int 2)) .nil)))) (.cons (.set2 3 (.bor 5) (.bor 5) (.b .eq (.bor 4) (.cst (.int 1)))) .nil) .nil) (.cons (.forS (.nm 6) (.rng1 (.bor 2)) (.cons (.ife (.b .eq (.bor 4) (.cst (.int 3))) (.cons (.set2 3 (.bor 6) (.bor 5) (.or (.item2 3 (.bor 6) (.bor 5)) (.item2 3 (.bor 5) (.bor 6)))) .nil) .nil) (.cons (.forS (.nm 7) (.rng1 (.bor 2)) (.cons (.ife (.and (.b .inn (.bor 4) (.lst (.cons (.cst (.int 4)) (.cons (.cst (.int 5)) .nil)))) (.and (.item2 3 (.bor 6) (.bor 5)) (.item2 3 (.bor 5) (.bor 7)))) (.cons (.set2 3 (.bor 6) (.bor 7) (.cst (.bool true))) .nil) .nil) .nil)) .nil))) .nil))) (.cons (.forS (.nm 5) (.rng1 (.bor 2)) (.cons (.ife (.b .eq (.bor 4) (.cst (.int 5))) (.cons (.set2 3 (.bor 5) (.bor 5) (.cst (.bool true))) .nil) .nil) .nil)) (.cons (.ife (.b .eq (.bor 4) (.cst (.int 6))) (.cons (.par 6 7 (.call 20 (.cons (.bor 0) (.cons (.frz 2) .nil))) (.call 20 (.cons (.bor 0) (.cons (.frz 2) .nil)))) (.cons (.set2 3 (.bor 6) (.bor 7) (.not (.item2 3 (.bor 6) (.bor 7)))) .nil)) .nil) (.cons (.ret (.u .tuple (.comp [6] (.nm 6) (.rng1 (.bor 2)) .no (.u .sum (.comp [7] (.nm 7) (.rng1 (.bor 2)) (.so (.item2 3 (.var 6) (.var 7))) (.b .shl (.cst (.int 1)) (.var 7))))))) .nil)))))))
def f_law_tie : Fn := { lent := [true, false], ns := 8, body := b_law_tie }
abbrev F_law_has : Nat := 25
def b_law_has : Sms := (.cons (.ret (.b .eq (.b .band (.b .shr (.b .item (.var 0) (.var 1)) (.var 2)) (.cst (.int 1))) (.cst (.int 1)))) .nil)
def f_law_has : Fn := { lent := [false, false, false], ns := 3, body := b_law_has }
abbrev F_law_thing : Nat := 26
def b_law_thing : Sms := (.cons (.ret (.and (.u .isInt (.var 1)) (.and (.not (.u .isBool (.var 1))) (.chain .le .lt (.cst (.int 0)) (.var 1) (.u .len (.var 0)))))) .nil)
def f_law_thing : Fn := { lent := [false, false], ns := 2, body := b_law_thing }
abbrev F_law_frame : Nat := 27
def b_law_frame : Sms := (.cons (.asg 2 (.call 24 (.cons (.bor 0) (.cons (.var 1) .nil)))) (.cons (.asg 3 (.lst (.cons (.cst (.int 0)) (.cons (.cst (.int 0)) (.cons (.call 20 (.cons (.bor 0) (.cons (.cst (.int 6)) .nil))) (.cons (.call 20 (.cons (.bor 0) (.cons (.cst (.int 6)) .nil))) .nil)))))) (.cons (.asg 4 (.call 20 (.cons (.bor 0) (.cons (.cst (.int 3)) .nil)))) (.cons (.ret (.tup (.cons (.frz 2) (.cons (.u .tuple (.comp [5] (.nm 5) (.ex (.frz 2)) .no (.b .item (.bor 3) (.call 20 (.cons (.bor 0) (.cons (.b .item (.lst (.cons (.cst (.int 1)) (.cons (.cst (.int 2)) (.cons (.cst (.int 4)) .nil)))) (.bor 4)) .nil)))))) .nil)))) .nil))))
def f_law_frame : Fn := { lent := [true, false], ns := 6, body := b_law_frame }
abbrev F_law_twice : Nat := 28
def b_law_twice : Sms := (.cons (.asgT (.tp (.cons (.nm 4) (.cons (.nm 5) .nil))) (.tup (.cons (.call 27 (.cons (.bor 0) (.cons (.var 1) .nil))) (.cons (.call 20 (.cons (.bor 0) (.cons (.cst (.int 5)) .nil))) .nil)))) (.cons (.asg 2 (.u .len (.b .item (.bor 4) (.cst (.int 0))))) (.cons (.ife (.b .eq (.bor 5) (.cst (.int 0))) (.cons (.ret (.tup (.cons (.frz 4) (.cons (.frz 4) .nil)))) .nil) .nil) (.cons (.ife (.b .eq (.bor 5) (.cst (.int 1))) (.cons (.ret (.tup (.cons (.frz 4) (.cons (.call 27 (.cons (.bor 0) (.cons (.var 1) .nil))) .nil)))) .nil) .nil) (.cons (.asgT (.tp (.cons (.nm 6) (.cons (.nm 7) .nil))) (.tup (.cons (.call 20 (.cons (.bor 0) (.cons (.frz 2) .nil))) (.cons (.call 20 (.cons (.bor 0) (.cons (.frz 2) .nil))) .nil)))) (.cons (.ife (.b .eq (.bor 5) (.cst (.int 2))) (.cons (.ret (.tup (.cons (.frz 4) (.cons (.tup (.cons (.u .tuple (.comp [9] (.nm 9) (.rng1 (.bor 2)) .no (.ite (.b .eq (.var 9) (.bor 6)) (.b .bxor (.b .item (.b .item (.bor 4) (.cst (.int 0))) (.var 9)) (.b .shl (.cst (.int 1)) (.bor 7))) (.b .item (.b .item (.bor 4) (.cst (.int 0))) (.var 9))))) (.cons (.b .item (.bor 4) (.cst (.int 1))) .nil))) .nil)))) .nil) .nil) (.cons (.ife (.b .eq (.bor 5) (.cst (.int 3))) (.cons (.asg 8 (.call 22 (.cons (.bor 0) (.cons (.frz 2) .nil)))) (.cons (.par 3 10 (.b .mul (.lst (.cons (.cst (.int 0)) .nil)) (.bor 2)) (.b .mul (.lst (.cons (.cst (.int 0)) .nil)) (.bor 2))) (.cons (.forS (.nm 9) (.rng1 (.bor 2)) (.cons (.set1 3 (.b .item (.bor 8) (.bor 9)) (.u .sum (.comp [12] (.nm 12) (.rng1 (.bor 2)) (.so (.call 25 (.cons (.b .item (.bor 4) (.cst (.int 0))) (.cons (.frz 9) (.cons (.var 12) .nil))))) (.b .shl (.cst (.int 1)) (.b .item (.bor 8) (.var 12)))))) (.cons (.set1 10 (.b .item (.bor 8) (.bor 9)) (.b .item (.b .item (.bor 4) (.cst (.int 1))) (.bor 9))) .nil))) (.cons (.ret (.tup (.cons (.frz 4) (.cons (.tup (.cons (.u .tuple (.bor 3)) (.cons (.u .tuple (.bor 10)) .nil))) .nil)))) .nil)))) .nil) (.cons (.asg 3 (.b .add (.comp [11] (.nm 11) (.ex (.b .item (.bor 4) (.cst (.int 0)))) .no (.b .bor (.var 11) (.b .shl (.b .band (.b .shr (.var 11) (.bor 6)) (.cst (.int 1))) (.bor 2)))) (.lst (.cons (.b .bor (.b .item (.b .item (.bor 4) (.cst (.int 0))) (.bor 6)) (.b .shl (.b .band (.b .shr (.b .item (.b .item (.bor 4) (.cst (.int 0))) (.bor 6)) (.bor 6)) (.cst (.int 1))) (.bor 2))) .nil)))) (.cons (.ret (.ite (.b .lt (.bor 2) (.cst (.int 6))) (.tup (.cons (.frz 4) (.cons (.tup (.cons (.u .tuple (.bor 3)) (.cons (.b .add (.b .item (.bor 4) (.cst (.int 1))) (.tup (.cons (.b .item (.b .item (.bor 4) (.cst (.int 1))) (.bor 6)) .nil))) .nil))) .nil))) (.tup (.cons (.frz 4) (.cons (.frz 4) .nil))))) .nil)))))))))
def f_law_twice : Fn := { lent := [true, false], ns := 13, body := b_law_twice }
abbrev F_law_odd_frame : Nat := 29
def b_law_odd_frame : Sms := (.cons (.asgT (.tp (.cons (.nm 3) (.cons (.nm 4) .nil))) (.var 1)) (.cons (.asg 2 (.lst (.cons (.frz 3) (.cons (.tup (.cons (.frz 3) .nil)) (.cons (.tup (.cons (.frz 3) (.cons (.slc (.bor 4) (.so (.cst (.int 1))) .no) .nil))) (.cons (.tup (.cons (.frz 3) (.cons (.b .add (.bor 4) (.tup (.cons (.cst (.int 0)) .nil))) .nil))) (.cons (.tup (.cons (.frz 3) (.cons (.u .list (.bor 4)) .nil))) (.cons (.tup (.cons (.u .list (.bor 3)) (.cons (.frz 4) .nil))) (.cons (.cst .none) (.cons (.tup (.cons (.frz 3) (.cons (.b .mul (.tup (.cons (.cst (.int 6)) .nil)) (.u .len (.bor 3))) .nil))) .nil)))))))))) (.cons (.ret (.b .item (.b .add (.bor 2) (.lst (.cons (.tup (.cons (.frz 3) (.cons (.b .mul (.tup (.cons (.cst (.bool true)) .nil)) (.u .len (.bor 3))) .nil))) (.cons (.tup (.cons (.frz 3) (.cons (.b .mul (.tup (.cons (.u .neg (.cst (.int 1))) .nil)) (.u .len (.bor 3))) .nil))) (.cons (.tup (.cons (.tup (.cons (.cst (.int 64)) .nil)) (.cons (.tup (.cons (.cst (.int 0)) .nil)) .nil))) (.cons (.tup (.cons (.frz 3) (.cons (.cst .none) .nil))) .nil)))))) (.call 20 (.cons (.bor 0) (.cons (.cst (.int 12)) .nil))))) .nil)))
def f_law_odd_frame : Fn := { lent := [true, false], ns := 5, body := b_law_odd_frame }
abbrev F_law_ahead : Nat := 30
def b_law_ahead : Sms := (.cons (.ret (.comp [2] (.nm 2) (.rng1 (.u .len (.var 0))) (.so (.call 25 (.cons (.var 0) (.cons (.var 1) (.cons (.var 2) .nil))))) (.var 2))) .nil)
def f_law_ahead : Fn := { lent := [false, false], ns := 3, body := b_law_ahead }
abbrev F_law_fits : Nat := 31
def b_law_fits : Sms := (.cons (.asgT (.tp (.cons (.nm 6) (.cons (.nm 7) .nil))) (.tup (.cons (.call 30 (.cons (.b .item (.var 0) (.cst (.int 0))) (.cons (.var 3) .nil))) (.cons (.call 30 (.cons (.b .item (.var 1) (.cst (.int 0))) (.cons (.var 4) .nil))) .nil)))) (.cons (.ife (.or (.b .ne (.b .item (.b .item (.var 0) (.cst (.int 1))) (.var 3)) (.b .item (.b .item (.var 1) (.cst (.int 1))) (.var 4))) (.not (.u .all (.comp [9] (.nm 9) (.ex (.frz 6)) .no (.u .any (.comp [8] (.nm 8) (.ex (.frz 7)) .no (.b .inn (.tup (.cons (.var 9) (.cons (.var 8) .nil))) (.var 2)))))))) (.cons (.ret (.cst (.bool false))) .nil) .nil) (.cons (.ret (.or (.not (.var 5)) (.u .all (.comp [8] (.nm 8) (.ex (.frz 7)) .no (.u .any (.comp [9] (.nm 9) (.ex (.frz 6)) .no (.b .inn (.tup (.cons (.var 9) (.cons (.var 8) .nil))) (.var 2)))))))) .nil)))
def f_law_fits : Fn := { lent := [false, false, false, false, false, false], ns := 10, body := b_law_fits }
abbrev F_law_layers : Nat := 32
def b_law_layers : Sms := (.cons (.asg 3 (.lst .nil)) (.cons (.forS (.nm 4) (.rng1 (.u .len (.b .item (.var 0) (.cst (.int 0))))) (.cons (.asg 3 (.b .add (.bor 3) (.comp [8] (.nm 8) (.rng1 (.u .len (.b .item (.var 1) (.cst (.int 0))))) (.so (.b .eq (.b .item (.b .item (.var 0) (.cst (.int 1))) (.bor 4)) (.b .item (.b .item (.var 1) (.cst (.int 1))) (.var 8)))) (.tup (.cons (.frz 4) (.cons (.var 8) .nil)))))) .nil)) (.cons (.par 5 6 (.lst .nil) (.u .neg (.cst (.int 1)))) (.cons (.whil (.b .ne (.bor 6) (.u .len (.bor 3))) (.cons (.asg 6 (.u .len (.bor 3))) (.cons (.append 5 (.frz 3)) (.cons (.asg 3 (.comp [7] (.nm 7) (.ex (.frz 3)) (.so (.call 31 (.cons (.var 0) (.cons (.var 1) (.cons (.b .item (.bor 5) (.u .neg (.cst (.int 1)))) (.cons (.b .item (.var 7) (.cst (.int 0))) (.cons (.b .item (.var 7) (.cst (.int 1))) (.cons (.var 2) .nil)))))))) (.var 7))) .nil)))) (.cons (.ret (.take 5)) .nil)))))
def f_law_layers : Fn := { lent := [false, false, false], ns := 9, body := b_law_layers }
abbrev F_law_pairs_right : Nat := 33
def b_law_pairs_right : Sms := (.cons (.ife (.or (.not (.u .isTuple (.var 2))) (.not (.u .all (.comp [4] (.nm 4) (.ex (.var 2)) .no (.and (.u .isTuple (.var 4)) (.b .eq (.u .len (.var 4)) (.cst (.int 2)))))))) (.cons (.ret (.cst (.bool false))) .nil) .nil) (.cons (.ife (.not (.u .all (.comp [4] (.nm 4) (.ex (.var 2)) .no (.and (.call 26 (.cons (.b .item (.var 0) (.cst (.int 0))) (.cons (.b .item (.var 4) (.cst (.int 0))) .nil))) (.call 26 (.cons (.b .item (.var 1) (.cst (.int 0))) (.cons (.b .item (.var 4) (.cst (.int 1))) .nil))))))) (.cons (.ret (.cst (.bool false))) .nil) .nil) (.cons (.ret (.and (.b .eq (.u .list (.var 2)) (.u .setSorted (.var 2))) (.u .all (.comp [4] (.nm 4) (.ex (.var 2)) .no (.call 31 (.cons (.var 0) (.cons (.var 1) (.cons (.var 2) (.cons (.b .item (.var 4) (.cst (.int 0))) (.cons (.b .item (.var 4) (.cst (.int 1))) (.cons (.var 3) .nil))))))))))) .nil)))
def f_law_pairs_right : Fn := { lent := [false, false, false, false], ns := 5, body := b_law_pairs_right }
abbrev F_law_falls : Nat := 34
def b_law_falls : Sms := (.cons (.tryE 0 (.cons (.ife (.b .eq (.var 0) (.cst (.int 0))) (.cons (.expr (.call 16 (.cons (.var 1) (.cons (.var 2) .nil)))) .nil) (.cons (.ife (.b .eq (.var 0) (.cst (.int 1))) (.cons (.expr (.call 17 (.cons (.var 1) (.cons (.var 2) .nil)))) .nil) (.cons (.ife (.b .eq (.var 0) (.cst (.int 2))) (.cons (.expr (.call 12 (.cons (.var 1) (.cons (.var 2) (.cons (.tup .nil) .nil))))) .nil) (.cons (.ife (.b .eq (.var 0) (.cst (.int 3))) (.cons (.expr (.call 13 (.cons (.var 1) (.cons (.var 2) (.cons (.tup .nil) .nil))))) .nil) (.cons (.expr (.call 18 (.cons (.var 1) (.cons (.var 2) .nil)))) .nil)) .nil)) .nil)) .nil)) .nil) (.cons (.ret (.cst (.bool true))) .nil)) (.cons (.ret (.cst (.bool false))) .nil))
def f_law_falls : Fn := { lent := [false, false, false], ns := 3, body := b_law_falls }
abbrev F_law : Nat := 35
def b_law : Sms := (.cons (.asg 1 (.call 19 (.cons (.var 0) .nil))) (.cons (.asgT (.tp (.cons (.nm 7) (.cons (.nm 8) .nil))) (.call 28 (.cons (.bor 1) (.cons (.ite (.b .eq (.call 20 (.cons (.bor 1) (.cons (.cst (.int 3)) .nil))) (.cst (.int 0))) (.cst (.int 6)) (.cst (.int 5))) .nil)))) (.cons (.asg 2 (.lst .nil)) (.cons (.forS (.nm 3) (.rng1 (.u .len (.b .item (.bor 7) (.cst (.int 0))))) (.cons (.asg 2 (.b .add (.bor 2) (.comp [20] (.nm 20) (.rng1 (.u .len (.b .item (.bor 8) (.cst (.int 0))))) .no (.tup (.cons (.frz 3) (.cons (.var 20) .nil)))))) .nil)) (.cons (.forS (.nm 4) (.ex (.lst (.cons (.cst (.bool true)) (.cons (.cst (.bool false)) .nil)))) (.cons (.asg 5 (.u .tuple (.b .item (.call 32 (.cons (.frz 7) (.cons (.frz 8) (.cons (.frz 4) .nil)))) (.u .neg (.cst (.int 1)))))) (.cons (.asg 9 (.ite (.bor 4) (.call 16 (.cons (.frz 7) (.cons (.frz 8) .nil))) (.call 17 (.cons (.frz 7) (.cons (.frz 8) .nil))))) (.cons (.ife (.or (.b .ne (.bor 9) (.bor 5)) (.not (.call 33 (.cons (.frz 7) (.cons (.frz 8) (.cons (.frz 9) (.cons (.frz 4) .nil))))))) (.cons (.ret (.cst (.bool false))) .nil) .nil) (.cons (.asg 10 (.lst (.cons (.frz 5) (.cons (.slc (.bor 5) (.so (.cst (.int 1))) .no) (.cons (.slc (.bor 5) .no (.so (.u .neg (.cst (.int 1))))) (.cons (.u .rev (.bor 5)) (.cons (.u .list (.bor 5)) (.cons (.b .add (.bor 5) (.slc (.bor 5) .no (.so (.cst (.int 1))))) (.cons (.tup .nil) (.cons (.cst .none) (.cons (.cst (.int 0)) (.cons (.u .tuple (.bor 2)) (.cons (.tup (.cons (.tup (.cons (.cst (.int 0)) .nil)) .nil)) (.cons (.tup (.cons (.cst .none) .nil)) (.cons (.tup (.cons (.tup (.cons (.cst (.int 0)) (.cons (.cst (.int 0)) (.cons (.cst (.int 0)) .nil)))) .nil)) .nil))))))))))))))) (.cons (.asg 10 (.b .add (.bor 10) (.lst (.cons (.tup (.cons (.tup (.cons (.cst (.bool true)) (.cons (.cst (.int 0)) .nil))) .nil)) (.cons (.tup (.cons (.tup (.cons (.cst (.int 0)) (.cons (.u .len (.b .item (.bor 8) (.cst (.int 0)))) .nil))) .nil)) (.cons (.tup (.cons (.tup (.cons (.u .len (.b .item (.bor 7) (.cst (.int 0)))) (.cons (.cst (.int 0)) .nil))) .nil)) (.cons (.tup (.cons (.tup (.cons (.u .neg (.cst (.int 1))) (.cons (.cst (.int 0)) .nil))) .nil)) (.cons (.tup (.cons (.lst (.cons (.cst (.int 0)) (.cons (.cst (.int 0)) .nil))) .nil)) .nil)))))))) (.cons (.forS (.nm 11) (.rng1 (.cst (.int 6))) (.cons (.asg 16 (.ite (.b .ne (.bor 5) (.tup .nil)) (.b .item (.bor 5) (.call 20 (.cons (.bor 1) (.cons (.u .len (.bor 5)) .nil)))) (.tup (.cons (.cst (.int 0)) (.cons (.cst (.int 0)) .nil))))) (.cons (.append 10 (.u .tuple (.comp [21] (.nm 21) (.ex (.frz 5)) (.so (.and (.b .ne (.var 21) (.bor 16)) (.b .gt (.call 20 (.cons (.bor 1) (.cons (.cst (.int 6)) .nil))) (.cst (.int 0))))) (.var 21)))) (.cons (.append 10 (.u .tuple (.u .setSorted (.b .add (.u .list (.bor 5)) (.lst (.cons (.b .item (.bor 2) (.call 20 (.cons (.bor 1) (.cons (.u .len (.bor 2)) .nil)))) .nil)))))) .nil)))) (.cons (.forS (.nm 12) (.rng1 (.u .len (.bor 5))) (.cons (.asg 17 (.u .tuple (.comp [21] (.nm 21) (.ex (.frz 5)) (.so (.call 31 (.cons (.frz 7) (.cons (.frz 8) (.cons (.slc (.bor 5) .no (.so (.bor 12))) (.cons (.b .item (.var 21) (.cst (.int 0))) (.cons (.b .item (.var 21) (.cst (.int 1))) (.cons (.frz 4) .nil)))))))) (.var 21)))) (.cons (.append 10 (.frz 17)) .nil))) (.cons (.forS (.nm 13) (.ex (.frz 10)) (.cons (.asg 18 (.call 33 (.cons (.frz 7) (.cons (.frz 8) (.cons (.frz 13) (.cons (.frz 4) .nil)))))) (.cons (.ife (.not (.call 21 (.cons (.ite (.bor 4) (.call 12 (.cons (.frz 7) (.cons (.frz 8) (.cons (.frz 13) .nil)))) (.call 13 (.cons (.frz 7) (.cons (.frz 8) (.cons (.frz 13) .nil))))) (.cons (.frz 18) .nil)))) (.cons (.ret (.cst (.bool false))) .nil) .nil) .nil))) .nil))))))))) (.cons (.asg 5 (.b .item (.call 32 (.cons (.frz 7) (.cons (.frz 8) (.cons (.cst (.bool true)) .nil)))) (.u .neg (.cst (.int 1))))) (.cons (.par 14 15 (.u .setSorted (.comp [21] (.nm 21) (.ex (.frz 5)) .no (.b .item (.var 21) (.cst (.int 0))))) (.u .setSorted (.comp [21] (.nm 21) (.ex (.frz 5)) .no (.b .item (.var 21) (.cst (.int 1)))))) (.cons (.ife (.not (.call 21 (.cons (.call 18 (.cons (.frz 7) (.cons (.frz 8) .nil))) (.cons (.and (.b .eq (.u .len (.bor 14)) (.u .len (.b .item (.bor 7) (.cst (.int 0))))) (.b .eq (.u .len (.bor 15)) (.u .len (.b .item (.bor 8) (.cst (.int 0)))))) .nil)))) (.cons (.ret (.cst (.bool false))) .nil) .nil) (.cons (.asg 6 (.call 29 (.cons (.bor 1) (.cons (.frz 7) .nil)))) (.cons (.ife (.or (.u .notTrue (.call 5 (.cons (.frz 7) .nil))) (.u .notFalse (.call 5 (.cons (.frz 6) .nil)))) (.cons (.ret (.cst (.bool false))) .nil) .nil) (.cons (.ret (.u .all (.comp [19] (.nm 19) (.rng1 (.cst (.int 5))) .no (.and (.call 34 (.cons (.var 19) (.cons (.frz 6) (.cons (.frz 8) .nil)))) (.call 34 (.cons (.var 19) (.cons (.frz 7) (.cons (.frz 6) .nil)))))))) .nil)))))))))))
def f_law : Fn := { lent := [false], ns := 22, body := b_law }
def fns : List Fn := [f_is_whole, f_has, f_things_in, f_is_tie, f_is_thing, f_is_frame, f_check_frame, f_check_two, f_are_pairs, f_answers, f_answers_back, f_fits, f_takes_match, f_takes_copy, f_all_pairs, f_layers, f_greatest_match, f_greatest_copy, f_all_matched, f_law_draw, f_law_take, f_law_says, f_law_order, f_law_styled, f_law_tie, f_law_has, f_law_thing, f_law_frame, f_law_twice, f_law_odd_frame, f_law_ahead, f_law_fits, f_law_layers, f_law_pairs_right, f_law_falls, f_law]
def FTm : Nat → Option Fn := fun f => fns[f]?
def glD : List PyData := [(.int 6), (.int 5)]
def gl : Nat → Option PyData := fun g => glD[g]?
end K73
set_option maxHeartbeats 4000000
section
open TK PySem ED
local macro_rules | `(tactic| walk_at "set") => `(tactic| (simp only [List.set_cons_zero, List.set_cons_succ]; rfl))
local macro_rules | `(tactic| walk_at "wipe") => `(tactic| (simp only [wipeE, List.set_cons_zero, List.set_cons_succ]; rfl))
local macro_rules | `(tactic| walk_at "side") => `(tactic| first | assumption | omega | (simp only [List.length_cons, List.length_nil, List.length_map, List.length_range, List.length_append] at *; omega))
local macro_rules | `(tactic| walk_at "getq") => `(tactic| ((with_reducible apply getq); walk_at "side"))
local macro_rules | `(tactic| walk_at "free") => `(tactic| first | rfl | assumption | exact Fr.free (by assumption))
local macro_rules | `(tactic| walk_at "fr") => `(tactic| first | exact Fr.un | exact Fr.pl _ | assumption)
local macro_rules | `(tactic| walk_at "wok") => `(tactic| first | rfl | ((with_reducible apply wipe1); rfl; assumption))
local macro_rules | `(tactic| walk_at "dep") => `(tactic| exact Nat.le_of_ble_eq_true rfl)
local macro_rules | `(tactic| walk_at "p1") => `(tactic| first
  | with_reducible exact q_len_tup _ | with_reducible exact q_len_list _ | with_reducible exact q_len_pair _
  | with_reducible exact q_all_map _ _ | with_reducible exact q_any_map _ _ | with_reducible exact q_all _ | with_reducible exact q_any _
  | with_reducible exact q_tuple _ | with_reducible exact q_tuple_tup _ | with_reducible exact q_list _ | with_reducible exact q_list_list _ | with_reducible exact q_sum _ | with_reducible exact q_neg _ | with_reducible exact q_neg_int _
  | with_reducible exact q_abs _ | with_reducible exact q_abs_int _ | with_reducible exact q_int _ | with_reducible exact q_int_int _ | with_reducible exact q_rev_list _ | with_reducible exact q_rev_tup _
  | ((with_reducible apply q_rngL); walk_at "side")
  | with_reducible exact q_isTup_t _ | with_reducible exact q_isTup_p _ | with_reducible exact q_isTup_l _ | with_reducible exact q_isTup_n _ | with_reducible exact q_isInt_n _ | with_reducible exact q_isInt_i _ | with_reducible exact q_isInt_b _ | with_reducible exact q_isBool_n _ | with_reducible exact q_isBool_i _ | with_reducible exact q_isBool_b _
  | with_reducible exact q_isTrue _ | with_reducible exact q_notTrue _ | with_reducible exact q_isFalse _ | with_reducible exact q_notFalse _
  | with_reducible exact q_isTup _ | with_reducible exact q_isInt _ | with_reducible exact q_isBool _ | with_reducible exact q_isStr _ | with_reducible exact q_isNone _ | with_reducible exact q_notNone _ | assumption)
local macro_rules | `(tactic| walk_at "items") => `(tactic| first | assumption | rfl)
local macro_rules | `(tactic| walk_at "p2") => `(tactic| first
  | with_reducible exact q_fst _ _ | with_reducible exact q_snd _ _
  | with_reducible exact q_item0L _ _ | with_reducible exact q_item0T _ _ | with_reducible exact q_lastA _ _ | ((with_reducible apply q_itemT); walk_at "side") | ((with_reducible apply q_itemL); walk_at "side") | ((with_reducible apply q_lastL); walk_at "side")
  | with_reducible exact q_le _ _ | with_reducible exact q_lt _ _ | with_reducible exact q_lt_pair _ _ _ _ | with_reducible exact q_ge _ _ | with_reducible exact q_gt _ _
  | with_reducible exact q_add _ _ | ((with_reducible apply q_sub); walk_at "side") | ((with_reducible apply q_addL); walk_at "side") | ((with_reducible apply q_addT); walk_at "side")
  | with_reducible exact q_band _ _ | with_reducible exact q_bor _ _ | with_reducible exact q_bxor _ _ | with_reducible exact q_shr _ _
  | ((with_reducible apply q_shl) <;> walk_at "side") | ((with_reducible apply q_mod); walk_at "side") | ((with_reducible apply q_fdiv) <;> walk_at "side")
  | ((with_reducible apply q_mulL1); walk_at "side") | ((with_reducible apply q_mulT1) <;> walk_at "side") | ((with_reducible apply q_mul); walk_at "side") | ((with_reducible apply q_mul_r); walk_at "side")
  | ((with_reducible apply q_eq); walk_at "dep") | ((with_reducible apply q_ne); walk_at "dep")
  | ((with_reducible apply q_in3); walk_at "dep") | ((with_reducible apply q_in2); walk_at "dep") | ((with_reducible apply q_item3); walk_at "side") | ((with_reducible apply q_in); walk_at "items"; walk_at "dep") | ((with_reducible apply q_notin); walk_at "items"; walk_at "dep")
  | with_reducible exact q_ne_nilN _ | ((with_reducible apply q_neT_nil); walk_at "dep") | with_reducible exact q_max2 _ _ | with_reducible exact q_min2 _ _
  | with_reducible exact q_le_int _ _ | with_reducible exact q_lt_int _ _ | with_reducible exact q_le_ni _ _ | with_reducible exact q_lt_ni _ _ | with_reducible exact q_le_in _ _ | with_reducible exact q_lt_in _ _
  | with_reducible exact q_add_int _ _ | with_reducible exact q_add_int_nat _ _ | with_reducible exact q_add_nat_int _ _ | with_reducible exact q_sub_int _ _ | with_reducible exact q_eq_in _ _ | with_reducible exact q_eq_ni _ _ | with_reducible exact q_ne_in _ _ | with_reducible exact q_ne_ni _ _ | assumption | ((with_reducible apply q_addRaw); walk_at "side") | ((with_reducible apply q_addLR); walk_at "side") | ((with_reducible apply q_itemRaw); walk_at "side"))
local macro_rules | `(tactic| walk_at "slc") => `(tactic| with_reducible first | exact q_fromT _ _ | exact q_fromL _ _ | exact q_toT _ _ | exact q_toL _ _ | exact q_butT _ | exact q_butL _)
local macro_rules | `(tactic| walk_at "truth") => `(tactic| rfl)
local macro_rules | `(tactic| walk_at "call") => `(tactic| fail "no contract")
local macro_rules | `(tactic| walk_at "draw") => `(tactic| fail "no contract")
local macro_rules | `(tactic| walk_at "rai") => `(tactic| fail "no contract")
local macro_rules | `(tactic| walk_at "wE") => `(tactic| first
  | (with_reducible apply WE.cstN) | ((with_reducible apply WE.var); rfl) | (with_reducible apply WE.b) | (with_reducible apply WE.u) | (with_reducible apply WE.call) | ((with_reducible apply WE.bor); rfl)
  | (with_reducible apply WE.cstB) | (with_reducible apply WE.cstU) | ((with_reducible apply WE.frz); rfl) | ((with_reducible apply WE.frzO); rfl; walk_at "set") | ((with_reducible apply WE.frz2); rfl; walk_at "set")
  | ((with_reducible apply WE.take); rfl) | ((with_reducible apply WE.takeO); rfl; walk_at "set") | ((with_reducible apply WE.take2); rfl; walk_at "set")
  | (with_reducible apply WE.and) | (with_reducible apply WE.or) | (with_reducible apply WE.not) | (with_reducible apply WE.chain) | (with_reducible apply WE.ite) | (with_reducible apply WE.slc)
  | ((with_reducible apply WE.popAt); rfl) | ((with_reducible apply WE.item2); rfl) | (with_reducible apply WE.tup2) | (with_reducible apply WE.tup1) | (with_reducible apply WE.tup) | (with_reducible apply WE.lst1) | (with_reducible apply WE.lst) | (with_reducible apply WE.comp) | (with_reducible apply WE.comp2)
  | ((with_reducible apply WE.glbN); rfl) | ((with_reducible apply WE.glb); rfl) | (with_reducible apply WE.cst))
local macro_rules | `(tactic| walk_at "wT") => `(tactic| first
  | (with_reducible apply WT.not) | (with_reducible apply WT.and) | (with_reducible apply WT.or) | (with_reducible apply WT.ite) | ((with_reducible apply WT.plain); rfl))
local macro_rules | `(tactic| walk_at "wS") => `(tactic| first
  | (with_reducible apply WS.ret) | ((with_reducible apply WS.asg)) | (with_reducible apply WS.asgT) | (with_reducible apply WS.ife) | (with_reducible apply WS.expr) | (with_reducible apply WS.rais) | ((with_reducible apply WS.append); rfl) | ((with_reducible apply WS.extend); rfl) | (with_reducible apply WS.set1) | ((with_reducible apply WS.aug); rfl) | (with_reducible apply WS.par) | (with_reducible apply WS.tryE) | (with_reducible apply WS.retN) | (with_reducible apply WS.pass) | (with_reducible apply WS.forS) | (with_reducible apply WS.set2) | ((with_reducible apply WS.append2); (with_reducible apply has2e_o2); rfl))
local macro_rules | `(tactic| walk_at "k") => `(tactic| first
  | ((with_reducible refine isWE ?_); walk_at "wE")
  | ((with_reducible apply K1.mk); rfl; walk_at "p1") | ((with_reducible apply K2.mk); rfl; rfl; walk_at "p2")
  | (with_reducible apply WR.cons) | (with_reducible apply WR.nil)
  | ((with_reducible apply WCall.ret); rfl; rfl; walk_at "call")
  | ((with_reducible apply WCall.rai); rfl; rfl; walk_at "rai") | (with_reducible apply KTry.yes)
  | ((with_reducible apply WCall.drawI); rfl; rfl; rfl; assumption; walk_at "draw"; (intro _; walk_at "set"); intro _ _ _ _)
  | ((with_reducible apply WCall.drawO); rfl; rfl; rfl; assumption; walk_at "draw"; (intro _; walk_at "set"); intro _ _ _ _)
  | ((with_reducible apply KP.mk); rfl) | ((with_reducible apply KT.mk); rfl; walk_at "truth") | ((with_reducible apply KD.mk); rfl) | ((with_reducible apply KD.rawD); rfl)
  | ((with_reducible refine isWT ?_); walk_at "wT") | ((with_reducible refine isWS ?_); walk_at "wS")
  | ((with_reducible apply KAnd.join); rfl; intro) | ((with_reducible apply KOr.join); rfl; intro)
  | (with_reducible exact EndP.mk) | (with_reducible exact EndT.mk)
  | ((with_reducible apply KCh.join); rfl; rfl; walk_at "p2"; intro) | ((with_reducible apply KCh2.mk); rfl; walk_at "p2")
  | ((with_reducible apply KTAnd.join); intro) | ((with_reducible apply KTOr.join); intro)
  | (with_reducible apply WO.no) | (with_reducible apply WO.so) | ((with_reducible apply KS.mk); rfl; walk_at "slc") | ((with_reducible apply KO.nat); rfl) | ((with_reducible apply KO.int); rfl)
  | (with_reducible apply WX.cons) | (with_reducible apply WX.nil)
  | (with_reducible apply WI.rng1) | (with_reducible apply WI.rng2) | (with_reducible apply WI.ex) | (with_reducible apply WI.enum) | (with_reducible apply WI.zip2)
  | ((with_reducible apply KComp2.mk); rfl; walk_at "wipe"; intro _ _)
  | ((with_reducible apply KIn.all); walk_at "wipe"; rfl; intro _ _) | ((with_reducible apply KIn.mk); walk_at "wipe"; rfl; intro _ _)
  | ((with_reducible apply KIt.mk); rfl) | ((with_reducible apply KIt.two); rfl) | ((with_reducible apply KIt.three); rfl) | ((with_reducible apply KRng.mk); rfl; walk_at "side") | ((with_reducible apply KRng2.mk); rfl; rfl; walk_at "side"; walk_at "side") | ((with_reducible apply KEn.mk); rfl) | ((with_reducible apply KZip.mk); rfl; rfl; rfl)
  | ((with_reducible apply KEl.mk); rfl; rfl)
  | (with_reducible apply WC.no) | (with_reducible apply WC.so)
  | (with_reducible apply WSs.cons) | (with_reducible apply WSs.nil) | (with_reducible apply KNx.nx) | (with_reducible apply KNx.rt)
  | ((with_reducible apply KR.mk); rfl)
  | ((with_reducible apply KSt.mk); rfl; walk_at "free"; rfl; walk_at "set")
  | ((with_reducible apply exAsg); rfl; walk_at "free"; walk_at "set") | ((with_reducible apply exAsg2); rfl; walk_at "free"; walk_at "set"; rfl; walk_at "free"; walk_at "set")
  | ((with_reducible apply KTg.two); rfl; walk_at "free"; walk_at "set"; rfl; walk_at "free"; walk_at "set")
  | ((with_reducible apply KCd.mk); rfl; intro)
  | ((with_reducible apply KL.appO); rfl; walk_at "side"; walk_at "set") | ((with_reducible apply KL.appD); rfl; walk_at "side"; walk_at "set") | ((with_reducible apply KL.appI); rfl; walk_at "side"; walk_at "set") | ((with_reducible apply KL.setO); rfl; walk_at "side"; walk_at "set") | ((with_reducible apply KL.setI); rfl; walk_at "side"; walk_at "set")
  | (with_reducible apply KExt.mk) | ((with_reducible apply KL.extO); rfl; walk_at "side"; walk_at "set") | ((with_reducible apply KSet.mk); rfl) | ((with_reducible apply KSet2.mk); rfl) | ((with_reducible apply KA2.mk); rfl; walk_at "p2") | (with_reducible apply KAug.nat) | (with_reducible apply KAug.int)
  | ((with_reducible apply KPop.ow); rfl; rfl; walk_at "getq"; walk_at "side"; walk_at "set")
  | ((with_reducible apply KA2L.mk); rfl; walk_at "side"; walk_at "set") | ((with_reducible apply KIx.mk); rfl) | ((with_reducible apply KItm2.mk); rfl; rfl; walk_at "side"; walk_at "set") | ((with_reducible apply KSt2p.mk); rfl) | ((with_reducible apply KSt2.mk); rfl; rfl; walk_at "side"; walk_at "set")
  | (with_reducible apply SeqJ.mk) | (with_reducible apply KTurn.nx) | (with_reducible apply KTurn.rt)
  | walk_at "getq" | ((with_reducible refine isLt ?_); walk_at "side") | ((with_reducible apply isSet); walk_at "set")
  | ((with_reducible apply KRet.rt); rfl) | ((with_reducible apply KRet.nx); rfl))
local macro_rules | `(tactic| walk_at "ks") => `(tactic| first | ((with_reducible apply KTAnd.split) <;> intro) | ((with_reducible apply KTOr.split) <;> intro) | walk_at "k")
local macro_rules | `(tactic| walk_at "j") => `(tactic| first | walk_at "k" | ((with_reducible apply KIf.mk) <;> intro))
local macro_rules | `(tactic| walk_at "w") => `(tactic| first | walk_at "j" | ((with_reducible apply KComp.all); walk_at "wok"; walk_at "wipe"; intro _ _) | ((with_reducible apply KComp.mk); walk_at "wok"; walk_at "wipe"; intro _ _))
local macro_rules | `(tactic| walk_at "i") => `(tactic| first | walk_at "j")
local macro_rules | `(tactic| walk_at "start") => `(tactic| ((with_reducible apply CW.fn); rfl; rfl; (simp only [List.length_cons, List.length_nil, Nat.zero_add, Nat.reduceAdd]; rfl); (simp only [Nat.reduceSub, rep0, rep1, rep2, rep3, rep4, rep5, rep6, rep7, rep8, rep9, rep10, rep11, rep12, rep13, rep14, rep15, rep16, rep17, rep18, rep19, rep20, rep21, rep22, rep23, rep24, rep25, rep26, rep27, rep28, rep29, rep30, List.cons_append, List.nil_append]; rfl)))
local macro_rules | `(tactic| walk_at "short") => `(tactic| first | ((with_reducible apply KTOr.yes); (focus (first | (simp; done) | (simp [*]; done) | (simp; omega)))) | ((with_reducible apply KTAnd.no); (focus (first | (simp; done) | (simp [*]; done) | (simp; omega)))) | ((with_reducible apply KAnd.no); rfl; (focus (first | (simp; done) | (simp [*]; done) | (simp; omega)))) | ((with_reducible apply KOr.yes); rfl; (focus (first | (simp; done) | (simp [*]; done) | (simp; omega)))) | ((with_reducible apply KIf.yes); (focus (first | (simp; done) | (simp [*]; done) | (simp; omega)))) | ((with_reducible apply KIf.no); (focus (first | (simp; done) | (simp [*]; done) | (simp; omega)))) | walk_at "w")
namespace K73
abbrev CF (k : Nat) := callF gl FTm k
def isWholeD : D → Bool
  | .int _ => true
  | _ => false
theorem is_whole_ok (k : Nat) (d : D) : Ret (CF (k+1)) F_is_whole [.pl d] (.pl (ed (isWholeD d))) := by
  cases d <;> exact ⟨_, rfl, rfl⟩
theorem has_ok (k : Nat) (a n : Nat) : Ret (CF (k+1)) F_has [.pl (ed a), .pl (ed n)] (.pl (ed (a.testBit n))) := by
  refine Ret.of ?_
  walk_at "start"
  unfold b_has
  repeat walk_at "w"
  rw [bit_eq]
local macro_rules | `(tactic| walk_at "call") => `(tactic| with_reducible exact has_ok ..)
local macro_rules | `(tactic| walk_at "call") => `(tactic| with_reducible exact is_whole_ok ..)
/-- the things in a set -/
def bits (a : Nat) : List Nat := (List.range 6).filter a.testBit
theorem things_in_ok (k : Nat) (a : Nat) : Ret (CF (k+2)) F_things_in [.pl (ed a)] (.ow (ed (bits a))) := by
  refine Ret.of ?_
  walk_at "start"
  unfold b_things_in
  repeat walk_at "w"
  rw [List.map_id']; rfl
local macro_rules | `(tactic| walk_at "call") => `(tactic| with_reducible exact things_in_ok ..)

/-- is the datum a whole number from 0 below n -/
def below (n : Nat) : D → Bool
  | .int i => decide (0 ≤ i) && decide (i < n)
  | _ => false
theorem is_thing_ok (k : Nat) (t : D) (n : Nat) (ht : p1 .len t = some (.pl (ed n))) (d : D) : Ret (CF (k+2)) F_is_thing [.pl t, .pl d] (.pl (ed (below n d))) := by
  cases d with
  | int i =>
    show Ret _ _ [.pl t, .pl (ed i)] _
    refine Ret.of ?_
    walk_at "start"
    unfold b_is_thing
    repeat walk_at "w"
    rfl
  | _ => exact ⟨_, rfl, rfl⟩
local macro_rules | `(tactic| walk_at "call") => `(tactic| ((with_reducible apply is_thing_ok); (first | exact q_len_tup _ | exact q_len_list _ | assumption)))
theorem below_nat (n a : Nat) : below n (ed a) = decide (a < n) := by
  show (decide ((0 : Int) ≤ (a : Int)) && decide ((a : Int) < n)) = _
  rw [decide_eq_true (by omega), Bool.true_and]
  exact decide_eq_decide.mpr (by omega)
def isTieD : D → Bool
  | .tuple xs => decide (1 ≤ xs.length) && decide (xs.length ≤ 6) && xs.all (below (2 ^ xs.length))
  | _ => false
theorem map_ed (xs : List D) : xs.map ed = xs := List.map_id xs
theorem tup_ed (xs : List D) : (.tuple xs : D) = ed (Tup.mk xs) := by show PyData.tuple xs = PyData.tuple (xs.map ed); rw [map_ed]
theorem is_tie_row (k : Nat) (xs : List D) (h6 : xs.length ≤ 6) (x : D) : WE gl (CF (k+1)) (.and (.call 0 (.cons (.var 1) .nil)) (.chain .le .lt (.cst (.int 0)) (.var 1) (.b .shl (.cst (.int 1)) (.u .len (.var 0))))) [.pl (ed (Tup.mk xs)), .pl (ed x)] (KEl inferInstance [1] [.pl (ed (Tup.mk xs)), .un] (below (2 ^ xs.length) x)) (fun _ _ => False) := by
  cases x with
  | int i =>
    show WE _ _ _ [_, .pl (ed i)] _ _
    repeat walk_at "w"
    refine KEl.mk ?_ rfl
    show some (ed (true && _)) = some (ed (decide ((0 : Int) ≤ i) && decide (i < ((2 ^ xs.length : Nat) : Int))))
    rw [Nat.shiftLeft_eq, Nat.one_mul]; rfl
  | _ => exact WE.run rfl ⟨rfl, rfl⟩
theorem is_tie_ok (k : Nat) (d : D) : Ret (CF (k+2)) F_is_tie [.pl d] (.pl (ed (isTieD d))) := by
  cases d with
  | tuple xs =>
    rw [tup_ed]
    refine Ret.of ?_
    walk_at "start"
    unfold b_is_tie
    repeat walk_at "w"
    · rename_i h
      have h : (decide (1 ≤ xs.length) && decide (xs.length ≤ 6)) = false := by simpa only [Bool.not_true, Bool.false_or, Bool.not_eq_true'] using h
      rw [← tup_ed]
      unfold isTieD
      simp only [h, Bool.false_and]
    · rename_i h
      have h : (decide (1 ≤ xs.length) && decide (xs.length ≤ 6)) = true := by simpa only [Bool.not_true, Bool.false_or, Bool.not_eq_false'] using h
      have h6 : xs.length ≤ 6 := by simp at h; exact h.2
      repeat walk_at "i"
      apply KComp.all (g := below (2 ^ xs.length))
      · rfl
      · walk_at "wipe"
      · intro a ha
        walk_at "w"
        exact is_tie_row k xs h6 a
      · repeat walk_at "w"
        rw [← tup_ed]
        unfold isTieD
        simp only [h, Bool.true_and]
  | _ => exact ⟨_, rfl, rfl⟩
local macro_rules | `(tactic| walk_at "call") => `(tactic| with_reducible exact is_tie_ok ..)
def isFrameD : D → Bool
  | .tuple [t, .tuple ms] => isTieD t && decide (ms.length = (match t with | .tuple rs => rs.length | _ => 0)) && ms.all (below 6)
  | _ => false
theorem isFrame_row (k : Nat) (a b c : RV) (x : D) : WE gl (CF (k+1)) (.and (.call 0 (.cons (.var 3) .nil)) (.chain .le .le (.cst (.int 0)) (.var 3) (.glb 1))) [a, b, c, .pl (ed x)] (KEl inferInstance [3] [a, b, c, .un] (below 6 x)) (fun _ _ => False) := by
  cases x with
  | int i =>
    show WE _ _ _ [_, _, _, .pl (ed i)] _ _
    repeat walk_at "w"
    refine KEl.mk ?_ rfl
    show some (ed (true && _)) = some (ed (decide ((0 : Int) ≤ i) && decide (i < 6)))
    rw [show decide (i < 6) = decide (i ≤ (5 : Int)) from decide_eq_decide.mpr (by omega)]; rfl
  | _ => exact WE.run rfl ⟨rfl, rfl⟩
theorem is_frame_ok (k : Nat) (d : D) : Ret (CF (k+3)) F_is_frame [.pl d] (.pl (ed (isFrameD d))) := by
  by_cases hd : ∃ a b, d = .tuple [a, b]
  · obtain ⟨a, b, rfl⟩ := hd
    show Ret _ _ [.pl (ed (a, b))] _
    refine Ret.of ?_
    walk_at "start"
    unfold b_is_frame
    repeat walk_at "w"
    · rename_i h
      have h : isTieD a = false ∨ isTupD b = false := by simpa [ed_D] using h
      have : isFrameD (.tuple [a, b]) = false := by
        unfold isFrameD
        split
        · next t ms e =>
          cases e
          rcases h with h | h
          · rw [h]; rfl
          · cases h
        · rfl
      rw [this]
    · rename_i h
      have h : isTieD a = true ∧ isTupD b = true := by simpa [ed_D] using h
      obtain ⟨ha, hb⟩ := h
      cases b with
      | tuple ms =>
        cases a with
        | tuple rs =>
          rw [tup_ed rs, tup_ed ms]
          show WSs _ _ _ [.pl (ed (Tup.mk rs, Tup.mk ms)), _, _, _] _ _
          repeat walk_at "i"
          apply KComp.all (g := below 6)
          · rfl
          · walk_at "wipe"
          · intro x hx
            walk_at "w"
            exact isFrame_row k _ _ _ x
          · repeat walk_at "w"
          repeat walk_at "w"
          rw [← tup_ed rs, ← tup_ed ms]
          unfold isFrameD
          simp only [ha, Bool.true_and]
        | _ => cases ha
      | _ => cases hb
  · have e : isFrameD d = false := by
      unfold isFrameD
      split
      · next t ms => exact (hd ⟨_, _, rfl⟩).elim
      · rfl
    rw [e]
    cases d with
    | tuple xs =>
      match xs, hd with
      | [], _ => exact ⟨_, rfl, rfl⟩
      | [a], _ => exact ⟨_, rfl, rfl⟩
      | [a, b], hd => exact (hd ⟨_, _, rfl⟩).elim
      | a :: b :: c :: r, _ =>
        refine Ret.of ?_
        walk_at "start"
        unfold b_is_frame
        rw [tup_ed]
        repeat walk_at "short"
        rfl
    | _ => exact ⟨_, rfl, rfl⟩
theorem is_frame_none (k : Nat) (d : D) (h : isFrameD d = false) : Ret (CF (k+3)) F_is_frame [.pl d] (.pl (ed false)) := h ▸ is_frame_ok k d
local macro_rules | `(tactic| walk_at "call") => `(tactic| with_reducible exact is_frame_ok ..)
theorem check_frame_ok (k : Nat) (d : D) (h : isFrameD d = true) : Ret (CF (k+4)) F_check_frame [.pl d] (.pl .none) := by
  refine Ret.of ?_
  walk_at "start"
  unfold b_check_frame
  repeat walk_at "short"
  rfl
theorem check_frame_no (k : Nat) (d : D) (h : isFrameD d = false) : Rai (CF (k+4)) F_check_frame [.pl d] ⟨0, none⟩ := by
  refine Rai.of ?_
  walk_at "start"
  unfold b_check_frame
  repeat walk_at "short"
  exact ⟨Nat.le_of_ble_eq_true rfl, rfl⟩
local macro_rules | `(tactic| walk_at "call") => `(tactic| ((with_reducible apply check_frame_ok); assumption))
theorem check_two_ok (k : Nat) (d e : D) (h : isFrameD d = true) (h2 : isFrameD e = true) : Ret (CF (k+5)) F_check_two [.pl d, .pl e] (.pl .none) := by
  refine Ret.of ?_
  walk_at "start"
  unfold b_check_two
  repeat walk_at "w"
  rfl
local macro_rules | `(tactic| walk_at "rai") => `(tactic| ((with_reducible apply check_frame_no); assumption))
theorem check_two_no (k : Nat) (d e : D) (h : isFrameD d = false ∨ isFrameD e = false) : Rai (CF (k+5)) F_check_two [.pl d, .pl e] ⟨0, none⟩ := by
  refine Rai.of ?_
  walk_at "start"
  unfold b_check_two
  cases hd : isFrameD d with
  | false =>
    repeat walk_at "w"
    exact ⟨Nat.le_of_ble_eq_true rfl, rfl⟩
  | true =>
    have h : isFrameD e = false := by rcases h with h | h; (rw [hd] at h; cases h); exact h
    repeat walk_at "w"
    exact ⟨Nat.le_of_ble_eq_true rfl, rfl⟩
local macro_rules | `(tactic| walk_at "call") => `(tactic| ((with_reducible apply check_two_ok) <;> assumption))
local macro_rules | `(tactic| walk_at "rai") => `(tactic| ((with_reducible apply check_two_no); assumption))
/-- a frame: its rows, its marks -/
abbrev frD (t m : List Nat) : D := ed (Tup.mk t, Tup.mk m)
structure FrOk (t m : List Nat) : Prop where
  n1 : 1 ≤ t.length
  n6 : t.length ≤ 6
  rows : ∀ r ∈ t, r < 2 ^ t.length
  ml : m.length = t.length
  m5 : ∀ x ∈ m, x ≤ 5
theorem isTie_ed {t : List Nat} (n1 : 1 ≤ t.length) (n6 : t.length ≤ 6) (rows : ∀ r ∈ t, r < 2 ^ t.length) : isTieD (ed (Tup.mk t)) = true := by
  show (decide (1 ≤ (t.map ed).length) && decide ((t.map ed).length ≤ 6) && (t.map ed).all (below (2 ^ (t.map ed).length))) = true
  rw [List.length_map, decide_eq_true n1, decide_eq_true n6, List.all_map]
  simp only [Bool.true_and]
  exact List.all_eq_true.mpr fun r hr => by
    show below _ (ed r) = true
    rw [below_nat]; exact decide_eq_true (rows r hr)
theorem FrOk.frame {t m : List Nat} (h : FrOk t m) : isFrameD (frD t m) = true := by
  show (isTieD (ed (Tup.mk t)) && decide ((m.map ed).length = (t.map ed).length) && (m.map ed).all (below 6)) = true
  rw [isTie_ed h.n1 h.n6 h.rows, List.length_map, List.length_map, decide_eq_true h.ml, List.all_map]
  simp only [Bool.true_and]
  exact List.all_eq_true.mpr fun r hr => by
    show below _ (ed r) = true
    rw [below_nat]; exact decide_eq_true (Nat.lt_succ_of_le (h.m5 r hr))
/-- the pairs hold what v and w are asked for -/
def answersB (t1 t2 : List Nat) (P : List (Nat × Nat)) (x y : Nat) : Bool := (bits (gt t1 x)).all fun v => (bits (gt t2 y)).any fun w => mem (v, w) P
def backB (t1 t2 : List Nat) (P : List (Nat × Nat)) (x y : Nat) : Bool := (bits (gt t2 y)).all fun w => (bits (gt t1 x)).any fun v => mem (v, w) P
def fitsB (t1 m1 t2 m2 : List Nat) (P : List (Nat × Nat)) (x y : Nat) (both : Bool) : Bool := decide (gt m1 x = gt m2 y) && answersB t1 t2 P x y && (!both || backB t1 t2 P x y)
theorem answers_ok (k : Nat) (t1 m1 t2 m2 : List Nat) (pd : D) (P : List (Nat × Nat)) (hp : itemsOf pd = some (P.map ed)) (x y : Nat) (hx : x < t1.length) (hy : y < t2.length) :
    Ret (CF (k+3)) F_answers [.pl (frD t1 m1), .pl (frD t2 m2), .pl pd, .pl (ed x), .pl (ed y)] (.pl (ed (answersB t1 t2 P x y))) := by
  refine Ret.of ?_
  walk_at "start"
  unfold b_answers
  repeat walk_at "w"
  rfl
theorem answers_back_ok (k : Nat) (t1 m1 t2 m2 : List Nat) (pd : D) (P : List (Nat × Nat)) (hp : itemsOf pd = some (P.map ed)) (x y : Nat) (hx : x < t1.length) (hy : y < t2.length) :
    Ret (CF (k+3)) F_answers_back [.pl (frD t1 m1), .pl (frD t2 m2), .pl pd, .pl (ed x), .pl (ed y)] (.pl (ed (backB t1 t2 P x y))) := by
  refine Ret.of ?_
  walk_at "start"
  unfold b_answers_back
  repeat walk_at "w"
  rfl
local macro_rules | `(tactic| walk_at "call") => `(tactic| ((with_reducible apply answers_ok); walk_at "items"; walk_at "side"; walk_at "side"))
local macro_rules | `(tactic| walk_at "call") => `(tactic| ((with_reducible apply answers_back_ok); walk_at "items"; walk_at "side"; walk_at "side"))
theorem fits_ok (k : Nat) (t1 m1 t2 m2 : List Nat) (h1 : FrOk t1 m1) (h2 : FrOk t2 m2) (pd : D) (P : List (Nat × Nat)) (hp : itemsOf pd = some (P.map ed)) (x y : Nat) (hx : x < t1.length) (hy : y < t2.length) (both : Bool) :
    Ret (CF (k+4)) F_fits [.pl (frD t1 m1), .pl (frD t2 m2), .pl pd, .pl (ed x), .pl (ed y), .pl (ed both)] (.pl (ed (fitsB t1 m1 t2 m2 P x y both))) := by
  have e1 : x < m1.length := by rw [h1.ml]; exact hx
  have e2 : y < m2.length := by rw [h2.ml]; exact hy
  refine Ret.of ?_
  walk_at "start"
  unfold b_fits
  repeat walk_at "w"
  · rename_i h
    have h : (decide (gt m1 x = gt m2 y) && answersB t1 t2 P x y) = false := by
      cases e : decide (gt m1 x = gt m2 y) <;> rw [e] at h <;> simp at h ⊢
      exact h
    unfold fitsB
    rw [h]; rfl
  · rename_i h
    have h : (decide (gt m1 x = gt m2 y) && answersB t1 t2 P x y) = true := by
      cases e : decide (gt m1 x = gt m2 y) <;> rw [e] at h <;> simp at h ⊢
      exact h
    repeat walk_at "w"
    unfold fitsB
    rw [h]; rfl

/-- all pairs of things -/
def allP (n1 n2 : Nat) : List (Nat × Nat) := (List.range n1).flatMap fun x => (List.range n2).map fun y => (x, y)
theorem allP_len (n1 n2 : Nat) : (allP n1 n2).length = n1 * n2 := by
  unfold allP
  rw [List.length_flatMap]
  simp only [List.length_map, List.length_range]
  rw [List.map_const', List.sum_replicate_nat, List.length_range]
theorem mem_allP {n1 n2 : Nat} {p : Nat × Nat} : p ∈ allP n1 n2 ↔ p.1 < n1 ∧ p.2 < n2 := by
  unfold allP
  simp only [List.mem_flatMap, List.mem_map, List.mem_range]
  constructor
  · rintro ⟨x, hx, y, hy, rfl⟩; exact ⟨hx, hy⟩
  · rintro ⟨h1, h2⟩; exact ⟨p.1, h1, p.2, h2, rfl⟩
/-- .. with one mark -/
def markP (m1 m2 : List Nat) (n1 n2 : Nat) : List (Nat × Nat) := (allP n1 n2).filter fun p => decide (gt m1 p.1 = gt m2 p.2)
theorem all_pairs_ok (k : Nat) (t1 m1 t2 m2 : List Nat) (h1 : FrOk t1 m1) (h2 : FrOk t2 m2) :
    Ret (CF (k+1)) F_all_pairs [.pl (frD t1 m1), .pl (frD t2 m2)] (.ow (ed (markP m1 m2 t1.length t2.length))) := by
  have e1 := h1.ml
  have e2 := h2.ml
  have n1 := h1.n6
  have n2 := h2.n6
  refine Ret.of ?_
  walk_at "start"
  unfold b_all_pairs
  repeat walk_at "i"
  · show (allP t1.length t2.length).length ≤ 16777216
    rw [allP_len]
    have := Nat.mul_le_mul n1 n2
    omega
  · show KSt _ _ (.ow (ed (allP t1.length t2.length))) _
    repeat walk_at "i"
    apply KComp.mk (p := fun p : Nat × Nat => decide (gt m1 p.1 = gt m2 p.2)) (g := fun p : Nat × Nat => p)
    · rfl
    · walk_at "wipe"
    · rintro ⟨x, y⟩ hp
      have hp := mem_allP.mp hp
      have e3 : x < t1.length := hp.1
      have e4 : y < t2.length := hp.2
      repeat walk_at "w"
    · rw [List.map_id']
      repeat walk_at "w"
      rfl
local macro_rules | `(tactic| walk_at "call") => `(tactic| ((with_reducible apply all_pairs_ok) <;> assumption))
/-- what stays when each pair is asked -/
def stepB (t1 m1 t2 m2 : List Nat) (both : Bool) (P : List (Nat × Nat)) : List (Nat × Nat) := P.filter fun p => fitsB t1 m1 t2 m2 P p.1 p.2 both
theorem step_len {t1 m1 t2 m2 : List Nat} {both : Bool} {P : List (Nat × Nat)} : (stepB t1 m1 t2 m2 both P).length ≤ P.length := List.length_filter_le _ _
/-- the layers from P on -/
def layB (f : List (Nat × Nat) → List (Nat × Nat)) : Nat → List (Nat × Nat) → List (List (Nat × Nat))
  | 0, P => [P]
  | n + 1, P => if (f P).length < P.length then P :: layB f n (f P) else [P]
theorem layB_more {f : List (Nat × Nat) → List (Nat × Nat)} : ∀ (n m : Nat) (P : List (Nat × Nat)), P.length ≤ n → P.length ≤ m → layB f n P = layB f m P
  | 0, 0, _, _, _ => rfl
  | 0, m + 1, P, h, _ => by
    unfold layB
    rw [if_neg (by omega)]
  | n + 1, 0, P, _, h => by
    unfold layB
    rw [if_neg (by omega)]
  | n + 1, m + 1, P, h1, h2 => by
    unfold layB
    split
    · rw [layB_more n m (f P) (by omega) (by omega)]
    · rfl
def layers (f : List (Nat × Nat) → List (Nat × Nat)) (P : List (Nat × Nat)) : List (List (Nat × Nat)) := layB f P.length P
theorem layers_lt {f : List (Nat × Nat) → List (Nat × Nat)} {P : List (Nat × Nat)} (h : (f P).length < P.length) : layers f P = P :: layers f (f P) := by
  unfold layers
  obtain ⟨n, e⟩ : ∃ n, P.length = n + 1 := ⟨P.length - 1, by omega⟩
  rw [e]
  show (if _ then _ else _) = _
  rw [if_pos h, layB_more n (f P).length (f P) (by omega) (Nat.le_refl _)]
theorem layers_ge {f : List (Nat × Nat) → List (Nat × Nat)} {P : List (Nat × Nat)} (h : ¬ (f P).length < P.length) : layers f P = [P] := by
  unfold layers
  cases e : P.length with
  | zero => rfl
  | succ n =>
    show (if _ then _ else _) = _
    rw [if_neg h]
theorem layers_pos {f : List (Nat × Nat) → List (Nat × Nat)} {P : List (Nat × Nat)} : 0 < (layers f P).length := by
  by_cases h : (f P).length < P.length
  · rw [layers_lt h]; simp
  · rw [layers_ge h]; simp
/-- a pair of things of the two -/
def InP (n1 n2 : Nat) (P : List (Nat × Nat)) : Prop := ∀ p ∈ P, p.1 < n1 ∧ p.2 < n2
theorem InP.step {t1 m1 t2 m2 : List Nat} {both : Bool} {n1 n2 : Nat} {P : List (Nat × Nat)} (h : InP n1 n2 P) : InP n1 n2 (stepB t1 m1 t2 m2 both P) := fun p hp => h p (List.mem_filter.mp hp).1
theorem InP.mark {m1 m2 : List Nat} {n1 n2 : Nat} : InP n1 n2 (markP m1 m2 n1 n2) := fun p hp => mem_allP.mp (List.mem_filter.mp hp).1
theorem markP_len {m1 m2 : List Nat} {n1 n2 : Nat} (h1 : n1 ≤ 6) (h2 : n2 ≤ 6) : (markP m1 m2 n1 n2).length ≤ 36 := by
  have := List.length_filter_le (fun p : Nat × Nat => decide (gt m1 p.1 = gt m2 p.2)) (allP n1 n2)
  rw [allP_len] at this
  have := Nat.mul_le_mul h1 h2
  unfold markP
  omega
local macro_rules | `(tactic| walk_at "call") => `(tactic| ((with_reducible apply fits_ok); assumption; assumption; walk_at "items"; walk_at "side"; walk_at "side"))
theorem layers_ok (k : Nat) (t1 m1 t2 m2 : List Nat) (h1 : FrOk t1 m1) (h2 : FrOk t2 m2) (both : Bool) :
    Ret (CF (k+5)) F_layers [.pl (frD t1 m1), .pl (frD t2 m2), .pl (ed both)] (.ow (ed (layers (stepB t1 m1 t2 m2 both) (markP m1 m2 t1.length t2.length)))) := by
  have inn : InP t1.length t2.length (markP m1 m2 t1.length t2.length) := .mark
  have len : (markP m1 m2 t1.length t2.length).length ≤ 36 := markP_len h1.n6 h2.n6
  generalize hP0 : markP m1 m2 t1.length t2.length = P0 at inn len
  refine Ret.of ?_
  walk_at "start"
  unfold b_layers
  repeat walk_at "i"
  rw [hP0]
  apply KComp.mk (p := fun p : Nat × Nat => fitsB t1 m1 t2 m2 P0 p.1 p.2 both) (g := fun p : Nat × Nat => p)
  · rfl
  · walk_at "wipe"
  · rintro ⟨x, y⟩ hp
    have e3 : x < t1.length := (inn _ hp).1
    have e4 : y < t2.length := (inn _ hp).2
    repeat walk_at "w"
  rw [List.map_id']
  show KSt _ _ (.ow (ed (stepB t1 m1 t2 m2 both P0))) _
  repeat walk_at "i"
  with_reducible refine WS.whil (fun n ρ => ∃ done P, ρ = [.pl (frD t1 m1), .pl (frD t2 m2), .pl (ed both), .ow (ed (done ++ [P])), .ow (ed (stepB t1 m1 t2 m2 both P)), .un, .un] ∧ InP t1.length t2.length P ∧ done.length + P.length ≤ 36 ∧
    done ++ layers (stepB t1 m1 t2 m2 both) P = layers (stepB t1 m1 t2 m2 both) P0 ∧ n = P.length) P0.length (by omega) ⟨[], P0, rfl, inn, by simpa using len, rfl, rfl⟩ ?_
  rintro n _ ⟨done, P, rfl, inn, hl, hs, rfl⟩
  repeat walk_at "i"
  · rename_i h
    have h : (stepB t1 m1 t2 m2 both P).length < P.length := by simpa using h
    have inn2 : InP t1.length t2.length (stepB t1 m1 t2 m2 both P) := inn.step
    have hd : (done ++ [P]).length < 16777216 := by simp; omega
    repeat walk_at "i"
    apply KComp.mk (p := fun p : Nat × Nat => fitsB t1 m1 t2 m2 (stepB t1 m1 t2 m2 both P) p.1 p.2 both) (g := fun p : Nat × Nat => p)
    · rfl
    · walk_at "wipe"
    · rintro ⟨x, y⟩ hp
      have e3 : x < t1.length := (inn2 _ hp).1
      have e4 : y < t2.length := (inn2 _ hp).2
      repeat walk_at "w"
    rw [List.map_id']
    repeat walk_at "w"
    refine ⟨_, h, done ++ [P], stepB t1 m1 t2 m2 both P, rfl, inn2, by simp; omega, ?_, rfl⟩
    rw [← hs, layers_lt h, List.append_assoc]; rfl
  · rename_i h
    have h : ¬ (stepB t1 m1 t2 m2 both P).length < P.length := by simpa using h
    repeat walk_at "i"
    rw [← hs, layers_ge h]

/-- the last of the layers -/
def lastL (L : List (List (Nat × Nat))) : List (Nat × Nat) := gt L (L.length - 1)
def great (t1 m1 t2 m2 : List Nat) (both : Bool) : List (Nat × Nat) := lastL (layers (stepB t1 m1 t2 m2 both) (markP m1 m2 t1.length t2.length))
theorem layers_last {f : List (Nat × Nat) → List (Nat × Nat)} {I : List (Nat × Nat) → Prop} (hf : ∀ P, I P → I (f P)) : ∀ (n : Nat) (P : List (Nat × Nat)), P.length ≤ n → I P → I (lastL (layers f P)) := by
  intro n
  induction n with
  | zero =>
    intro P hn h
    rw [layers_ge (by omega)]; exact h
  | succ n ih =>
    intro P hn h
    by_cases hl : (f P).length < P.length
    · rw [layers_lt hl]
      have := ih (f P) (by omega) (hf P h)
      unfold lastL at *
      have hp := layers_pos (f := f) (P := f P)
      rw [List.length_cons]
      unfold gt at *
      rw [show (layers f (f P)).length + 1 - 1 = ((layers f (f P)).length - 1) + 1 by omega, List.getD_cons_succ]
      exact this
    · rw [layers_ge hl]; exact h
local macro_rules | `(tactic| walk_at "call") => `(tactic| ((with_reducible apply layers_ok) <;> assumption))
theorem greatest_match_ok (k : Nat) (t1 m1 t2 m2 : List Nat) (h1 : FrOk t1 m1) (h2 : FrOk t2 m2) : Ret (CF (k+6)) F_greatest_match [.pl (frD t1 m1), .pl (frD t2 m2)] (.pl (ed (Tup.mk (great t1 m1 t2 m2 true)))) := by
  have f1 := h1.frame
  have f2 := h2.frame
  refine Ret.of ?_
  walk_at "start"
  unfold b_greatest_match
  have := layers_pos (f := stepB t1 m1 t2 m2 true) (P := markP m1 m2 t1.length t2.length)
  repeat walk_at "w"
  rfl
theorem greatest_copy_ok (k : Nat) (t1 m1 t2 m2 : List Nat) (h1 : FrOk t1 m1) (h2 : FrOk t2 m2) : Ret (CF (k+6)) F_greatest_copy [.pl (frD t1 m1), .pl (frD t2 m2)] (.pl (ed (Tup.mk (great t1 m1 t2 m2 false)))) := by
  have f1 := h1.frame
  have f2 := h2.frame
  refine Ret.of ?_
  walk_at "start"
  unfold b_greatest_copy
  have := layers_pos (f := stepB t1 m1 t2 m2 false) (P := markP m1 m2 t1.length t2.length)
  repeat walk_at "w"
  rfl
local macro_rules | `(tactic| walk_at "call") => `(tactic| ((with_reducible apply greatest_match_ok) <;> assumption))
local macro_rules | `(tactic| walk_at "call") => `(tactic| ((with_reducible apply greatest_copy_ok) <;> assumption))
/-- every thing of the two stands in a pair -/
def allM (n1 n2 : Nat) (P : List (Nat × Nat)) : Bool := ((List.range n1).all fun x => mem x (P.map Prod.fst)) && (List.range n2).all fun y => mem y (P.map Prod.snd)
theorem all_matched_ok (k : Nat) (t1 m1 t2 m2 : List Nat) (h1 : FrOk t1 m1) (h2 : FrOk t2 m2) : Ret (CF (k+7)) F_all_matched [.pl (frD t1 m1), .pl (frD t2 m2)] (.pl (ed (allM t1.length t2.length (great t1 m1 t2 m2 true)))) := by
  have n1 := h1.n6
  have n2 := h2.n6
  refine Ret.of ?_
  walk_at "start"
  unfold b_all_matched
  repeat walk_at "w"
  rfl
theorem greatest_match_no (k : Nat) (d e : D) (h : isFrameD d = false ∨ isFrameD e = false) : Rai (CF (k+6)) F_greatest_match [.pl d, .pl e] ⟨0, none⟩ := by
  refine Rai.of ?_
  walk_at "start"
  unfold b_greatest_match
  repeat walk_at "w"
  exact ⟨Nat.le_of_ble_eq_true rfl, rfl⟩
theorem greatest_copy_no (k : Nat) (d e : D) (h : isFrameD d = false ∨ isFrameD e = false) : Rai (CF (k+6)) F_greatest_copy [.pl d, .pl e] ⟨0, none⟩ := by
  refine Rai.of ?_
  walk_at "start"
  unfold b_greatest_copy
  repeat walk_at "w"
  exact ⟨Nat.le_of_ble_eq_true rfl, rfl⟩
theorem takes_match_no (k : Nat) (d e v : D) (h : isFrameD d = false ∨ isFrameD e = false) : Rai (CF (k+6)) F_takes_match [.pl d, .pl e, .pl v] ⟨0, none⟩ := by
  refine Rai.of ?_
  walk_at "start"
  unfold b_takes_match
  repeat walk_at "w"
  exact ⟨Nat.le_of_ble_eq_true rfl, rfl⟩
theorem takes_copy_no (k : Nat) (d e v : D) (h : isFrameD d = false ∨ isFrameD e = false) : Rai (CF (k+6)) F_takes_copy [.pl d, .pl e, .pl v] ⟨0, none⟩ := by
  refine Rai.of ?_
  walk_at "start"
  unfold b_takes_copy
  repeat walk_at "w"
  exact ⟨Nat.le_of_ble_eq_true rfl, rfl⟩
local macro_rules | `(tactic| walk_at "rai") => `(tactic| first | ((with_reducible apply greatest_match_no); assumption) | ((with_reducible apply greatest_copy_no); assumption) | ((with_reducible apply takes_match_no); assumption) | ((with_reducible apply takes_copy_no); assumption) | ((with_reducible apply check_two_no); assumption) | ((with_reducible apply check_frame_no); assumption))
theorem all_matched_no (k : Nat) (d e : D) (h : isFrameD d = false ∨ isFrameD e = false) : Rai (CF (k+7)) F_all_matched [.pl d, .pl e] ⟨0, none⟩ := by
  refine Rai.of ?_
  walk_at "start"
  unfold b_all_matched
  repeat walk_at "w"
  exact ⟨Nat.le_of_ble_eq_true rfl, rfl⟩

/-- a tuple of two -/
def isPairD : D → Bool
  | .tuple [_, _] => true
  | _ => false
/-- the pairs that a datum holds, where it is a tuple of pairs of things -/
def pairD (n1 n2 : Nat) : D → Option (Nat × Nat)
  | .tuple [.int x, .int y] => if 0 ≤ x ∧ x < n1 ∧ 0 ≤ y ∧ y < n2 then some (x.toNat, y.toNat) else none
  | _ => none
def allD (n1 n2 : Nat) : List D → Option (List (Nat × Nat))
  | [] => some []
  | d :: r => (pairD n1 n2 d).bind fun p => (allD n1 n2 r).map (p :: ·)
def pairsD (n1 n2 : Nat) : D → Option (List (Nat × Nat))
  | .tuple xs => allD n1 n2 xs
  | _ => none
theorem below_iff {n : Nat} {d : D} : below n d = true ↔ ∃ x : Nat, d = ed x ∧ x < n := by
  constructor
  · intro h
    cases d with
    | int i =>
      simp only [below, Bool.and_eq_true, decide_eq_true_eq] at h
      exact ⟨i.toNat, by show PyData.int i = .int ((i.toNat : Nat) : Int); rw [Int.toNat_of_nonneg h.1], by omega⟩
    | _ => cases h
  · rintro ⟨x, rfl, h⟩
    rw [below_nat]; exact decide_eq_true h
theorem pairD_iff {n1 n2 : Nat} {d : D} {p : Nat × Nat} : pairD n1 n2 d = some p ↔ d = ed p ∧ p.1 < n1 ∧ p.2 < n2 := by
  constructor
  · intro h
    unfold pairD at h
    split at h
    · next x y =>
      split at h
      · next hc =>
        cases h
        refine ⟨?_, by show x.toNat < n1; omega, by show y.toNat < n2; omega⟩
        show PyData.tuple [.int x, .int y] = .tuple [.int ((x.toNat : Nat) : Int), .int ((y.toNat : Nat) : Int)]
        rw [Int.toNat_of_nonneg hc.1, Int.toNat_of_nonneg hc.2.2.1]
      · cases h
    · cases h
  · rintro ⟨rfl, h1, h2⟩
    show (if (0 : Int) ≤ (p.1 : Int) ∧ (p.1 : Int) < n1 ∧ (0 : Int) ≤ (p.2 : Int) ∧ (p.2 : Int) < n2 then some ((p.1 : Int).toNat, (p.2 : Int).toNat) else none) = some p
    rw [if_pos (by omega)]; rfl
theorem allD_iff {n1 n2 : Nat} : ∀ {xs : List D} {P : List (Nat × Nat)}, allD n1 n2 xs = some P ↔ xs = P.map ed ∧ InP n1 n2 P
  | [], P => by
    constructor
    · intro h; cases h; exact ⟨rfl, fun _ h => nomatch h⟩
    · rintro ⟨h, _⟩
      cases P with
      | nil => rfl
      | cons p P => cases h
  | d :: r, P => by
    constructor
    · intro h
      unfold allD at h
      cases e : pairD n1 n2 d with
      | none => rw [e] at h; cases h
      | some p =>
        rw [e, Option.bind_some] at h
        cases e2 : allD n1 n2 r with
        | none => rw [e2] at h; cases h
        | some P2 =>
          rw [e2] at h; cases h
          obtain ⟨rfl, h1, h2⟩ := pairD_iff.mp e
          obtain ⟨rfl, h3⟩ := allD_iff.mp e2
          refine ⟨rfl, fun q hq => ?_⟩
          rcases List.mem_cons.mp hq with rfl | hq
          · exact ⟨h1, h2⟩
          · exact h3 q hq
    · rintro ⟨h, hi⟩
      cases P with
      | nil => cases h
      | cons p P =>
        rw [List.map_cons] at h
        injection h with h1 h2
        unfold allD
        rw [pairD_iff.mpr ⟨h1, hi p List.mem_cons_self⟩, Option.bind_some, allD_iff.mpr ⟨h2, fun q hq => hi q (List.mem_cons_of_mem _ hq)⟩]; rfl
theorem pairsD_ed {n1 n2 : Nat} {P : List (Nat × Nat)} (h : InP n1 n2 P) : pairsD n1 n2 (ed (Tup.mk P)) = some P := allD_iff.mpr ⟨rfl, h⟩
/-- each less than the next one -/
def ltP (p q : Nat × Nat) : Bool := decide (p.1 < q.1 ∨ p.1 = q.1 ∧ p.2 < q.2)
def incP (P : List (Nat × Nat)) : Bool := (P.zip (P.drop 1)).all fun z => ltP z.1 z.2
/-- tuples of two, all -/
theorem pairs_of {xs : List D} (h : xs.all isPairD = true) : ∃ L : List (D × D), xs = L.map ed := by
  induction xs with
  | nil => exact ⟨[], rfl⟩
  | cons x xs ih =>
    rw [List.all_cons, Bool.and_eq_true] at h
    obtain ⟨L, rfl⟩ := ih h.2
    have hx : ∃ a b, x = .tuple [a, b] := by
      have h := h.1
      unfold isPairD at h
      split at h
      · exact ⟨_, _, rfl⟩
      · cases h
    obtain ⟨a, b, rfl⟩ := hx
    exact ⟨(a, b) :: L, rfl⟩
theorem things_of {n1 n2 : Nat} {L : List (D × D)} (h : (L.all fun p => below n1 p.1 && below n2 p.2) = true) : ∃ P : List (Nat × Nat), (L.map ed : List D) = P.map ed ∧ InP n1 n2 P := by
  induction L with
  | nil => exact ⟨[], rfl, fun _ h => nomatch h⟩
  | cons x L ih =>
    rw [List.all_cons, Bool.and_eq_true, Bool.and_eq_true] at h
    obtain ⟨P, e, hP⟩ := ih h.2
    obtain ⟨a, ha, ha2⟩ := below_iff.mp h.1.1
    obtain ⟨b, hb, hb2⟩ := below_iff.mp h.1.2
    refine ⟨(a, b) :: P, ?_, fun q hq => ?_⟩
    · rw [List.map_cons, List.map_cons, e]
      congr 1
      show PyData.tuple [x.1, x.2] = .tuple [ed a, ed b]
      rw [ha, hb]
    · rcases List.mem_cons.mp hq with rfl | hq
      · exact ⟨ha2, hb2⟩
      · exact hP q hq
theorem no_pairs1 {n1 n2 : Nat} {xs : List D} (h : xs.all isPairD = false) : pairsD n1 n2 (.tuple xs) = none := by
  cases e : pairsD n1 n2 (.tuple xs) with
  | none => rfl
  | some P =>
    obtain ⟨rfl, _⟩ := allD_iff.mp e
    have : (P.map ed).all isPairD = true := by rw [List.all_map]; exact List.all_eq_true.mpr fun p _ => rfl
    rw [this] at h; cases h
theorem no_pairs2 {n1 n2 : Nat} {L : List (D × D)} (h : (L.all fun p => below n1 p.1 && below n2 p.2) = false) : pairsD n1 n2 (ed (Tup.mk L)) = none := by
  cases e : pairsD n1 n2 (ed (Tup.mk L)) with
  | none => rfl
  | some P =>
    obtain ⟨e2, hi⟩ := allD_iff.mp e
    have : (L.all fun p => below n1 p.1 && below n2 p.2) = true := List.all_eq_true.mpr fun p hp => by
      have hm : (ed p : D) ∈ P.map ed := e2 ▸ List.mem_map_of_mem hp
      obtain ⟨q, hq, e3⟩ := List.mem_map.mp hm
      have e3 : PyData.tuple [ed q.1, ed q.2] = .tuple [p.1, p.2] := e3
      injection e3 with e3
      injection e3 with e4 e3
      injection e3 with e5 _
      rw [← e4, ← e5, below_nat, below_nat, decide_eq_true (hi q hq).1, decide_eq_true (hi q hq).2]; rfl
    rw [this] at h; cases h
theorem is_pair_elt (k : Nat) (i : Nat) (ρ ρ' : En) (x : D) (h : ρ[i]? = some (.pl (ed x))) (hw : wipeE ρ [i] = ρ') :
    WE gl (CF k) (.and (.u .isTuple (.var i)) (.b .eq (.u .len (.var i)) (.cst (.int 2)))) ρ (KEl inferInstance [i] ρ' (isPairD x)) (fun _ _ => False) := by
  have nt : isTupD x = false → WE gl (CF k) (.and (.u .isTuple (.var i)) (.b .eq (.u .len (.var i)) (.cst (.int 2)))) ρ (KEl inferInstance [i] ρ' false) (fun _ _ => False) := fun hx => by
    walk_at "w"
    walk_at "w"
    apply WE.var; exact h
    with_reducible apply K1.mk
    · rfl
    · exact q_isTup _
    with_reducible apply KAnd.no
    · rfl
    · exact hx
    exact KEl.mk rfl hw
  cases x with
  | tuple xs =>
    walk_at "w"
    walk_at "w"
    apply WE.var; exact h
    with_reducible apply K1.mk
    · rfl
    · exact q_isTup _
    with_reducible apply KAnd.join (d := decide (xs.length = 2))
    · rfl
    · intro _
      walk_at "w"
      walk_at "w"
      apply WE.var; exact h
      with_reducible apply K1.mk
      · rfl
      · exact (show p1 .len (.tuple xs) = some (.pl (ed xs.length)) from rfl)
      repeat walk_at "w"
    refine KEl.mk ?_ hw
    show some (ed (true && decide (xs.length = 2))) = some (ed (isPairD (.tuple xs)))
    match xs with
    | [] => rfl
    | [_] => rfl
    | [_, _] => rfl
    | _ :: _ :: _ :: _ => simp [isPairD]
  | _ => exact nt rfl
def areB (n1 n2 : Nat) (d : D) : Bool := match pairsD n1 n2 d with | some P => incP P | none => false
theorem are_pairs_ok (k : Nat) (t1 m1 t2 m2 : List Nat) (d : D) : Ret (CF (k+3)) F_are_pairs [.pl (frD t1 m1), .pl (frD t2 m2), .pl d] (.pl (ed (areB t1.length t2.length d))) := by
  unfold areB
  cases d with
  | tuple xs =>
    cases hx : xs.all isPairD with
    | false =>
      rw [no_pairs1 hx, tup_ed]
      refine Ret.of ?_
      walk_at "start"
      unfold b_are_pairs
      repeat walk_at "i"
      apply KComp.all (g := isPairD)
      · rfl
      · walk_at "wipe"
      · intro x _
        walk_at "w"
        exact is_pair_elt _ 5 _ _ x rfl rfl
      have hx : (Tup.mk xs).l.all isPairD = false := hx
      repeat walk_at "short"
      rfl
    | true =>
      obtain ⟨L, rfl⟩ := pairs_of hx
      cases hL : L.all fun p => below t1.length p.1 && below t2.length p.2 with
      | false =>
        show Ret _ _ [_, _, .pl (ed (Tup.mk L))] (.pl (ed (match pairsD t1.length t2.length (ed (Tup.mk L)) with | some P => incP P | none => false)))
        rw [no_pairs2 hL]
        refine Ret.of ?_
        walk_at "start"
        unfold b_are_pairs
        repeat walk_at "short"
        · rfl
        · rename_i h
          have h : (!(L.all fun p => below t1.length p.1 && below t2.length p.2)) = false := h
          rw [hL] at h; cases h
      | true =>
        obtain ⟨P, e, hP⟩ := things_of hL
        rw [e]
        show Ret _ _ [_, _, .pl (ed (Tup.mk P))] (.pl (ed (match pairsD t1.length t2.length (ed (Tup.mk P)) with | some P => incP P | none => false)))
        rw [pairsD_ed hP]
        have c1 : (P.all fun a => below t1.length (ed a.1) && below t2.length (ed a.2)) = true := List.all_eq_true.mpr fun a ha => by
          rw [below_nat, below_nat, decide_eq_true (hP a ha).1, decide_eq_true (hP a ha).2]; rfl
        refine Ret.of ?_
        walk_at "start"
        unfold b_are_pairs
        repeat walk_at "short"
        rfl
  | _ => exact ⟨_, rfl, rfl⟩
local macro_rules | `(tactic| walk_at "call") => `(tactic| with_reducible exact are_pairs_ok ..)
/-- what a judge of matches and copies says -/
def takesB (t1 m1 t2 m2 : List Nat) (both : Bool) (d : D) : Bool := match pairsD t1.length t2.length d with
  | some P => incP P && P.all fun p => fitsB t1 m1 t2 m2 P p.1 p.2 both
  | none => false
theorem takes_match_ok (k : Nat) (t1 m1 t2 m2 : List Nat) (h1 : FrOk t1 m1) (h2 : FrOk t2 m2) (d : D) : Ret (CF (k+6)) F_takes_match [.pl (frD t1 m1), .pl (frD t2 m2), .pl d] (.pl (ed (takesB t1 m1 t2 m2 true d))) := by
  have f1 := h1.frame
  have f2 := h2.frame
  unfold takesB
  cases e : pairsD t1.length t2.length d with
  | none =>
    refine Ret.of ?_
    walk_at "start"
    unfold b_takes_match
    have hA : areB t1.length t2.length d = false := by unfold areB; rw [e]
    repeat walk_at "short"
    rfl
  | some P =>
    cases d with
    | tuple xs =>
      obtain ⟨rfl, inn⟩ := allD_iff.mp e
      show Ret _ _ [_, _, .pl (ed (Tup.mk P))] _
      refine Ret.of ?_
      walk_at "start"
      unfold b_takes_match
      repeat walk_at "i"
      apply KComp.all (g := fun p : Nat × Nat => fitsB t1 m1 t2 m2 P p.1 p.2 true)
      · rfl
      · walk_at "wipe"
      · rintro ⟨x, y⟩ hp
        have e3 : x < t1.length := (inn _ hp).1
        have e4 : y < t2.length := (inn _ hp).2
        repeat walk_at "w"
      repeat walk_at "w"
      have e : pairsD t1.length t2.length (ed (Tup.mk P)) = some P := e
      unfold areB
      rw [e]
    | _ => cases e
theorem takes_copy_ok (k : Nat) (t1 m1 t2 m2 : List Nat) (h1 : FrOk t1 m1) (h2 : FrOk t2 m2) (d : D) : Ret (CF (k+6)) F_takes_copy [.pl (frD t1 m1), .pl (frD t2 m2), .pl d] (.pl (ed (takesB t1 m1 t2 m2 false d))) := by
  have f1 := h1.frame
  have f2 := h2.frame
  unfold takesB
  cases e : pairsD t1.length t2.length d with
  | none =>
    refine Ret.of ?_
    walk_at "start"
    unfold b_takes_copy
    have hA : areB t1.length t2.length d = false := by unfold areB; rw [e]
    repeat walk_at "short"
    rfl
  | some P =>
    cases d with
    | tuple xs =>
      obtain ⟨rfl, inn⟩ := allD_iff.mp e
      show Ret _ _ [_, _, .pl (ed (Tup.mk P))] _
      refine Ret.of ?_
      walk_at "start"
      unfold b_takes_copy
      repeat walk_at "i"
      apply KComp.all (g := fun p : Nat × Nat => fitsB t1 m1 t2 m2 P p.1 p.2 false)
      · rfl
      · walk_at "wipe"
      · rintro ⟨x, y⟩ hp
        have e3 : x < t1.length := (inn _ hp).1
        have e4 : y < t2.length := (inn _ hp).2
        repeat walk_at "w"
      repeat walk_at "w"
      have e : pairsD t1.length t2.length (ed (Tup.mk P)) = some P := e
      unfold areB
      rw [e]
    | _ => cases e
local macro_rules | `(tactic| walk_at "call") => `(tactic| ((with_reducible apply takes_match_ok) <;> assumption))
local macro_rules | `(tactic| walk_at "call") => `(tactic| ((with_reducible apply takes_copy_ok) <;> assumption))

/-! the drawing of numbers -/
theorem dr_item (s : List Nat) (i : Int) (c e : Nat) : (p2 .item (drD s i c e) (ed (0 : Nat)) = some (.pl (ed s)) ∧ p2 .item (drD s i c e) (ed (1 : Nat)) = some (.pl (ed i))) ∧ p2 .item (drD s i c e) (ed (2 : Nat)) = some (.pl (ed c)) ∧ p2 .item (drD s i c e) (ed (3 : Nat)) = some (.pl (ed e)) := ⟨⟨rfl, rfl⟩, rfl, rfl⟩
theorem dr_at (s : List Nat) (i : Int) (h0 : 0 ≤ i) (h : i < (s.length : Int)) : p2 .item (ed s) (ed i) = some (.pl (ed (gt s i.toNat))) := by
  have := q_itemL s i.toNat (by omega)
  rwa [show (ed i.toNat : D) = ed i from by show PyData.int ((i.toNat : Nat) : Int) = .int i; rw [Int.toNat_of_nonneg h0]] at this
section
variable {gl' : Nat → Option D} {cf' : CallF} {ρ : En} {Q : En → Prop} {s : List Nat} {i : Int} {c e : Nat} {ρ' : En}
theorem dr_set1 (j : Int) (h1 : ρ[0]? = some (.io (drD s i c e))) (h3 : ρ.set 0 (.io (drD s j c e)) = ρ') (q : Q ρ') : KL 0 (setAt (ed (1 : Nat)) (ed j)) Q ρ := KL.io (xs := [ed s, ed i, ed c, ed e]) (ys := [ed s, ed j, ed c, ed e]) h1 rfl h3 q
theorem dr_set2 (j : Nat) (h1 : ρ[0]? = some (.io (drD s i c e))) (h3 : ρ.set 0 (.io (drD s i j e)) = ρ') (q : Q ρ') : KL 0 (setAt (ed (2 : Nat)) (ed j)) Q ρ := KL.io (xs := [ed s, ed i, ed c, ed e]) (ys := [ed s, ed i, ed j, ed e]) h1 rfl h3 q
theorem dr_set3 (j : Nat) (h1 : ρ[0]? = some (.io (drD s i c e))) (h3 : ρ.set 0 (.io (drD s i c j)) = ρ') (q : Q ρ') : KL 0 (setAt (ed (3 : Nat)) (ed j)) Q ρ := KL.io (xs := [ed s, ed i, ed c, ed e]) (ys := [ed s, ed i, ed c, ed j]) h1 rfl h3 q
end
local macro_rules | `(tactic| walk_at "p2") => `(tactic| first | with_reducible exact (dr_item ..).1.1 | with_reducible exact (dr_item ..).1.2 | with_reducible exact (dr_item ..).2.1 | with_reducible exact (dr_item ..).2.2 | ((with_reducible apply dr_at); omega; (simp only [decide_eq_true_eq] at *; omega)))
local macro_rules | `(tactic| walk_at "k") => `(tactic| first | ((with_reducible apply dr_set1); rfl; walk_at "set") | ((with_reducible apply dr_set2); rfl; walk_at "set") | ((with_reducible apply dr_set3); rfl; walk_at "set"))
/-- a number from 0 below many -/
theorem take_ok (k many : Nat) (hm : 0 < many) (hm2 : many < 1073741824) : Draws inferInstance .pl (CF (k+1)) F_law_take [.pl (ed many)] (fun a : Nat => a < many) := by
  refine Draws.of fun d hd => ?_
  obtain ⟨s, i, c, e, hi, rfl⟩ := hd
  walk_at "start"
  unfold b_law_take
  repeat (first | walk_at "w" | exact ⟨_, _, Nat.mod_lt _ hm, ⟨_, _, _, _, by omega, rfl⟩, rfl, rfl⟩)
local macro_rules | `(tactic| walk_at "draw") => `(tactic| ((with_reducible apply take_ok); walk_at "side"; walk_at "side"))
def seedF (seed : Nat) (cell : Int) : Nat := (seed * 48271 + cell.natAbs % 65521 + 1) % 2147483647
theorem draw_ok (k : Nat) (ns : List Int) (h : ns.length ≤ 63) : Ret (CF (k+1)) F_law_draw [.pl (ed ns)] (.ow (drD (ns.map Int.natAbs) (-1) 0 (ns.foldl seedF 7))) := by
  refine Ret.of ?_
  walk_at "start"
  unfold b_law_draw
  repeat walk_at "w"
  with_reducible refine KFor.mk (fun done left ρ => ∃ q, ρ = [.pl (ed ns), .pl (ed (done.foldl seedF 7)), q] ∧ Fr q) ?_ ?_ ?_
  · exact ⟨_, rfl, .inl rfl⟩
  · rintro done a left _ e ⟨q, rfl, rfl | ⟨v, rfl⟩⟩ <;> repeat walk_at "w"
    · exact ⟨_, by rw [List.foldl_append]; rfl, .pl _⟩
    · exact ⟨_, by rw [List.foldl_append]; rfl, .pl _⟩
  · rintro _ ⟨q, rfl, rfl | ⟨v, rfl⟩⟩ <;> repeat walk_at "w"
    · rfl
    · rfl
theorem says_ok (k : Nat) (a b : Bool) : Ret (CF (k+1)) F_law_says [.pl (ed a), .pl (ed b)] (.pl (ed (decide (a = b)))) := by
  refine Ret.of ?_
  walk_at "start"
  unfold b_law_says
  repeat walk_at "w"
  simp
local macro_rules | `(tactic| walk_at "call") => `(tactic| with_reducible exact says_ok ..)
theorem perm_erase : ∀ {L : List Nat} {v : Nat} (hv : v < L.length), (L[v] :: L.eraseIdx v).Perm L
  | _ :: _, 0, _ => .refl _
  | x :: L, v + 1, hv => by
    have hv' : v < L.length := Nat.lt_of_succ_lt_succ hv
    show (L[v] :: x :: L.eraseIdx v).Perm (x :: L)
    exact (List.Perm.swap _ _ _).trans ((perm_erase (L := L) (v := v) hv').cons x)
theorem perm_pop {L : List Nat} {v : Nat} (hv : v < L.length) (O : List Nat) : (L.eraseIdx v ++ (O ++ [gt L v])).Perm (L ++ O) := by
  rw [gt_eq hv]
  refine List.Perm.trans ?_ ((perm_erase hv).append_right O)
  rw [← List.append_assoc]
  exact List.perm_append_singleton _ _
theorem order_ok (k many : Nat) (h : many ≤ 6) : Draws inferInstance .ow (CF (k+2)) F_law_order [.pl (ed many)] (fun L : List Nat => L.length = many ∧ L.Nodup ∧ ∀ x ∈ L, x < many) := by
  refine Draws.of fun d hd => ?_
  walk_at "start"
  unfold b_law_order
  repeat walk_at "w"
  with_reducible refine WS.whil (fun n ρ => ∃ d L O, ρ = [.io d, .pl (ed many), .ow (ed L), .ow (ed O)] ∧ Dr d ∧ n = L.length ∧ L.length + O.length = many ∧ (L ++ O).Nodup ∧ ∀ x ∈ L ++ O, x < many) many (by omega) ⟨d, List.range many, ([] : List Nat), rfl, hd, by simp, by simp, by simpa using List.nodup_range, by simp⟩ ?_
  rintro n _ ⟨d, L, O, rfl, hd, rfl, hl, hn, hm⟩
  repeat walk_at "w"
  · rename_i h0
    have h0 : 0 < L.length := by
      cases L with
      | nil => simp at h0
      | cons => simp
    repeat walk_at "w"
    rename_i v d2 hv hd2
    repeat walk_at "w"
    refine ⟨L.length - 1, by omega, _, L.eraseIdx v, O ++ [gt L v], rfl, hd2, ?_, ?_, ?_, ?_⟩
    · rw [List.length_eraseIdx_of_lt hv]
    · rw [List.length_eraseIdx_of_lt hv, List.length_append]; simp; omega
    · exact (perm_pop hv O).nodup_iff.mpr hn
    · exact fun x hx => hm x ((perm_pop hv O).mem_iff.mp hx)
  · rename_i h0
    have h0 : L = [] := by
      cases L with
      | nil => rfl
      | cons => simp at h0
    subst h0
    repeat walk_at "w"
    exact ⟨_, _, ⟨by simpa using hl, by simpa using hn, by simpa using hm⟩, hd, rfl, rfl⟩
local macro_rules | `(tactic| walk_at "draw") => `(tactic| ((with_reducible apply order_ok); walk_at "side"))

/-- a square of truths -/
def Sq (n : Nat) (R : List (List Bool)) : Prop := R.length = n ∧ ∀ r ∈ R, r.length = n
theorem mem_of_split {n : Nat} {done left : List Nat} {a : Nat} (e : List.range n = done ++ a :: left) : a < n := List.mem_range.mp (by rw [e]; simp)
theorem len_of_split {n : Nat} {done left : List Nat} {a : Nat} (e : List.range n = done ++ a :: left) : done.length < n := by
  have := congrArg List.length e
  simp at this; omega
theorem styled_ok (k style many : Nat) (h : many ≤ 6) (h1 : 1 ≤ many) : Draws inferInstance .ow2 (CF (k+3)) F_law_styled [.pl (ed style), .pl (ed many)] (Sq many) := by
  refine Draws.of fun d hd => ?_
  walk_at "start"
  unfold b_law_styled
  repeat walk_at "i"
  apply KComp.draw (d := d) (fun _ : Nat => True)
  · rfl
  · walk_at "wipe"
  · exact hd
  · intro _; simp only [restE, List.set_cons_zero, List.set_cons_succ, List.getD_cons_succ, List.getD_cons_zero]; rfl
  · intro a ha d' hd'
    repeat walk_at "w"
    exact ⟨_, _, rfl, trivial, by assumption, rfl⟩
  intro level d1 hl _ hd1
  have hl : level.length = many := by simpa using hl
  repeat walk_at "i"
  rename_i order d2 ho hd2 thick d3 ht hd3
  obtain ⟨ho, -, -⟩ := ho
  with_reducible refine KFor.mk (fun (done left : List Nat) ρ => ∃ (d : D) (R : List (List Bool)) (q7 q8 q9 q10 : RV), ρ = [.io d, .pl (ed style), .pl (ed many), .ow (ed level), .ow (ed order), .pl (ed (1 + thick)), o2 R, q7, q8, q9, q10] ∧ Dr d ∧ R.length = done.length ∧ (∀ r ∈ R, r.length = many) ∧ q7.free = true ∧ q8.free = true ∧ q9.free = true ∧ q10.free = true) ?_ ?_ ?_
  · exact ⟨_, ([] : List (List Bool)), _, _, _, _, rfl, hd3, rfl, (fun _ h => nomatch h), rfl, rfl, rfl, rfl⟩
  · rintro done x left _ e ⟨d, R, q7, q8, q9, q10, rfl, hd, hR, hr, f7, f8, f9, f10⟩
    have hx := mem_of_split e
    have hdl := len_of_split e
    repeat walk_at "i"
    with_reducible refine KFor.mk (fun (done left : List Nat) ρ => ∃ (d : D) (row : List Bool) (q9 q10 : RV), ρ = [.io d, .pl (ed style), .pl (ed many), .ow (ed level), .ow (ed order), .pl (ed (1 + thick)), o2 R, .pl (ed x), .ow (ed row), q9, q10] ∧ Dr d ∧ (row : List Bool).length = done.length ∧ q9.free = true ∧ q10.free = true) ?_ ?_ ?_
    · exact ⟨_, ([] : List Bool), _, _, rfl, hd, rfl, f9, f10⟩
    · rintro done2 y left2 _ e2 ⟨d, row, q9, q10, rfl, hd, hrow, f9, f10⟩
      have hy := mem_of_split e2
      have hdl2 := len_of_split e2
      repeat walk_at "k"
      with_reducible refine KIf.mk (fun hs => ?_) (fun _ => ?_)
      · have hs : 1 ≤ style ∧ style ≤ 3 := by
          unfold mem at hs
          simp at hs; omega
        obtain ⟨hs1, hs2⟩ := hs
        repeat walk_at "w"
        exact ⟨_, _, _, _, rfl, by assumption, by simp; omega, rfl, rfl⟩
      · repeat (first | walk_at "w" | exact ⟨_, _, _, _, rfl, by assumption, by simp; omega, rfl, rfl⟩)
    · rintro _ ⟨d, row, q9, q10, rfl, hd, hrow, f9, f10⟩
      have hrow : row.length = many := by simpa using hrow
      repeat walk_at "w"
      refine ⟨_, R ++ [row], _, _, _, _, rfl, hd, by simp; omega, ?_, rfl, rfl, f9, f10⟩
      intro r hr2
      rcases List.mem_append.mp hr2 with hr2 | hr2
      · exact hr r hr2
      · rw [List.mem_singleton.mp hr2]; exact hrow
  · rintro _ ⟨d, R, q7, q8, q9, q10, rfl, hd, hR, hr, f7, f8, f9, f10⟩
    have hR : R.length = many := by simpa using hR
    rw [o2_ne (R := R) (by rintro rfl; simp at hR; omega)]
    repeat walk_at "w"
    exact ⟨_, _, ⟨hR, hr⟩, hd, rfl, rfl⟩
local macro_rules | `(tactic| walk_at "draw") => `(tactic| ((with_reducible apply styled_ok); walk_at "side"; walk_at "side"))
theorem Sq.set {n : Nat} {R : List (List Bool)} (h : Sq n R) (k l : Nat) (b : Bool) (hk : k < n) : Sq n (set2 R k l b) := by
  obtain ⟨h1, h2⟩ := h
  refine ⟨by unfold set2; rw [List.length_set, h1], fun r hr => ?_⟩
  unfold set2 at hr
  rcases List.mem_or_eq_of_mem_set hr with hr | rfl
  · exact h2 r hr
  · rw [List.length_set, gt_eq (by omega)]
    exact h2 _ (List.getElem_mem _)
theorem Sq.row {n : Nat} {R : List (List Bool)} (h : Sq n R) {k : Nat} (hk : k < n) : (gt R k).length = n := h.2 _ (gt_mem (by rw [h.1]; exact hk))
/-- a tie: its rows -/
def TieOk (most : Nat) (t : Tup Nat) : Prop := 1 ≤ t.l.length ∧ t.l.length ≤ most ∧ ∀ r ∈ t.l, r < 2 ^ t.l.length
theorem pow_sum (n : Nat) (p : Nat → Bool) : (((List.range n).filter p).map fun y => 1 <<< y).sum < 2 ^ n := by
  induction n with
  | zero => simp
  | succ n ih =>
    rw [List.range_succ, List.filter_append, List.map_append, List.sum_append]
    have : ((List.filter p [n]).map fun y => 1 <<< y).sum ≤ 2 ^ n := by
      cases e : p n <;> simp [e, Nat.shiftLeft_eq]
    rw [Nat.pow_succ]; omega
theorem row_side {n : Nat} {R : List (List Bool)} {x y : Nat} (hR : Sq n R) (hx : x < n) (hy : y < n) : y < (gt R x).length := by
  rw [hR.row hx]; exact hy
local macro_rules | `(tactic| walk_at "side") => `(tactic| ((with_reducible apply row_side) <;> assumption))

theorem tie_ok (k most : Nat) (h : most ≤ 6) (h1 : 1 ≤ most) : Draws inferInstance .pl (CF (k+4)) F_law_tie [.pl (ed most)] (TieOk most) := by
  refine Draws.of fun d hd => ?_
  walk_at "start"
  unfold b_law_tie
  repeat walk_at "i"
  rename_i m0 d1 hm0 hd1 st d2 hst hd2 R0 d3 hR0 hd3 mend d4 hmend hd4
  generalize hn : 1 + m0 = n at hR0
  have n1 : 1 ≤ n := by omega
  have n6 : n ≤ 6 := by omega
  have nm : n ≤ most := by omega
  let I : List Nat → List Nat → En → Prop := fun _ _ ρ => ∃ (R : List (List Bool)) (q5 q6 q7 : RV), ρ = [.io d4, .pl (ed most), .pl (ed n), .ow2 (ed R), .pl (ed mend), q5, q6, q7] ∧ Sq n R ∧ Fr q5 ∧ Fr q6 ∧ Fr q7
  with_reducible refine KFor.mk I ?_ ?_ ?_
  · exact ⟨R0, _, _, _, rfl, hR0, (by walk_at "fr"), (by walk_at "fr"), (by walk_at "fr")⟩
  · rintro done x left _ e ⟨R, q5, q6, q7, rfl, hR, f5, f6, f7⟩
    have hx := mem_of_split e
    have rx := hR.row hx
    have rl := hR.1
    let J : En → Prop := fun ρ => ∃ (R : List (List Bool)) (q6 q7 : RV), ρ = [.io d4, .pl (ed most), .pl (ed n), .ow2 (ed R), .pl (ed mend), .pl (ed x), q6, q7] ∧ Sq n R ∧ Fr q6 ∧ Fr q7
    walk_at "k"
    with_reducible refine WSs.seq J ?_ ?_
    · repeat (first | walk_at "w" | exact ⟨_, _, _, rfl, hR.set _ _ _ hx, (by walk_at "fr"), (by walk_at "fr")⟩ | exact ⟨_, _, _, rfl, hR, (by walk_at "fr"), (by walk_at "fr")⟩)
    rintro _ ⟨R, q6, q7, rfl, hR, f6, f7⟩
    with_reducible refine WSs.seq J ?_ ?_
    · repeat walk_at "k"
      with_reducible refine KFor.mk (fun (_ _ : List Nat) => J) ?_ ?_ ?_
      · exact ⟨R, _, _, rfl, hR, (by walk_at "fr"), (by walk_at "fr")⟩
      · rintro done2 y left2 _ e2 ⟨R, q6, q7, rfl, hR, f6, f7⟩
        have hy := mem_of_split e2
        have rx := hR.row hx
        have ry := hR.row hy
        have rl := hR.1
        walk_at "k"
        let J2 : En → Prop := fun ρ => ∃ (R : List (List Bool)) (q7 : RV), ρ = [.io d4, .pl (ed most), .pl (ed n), .ow2 (ed R), .pl (ed mend), .pl (ed x), .pl (ed y), q7] ∧ Sq n R ∧ Fr q7
        with_reducible refine WSs.seq J2 ?_ ?_
        · repeat (first | walk_at "w" | exact ⟨_, _, rfl, hR.set _ _ _ hy, (by walk_at "fr")⟩ | exact ⟨_, _, rfl, hR, (by walk_at "fr")⟩)
        rintro _ ⟨R, q7, rfl, hR, f7⟩
        repeat walk_at "k"
        with_reducible refine KFor.mk (fun (_ _ : List Nat) => J2) ?_ ?_ ?_
        · exact ⟨R, _, rfl, hR, (by walk_at "fr")⟩
        · rintro done3 z left3 _ e3 ⟨R, q7, rfl, hR, f7⟩
          have hz := mem_of_split e3
          have rx := hR.row hx
          have ry := hR.row hy
          have rl := hR.1
          repeat (first | walk_at "w" | exact ⟨_, _, rfl, hR.set _ _ _ hy, (by walk_at "fr")⟩ | exact ⟨_, _, rfl, hR, (by walk_at "fr")⟩)
        · rintro _ ⟨R, q7, rfl, hR, f7⟩
          repeat walk_at "k"
          exact ⟨R, _, _, rfl, hR, (by walk_at "fr"), (by walk_at "fr")⟩
      · rintro _ ⟨R, q6, q7, rfl, hR, f6, f7⟩
        repeat walk_at "k"
        exact ⟨R, _, _, rfl, hR, (by walk_at "fr"), (by walk_at "fr")⟩
    rintro _ ⟨R, q6, q7, rfl, hR, f6, f7⟩
    repeat walk_at "k"
    exact ⟨R, _, _, _, rfl, hR, (by walk_at "fr"), (by walk_at "fr"), (by walk_at "fr")⟩
  rintro _ ⟨R, q5, q6, q7, rfl, hR, f5, f6, f7⟩
  walk_at "k"
  let I0 : En → Prop := I [] []
  with_reducible refine WSs.seq I0 ?_ ?_
  · repeat walk_at "k"
    with_reducible refine KFor.mk I ?_ ?_ ?_
    · exact ⟨R, _, _, _, rfl, hR, (by walk_at "fr"), (by walk_at "fr"), (by walk_at "fr")⟩
    · rintro done x left _ e ⟨R, q5, q6, q7, rfl, hR, f5, f6, f7⟩
      have hx := mem_of_split e
      have rx := hR.row hx
      have rl := hR.1
      repeat (first | walk_at "w" | exact ⟨_, _, _, _, rfl, hR.set _ _ _ hx, (by walk_at "fr"), (by walk_at "fr"), (by walk_at "fr")⟩ | exact ⟨_, _, _, _, rfl, hR, (by walk_at "fr"), (by walk_at "fr"), (by walk_at "fr")⟩)
    · rintro _ ⟨R, q5, q6, q7, rfl, hR, f5, f6, f7⟩
      repeat walk_at "k"
      exact ⟨R, _, _, _, rfl, hR, (by walk_at "fr"), (by walk_at "fr"), (by walk_at "fr")⟩
  rintro _ ⟨R, q5, q6, q7, rfl, hR, f5, f6, f7⟩
  let J : En → Prop := fun ρ => ∃ (d : D) (R : List (List Bool)) (q5 q6 q7 : RV), ρ = [.io d, .pl (ed most), .pl (ed n), .ow2 (ed R), .pl (ed mend), q5, q6, q7] ∧ Dr d ∧ Sq n R ∧ Fr q5 ∧ Fr q6 ∧ Fr q7
  with_reducible refine WSs.seq J ?_ ?_
  · have rl := hR.1
    repeat walk_at "k"
    with_reducible refine KIf.mk (fun _ => ?_) (fun _ => ?_)
    · repeat walk_at "k"
      exact ⟨_, _, _, _, _, rfl, by assumption, hR.set _ _ _ (by assumption), (by walk_at "fr"), (by walk_at "fr"), (by walk_at "fr")⟩
    · repeat walk_at "k"
      exact ⟨_, R, _, _, _, rfl, hd4, hR, (by walk_at "fr"), (by walk_at "fr"), (by walk_at "fr")⟩
  rintro _ ⟨d, R, q5, q6, q7, rfl, hd, hR, f5, f6, f7⟩
  have rl := hR.1
  repeat walk_at "k"
  apply KComp.all (g := fun x => (((List.range n).filter fun y => gt (gt R x) y).map fun y => 1 <<< y).sum)
  · walk_at "wok"
  · walk_at "wipe"
  · intro x hx
    have hx := List.mem_range.mp hx
    repeat walk_at "k"
    apply KComp.mk (p := fun y => gt (gt R x) y) (g := fun y => 1 <<< y)
    · walk_at "wok"
    · walk_at "wipe"
    · intro y hy
      have hy := List.mem_range.mp hy
      repeat walk_at "w"
    · repeat walk_at "w"
  · repeat walk_at "w"
    refine ⟨_, _, ⟨?_, ?_, ?_⟩, hd, rfl, rfl⟩
    · simpa using n1
    · simpa using nm
    · intro r hr
      obtain ⟨x, _, rfl⟩ := List.mem_map.mp hr
      rw [List.length_map, List.length_range]
      exact pow_sum n _
local macro_rules | `(tactic| walk_at "draw") => `(tactic| ((with_reducible apply tie_ok); walk_at "side"; walk_at "side"))

/-- a frame -/
def FrP (most : Nat) (f : Tup Nat × Tup Nat) : Prop := FrOk f.1.l f.2.l ∧ f.1.l.length ≤ most
theorem frame_ok (k most : Nat) (h : most ≤ 6) (h1 : 1 ≤ most) : Draws inferInstance .pl (CF (k+5)) F_law_frame [.pl (ed most)] (FrP most) := by
  refine Draws.of fun d hd => ?_
  walk_at "start"
  unfold b_law_frame
  repeat walk_at "k"
  rename_i t d1 ht hd1 a d2 ha hd2 b d3 hb hd3 st d4 hst hd4
  obtain ⟨t⟩ := t
  have hs : 1 ≤ gt [1, 2, 4] st ∧ gt [1, 2, 4] st ≤ 4 := by
    have : st = 0 ∨ st = 1 ∨ st = 2 := by omega
    rcases this with rfl | rfl | rfl <;> decide
  obtain ⟨hs1, hs2⟩ := hs
  show KComp _ _ _ _ _ _ _ _ [.io d4, .pl (ed most), .pl (ed (Tup.mk t)), .ow (ed [0, 0, a, b]), .pl (ed st), .un]
  apply KComp.draw (d := d4) (fun v : Nat => v ≤ 5)
  · rfl
  · walk_at "wipe"
  · exact hd4
  · intro _; simp only [restE, List.set_cons_zero, List.set_cons_succ, List.getD_cons_succ, List.getD_cons_zero]; rfl
  · intro x hx d' hd'
    repeat walk_at "k"
    rename_i v d5 hv hd5
    refine ⟨_, _, rfl, ?_, hd5, rfl⟩
    have hm := gt_mem (L := [0, 0, a, b]) (i := v) (by simp; omega)
    simp only [List.mem_cons, List.not_mem_nil, or_false] at hm
    omega
  · intro m d' hm hm5 hd'
    repeat walk_at "w"
    have ht : 1 ≤ t.length ∧ t.length ≤ most ∧ ∀ r ∈ t, r < 2 ^ t.length := ht
    exact ⟨_, _, ⟨⟨ht.1, Nat.le_trans ht.2.1 h, ht.2.2, hm, hm5⟩, ht.2.1⟩, hd', rfl, rfl⟩
local macro_rules | `(tactic| walk_at "draw") => `(tactic| ((with_reducible apply frame_ok); walk_at "side"; walk_at "side"))
theorem law_has_ok (k : Nat) (t : List Nat) (x y : Nat) (h : x < t.length) : Ret (CF (k+1)) F_law_has [.pl (ed (Tup.mk t)), .pl (ed x), .pl (ed y)] (.pl (ed ((gt t x).testBit y))) := by
  refine Ret.of ?_
  walk_at "start"
  unfold b_law_has
  repeat walk_at "w"
  rw [bit_eq]
local macro_rules | `(tactic| walk_at "call") => `(tactic| ((with_reducible apply law_has_ok); walk_at "side"))
theorem law_thing_ok (k : Nat) (t : List Nat) (d : D) : Ret (CF (k+1)) F_law_thing [.pl (ed (Tup.mk t)), .pl d] (.pl (ed (below t.length d))) := by
  cases d with
  | int i =>
    show Ret _ _ [_, .pl (ed i)] _
    refine Ret.of ?_
    walk_at "start"
    unfold b_law_thing
    repeat walk_at "w"
    rfl
  | _ => exact ⟨_, rfl, rfl⟩
local macro_rules | `(tactic| walk_at "call") => `(tactic| with_reducible exact law_thing_ok ..)
/-- the sum of distinct powers -/
theorem pow_sum2 {n : Nat} {L : List Nat} (hn : L.Nodup) (h : ∀ x ∈ L, x < n) : (L.map fun y => 1 <<< y).sum < 2 ^ n := by
  have hp : L.Perm ((List.range n).filter fun y => decide (y ∈ L)) := by
    refine (List.perm_ext_iff_of_nodup hn (List.nodup_range.sublist List.filter_sublist)).mpr fun a => ?_
    simp only [List.mem_filter, List.mem_range, decide_eq_true_eq]
    exact ⟨fun ha => ⟨h a ha, ha⟩, fun ha => ha.2⟩
  rw [(hp.map _).sum_nat]
  exact pow_sum n _
theorem names_nodup {n : Nat} {N : List Nat} (hl : N.length = n) (hn : N.Nodup) (p : Nat → Bool) : (((List.range n).filter p).map (gt N)).Nodup := by
  have : ((List.range n).map (gt N)) = N := by
    apply List.ext_getElem
    · simp [hl]
    · intro i h1 h2
      rw [List.getElem_map, List.getElem_range, gt_eq h2]
  have hs : (((List.range n).filter p).map (gt N)).Sublist N := by
    have := (List.filter_sublist (p := p) (l := List.range n)).map (gt N)
    rwa [‹List.map (gt N) (List.range n) = N›] at this
  exact hn.sublist hs
/-- two frames -/
def Fr2 (p : (Tup Nat × Tup Nat) × Tup Nat × Tup Nat) : Prop := FrP 6 p.1 ∧ FrP 6 p.2
theorem bit_le (a x : Nat) : a >>> x &&& 1 < 2 := by
  rw [Nat.and_one_is_mod]; omega
theorem twice_row {n a x : Nat} (ha : a < 2 ^ n) : a ||| ((a >>> x &&& 1) <<< n) < 2 ^ (n + 1) := by
  have h1 : a < 2 ^ (n + 1) := by rw [Nat.pow_succ]; omega
  refine Nat.or_lt_two_pow h1 ?_
  rw [Nat.shiftLeft_eq, Nat.pow_succ]
  have := bit_le a x
  have : 0 < 2 ^ n := Nat.two_pow_pos n
  have := Nat.mul_lt_mul_of_pos_right (bit_le a x) this
  rw [Nat.mul_comm (2 ^ n) 2]
  exact this
theorem FrP.more {m : Nat} {f : Tup Nat × Tup Nat} (h : FrP m f) : FrP 6 f := ⟨h.1, h.1.n6⟩
theorem twice_ok (k most : Nat) (h : most ≤ 6) (h1 : 1 ≤ most) : Draws inferInstance .pl (CF (k+6)) F_law_twice [.pl (ed most)] Fr2 := by
  refine Draws.of fun d hd => ?_
  walk_at "start"
  unfold b_law_twice
  repeat walk_at "k"
  rename_i one d1 hone hd1 way d2 hway hd2
  obtain ⟨⟨t⟩, ⟨m⟩⟩ := one
  have ho := hone.1
  have n1 : 1 ≤ t.length := ho.n1
  have n6 : t.length ≤ 6 := ho.n6
  have ml : m.length = t.length := ho.ml
  repeat walk_at "k"
  with_reducible refine KIf.mk (fun _ => ?_) (fun _ => ?_)
  · repeat walk_at "k"
    exact ⟨_, _, ⟨hone.more, hone.more⟩, hd2, rfl, rfl⟩
  repeat walk_at "k"
  with_reducible refine KIf.mk (fun _ => ?_) (fun _ => ?_)
  · repeat walk_at "k"
    rename_i two d3 htwo hd3
    exact ⟨_, _, ⟨hone.more, htwo.more⟩, hd3, rfl, rfl⟩
  repeat walk_at "k"
  rename_i x d3 hx hd3 y d4 hy hd4
  have hx : x < t.length := hx
  have hy : y < t.length := hy
  with_reducible refine KIf.mk (fun _ => ?_) (fun _ => ?_)
  · repeat walk_at "k"
    apply KComp.all (g := fun z => if z = x then gt t z ^^^ (1 <<< y) else gt t z)
    · rfl
    · walk_at "wipe"
    · intro z hz
      have hz : z < t.length := List.mem_range.mp hz
      repeat walk_at "w"
      · rename_i h0
        exact KEl.mk (by rw [if_pos (of_decide_eq_true h0)]; rfl) rfl
      · rename_i h0
        repeat walk_at "w"
        exact KEl.mk (by rw [if_neg (of_decide_eq_false h0)]; rfl) rfl
    repeat walk_at "w"
    refine ⟨_, _, ⟨hone.more, ⟨⟨?_, ?_, ?_, ?_, ho.m5⟩, ?_⟩⟩, hd4, rfl, rfl⟩
    · simpa using n1
    · simpa using n6
    · intro r hr
      obtain ⟨z, hz, rfl⟩ := List.mem_map.mp hr
      have hz : z < t.length := List.mem_range.mp hz
      rw [List.length_map, List.length_range]
      have h2 := ho.rows _ (gt_mem (L := t) hz)
      split
      · refine Nat.xor_lt_two_pow h2 ?_
        rw [Nat.shiftLeft_eq, Nat.one_mul]
        exact Nat.pow_lt_pow_right (by omega) hy
      · exact h2
    · simpa using ml
    · simpa using n6
  repeat walk_at "k"
  with_reducible refine KIf.mk (fun _ => ?_) (fun _ => ?_)
  · repeat walk_at "k"
    rename_i N d5 hN hd5
    obtain ⟨hNl, hNn, hNm⟩ := hN
    with_reducible refine KFor.mk (fun (_ _ : List Nat) ρ => ∃ (R M : List Nat) (q9 : RV), ρ = [.io d5, .pl (ed most), .pl (ed t.length), .ow (ed R), .pl (ed (Tup.mk t, Tup.mk m)), .pl (ed way), .pl (ed x), .pl (ed y), .ow (ed N), q9, .ow (ed M), .un, .un] ∧
      R.length = t.length ∧ M.length = t.length ∧ (∀ r ∈ R, r < 2 ^ t.length) ∧ (∀ v ∈ M, v ≤ 5) ∧ Fr q9) ?_ ?_ ?_
    · refine ⟨_, _, _, rfl, by simp, by simp, ?_, ?_, .un⟩
      · intro r hr; rw [(List.mem_replicate.mp hr).2]; exact Nat.two_pow_pos _
      · intro r hr; rw [(List.mem_replicate.mp hr).2]; omega
    · rintro done z left _ e ⟨R, M, q9, rfl, hR, hM, hr, hv, f9⟩
      have hz := mem_of_split e
      have hN1 : gt N z < t.length := hNm _ (gt_mem (by omega))
      have hmz : gt m z ≤ 5 := ho.m5 _ (gt_mem (by show z < m.length; omega))
      repeat walk_at "k"
      apply KComp.mk (p := fun w => (gt t z).testBit w) (g := fun w => 1 <<< gt N w)
      · rfl
      · walk_at "wipe"
      · intro w hw
        have hw : w < t.length := List.mem_range.mp hw
        have hN2 : gt N w < t.length := hNm _ (gt_mem (by omega))
        repeat walk_at "w"
      repeat walk_at "w"
      refine ⟨_, _, _, rfl, by simpa using hR, by simpa using hM, ?_, ?_, .pl _⟩
      · intro r hr2
        rcases List.mem_or_eq_of_mem_set hr2 with hr2 | rfl
        · exact hr r hr2
        · have := pow_sum2 (n := t.length) (names_nodup hNl hNn (fun w => (gt t z).testBit w)) (fun v hv => by
            obtain ⟨w, hw, rfl⟩ := List.mem_map.mp hv
            exact hNm _ (gt_mem (by have := List.mem_range.mp (List.mem_filter.mp hw).1; omega)))
          rwa [List.map_map] at this
      · intro r hr2
        rcases List.mem_or_eq_of_mem_set hr2 with hr2 | rfl
        · exact hv r hr2
        · exact hmz
    · rintro _ ⟨R, M, q9, rfl, hR, hM, hr, hv, f9⟩
      repeat walk_at "w"
      exact ⟨_, _, ⟨hone.more, ⟨⟨by show 1 ≤ R.length; omega, by show R.length ≤ 6; omega, by show ∀ r ∈ R, r < 2 ^ R.length; rw [hR]; exact hr, by show M.length = R.length; omega, hv⟩, by show R.length ≤ 6; omega⟩⟩, hd5, rfl, rfl⟩
  have b1 : ∀ a : Nat, a >>> x &&& 1 < 2 ^ 64 := fun a => Nat.lt_of_lt_of_le (bit_le a x) (by decide)
  repeat walk_at "k"
  apply KComp.all (g := fun a => a ||| ((a >>> x &&& 1) <<< t.length))
  · rfl
  · walk_at "wipe"
  · intro a ha
    have := b1 a
    repeat walk_at "w"
  have := b1 (gt t x)
  repeat walk_at "k"
  have len : (t.map fun a => a ||| ((a >>> x &&& 1) <<< t.length)).length = t.length := List.length_map _
  have ho2 : t.length < 6 → FrOk ((t.map fun a => a ||| ((a >>> x &&& 1) <<< t.length)) ++ [gt t x ||| ((gt t x >>> x &&& 1) <<< t.length)]) (m ++ [gt m x]) := fun h6 => by
    refine ⟨by simp, by simp; omega, ?_, by simp; omega, ?_⟩
    · intro r hr
      rw [List.length_append, len]
      rcases List.mem_append.mp hr with hr | hr
      · obtain ⟨a, ha, rfl⟩ := List.mem_map.mp hr
        exact twice_row (ho.rows a ha)
      · rw [List.mem_singleton.mp hr]
        exact twice_row (ho.rows _ (gt_mem hx))
    · intro v hv
      rcases List.mem_append.mp hv with hv | hv
      · exact ho.m5 v hv
      · rw [List.mem_singleton.mp hv]
        exact ho.m5 _ (gt_mem (by show x < m.length; omega))
  with_reducible refine KIf.mk (fun h6 => ?_) (fun _ => ?_)
  · have h6 : t.length < 6 := of_decide_eq_true h6
    repeat walk_at "k"
    exact ⟨_, _, ⟨hone.more, ⟨ho2 h6, (ho2 h6).n6⟩⟩, hd4, rfl, rfl⟩
  · repeat walk_at "k"
    exact ⟨_, _, ⟨hone.more, hone.more⟩, hd4, rfl, rfl⟩
local macro_rules | `(tactic| walk_at "draw") => `(tactic| ((with_reducible apply twice_ok); walk_at "side"; walk_at "side"))

theorem noFrame_len {t : List Nat} {x : Tup Nat} {ms : List D} (h : ms.length ≠ t.length) : isFrameD (.tuple [ed (Tup.mk t), .tuple ms]) = false := by
  show (isTieD (ed (Tup.mk t)) && decide (ms.length = (t.map ed).length) && ms.all (below 6)) = false
  rw [List.length_map, decide_eq_false h]
  simp
theorem noFrame_all {t : List Nat} {ms : List D} (h : ms.all (below 6) = false) : isFrameD (.tuple [ed (Tup.mk t), .tuple ms]) = false := by
  show (isTieD (ed (Tup.mk t)) && decide (ms.length = (t.map ed).length) && ms.all (below 6)) = false
  rw [h]; simp
theorem all_rep {n : Nat} {d : D} (hn : 1 ≤ n) (h : below 6 d = false) : (List.replicate n d).all (below 6) = false := by
  obtain ⟨n, rfl⟩ : ∃ k, n = k + 1 := ⟨n - 1, by omega⟩
  rw [List.replicate_succ, List.all_cons, h]; rfl
theorem noFrame_tie (t : List Nat) : isFrameD (ed (Tup.mk t)) = false := by
  match t with
  | [] => rfl
  | [_] => rfl
  | [_, _] => rfl
  | _ :: _ :: _ :: _ => rfl
/-- what is no frame, of twelve kinds -/
theorem odd_frame_ok (k : Nat) (t m : List Nat) (ho : FrOk t m) : Draws inferInstance .pl (CF (k+2)) F_law_odd_frame [.pl (frD t m)] (fun x : D => isFrameD x = false) := by
  have n1 := ho.n1
  have n6 := ho.n6
  have ml := ho.ml
  refine Draws.of fun d hd => ?_
  walk_at "start"
  unfold b_law_odd_frame
  repeat walk_at "k"
  rename_i v d2 hv hd2
  refine ⟨_, _, ?_, hd2, rfl, rfl⟩
  have : v = 0 ∨ v = 1 ∨ v = 2 ∨ v = 3 ∨ v = 4 ∨ v = 5 ∨ v = 6 ∨ v = 7 ∨ v = 8 ∨ v = 9 ∨ v = 10 ∨ v = 11 := by omega
  rcases this with rfl | rfl | rfl | rfl | rfl | rfl | rfl | rfl | rfl | rfl | rfl | rfl
  · exact noFrame_tie t
  · rfl
  · exact noFrame_len (x := Tup.mk t) (by rw [List.length_map, List.length_drop]; omega)
  · exact noFrame_len (x := Tup.mk t) (by rw [List.length_map, List.length_append]; simp; omega)
  · rfl
  · rfl
  · rfl
  · refine noFrame_all ?_
    rw [List.map_replicate]; exact all_rep n1 rfl
  · refine noFrame_all ?_
    rw [List.map_replicate]; exact all_rep n1 rfl
  · refine noFrame_all ?_
    rw [List.map_replicate]; exact all_rep n1 rfl
  · rfl
  · rfl
local macro_rules | `(tactic| walk_at "draw") => `(tactic| ((with_reducible apply odd_frame_ok); assumption))
theorem bits_range {n a : Nat} (hn : n ≤ 6) (ha : a < 2 ^ n) : bits a = (List.range n).filter a.testBit := by
  unfold bits
  have e : (6 : Nat) = n + (6 - n) := by omega
  rw [e, List.range_add, List.filter_append]
  have : List.filter a.testBit ((List.range (6 - n)).map fun x => n + x) = [] := by
    rw [List.filter_eq_nil_iff]
    intro x hx
    obtain ⟨y, _, rfl⟩ := List.mem_map.mp hx
    rw [Nat.testBit_lt_two_pow]
    · decide
    · exact Nat.lt_of_lt_of_le ha (Nat.pow_le_pow_right (by omega) (by omega))
  rw [this, List.append_nil]
theorem law_ahead_ok (k : Nat) (t : List Nat) (x : Nat) (hx : x < t.length) (n6 : t.length ≤ 6) (hr : gt t x < 2 ^ t.length) : Ret (CF (k+2)) F_law_ahead [.pl (ed (Tup.mk t)), .pl (ed x)] (.ow (ed (bits (gt t x)))) := by
  refine Ret.of ?_
  walk_at "start"
  unfold b_law_ahead
  repeat walk_at "w"
  rw [List.map_id', bits_range n6 hr]
local macro_rules | `(tactic| walk_at "call") => `(tactic| ((with_reducible apply law_ahead_ok) <;> walk_at "side"))
theorem law_fits_ok (k : Nat) (t1 m1 t2 m2 : List Nat) (h1 : FrOk t1 m1) (h2 : FrOk t2 m2) (pd : D) (P : List (Nat × Nat)) (hp : itemsOf pd = some (P.map ed)) (x y : Nat) (hx : x < t1.length) (hy : y < t2.length) (both : Bool) :
    Ret (CF (k+3)) F_law_fits [.pl (frD t1 m1), .pl (frD t2 m2), .pl pd, .pl (ed x), .pl (ed y), .pl (ed both)] (.pl (ed (fitsB t1 m1 t2 m2 P x y both))) := by
  have e1 : x < m1.length := by rw [h1.ml]; exact hx
  have e2 : y < m2.length := by rw [h2.ml]; exact hy
  have r1 : gt t1 x < 2 ^ t1.length := h1.rows _ (gt_mem hx)
  have r2 : gt t2 y < 2 ^ t2.length := h2.rows _ (gt_mem hy)
  have n1 := h1.n6
  have n2 := h2.n6
  refine Ret.of ?_
  walk_at "start"
  unfold b_law_fits
  repeat walk_at "w"
  · rename_i h
    have h : (decide (gt m1 x = gt m2 y) && answersB t1 t2 P x y) = false := by
      change (!decide (gt m1 x = gt m2 y) || !answersB t1 t2 P x y) = true at h
      cases e : decide (gt m1 x = gt m2 y) <;> rw [e] at h <;> simp at h ⊢
      exact h
    unfold fitsB
    rw [h]; rfl
  · rename_i h
    have h : (decide (gt m1 x = gt m2 y) && answersB t1 t2 P x y) = true := by
      change (!decide (gt m1 x = gt m2 y) || !answersB t1 t2 P x y) = false at h
      cases e : decide (gt m1 x = gt m2 y) <;> rw [e] at h <;> simp at h ⊢
      exact h
    repeat walk_at "w"
    unfold fitsB
    rw [h]; rfl
local macro_rules | `(tactic| walk_at "call") => `(tactic| ((with_reducible apply law_fits_ok); assumption; assumption; walk_at "items"; walk_at "side"; walk_at "side"))
/-- all pairs of one mark, row by row -/
theorem markP_rows (m1 m2 : List Nat) (n1 n2 : Nat) : markP m1 m2 n1 n2 = (List.range n1).flatMap fun x => ((List.range n2).filter fun y => decide (gt m1 x = gt m2 y)).map fun y => (x, y) := by
  unfold markP allP
  rw [List.filter_flatMap]
  congr 1
  funext x
  rw [List.filter_map]
  rfl
theorem law_layers_ok (k : Nat) (t1 m1 t2 m2 : List Nat) (h1 : FrOk t1 m1) (h2 : FrOk t2 m2) (both : Bool) :
    Ret (CF (k+4)) F_law_layers [.pl (frD t1 m1), .pl (frD t2 m2), .pl (ed both)] (.ow (ed (layers (stepB t1 m1 t2 m2 both) (markP m1 m2 t1.length t2.length)))) := by
  have e1 := h1.ml
  have e2 := h2.ml
  have n1 := h1.n6
  have n2 := h2.n6
  refine Ret.of ?_
  walk_at "start"
  unfold b_law_layers
  repeat walk_at "k"
  with_reducible refine KFor.mk (fun (done _ : List Nat) ρ => ∃ (q4 : RV), ρ = [.pl (frD t1 m1), .pl (frD t2 m2), .pl (ed both), .ow (ed (done.flatMap fun x => ((List.range t2.length).filter fun y => decide (gt m1 x = gt m2 y)).map fun y => (x, y))), q4, .un, .un, .un, .un] ∧ Fr q4) ?_ ?_ ?_
  · exact ⟨_, rfl, .un⟩
  · rintro done x left _ e ⟨q4, rfl, f4⟩
    have hx := mem_of_split e
    repeat walk_at "k"
    apply KComp.mk (p := fun y => decide (gt m1 x = gt m2 y)) (g := fun y => (x, y))
    · walk_at "wok"
    · walk_at "wipe"
    · intro y hy
      have hy : y < t2.length := List.mem_range.mp hy
      repeat walk_at "w"
    have hl : (done.flatMap fun x => ((List.range t2.length).filter fun y => decide (gt m1 x = gt m2 y)).map fun y => (x, y)).length + (((List.range t2.length).filter fun y => decide (gt m1 x = gt m2 y)).map fun y => (x, y)).length ≤ 36 := by
      have := markP_len (m1 := m1) (m2 := m2) n1 n2
      rw [markP_rows, e, List.flatMap_append, List.flatMap_cons] at this
      rw [List.length_append, List.length_append] at this
      omega
    repeat walk_at "w"
    exact ⟨_, by rw [List.flatMap_append, List.flatMap_cons, List.flatMap_nil, List.append_nil], .pl _⟩
  · rintro _ ⟨q4, rfl, f4⟩
    rw [← markP_rows]
    have inn : InP t1.length t2.length (markP m1 m2 t1.length t2.length) := .mark
    have len : (markP m1 m2 t1.length t2.length).length ≤ 36 := markP_len n1 n2
    generalize markP m1 m2 t1.length t2.length = P0 at inn len
    repeat walk_at "k"
    let f := stepB t1 m1 t2 m2 both
    with_reducible refine WS.whil (fun n ρ => ∃ (done : List (List (Nat × Nat))) (P : List (Nat × Nat)) (size : Int) (q7 : RV), ρ = [.pl (frD t1 m1), .pl (frD t2 m2), .pl (ed both), .ow (ed P), q4, .ow (ed done), .pl (ed size), q7, .un] ∧ InP t1.length t2.length P ∧ Fr q7 ∧ P.length ≤ 36 ∧
      ((size = P.length ∧ done = layers f P0 ∧ n = 0) ∨ ((P.length : Int) < size ∨ size = -1) ∧ done ++ layers f P = layers f P0 ∧ done.length + P.length ≤ 36 ∧ n = P.length + 1)) (P0.length + 1) (by omega) ⟨([] : List (List (Nat × Nat))), P0, -1, _, rfl, inn, .un, len, .inr ⟨.inr rfl, rfl, by simpa using len, rfl⟩⟩ ?_
    rintro n _ ⟨done, P, size, q7, rfl, inn, f7, hP, hc⟩
    have fl : (f P).length ≤ P.length := step_len
    repeat walk_at "k"
    with_reducible refine KIf.mk (fun h => ?_) (fun h => ?_)
    · rcases hc with ⟨rfl, _⟩ | ⟨hs, hd, hl, rfl⟩
      · simp at h
      have hdl : done.length < 16777216 := by omega
      repeat walk_at "k"
      apply KComp.mk (p := fun p : Nat × Nat => fitsB t1 m1 t2 m2 P p.1 p.2 both) (g := fun p : Nat × Nat => p)
      · walk_at "wok"
      · walk_at "wipe"
      · rintro ⟨x, y⟩ hp
        have e3 : x < t1.length := (inn _ hp).1
        have e4 : y < t2.length := (inn _ hp).2
        repeat walk_at "w"
      rw [List.map_id']
      show KSt _ _ (.ow (ed (f P))) _
      repeat walk_at "k"
      by_cases hf : (f P).length < P.length
      · refine ⟨(f P).length + 1, by omega, _, _, _, _, rfl, inn.step, f7, by omega, .inr ⟨.inl (by omega), ?_, by simp; omega, rfl⟩⟩
        rw [← hd, layers_lt hf, List.append_assoc]; rfl
      · refine ⟨0, by omega, _, _, _, _, rfl, inn.step, f7, by omega, .inl ⟨by omega, ?_, rfl⟩⟩
        rw [← hd, layers_ge hf]
    · rcases hc with ⟨rfl, rfl, rfl⟩ | ⟨hs, _⟩
      · repeat walk_at "k"
        rfl
      · simp at h; omega
local macro_rules | `(tactic| walk_at "call") => `(tactic| ((with_reducible apply law_layers_ok) <;> assumption))

/-- pairs of naturals, in order -/
def natO : SLO (Nat × Nat) where
  lt x y := ltP x y
  irr x := by unfold ltP; simp
  tr x y z h k := by unfold ltP at *; simp only [decide_eq_true_eq] at *; omega
  tot x y h k := by
    unfold ltP at *
    simp only [decide_eq_false_iff_not] at *
    exact Prod.ext (by omega) (by omega)
def castP (p : Nat × Nat) : Int × Int := (p.1, p.2)
theorem ins_cast (x : Nat × Nat) : ∀ L : List (Nat × Nat), pairO.ins (castP x) (L.map castP) = (natO.ins x L).map castP
  | [] => rfl
  | y :: L => by
    have h : ∀ a b : Nat × Nat, pairO.lt (castP a) (castP b) = natO.lt a b := fun a b => by
      show decide _ = decide _
      exact decide_eq_decide.mpr (by unfold castP; simp only; omega)
    rw [List.map_cons]
    unfold SLO.ins
    rw [h, h, ins_cast x L]
    split
    · rfl
    · split <;> rfl
theorem sort_cast : ∀ L : List (Nat × Nat), pairO.sort (L.map castP) = (natO.sort L).map castP
  | [] => rfl
  | x :: L => by
    rw [List.map_cons]
    unfold SLO.sort
    rw [sort_cast L, ins_cast]
theorem pairsOf_map : ∀ L : List (Nat × Nat), (∀ p ∈ L, p.1 < 64 ∧ p.2 < 64) → pairsOf (L.map ed) = some (L.map castP)
  | [], _ => rfl
  | x :: L, h => by
    have hx := h x List.mem_cons_self
    show (pairOf (.tuple [.int x.1, .int x.2])).bind _ = _
    have : pairOf (.tuple [.int (x.1 : Int), .int (x.2 : Int)]) = some (castP x) := if_pos (by omega)
    rw [this, Option.bind_some]
    show (pairsOf (L.map ed)).map _ = _
    rw [pairsOf_map L fun p hp => h p (List.mem_cons_of_mem _ hp)]; rfl
theorem setSort_pairs (L : List (Nat × Nat)) (h : ∀ p ∈ L, p.1 < 64 ∧ p.2 < 64) (hl : L.length < 64) : setSortD (L.map ed) = some ((natO.sort L).map ed) := by
  unfold setSortD
  rw [if_pos (by rw [List.length_map]; exact hl)]
  cases L with
  | nil => rfl
  | cons x L =>
    have : intsOf ((x :: L).map ed) = none := rfl
    simp only [this, pairsOf_map (x :: L) h, Option.map_some, sort_cast, List.map_map]
    rfl
theorem q_setT (L : List (Nat × Nat)) (h : ∀ p ∈ L, p.1 < 64 ∧ p.2 < 64) (hl : L.length < 64) : p1 .setSorted (ed (Tup.mk L)) = some (.ow (ed (natO.sort L))) := by
  show (setSortD (L.map ed)).map _ = _
  rw [setSort_pairs L h hl]; rfl
theorem q_setL (L : List (Nat × Nat)) (h : ∀ p ∈ L, p.1 < 64 ∧ p.2 < 64) (hl : L.length < 64) : p1 .setSorted (ed L) = some (.ow (ed (natO.sort L))) := by
  show (setSortD (L.map ed)).map _ = _
  rw [setSort_pairs L h hl]; rfl
theorem q_setN (L : List Nat) (hl : L.length < 64) : p1 .setSorted (ed L) = some (.ow (ed (intO.sort (L.map fun n : Nat => (n : Int))))) := by
  show (setSortD (L.map ed)).map _ = _
  unfold setSortD
  rw [if_pos (by rw [List.length_map]; exact hl), intsOf_map]; rfl
theorem incP_iff : ∀ {P : List (Nat × Nat)}, incP P = true ↔ P.Pairwise (fun a b => natO.lt a b = true)
  | [] => by simp [incP]
  | [x] => by simp [incP]
  | x :: y :: P => by
    have e : incP (x :: y :: P) = (ltP x y && incP (y :: P)) := by
      unfold incP
      simp
    rw [e, Bool.and_eq_true, incP_iff (P := y :: P)]
    constructor
    · rintro ⟨h1, h2⟩
      refine List.pairwise_cons.mpr ⟨fun z hz => ?_, h2⟩
      rcases List.mem_cons.mp hz with rfl | hz
      · exact h1
      · exact natO.tr x y z h1 ((List.pairwise_cons.mp h2).1 z hz)
    · intro h
      obtain ⟨h1, h2⟩ := List.pairwise_cons.mp h
      exact ⟨h1 y List.mem_cons_self, h2⟩
theorem inc_sort (P : List (Nat × Nat)) : decide (P = natO.sort P) = incP P := by
  rw [Bool.eq_iff_iff, decide_eq_true_eq, incP_iff]
  constructor
  · intro h; rw [h]; exact SLO.pw_sort _
  · intro h; exact SLO.sort_eq h fun _ => Iff.rfl
theorem law_pairs_right_ok (k : Nat) (t1 m1 t2 m2 : List Nat) (h1 : FrOk t1 m1) (h2 : FrOk t2 m2) (d : D) (hd : ∀ P, pairsD t1.length t2.length d = some P → P.length < 64) (both : Bool) :
    Ret (CF (k+4)) F_law_pairs_right [.pl (frD t1 m1), .pl (frD t2 m2), .pl d, .pl (ed both)] (.pl (ed (takesB t1 m1 t2 m2 both d))) := by
  cases d with
  | tuple xs =>
    cases hx : xs.all isPairD with
    | false =>
      unfold takesB
      rw [no_pairs1 hx, tup_ed]
      refine Ret.of ?_
      walk_at "start"
      unfold b_law_pairs_right
      repeat walk_at "k"
      apply KComp.all (g := isPairD)
      · rfl
      · walk_at "wipe"
      · intro x _
        walk_at "w"
        exact is_pair_elt _ 4 _ _ x rfl rfl
      have hx : (Tup.mk xs).l.all isPairD = false := hx
      repeat walk_at "short"
      rfl
    | true =>
      obtain ⟨L, rfl⟩ := pairs_of hx
      cases hL : L.all fun p => below t1.length p.1 && below t2.length p.2 with
      | false =>
        show Ret _ _ [_, _, .pl (ed (Tup.mk L)), _] (.pl (ed (takesB t1 m1 t2 m2 both (ed (Tup.mk L)))))
        unfold takesB
        rw [no_pairs2 hL]
        refine Ret.of ?_
        walk_at "start"
        unfold b_law_pairs_right
        repeat walk_at "short"
        · rfl
        · rename_i h
          have h : (!(L.all fun p => below t1.length p.1 && below t2.length p.2)) = false := h
          rw [hL] at h; cases h
      | true =>
        obtain ⟨P, e, hP⟩ := things_of hL
        rw [e] at hd ⊢
        have hl : P.length < 64 := hd P (pairsD_ed hP)
        show Ret _ _ [_, _, .pl (ed (Tup.mk P)), _] (.pl (ed (takesB t1 m1 t2 m2 both (ed (Tup.mk P)))))
        unfold takesB
        rw [pairsD_ed hP]
        have c1 : (P.all fun a => below t1.length (ed a.1) && below t2.length (ed a.2)) = true := List.all_eq_true.mpr fun a ha => by
          rw [below_nat, below_nat, decide_eq_true (hP a ha).1, decide_eq_true (hP a ha).2]; rfl
        have n1 := h1.n6
        have n2 := h2.n6
        have h64 : ∀ p ∈ P, p.1 < 64 ∧ p.2 < 64 := fun p hp => by have := hP p hp; omega
        have qs := q_setT P h64 hl
        refine Ret.of ?_
        walk_at "start"
        unfold b_law_pairs_right
        repeat walk_at "short"
        rename_i a ha
        have e3 : a.1 < t1.length := (hP a ha).1
        have e4 : a.2 < t2.length := (hP a ha).2
        repeat walk_at "short"
        show RV.pl (ed (decide (P = natO.sort P) && _)) = _
        rw [inc_sort]
  | _ => exact ⟨_, rfl, rfl⟩
local macro_rules | `(tactic| walk_at "call") => `(tactic| ((with_reducible apply law_pairs_right_ok) <;> assumption))
local macro_rules | `(tactic| walk_at "rai") => `(tactic| ((with_reducible apply all_matched_no); assumption))
theorem law_falls_ok (k w : Nat) (hw : w < 5) (d e : D) (h : isFrameD d = false ∨ isFrameD e = false) : Ret (CF (k+8)) F_law_falls [.pl (ed w), .pl d, .pl e] (.pl (ed true)) := by
  refine Ret.of ?_
  walk_at "start"
  unfold b_law_falls
  repeat (first | walk_at "w" | with_reducible rfl)
local macro_rules | `(tactic| walk_at "call") => `(tactic| ((with_reducible apply law_falls_ok); walk_at "side"; assumption))

/-! the plain laws behind the law -/
theorem great_inv {t1 m1 t2 m2 : List Nat} {both : Bool} (I : List (Nat × Nat) → Prop) (h0 : I (markP m1 m2 t1.length t2.length)) (hf : ∀ P, I P → I (stepB t1 m1 t2 m2 both P)) : I (great t1 m1 t2 m2 both) :=
  layers_last hf _ _ (Nat.le_refl _) h0
theorem layers_fix {f : List (Nat × Nat) → List (Nat × Nat)} (hl : ∀ P, (f P).length ≤ P.length) : ∀ (n : Nat) (P : List (Nat × Nat)), P.length ≤ n → (f (lastL (layers f P))).length = (lastL (layers f P)).length := by
  intro n
  induction n with
  | zero =>
    intro P hn
    have := hl P
    rw [layers_ge (by omega)]
    show (f P).length = P.length
    omega
  | succ n ih =>
    intro P hn
    by_cases h : (f P).length < P.length
    · rw [layers_lt h]
      have := ih (f P) (by omega)
      have hp := layers_pos (f := f) (P := f P)
      have e : lastL (P :: layers f (f P)) = lastL (layers f (f P)) := by
        unfold lastL gt
        rw [List.length_cons, show (layers f (f P)).length + 1 - 1 = ((layers f (f P)).length - 1) + 1 by omega, List.getD_cons_succ]
      rw [e]; exact this
    · rw [layers_ge h]
      have := hl P
      show (f P).length = P.length
      omega
theorem great_fix {t1 m1 t2 m2 : List Nat} {both : Bool} : ∀ p ∈ great t1 m1 t2 m2 both, fitsB t1 m1 t2 m2 (great t1 m1 t2 m2 both) p.1 p.2 both = true := by
  have := layers_fix (f := stepB t1 m1 t2 m2 both) (fun P => step_len) _ (markP m1 m2 t1.length t2.length) (Nat.le_refl _)
  exact List.length_filter_eq_length_iff.mp this
theorem great_in {t1 m1 t2 m2 : List Nat} {both : Bool} : InP t1.length t2.length (great t1 m1 t2 m2 both) := great_inv _ .mark fun _ h => h.step
theorem great_len {t1 m1 t2 m2 : List Nat} {both : Bool} (h1 : t1.length ≤ 6) (h2 : t2.length ≤ 6) : (great t1 m1 t2 m2 both).length ≤ 36 := great_inv (fun P => P.length ≤ 36) (markP_len h1 h2) fun _ h => Nat.le_trans step_len h
theorem allP_sorted (n1 n2 : Nat) : (allP n1 n2).Pairwise (fun a b => natO.lt a b = true) := by
  unfold allP
  rw [List.pairwise_flatMap]
  refine ⟨fun x hx => ?_, ?_⟩
  · rw [List.pairwise_map]
    refine List.Pairwise.imp ?_ (List.pairwise_lt_range)
    intro a b h
    show ltP (x, a) (x, b) = true
    exact decide_eq_true (.inr ⟨rfl, h⟩)
  · refine List.Pairwise.imp ?_ (List.pairwise_lt_range)
    intro a b h p hp q hq
    obtain ⟨y, _, rfl⟩ := List.mem_map.mp hp
    obtain ⟨z, _, rfl⟩ := List.mem_map.mp hq
    exact decide_eq_true (.inl h)
theorem great_sorted {t1 m1 t2 m2 : List Nat} {both : Bool} : incP (great t1 m1 t2 m2 both) = true :=
  incP_iff.mpr (great_inv (fun P => P.Pairwise (fun a b => natO.lt a b = true)) ((allP_sorted _ _).filter _) fun _ h => h.filter _)
theorem takes_great {t1 m1 t2 m2 : List Nat} {both : Bool} : takesB t1 m1 t2 m2 both (ed (Tup.mk (great t1 m1 t2 m2 both))) = true := by
  unfold takesB
  rw [pairsD_ed great_in]
  simp only [great_sorted, Bool.true_and]
  exact List.all_eq_true.mpr fun p hp => great_fix p hp
/-- as many distinct members below n as n: all are members -/
theorem all_below {n : Nat} {L : List Nat} (h : ∀ x ∈ L, x < n) : decide ((intO.sort (L.map fun k : Nat => (k : Int))).length = n) = (List.range n).all fun x => mem x L := by
  have hs := SLO.pw_sort (O := intO) (L.map fun k : Nat => (k : Int))
  have hnd : (intO.sort (L.map fun k : Nat => (k : Int))).Nodup := hs.imp fun {a b} hab => by
    intro e; subst e
    have := intO.irr a
    rw [this] at hab; cases hab
  have hm : ∀ z, z ∈ intO.sort (L.map fun k : Nat => (k : Int)) ↔ ∃ k ∈ L, (k : Int) = z := fun z => by
    rw [SLO.mem_sort, List.mem_map]
  have hp : (intO.sort (L.map fun k : Nat => (k : Int))).Perm (((List.range n).filter fun x => mem x L).map fun k : Nat => (k : Int)) := by
    refine (List.perm_ext_iff_of_nodup hnd ?_).mpr fun z => ?_
    · refine List.Pairwise.map _ (fun a b hab => ?_) (List.nodup_range.sublist List.filter_sublist)
      intro e; exact hab (by omega)
    · rw [hm, List.mem_map]
      constructor
      · rintro ⟨k, hk, rfl⟩
        exact ⟨k, List.mem_filter.mpr ⟨List.mem_range.mpr (h k hk), mem_iff.mpr hk⟩, rfl⟩
      · rintro ⟨k, hk, rfl⟩
        exact ⟨k, mem_iff.mp (List.mem_filter.mp hk).2, rfl⟩
  rw [hp.length_eq, List.length_map, Bool.eq_iff_iff, decide_eq_true_eq]
  constructor
  · intro e
    refine List.all_eq_true.mpr fun x hx => ?_
    have e : ((List.range n).filter fun x => mem x L).length = (List.range n).length := by rw [e, List.length_range]
    exact List.length_filter_eq_length_iff.mp e x hx
  · intro e
    have e := List.length_filter_eq_length_iff.mpr fun x hx => List.all_eq_true.mp e x hx
    rw [e, List.length_range]
/-- what may be tried -/
def Good (n1 n2 : Nat) (v : D) : Prop := ∀ P, pairsD n1 n2 v = some P → P.length < 64
theorem good_ed {n1 n2 : Nat} {L : List (Nat × Nat)} (h : L.length < 64) : Good n1 n2 (ed (Tup.mk L)) := fun P e => by
  obtain ⟨e2, _⟩ := allD_iff.mp e
  have e3 : L.length = P.length := by
    have := congrArg List.length e2
    rwa [List.length_map, List.length_map] at this
  rw [← e3]; exact h
theorem good_tuple {n1 n2 : Nat} {xs : List D} (h : xs.length < 64) : Good n1 n2 (.tuple xs) := fun P e => by
  obtain ⟨e2, _⟩ := allD_iff.mp e
  have := congrArg List.length e2
  rw [List.length_map] at this
  omega
theorem good_no {n1 n2 : Nat} {v : D} (h : isTupD v = false) : Good n1 n2 v := fun P e => by
  cases v <;> first | cases e | cases h
local macro_rules | `(tactic| walk_at "call") => `(tactic| ((with_reducible apply all_matched_ok) <;> assumption))

local macro_rules | `(tactic| walk_at "call") => `(tactic| ((with_reducible apply draw_ok); assumption))
theorem mem_good {n1 n2 : Nat} {v x : D} {xs : List D} (h : v ∈ x :: xs) (h1 : Good n1 n2 x) (h2 : v ∈ xs → Good n1 n2 v) : Good n1 n2 v := by
  rcases List.mem_cons.mp h with rfl | h
  · exact h1
  · exact h2 h
theorem math0 (k : Nat) (ns : List Int) (h : ns.length ≤ 63) : Ret (CF (k+20)) F_law [.pl (ed ns)] (.pl (ed true)) := by
  refine Ret.of ?_
  walk_at "start"
  unfold b_law
  with_reducible refine WSs.seq (fun ρ => ∃ (d : D), ρ = [.pl (ed ns), .ow d, .un, .un, .un, .un, .un, .un, .un, .un, .un, .un, .un, .un, .un, .un, .un, .un, .un, .un, .un, .un] ∧ Dr d) ?_ ?_
  · repeat walk_at "k"
    exact ⟨_, rfl, _, _, _, _, by omega, rfl⟩
  rintro _ ⟨d, rfl, hd⟩
  with_reducible refine WSs.seq (fun ρ => ∃ (d : D) (t1 m1 t2 m2 : List Nat), ρ = [.pl (ed ns), .ow d, .un, .un, .un, .un, .un, .pl (frD t1 m1), .pl (frD t2 m2), .un, .un, .un, .un, .un, .un, .un, .un, .un, .un, .un, .un, .un] ∧ Dr d ∧ FrOk t1 m1 ∧ FrOk t2 m2) ?_ ?_
  · repeat walk_at "k"
    with_reducible refine KIf.mk (fun _ => ?_) (fun _ => ?_)
    · repeat walk_at "k"
      rename_i p d' hp hd'
      obtain ⟨⟨⟨t1⟩, ⟨m1⟩⟩, ⟨⟨t2⟩, ⟨m2⟩⟩⟩ := p
      exact ⟨_, t1, m1, t2, m2, rfl, hd', hp.1.1, hp.2.1⟩
    · repeat walk_at "k"
      rename_i p d' hp hd'
      obtain ⟨⟨⟨t1⟩, ⟨m1⟩⟩, ⟨⟨t2⟩, ⟨m2⟩⟩⟩ := p
      exact ⟨_, t1, m1, t2, m2, rfl, hd', hp.1.1, hp.2.1⟩
  rintro _ ⟨d, t1, m1, t2, m2, rfl, hd, h1, h2⟩
  have n1 := h1.n6
  have n2 := h2.n6
  have n11 := h1.n1
  have n21 := h2.n1
  repeat walk_at "k"
  have al : ∀ m, m ≤ t1.length → ((List.range m).flatMap fun x => (List.range t2.length).map fun y => (x, y)).length ≤ 36 := fun m hm => by
    show (allP m t2.length).length ≤ 36
    rw [allP_len]
    have := Nat.mul_le_mul (Nat.le_trans hm n1) n2
    omega
  with_reducible refine KFor.mk (fun (done _ : List Nat) ρ => ∃ q3, ρ = [.pl (ed ns), .ow d, .ow (ed (done.flatMap fun x => (List.range t2.length).map fun y => (x, y))), q3, .un, .un, .un, .pl (frD t1 m1), .pl (frD t2 m2), .un, .un, .un, .un, .un, .un, .un, .un, .un, .un, .un, .un, .un] ∧ Fr q3) ?_ ?_ ?_
  · exact ⟨_, rfl, .un⟩
  · rintro done x left _ e ⟨q3, rfl, f3⟩
    have hx := mem_of_split e
    have hl : (done.flatMap fun x => (List.range t2.length).map fun y => (x, y)).length + ((List.range t2.length).map fun y => (x, y)).length ≤ 36 := by
      have := al t1.length (Nat.le_refl _)
      rw [e, List.flatMap_append, List.flatMap_cons, List.length_append, List.length_append] at this
      omega
    repeat walk_at "w"
    exact ⟨_, by rw [List.flatMap_append, List.flatMap_cons, List.flatMap_nil, List.append_nil], .pl _⟩
  rintro _ ⟨q3, rfl, f3⟩
  have hae : ((List.range t1.length).flatMap fun x => (List.range t2.length).map fun y => (x, y)) = allP t1.length t2.length := rfl
  rw [hae]
  have hev : 0 < (allP t1.length t2.length).length := by rw [allP_len]; exact Nat.mul_pos n11 n21
  have hev2 : (allP t1.length t2.length).length ≤ 36 := al t1.length (Nat.le_refl _)
  repeat walk_at "k"
  with_reducible refine KFor.mk (fun (_ _ : List Bool) ρ => ∃ (d : D) (q4 q5 q9 q10 q11 q12 q13 q16 q17 q18 : RV), ρ = [.pl (ed ns), .ow d, .ow (ed (allP t1.length t2.length)), q3, q4, q5, .un, .pl (frD t1 m1), .pl (frD t2 m2), q9, q10, q11, q12, q13, .un, .un, q16, q17, q18, .un, .un, .un] ∧ Dr d ∧
    q4.free = true ∧ q5.free = true ∧ q9.free = true ∧ q10.free = true ∧ q11.free = true ∧ q12.free = true ∧ q13.free = true ∧ q16.free = true ∧ q17.free = true ∧ q18.free = true) ?_ ?_ ?_
  · exact ⟨_, _, _, _, _, _, _, _, _, _, _, rfl, hd, rfl, rfl, rfl, rfl, rfl, rfl, rfl, rfl, rfl, rfl⟩
  · rintro done both left _ e ⟨d, q4, q5, q9, q10, q11, q12, q13, q16, q17, q18, rfl, hd, f4, f5, f9, f10, f11, f12, f13, f16, f17, f18⟩
    have hp := layers_pos (f := stepB t1 m1 t2 m2 both) (P := markP m1 m2 t1.length t2.length)
    have gin := great_in (t1 := t1) (m1 := m1) (t2 := t2) (m2 := m2) (both := both)
    have glen := great_len (t1 := t1) (m1 := m1) (t2 := t2) (m2 := m2) (both := both) n1 n2
    have gtake := takes_great (t1 := t1) (m1 := m1) (t2 := t2) (m2 := m2) (both := both)
    have hg : ∀ P, pairsD t1.length t2.length (ed (Tup.mk (great t1 m1 t2 m2 both))) = some P → P.length < 64 := good_ed (by omega)
    walk_at "w"
    with_reducible refine WSs.seq (fun ρ => ρ = [.pl (ed ns), .ow d, .ow (ed (allP t1.length t2.length)), q3, .pl (ed both), .pl (ed (Tup.mk (great t1 m1 t2 m2 both))), .un, .pl (frD t1 m1), .pl (frD t2 m2), q9, q10, q11, q12, q13, .un, .un, q16, q17, q18, .un, .un, .un]) ?_ ?_
    · repeat walk_at "w"
      rfl
    rintro _ rfl
    generalize hG : great t1 m1 t2 m2 both = G at gin glen gtake hg
    with_reducible refine WSs.seq (fun ρ => ρ = [.pl (ed ns), .ow d, .ow (ed (allP t1.length t2.length)), q3, .pl (ed both), .pl (ed (Tup.mk G)), .un, .pl (frD t1 m1), .pl (frD t2 m2), .pl (ed (Tup.mk G)), q10, q11, q12, q13, .un, .un, q16, q17, q18, .un, .un, .un]) ?_ ?_
    · subst hG
      repeat walk_at "k"
      with_reducible refine KIf.mk (fun hb => ?_) (fun hb => ?_)
      · subst hb
        repeat walk_at "w"
        rfl
      · subst hb
        repeat walk_at "w"
        rfl
    rintro _ rfl
    repeat walk_at "k"
    with_reducible refine KIf.no (by simp [gtake]) ?_
    walk_at "k"
    walk_at "k"
    have gt1 : (G.take 1).length ≤ 1 := by rw [List.length_take]; omega
    have gd1 : (G.drop 1).length ≤ 36 := by rw [List.length_drop]; omega
    have gdl : G.dropLast.length ≤ 36 := by rw [List.length_dropLast]; omega
    with_reducible refine WSs.seq (fun ρ => ∃ T : List D, ρ = [.pl (ed ns), .ow d, .ow (ed (allP t1.length t2.length)), q3, .pl (ed both), .pl (ed (Tup.mk G)), .un, .pl (frD t1 m1), .pl (frD t2 m2), .pl (ed (Tup.mk G)), .ow (ed T), q11, q12, q13, .un, .un, q16, q17, q18, .un, .un, .un] ∧ T.length = 13 ∧ ∀ v ∈ T, Good t1.length t2.length v) ?_ ?_
    · repeat walk_at "k"
      refine ⟨_, by rw [list_ed], rfl, fun v hv => ?_⟩
      refine mem_good hv (good_ed (by omega)) fun hv => ?_
      refine mem_good hv (good_ed (by omega)) fun hv => ?_
      refine mem_good hv (good_ed (by omega)) fun hv => ?_
      refine mem_good hv (good_ed (by rw [List.length_reverse]; omega)) fun hv => ?_
      refine mem_good hv (good_no rfl) fun hv => ?_
      refine mem_good hv (good_ed (by rw [List.length_append]; omega)) fun hv => ?_
      refine mem_good hv (good_tuple (by decide)) fun hv => ?_
      refine mem_good hv (good_no rfl) fun hv => ?_
      refine mem_good hv (good_no rfl) fun hv => ?_
      refine mem_good hv (good_ed (by omega)) fun hv => ?_
      refine mem_good hv (good_tuple (by simp)) fun hv => ?_
      refine mem_good hv (good_tuple (by simp)) fun hv => ?_
      refine mem_good hv (good_tuple (by simp)) fun hv => ?_
      cases hv
    rintro _ ⟨T, rfl, hTl, hT⟩
    with_reducible refine WSs.seq (fun ρ => ∃ T : List D, ρ = [.pl (ed ns), .ow d, .ow (ed (allP t1.length t2.length)), q3, .pl (ed both), .pl (ed (Tup.mk G)), .un, .pl (frD t1 m1), .pl (frD t2 m2), .pl (ed (Tup.mk G)), .ow (ed T), q11, q12, q13, .un, .un, q16, q17, q18, .un, .un, .un] ∧ T.length = 18 ∧ ∀ v ∈ T, Good t1.length t2.length v) ?_ ?_
    · repeat walk_at "k"
      refine ⟨_, rfl, by simp [hTl], fun v hv => ?_⟩
      rcases List.mem_append.mp hv with hv | hv
      · exact hT v hv
      refine mem_good hv (good_tuple (by simp)) fun hv => ?_
      refine mem_good hv (good_tuple (by simp)) fun hv => ?_
      refine mem_good hv (good_tuple (by simp)) fun hv => ?_
      refine mem_good hv (good_tuple (by simp)) fun hv => ?_
      refine mem_good hv (good_tuple (by simp)) fun hv => ?_
      cases hv
    rintro _ ⟨T, rfl, hTl, hT⟩
    with_reducible refine WSs.seq (fun ρ => ∃ (d : D) (T : List D) (q11 q16 : RV), ρ = [.pl (ed ns), .ow d, .ow (ed (allP t1.length t2.length)), q3, .pl (ed both), .pl (ed (Tup.mk G)), .un, .pl (frD t1 m1), .pl (frD t2 m2), .pl (ed (Tup.mk G)), .ow (ed T), q11, q12, q13, .un, .un, q16, q17, q18, .un, .un, .un] ∧ Dr d ∧ T.length ≤ 30 ∧ (∀ v ∈ T, Good t1.length t2.length v) ∧ q11.free = true ∧ q16.free = true) ?_ ?_
    · repeat walk_at "k"
      with_reducible refine KFor.mk (fun (done _ : List Nat) ρ => ∃ (d : D) (T : List D) (q11 q16 : RV), ρ = [.pl (ed ns), .ow d, .ow (ed (allP t1.length t2.length)), q3, .pl (ed both), .pl (ed (Tup.mk G)), .un, .pl (frD t1 m1), .pl (frD t2 m2), .pl (ed (Tup.mk G)), .ow (ed T), q11, q12, q13, .un, .un, q16, q17, q18, .un, .un, .un] ∧ Dr d ∧ T.length = 18 + 2 * done.length ∧ (∀ v ∈ T, Good t1.length t2.length v) ∧ q11.free = true ∧ q16.free = true) ?_ ?_ ?_
      · exact ⟨_, T, _, _, rfl, hd, hTl, hT, f11, f16⟩
      · rintro done2 turn left2 _ e2 ⟨d, T, q11, q16, rfl, hd, hTl, hT, f11, f16⟩
        have hdl := len_of_split e2
        walk_at "w"
        with_reducible refine WSs.seq (fun ρ => ∃ (d : D) (z : Nat × Nat), ρ = [.pl (ed ns), .ow d, .ow (ed (allP t1.length t2.length)), q3, .pl (ed both), .pl (ed (Tup.mk G)), .un, .pl (frD t1 m1), .pl (frD t2 m2), .pl (ed (Tup.mk G)), .ow (ed T), .pl (ed turn), q12, q13, .un, .un, .pl (ed z), q17, q18, .un, .un, .un] ∧ Dr d) ?_ ?_
        · repeat walk_at "k"
          with_reducible refine KIf.mk (fun hb => ?_) (fun hb => ?_)
          · have hG0 : 0 < G.length := by
              cases G with
              | nil => simp at hb
              | cons => simp
            repeat walk_at "k"
            exact ⟨_, _, rfl, by assumption⟩
          · repeat walk_at "k"
            exact ⟨_, (0, 0), rfl, hd⟩
        rintro _ ⟨d, z, rfl, hd⟩
        repeat walk_at "k"
        apply KComp.drawIf (d := d) (fun _ : Nat × Nat => True)
        · rfl
        · walk_at "wipe"
        · exact hd
        · intro _; simp only [restE, List.set_cons_zero, List.set_cons_succ, List.getD_cons_succ, List.getD_cons_zero]; rfl
        · intro p hp d' hd'
          repeat walk_at "ks"
          · with_reducible refine KIf.mk (fun hb2 => ?_) (fun hb2 => ?_)
            · repeat walk_at "k"
              exact ⟨_, _, rfl, trivial, by assumption, rfl⟩
            · exact ⟨_, by assumption, rfl⟩
          · with_reducible refine KIf.mk (fun hb2 => by cases hb2) (fun hb2 => ?_)
            exact ⟨_, hd', rfl⟩
        intro R d' hR _ hd'
        have hR : R.length ≤ G.length := hR
        have hT2 : (T ++ [(ed (Tup.mk R) : D)]).length < 16777216 := by rw [List.length_append, List.length_singleton]; have := done2.length; omega
        repeat walk_at "k"
        rename_i v d3 hv hd3
        have hz := mem_allP.mp (gt_mem hv)
        have hs := q_setL (G ++ [gt (allP t1.length t2.length) v]) (fun p hp => by
          rcases List.mem_append.mp hp with hp | hp
          · have := gin p hp; omega
          · rw [List.mem_singleton.mp hp]; omega) (by simp; omega)
        repeat walk_at "k"
        refine ⟨_, _, _, _, rfl, hd3, by simp; omega, fun v2 hv2 => ?_, rfl, rfl⟩
        rcases List.mem_append.mp hv2 with hv2 | hv2
        · rcases List.mem_append.mp hv2 with hv2 | hv2
          · exact hT v2 hv2
          · rw [List.mem_singleton.mp hv2]; exact good_ed (by omega)
        · rw [List.mem_singleton.mp hv2]
          exact good_ed (by have hq := SLO.len_sort (O := natO) (G ++ [gt (allP t1.length t2.length) v]); rw [List.length_append (as := G), List.length_singleton] at hq; omega)
      · rintro _ ⟨d, T, q11, q16, rfl, hd, hTl, hT, f11, f16⟩
        repeat walk_at "k"
        exact ⟨_, T, _, _, rfl, hd, by rw [hTl]; decide, hT, f11, f16⟩
    rintro _ ⟨d, T, q11, q16, rfl, hd, hTl, hT, f11, f16⟩
    with_reducible refine WSs.seq (fun ρ => ∃ (T : List D) (q12 q17 : RV), ρ = [.pl (ed ns), .ow d, .ow (ed (allP t1.length t2.length)), q3, .pl (ed both), .pl (ed (Tup.mk G)), .un, .pl (frD t1 m1), .pl (frD t2 m2), .pl (ed (Tup.mk G)), .ow (ed T), q11, q12, q13, .un, .un, q16, q17, q18, .un, .un, .un] ∧ (∀ v ∈ T, Good t1.length t2.length v) ∧ q12.free = true ∧ q17.free = true) ?_ ?_
    · repeat walk_at "k"
      with_reducible refine KFor.mk (fun (done _ : List Nat) ρ => ∃ (T : List D) (q12 q17 : RV), ρ = [.pl (ed ns), .ow d, .ow (ed (allP t1.length t2.length)), q3, .pl (ed both), .pl (ed (Tup.mk G)), .un, .pl (frD t1 m1), .pl (frD t2 m2), .pl (ed (Tup.mk G)), .ow (ed T), q11, q12, q13, .un, .un, q16, q17, q18, .un, .un, .un] ∧ T.length ≤ 30 + done.length ∧ (∀ v ∈ T, Good t1.length t2.length v) ∧ q12.free = true ∧ q17.free = true) ?_ ?_ ?_
      · exact ⟨T, _, _, rfl, hTl, hT, f12, f17⟩
      · rintro done2 j left2 _ e2 ⟨T, q12, q17, rfl, hTl, hT, f12, f17⟩
        have hdl := len_of_split e2
        repeat walk_at "k"
        apply KComp.mk (p := fun p : Nat × Nat => fitsB t1 m1 t2 m2 (G.take j) p.1 p.2 both) (g := fun p : Nat × Nat => p)
        · rfl
        · walk_at "wipe"
        · rintro ⟨x, y⟩ hp
          have e3 : x < t1.length := (gin _ hp).1
          have e4 : y < t2.length := (gin _ hp).2
          repeat walk_at "w"
        rw [List.map_id']
        have hfl := List.length_filter_le (fun p : Nat × Nat => fitsB t1 m1 t2 m2 (G.take j) p.1 p.2 both) G
        repeat walk_at "k"
        refine ⟨_, _, _, rfl, by simp; omega, fun v hv => ?_, rfl, rfl⟩
        rcases List.mem_append.mp hv with hv | hv
        · exact hT v hv
        · rw [List.mem_singleton.mp hv]; exact good_ed (by omega)
      · rintro _ ⟨T, q12, q17, rfl, hTl, hT, f12, f17⟩
        repeat walk_at "k"
        exact ⟨T, _, _, rfl, hT, f12, f17⟩
    rintro _ ⟨T, q12, q17, rfl, hT, f12, f17⟩
    repeat walk_at "k"
    with_reducible refine KFor.mk (fun (_ _ : List D) ρ => ∃ (q13 q18 : RV), ρ = [.pl (ed ns), .ow d, .ow (ed (allP t1.length t2.length)), q3, .pl (ed both), .pl (ed (Tup.mk G)), .un, .pl (frD t1 m1), .pl (frD t2 m2), .pl (ed (Tup.mk G)), .pl (ed T), q11, q12, q13, .un, .un, q16, q17, q18, .un, .un, .un] ∧ q13.free = true ∧ q18.free = true) ?_ ?_ ?_
    · exact ⟨_, _, rfl, f13, f18⟩
    · rintro done2 v left2 _ e2 ⟨q13, q18, rfl, f13, f18⟩
      have hv : ∀ P, pairsD t1.length t2.length (ed v) = some P → P.length < 64 := hT v (by rw [e2]; simp)
      repeat walk_at "k"
      with_reducible refine KIf.mk (fun hb => ?_) (fun hb => ?_)
      · subst hb
        repeat walk_at "k"
        with_reducible refine KIf.no (by simp) ?_
        repeat walk_at "k"
        exact ⟨_, _, rfl, rfl, rfl⟩
      · subst hb
        repeat walk_at "k"
        with_reducible refine KIf.no (by simp) ?_
        repeat walk_at "k"
        exact ⟨_, _, rfl, rfl, rfl⟩
    rintro _ ⟨q13, q18, rfl, f13, f18⟩
    repeat walk_at "k"
    exact ⟨_, _, _, _, _, _, _, _, _, _, _, rfl, hd, rfl, rfl, rfl, rfl, f11, f12, f13, f16, f17, f18⟩
  rintro _ ⟨d, q4, q5, q9, q10, q11, q12, q13, q16, q17, q18, rfl, hd, f4, f5, f9, f10, f11, f12, f13, f16, f17, f18⟩
  have hp := layers_pos (f := stepB t1 m1 t2 m2 true) (P := markP m1 m2 t1.length t2.length)
  have gin := great_in (t1 := t1) (m1 := m1) (t2 := t2) (m2 := m2) (both := true)
  have glen := great_len (t1 := t1) (m1 := m1) (t2 := t2) (m2 := m2) (both := true) n1 n2
  have s1 := q_setN ((great t1 m1 t2 m2 true).map Prod.fst) (by rw [List.length_map]; omega)
  have s2 := q_setN ((great t1 m1 t2 m2 true).map Prod.snd) (by rw [List.length_map]; omega)
  have a1 := all_below (n := t1.length) (L := (great t1 m1 t2 m2 true).map Prod.fst) (fun x hx => by
    obtain ⟨p, hp, rfl⟩ := List.mem_map.mp hx; exact (gin p hp).1)
  have a2 := all_below (n := t2.length) (L := (great t1 m1 t2 m2 true).map Prod.snd) (fun x hx => by
    obtain ⟨p, hp, rfl⟩ := List.mem_map.mp hx; exact (gin p hp).2)
  with_reducible refine KNx.nx ?_
  with_reducible refine WSs.seq (fun ρ => ρ = [.pl (ed ns), .ow d, .ow (ed (allP t1.length t2.length)), q3, q4, .pl (ed (great t1 m1 t2 m2 true)), .un, .pl (frD t1 m1), .pl (frD t2 m2), q9, q10, q11, q12, q13, .un, .un, q16, q17, q18, .un, .un, .un]) ?_ ?_
  · repeat walk_at "k"
    rfl
  rintro _ rfl
  repeat walk_at "k"
  have c2 : ∀ (α : Prop), True := fun _ => trivial
  apply KComp.all (g := fun p : Nat × Nat => p.1)
  · rfl
  · walk_at "wipe"
  · rintro ⟨x, y⟩ hp
    repeat walk_at "w"
  repeat walk_at "k"
  apply KComp.all (g := fun p : Nat × Nat => p.2)
  · rfl
  · walk_at "wipe"
  · rintro ⟨x, y⟩ hp
    repeat walk_at "w"
  repeat walk_at "k"
  have hal : allM t1.length t2.length (great t1 m1 t2 m2 true) = (decide ((intO.sort (((great t1 m1 t2 m2 true).map Prod.fst).map fun k : Nat => (k : Int))).length = t1.length) && decide ((intO.sort (((great t1 m1 t2 m2 true).map Prod.snd).map fun k : Nat => (k : Int))).length = t2.length)) := by
    rw [a1, a2]; rfl
  with_reducible refine KIf.no ?_ ?_
  · rw [hal]; simp
  have f1 := h1.frame
  have f2 := h2.frame
  repeat walk_at "k"
  rename_i wrong d5 hw hd5
  with_reducible refine KIf.no ?_ ?_
  · have hw : isFrameD (ed wrong) = false := hw
    rw [f1, hw]; rfl
  repeat walk_at "k"
  apply KComp.all (g := fun _ : Nat => true)
  · rfl
  · walk_at "wipe"
  · intro w hw5
    have hw5 : w < 5 := List.mem_range.mp hw5
    have hl : isFrameD (ed wrong) = false ∨ isFrameD (frD t2 m2) = false := .inl hw
    have hr : isFrameD (frD t1 m1) = false ∨ isFrameD (ed wrong) = false := .inr hw
    repeat walk_at "w"
  repeat walk_at "k"
  rfl

end K73
end
set_option maxRecDepth 1000000
set_option maxHeartbeats 0
namespace K73
open PySem TK
def topS (i : Nat) : Stmt := PySem.Challenge.pw_tiekinds_k73_whole_matches_and_copies.main.body.getD i (.Pass ⟨0, 0, 0, 0⟩)
def d_is_whole : FD := { x := "is_whole", st := topS 4, ps := ["value"], N := ["value"], fn := f_is_whole }
def d_has : FD := { x := "has", st := topS 7, ps := ["items", "thing"], N := ["items", "thing"], fn := f_has }
def d_things_in : FD := { x := "things_in", st := topS 8, ps := ["items"], N := ["items", "k"], fn := f_things_in }
def d_is_tie : FD := { x := "is_tie", st := topS 9, ps := ["value"], N := ["value", "items"], fn := f_is_tie }
def d_is_thing : FD := { x := "is_thing", st := topS 10, ps := ["tie", "value"], N := ["tie", "value"], fn := f_is_thing }
def d_is_frame : FD := { x := "is_frame", st := topS 13, ps := ["value"], N := ["value", "tie", "marks", "mark"], fn := f_is_frame }
def d_check_frame : FD := { x := "check_frame", st := topS 14, ps := ["value"], N := ["value"], fn := f_check_frame }
def d_check_two : FD := { x := "check_two", st := topS 15, ps := ["one", "two"], N := ["one", "two"], fn := f_check_two }
def d_are_pairs : FD := { x := "are_pairs", st := topS 16, ps := ["one", "two", "value"], N := ["one", "two", "value", "first", "second", "pair", "x", "y"], fn := f_are_pairs }
def d_answers : FD := { x := "answers", st := topS 17, ps := ["one", "two", "pairs", "x", "y"], N := ["one", "two", "pairs", "x", "y", "v", "w"], fn := f_answers }
def d_answers_back : FD := { x := "answers_back", st := topS 18, ps := ["one", "two", "pairs", "x", "y"], N := ["one", "two", "pairs", "x", "y", "w", "v"], fn := f_answers_back }
def d_fits : FD := { x := "fits", st := topS 19, ps := ["one", "two", "pairs", "x", "y", "both"], N := ["one", "two", "pairs", "x", "y", "both"], fn := f_fits }
def d_takes_match : FD := { x := "takes_match", st := topS 20, ps := ["one", "two", "value"], N := ["one", "two", "value", "x", "y"], fn := f_takes_match }
def d_takes_copy : FD := { x := "takes_copy", st := topS 21, ps := ["one", "two", "value"], N := ["one", "two", "value", "x", "y"], fn := f_takes_copy }
def d_all_pairs : FD := { x := "all_pairs", st := topS 22, ps := ["one", "two"], N := ["one", "two", "found", "x", "y"], fn := f_all_pairs }
def d_layers : FD := { x := "layers", st := topS 23, ps := ["one", "two", "both"], N := ["one", "two", "both", "found", "after", "x", "y"], fn := f_layers }
def d_greatest_match : FD := { x := "greatest_match", st := topS 24, ps := ["one", "two"], N := ["one", "two"], fn := f_greatest_match }
def d_greatest_copy : FD := { x := "greatest_copy", st := topS 25, ps := ["one", "two"], N := ["one", "two"], fn := f_greatest_copy }
def d_all_matched : FD := { x := "all_matched", st := topS 26, ps := ["one", "two"], N := ["one", "two", "pairs", "firsts", "seconds", "x", "y"], fn := f_all_matched }
def d_law_draw : FD := { x := "_law_draw", st := topS 28, ps := ["script"], N := ["script", "seed", "cell"], fn := f_law_draw }
def d_law_take : FD := { x := "_law_take", st := topS 29, ps := ["draw", "many"], N := ["draw", "many", "found"], fn := f_law_take }
def d_law_says : FD := { x := "_law_says", st := topS 30, ps := ["value", "due"], N := ["value", "due"], fn := f_law_says }
def d_law_order : FD := { x := "_law_order", st := topS 31, ps := ["draw", "many"], N := ["draw", "many", "left", "order"], fn := f_law_order }
def d_law_styled : FD := { x := "_law_styled", st := topS 32, ps := ["draw", "style", "many"], N := ["draw", "style", "many", "level", "order", "thick", "found", "x", "row", "y", "any_truth"], fn := f_law_styled }
def d_law_tie : FD := { x := "_law_tie", st := topS 33, ps := ["draw", "most"], N := ["draw", "most", "many", "found", "mend", "k", "x", "y"], fn := f_law_tie }
def d_law_has : FD := { x := "_law_has", st := topS 34, ps := ["t", "x", "y"], N := ["t", "x", "y"], fn := f_law_has }
def d_law_thing : FD := { x := "_law_thing", st := topS 35, ps := ["t", "value"], N := ["t", "value"], fn := f_law_thing }
def d_law_frame : FD := { x := "_law_frame", st := topS 36, ps := ["draw", "most"], N := ["draw", "most", "t", "marks", "style", "x"], fn := f_law_frame }
def d_law_twice : FD := { x := "_law_twice", st := topS 37, ps := ["draw", "most"], N := ["draw", "most", "many", "rows", "one", "way", "x", "y", "names", "z", "marks", "items", "w"], fn := f_law_twice }
def d_law_odd_frame : FD := { x := "_law_odd_frame", st := topS 38, ps := ["draw", "one"], N := ["draw", "one", "rows", "t", "marks"], fn := f_law_odd_frame }
def d_law_ahead : FD := { x := "_law_ahead", st := topS 39, ps := ["t", "x"], N := ["t", "x", "y"], fn := f_law_ahead }
def d_law_fits : FD := { x := "_law_fits", st := topS 40, ps := ["one", "two", "pairs", "x", "y", "both"], N := ["one", "two", "pairs", "x", "y", "both", "firsts", "seconds", "w", "v"], fn := f_law_fits }
def d_law_layers : FD := { x := "_law_layers", st := topS 41, ps := ["one", "two", "both"], N := ["one", "two", "both", "now", "x", "rows", "size", "pair", "y"], fn := f_law_layers }
def d_law_pairs_right : FD := { x := "_law_pairs_right", st := topS 42, ps := ["one", "two", "value", "both"], N := ["one", "two", "value", "both", "pair"], fn := f_law_pairs_right }
def d_law_falls : FD := { x := "_law_falls", st := topS 43, ps := ["which", "one", "two"], N := ["which", "one", "two"], fn := f_law_falls }
def d_law : FD := { x := "law", st := topS 44, ps := ["script"], N := ["script", "draw", "every", "x", "both", "due", "wrong", "one", "two", "told", "tries", "turn", "k", "value", "firsts", "seconds", "drop", "less", "right", "which", "y", "pair"], fn := f_law }
def tab : List FD := [d_is_whole, d_has, d_things_in, d_is_tie, d_is_thing, d_is_frame, d_check_frame, d_check_two, d_are_pairs, d_answers, d_answers_back, d_fits, d_takes_match, d_takes_copy, d_all_pairs, d_layers, d_greatest_match, d_greatest_copy, d_all_matched, d_law_draw, d_law_take, d_law_says, d_law_order, d_law_styled, d_law_tie, d_law_has, d_law_thing, d_law_frame, d_law_twice, d_law_odd_frame, d_law_ahead, d_law_fits, d_law_layers, d_law_pairs_right, d_law_falls, d_law]
def bn : List Str := ["abs", "all", "any", "bool", "int", "isinstance", "len", "list", "range", "set", "sorted", "sum", "tuple", "zip"]
def gn : List Str := ["MOST_THINGS", "MOST_MARK"]
def cn : List Str := ["Malformed"]
theorem FT_eq : FT tab = FTm := by
  funext f
  unfold FT FTm
  rw [show fns = tab.map (·.fn) from rfl, List.getElem?_map]
theorem chk : tab.all (TK.chkF bn gn cn tab) = true := by decide +kernel
theorem math : ∀ ns : List Int, ns.length ≤ 63 → ∃ fs, callF gl (FT tab) 20 35 [.pl (.list (ns.map .int))] = some (.ok (.pl (.bool true)), fs) := fun ns h => by
  rw [FT_eq]
  obtain ⟨fs, h1, _⟩ := math0 0 ns h
  exact ⟨fs, h1⟩
end K73
open PySem PySem.W PyProof.Rows in
set_option maxHeartbeats 0 in
set_option maxRecDepth 100000 in
theorem PySem.Challenge.cw_tiekinds_k73_whole_matches_and_copies_holds : PySem.Challenge.rw_tiekinds_k73_whole_matches_and_copies.Holds := by
  w_on; o_law; k_head; (case hw => w_witness2)
  k_fill
  refine TK.law_walk (l := PySem.Challenge.rw_tiekinds_k73_whole_matches_and_copies) (n := 63) (k := 20) (x := "script") (cn := K73.cn) (cf := TK.callF K73.gl (TK.FT K73.tab) 20) (f := 35) rfl (by decide) rfl ⟨rfl, by decide, by decide⟩ (fun w h Y => PySem.W.kIn_of Y) K73.math ?F
  case F =>
    intro w mg fa h KX G hmg
    refine' TK.all_mk (d := K73.d_law) (f := 35) hmg rfl rfl (.cons (TK.funK (d := K73.d_is_whole) KX G ?a0 ?l0 ?c0 ?k0 (fun _ _ _ _ _ _ us hl => match us, hl with | [_], _ => rfl)) (.cons (TK.funK (d := K73.d_has) KX G ?a1 ?l1 ?c1 ?k1 (fun _ _ _ _ _ _ us hl => match us, hl with | [_, _], _ => rfl)) (.cons (TK.funK (d := K73.d_things_in) KX G ?a2 ?l2 ?c2 ?k2 (fun _ _ _ _ _ _ us hl => match us, hl with | [_], _ => rfl)) (.cons (TK.funK (d := K73.d_is_tie) KX G ?a3 ?l3 ?c3 ?k3 (fun _ _ _ _ _ _ us hl => match us, hl with | [_], _ => rfl)) (.cons (TK.funK (d := K73.d_is_thing) KX G ?a4 ?l4 ?c4 ?k4 (fun _ _ _ _ _ _ us hl => match us, hl with | [_, _], _ => rfl)) (.cons (TK.funK (d := K73.d_is_frame) KX G ?a5 ?l5 ?c5 ?k5 (fun _ _ _ _ _ _ us hl => match us, hl with | [_], _ => rfl)) (.cons (TK.funK (d := K73.d_check_frame) KX G ?a6 ?l6 ?c6 ?k6 (fun _ _ _ _ _ _ us hl => match us, hl with | [_], _ => rfl)) (.cons (TK.funK (d := K73.d_check_two) KX G ?a7 ?l7 ?c7 ?k7 (fun _ _ _ _ _ _ us hl => match us, hl with | [_, _], _ => rfl)) (.cons (TK.funK (d := K73.d_are_pairs) KX G ?a8 ?l8 ?c8 ?k8 (fun _ _ _ _ _ _ us hl => match us, hl with | [_, _, _], _ => rfl)) (.cons (TK.funK (d := K73.d_answers) KX G ?a9 ?l9 ?c9 ?k9 (fun _ _ _ _ _ _ us hl => match us, hl with | [_, _, _, _, _], _ => rfl)) (.cons (TK.funK (d := K73.d_answers_back) KX G ?a10 ?l10 ?c10 ?k10 (fun _ _ _ _ _ _ us hl => match us, hl with | [_, _, _, _, _], _ => rfl)) (.cons (TK.funK (d := K73.d_fits) KX G ?a11 ?l11 ?c11 ?k11 (fun _ _ _ _ _ _ us hl => match us, hl with | [_, _, _, _, _, _], _ => rfl)) (.cons (TK.funK (d := K73.d_takes_match) KX G ?a12 ?l12 ?c12 ?k12 (fun _ _ _ _ _ _ us hl => match us, hl with | [_, _, _], _ => rfl)) (.cons (TK.funK (d := K73.d_takes_copy) KX G ?a13 ?l13 ?c13 ?k13 (fun _ _ _ _ _ _ us hl => match us, hl with | [_, _, _], _ => rfl)) (.cons (TK.funK (d := K73.d_all_pairs) KX G ?a14 ?l14 ?c14 ?k14 (fun _ _ _ _ _ _ us hl => match us, hl with | [_, _], _ => rfl)) (.cons (TK.funK (d := K73.d_layers) KX G ?a15 ?l15 ?c15 ?k15 (fun _ _ _ _ _ _ us hl => match us, hl with | [_, _, _], _ => rfl)) (.cons (TK.funK (d := K73.d_greatest_match) KX G ?a16 ?l16 ?c16 ?k16 (fun _ _ _ _ _ _ us hl => match us, hl with | [_, _], _ => rfl)) (.cons (TK.funK (d := K73.d_greatest_copy) KX G ?a17 ?l17 ?c17 ?k17 (fun _ _ _ _ _ _ us hl => match us, hl with | [_, _], _ => rfl)) (.cons (TK.funK (d := K73.d_all_matched) KX G ?a18 ?l18 ?c18 ?k18 (fun _ _ _ _ _ _ us hl => match us, hl with | [_, _], _ => rfl)) (.cons (TK.funK (d := K73.d_law_draw) KX G ?a19 ?l19 ?c19 ?k19 (fun _ _ _ _ _ _ us hl => match us, hl with | [_], _ => rfl)) (.cons (TK.funK (d := K73.d_law_take) KX G ?a20 ?l20 ?c20 ?k20 (fun _ _ _ _ _ _ us hl => match us, hl with | [_, _], _ => rfl)) (.cons (TK.funK (d := K73.d_law_says) KX G ?a21 ?l21 ?c21 ?k21 (fun _ _ _ _ _ _ us hl => match us, hl with | [_, _], _ => rfl)) (.cons (TK.funK (d := K73.d_law_order) KX G ?a22 ?l22 ?c22 ?k22 (fun _ _ _ _ _ _ us hl => match us, hl with | [_, _], _ => rfl)) (.cons (TK.funK (d := K73.d_law_styled) KX G ?a23 ?l23 ?c23 ?k23 (fun _ _ _ _ _ _ us hl => match us, hl with | [_, _, _], _ => rfl)) (.cons (TK.funK (d := K73.d_law_tie) KX G ?a24 ?l24 ?c24 ?k24 (fun _ _ _ _ _ _ us hl => match us, hl with | [_, _], _ => rfl)) (.cons (TK.funK (d := K73.d_law_has) KX G ?a25 ?l25 ?c25 ?k25 (fun _ _ _ _ _ _ us hl => match us, hl with | [_, _, _], _ => rfl)) (.cons (TK.funK (d := K73.d_law_thing) KX G ?a26 ?l26 ?c26 ?k26 (fun _ _ _ _ _ _ us hl => match us, hl with | [_, _], _ => rfl)) (.cons (TK.funK (d := K73.d_law_frame) KX G ?a27 ?l27 ?c27 ?k27 (fun _ _ _ _ _ _ us hl => match us, hl with | [_, _], _ => rfl)) (.cons (TK.funK (d := K73.d_law_twice) KX G ?a28 ?l28 ?c28 ?k28 (fun _ _ _ _ _ _ us hl => match us, hl with | [_, _], _ => rfl)) (.cons (TK.funK (d := K73.d_law_odd_frame) KX G ?a29 ?l29 ?c29 ?k29 (fun _ _ _ _ _ _ us hl => match us, hl with | [_, _], _ => rfl)) (.cons (TK.funK (d := K73.d_law_ahead) KX G ?a30 ?l30 ?c30 ?k30 (fun _ _ _ _ _ _ us hl => match us, hl with | [_, _], _ => rfl)) (.cons (TK.funK (d := K73.d_law_fits) KX G ?a31 ?l31 ?c31 ?k31 (fun _ _ _ _ _ _ us hl => match us, hl with | [_, _, _, _, _, _], _ => rfl)) (.cons (TK.funK (d := K73.d_law_layers) KX G ?a32 ?l32 ?c32 ?k32 (fun _ _ _ _ _ _ us hl => match us, hl with | [_, _, _], _ => rfl)) (.cons (TK.funK (d := K73.d_law_pairs_right) KX G ?a33 ?l33 ?c33 ?k33 (fun _ _ _ _ _ _ us hl => match us, hl with | [_, _, _, _], _ => rfl)) (.cons (TK.funK (d := K73.d_law_falls) KX G ?a34 ?l34 ?c34 ?k34 (fun _ _ _ _ _ _ us hl => match us, hl with | [_, _, _], _ => rfl)) (.cons (TK.funK (d := K73.d_law) KX G ?a35 ?l35 ?c35 ?k35 (fun _ _ _ _ _ _ us hl => match us, hl with | [_], _ => rfl)) (.nil))))))))))))))))))))))))))))))))))))) (TK.top1 KX G (TK.bn_cons (PySem.W.mg_none_of KX G ?z0) (TK.bn_cons (PySem.W.mg_none_of KX G ?z1) (TK.bn_cons (PySem.W.mg_none_of KX G ?z2) (TK.bn_cons (PySem.W.mg_none_of KX G ?z3) (TK.bn_cons (PySem.W.mg_none_of KX G ?z4) (TK.bn_cons (PySem.W.mg_none_of KX G ?z5) (TK.bn_cons (PySem.W.mg_none_of KX G ?z6) (TK.bn_cons (PySem.W.mg_none_of KX G ?z7) (TK.bn_cons (PySem.W.mg_none_of KX G ?z8) (TK.bn_cons (PySem.W.mg_none_of KX G ?z9) (TK.bn_cons (PySem.W.mg_none_of KX G ?z10) (TK.bn_cons (PySem.W.mg_none_of KX G ?z11) (TK.bn_cons (PySem.W.mg_none_of KX G ?z12) (TK.bn_cons (PySem.W.mg_none_of KX G ?z13) (TK.bn_nil))))))))))))))) (TK.gn_cons (TK.gn_int KX G ?tg0) (TK.gn_cons (TK.gn_int KX G ?tg1) (TK.gn_nil))) PySem.F.excBase_ValueError ?txa ?txk ?txq ?txs ?txt ?txe) K73.chk
    (case a0 => first | k_is | rfl)
    (case l0 => first | k_is | rfl)
    (case c0 => first | k_is | rfl)
    (case k0 => first | k_is | rfl)
    (case a1 => first | k_is | rfl)
    (case l1 => first | k_is | rfl)
    (case c1 => first | k_is | rfl)
    (case k1 => first | k_is | rfl)
    (case a2 => first | k_is | rfl)
    (case l2 => first | k_is | rfl)
    (case c2 => first | k_is | rfl)
    (case k2 => first | k_is | rfl)
    (case a3 => first | k_is | rfl)
    (case l3 => first | k_is | rfl)
    (case c3 => first | k_is | rfl)
    (case k3 => first | k_is | rfl)
    (case a4 => first | k_is | rfl)
    (case l4 => first | k_is | rfl)
    (case c4 => first | k_is | rfl)
    (case k4 => first | k_is | rfl)
    (case a5 => first | k_is | rfl)
    (case l5 => first | k_is | rfl)
    (case c5 => first | k_is | rfl)
    (case k5 => first | k_is | rfl)
    (case a6 => first | k_is | rfl)
    (case l6 => first | k_is | rfl)
    (case c6 => first | k_is | rfl)
    (case k6 => first | k_is | rfl)
    (case a7 => first | k_is | rfl)
    (case l7 => first | k_is | rfl)
    (case c7 => first | k_is | rfl)
    (case k7 => first | k_is | rfl)
    (case a8 => first | k_is | rfl)
    (case l8 => first | k_is | rfl)
    (case c8 => first | k_is | rfl)
    (case k8 => first | k_is | rfl)
    (case a9 => first | k_is | rfl)
    (case l9 => first | k_is | rfl)
    (case c9 => first | k_is | rfl)
    (case k9 => first | k_is | rfl)
    (case a10 => first | k_is | rfl)
    (case l10 => first | k_is | rfl)
    (case c10 => first | k_is | rfl)
    (case k10 => first | k_is | rfl)
    (case a11 => first | k_is | rfl)
    (case l11 => first | k_is | rfl)
    (case c11 => first | k_is | rfl)
    (case k11 => first | k_is | rfl)
    (case a12 => first | k_is | rfl)
    (case l12 => first | k_is | rfl)
    (case c12 => first | k_is | rfl)
    (case k12 => first | k_is | rfl)
    (case a13 => first | k_is | rfl)
    (case l13 => first | k_is | rfl)
    (case c13 => first | k_is | rfl)
    (case k13 => first | k_is | rfl)
    (case a14 => first | k_is | rfl)
    (case l14 => first | k_is | rfl)
    (case c14 => first | k_is | rfl)
    (case k14 => first | k_is | rfl)
    (case a15 => first | k_is | rfl)
    (case l15 => first | k_is | rfl)
    (case c15 => first | k_is | rfl)
    (case k15 => first | k_is | rfl)
    (case a16 => first | k_is | rfl)
    (case l16 => first | k_is | rfl)
    (case c16 => first | k_is | rfl)
    (case k16 => first | k_is | rfl)
    (case a17 => first | k_is | rfl)
    (case l17 => first | k_is | rfl)
    (case c17 => first | k_is | rfl)
    (case k17 => first | k_is | rfl)
    (case a18 => first | k_is | rfl)
    (case l18 => first | k_is | rfl)
    (case c18 => first | k_is | rfl)
    (case k18 => first | k_is | rfl)
    (case a19 => first | k_is | rfl)
    (case l19 => first | k_is | rfl)
    (case c19 => first | k_is | rfl)
    (case k19 => first | k_is | rfl)
    (case a20 => first | k_is | rfl)
    (case l20 => first | k_is | rfl)
    (case c20 => first | k_is | rfl)
    (case k20 => first | k_is | rfl)
    (case a21 => first | k_is | rfl)
    (case l21 => first | k_is | rfl)
    (case c21 => first | k_is | rfl)
    (case k21 => first | k_is | rfl)
    (case a22 => first | k_is | rfl)
    (case l22 => first | k_is | rfl)
    (case c22 => first | k_is | rfl)
    (case k22 => first | k_is | rfl)
    (case a23 => first | k_is | rfl)
    (case l23 => first | k_is | rfl)
    (case c23 => first | k_is | rfl)
    (case k23 => first | k_is | rfl)
    (case a24 => first | k_is | rfl)
    (case l24 => first | k_is | rfl)
    (case c24 => first | k_is | rfl)
    (case k24 => first | k_is | rfl)
    (case a25 => first | k_is | rfl)
    (case l25 => first | k_is | rfl)
    (case c25 => first | k_is | rfl)
    (case k25 => first | k_is | rfl)
    (case a26 => first | k_is | rfl)
    (case l26 => first | k_is | rfl)
    (case c26 => first | k_is | rfl)
    (case k26 => first | k_is | rfl)
    (case a27 => first | k_is | rfl)
    (case l27 => first | k_is | rfl)
    (case c27 => first | k_is | rfl)
    (case k27 => first | k_is | rfl)
    (case a28 => first | k_is | rfl)
    (case l28 => first | k_is | rfl)
    (case c28 => first | k_is | rfl)
    (case k28 => first | k_is | rfl)
    (case a29 => first | k_is | rfl)
    (case l29 => first | k_is | rfl)
    (case c29 => first | k_is | rfl)
    (case k29 => first | k_is | rfl)
    (case a30 => first | k_is | rfl)
    (case l30 => first | k_is | rfl)
    (case c30 => first | k_is | rfl)
    (case k30 => first | k_is | rfl)
    (case a31 => first | k_is | rfl)
    (case l31 => first | k_is | rfl)
    (case c31 => first | k_is | rfl)
    (case k31 => first | k_is | rfl)
    (case a32 => first | k_is | rfl)
    (case l32 => first | k_is | rfl)
    (case c32 => first | k_is | rfl)
    (case k32 => first | k_is | rfl)
    (case a33 => first | k_is | rfl)
    (case l33 => first | k_is | rfl)
    (case c33 => first | k_is | rfl)
    (case k33 => first | k_is | rfl)
    (case a34 => first | k_is | rfl)
    (case l34 => first | k_is | rfl)
    (case c34 => first | k_is | rfl)
    (case k34 => first | k_is | rfl)
    (case a35 => first | k_is | rfl)
    (case l35 => first | k_is | rfl)
    (case c35 => first | k_is | rfl)
    (case k35 => first | k_is | rfl)
    (case z0 => first | k_is | rfl)
    (case z1 => first | k_is | rfl)
    (case z2 => first | k_is | rfl)
    (case z3 => first | k_is | rfl)
    (case z4 => first | k_is | rfl)
    (case z5 => first | k_is | rfl)
    (case z6 => first | k_is | rfl)
    (case z7 => first | k_is | rfl)
    (case z8 => first | k_is | rfl)
    (case z9 => first | k_is | rfl)
    (case z10 => first | k_is | rfl)
    (case z11 => first | k_is | rfl)
    (case z12 => first | k_is | rfl)
    (case z13 => first | k_is | rfl)
    (case tg0 => first | k_is | rfl)
    (case tg1 => first | k_is | rfl)
    (case txa => first | k_is | rfl)
    (case txk => first | k_is | rfl)
    (case txq => k_exc)
    (case txs => first | k_is | rfl)
    (case txt => first | k_is | rfl)
    (case txe => first | k_is | rfl)
