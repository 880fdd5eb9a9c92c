import PyProof.Rows.All
import Wide.All
import OpenK.AllK
import Wide.FinOn
import HandS.ForMost
import HandS.Wide
import HandS.WideMore
import HandS.Style
import HandS.Deep
import PySem.Challenge.RW_roothold_k21_sums_of_powers_of_products
set_option Elab.async false
set_option linter.all false
set_option maxRecDepth 100000
/-! Mini: data, syntax, and the evaluator. -/
namespace Mn
open PySem L2

inductive D where
  | non | bl (b : Bool) | int (i : Int) | str (x : Str) | hd | ext (ns : List Int) | tup (xs : List D) | lst (xs : List D)
  deriving Inhabited

mutual
def D.beq : D → D → Bool
  | .non, .non => true
  | .bl a, .bl b => a == b
  | .int a, .int b => a == b
  | .str a, .str b => decide (a = b)
  | .hd, .hd => true
  | .ext a, .ext b => decide (a = b)
  | .tup a, .tup b => beqs a b
  | .lst a, .lst b => beqs a b
  | _, _ => false
def beqs : List D → List D → Bool
  | [], [] => true
  | a :: as, b :: bs => D.beq a b && beqs as bs
  | _, _ => false
end
mutual
theorem D.beq_sound : ∀ (a b : D), D.beq a b = true → a = b
  | .tup a, b, h => by
    cases b <;> simp only [D.beq] at h <;> first | (exact congrArg D.tup (beqs_sound a _ h)) | cases h
  | .lst a, b, h => by
    cases b <;> simp only [D.beq] at h <;> first | (exact congrArg D.lst (beqs_sound a _ h)) | cases h
  | .non, b, h => by cases b <;> simp_all [D.beq]
  | .bl a, b, h => by cases b <;> simp_all [D.beq]
  | .int a, b, h => by cases b <;> simp_all [D.beq]
  | .str a, b, h => by cases b <;> simp_all [D.beq]
  | .hd, b, h => by cases b <;> simp_all [D.beq]
  | .ext a, b, h => by cases b <;> simp_all [D.beq]
theorem beqs_sound : ∀ (a b : List D), beqs a b = true → a = b
  | [], b, h => by cases b <;> simp_all [beqs]
  | x :: a, b, h => by
    cases b with
    | nil => simp [beqs] at h
    | cons y b =>
      simp only [beqs, Bool.and_eq_true] at h
      rw [D.beq_sound x y h.1, beqs_sound a b h.2]
end
mutual
theorem D.beq_rfl : ∀ (a : D), D.beq a a = true
  | .tup a => by simp only [D.beq]; exact beqs_rfl a
  | .lst a => by simp only [D.beq]; exact beqs_rfl a
  | .non => rfl
  | .bl a => by simp [D.beq]
  | .int a => by simp [D.beq]
  | .str a => by simp [D.beq]
  | .hd => rfl
  | .ext a => by simp [D.beq]
theorem beqs_rfl : ∀ (a : List D), beqs a a = true
  | [] => rfl
  | x :: a => by simp only [beqs, D.beq_rfl x, beqs_rfl a]; rfl
end
instance : DecidableEq D := fun a b => decidable_of_iff (D.beq a b = true) ⟨D.beq_sound a b, fun h => by subst h; exact D.beq_rfl a⟩
mutual
def D.pd : D → Option PyData
  | .non => some .none
  | .bl b => some (.bool b)
  | .int i => some (.int i)
  | .str x => some (.str x)
  | .hd => none
  | .ext _ => none
  | .tup xs => (pds xs).map .tuple
  | .lst xs => (pds xs).map .list
def pds : List D → Option (List PyData)
  | [] => some []
  | x :: xs => match x.pd, pds xs with
    | some a, some as => some (a :: as)
    | _, _ => none
end

def eqD (a b : D) : Option Bool := match a.pd, b.pd with
  | some p, some q => if SeqAt.shaped p = true ∧ SeqAt.shaped q = true then some (PyData.eqv p q) else none
  | _, _ => none

/-- a result: shared data; a new list; a view of an owned list; of an owned list of owned lists -/
inductive R where
  | sh (d : D) | fr (ds : List D) | vw (ds : List D) | vw2 (dss : List (List D)) | fr2 (dss : List (List D))
  deriving Inhabited
def R.toD : R → Option D
  | .sh d => some d
  | .fr ds => some (.lst ds)
  | .fr2 dss => some (.lst (dss.map .lst))
  | _ => none
def R.view : R → D
  | .sh d => d
  | .fr ds => .lst ds
  | .vw ds => .lst ds
  | .vw2 dss => .lst (dss.map .lst)
  | .fr2 dss => .lst (dss.map .lst)
/-- the items of a list -/
def R.items : R → Option (List D)
  | .sh (.lst ds) => some ds
  | .fr ds => some ds
  | .vw ds => some ds
  | _ => none
/-- .. but not the items of an owned one, where ow is false -/
def R.itemsB (ow : Bool) : R → Option (List D)
  | .vw ds => if ow = true then some ds else none
  | r => r.items
def toDs : List R → Option (List D)
  | [] => some []
  | r :: rs => match r.toD, toDs rs with
    | some d, some ds => some (d :: ds)
    | _, _ => none

inductive Slot where
  | un | sh (d : D) | ow (ds : List D) | ow2 (dss : List (List D))
  deriving Inhabited
abbrev Env := List Slot
abbrev Zs := Option Int
inductive Out where
  | nx (ρ : Env) | ret (r : R) | bk (ρ : Env) | ct (ρ : Env)
abbrev CallF := Nat → List D → Zs → Option (R × Zs)

inductive BOp where
  | add | sub | mul | fdiv | mod | pow | band
  deriving DecidableEq
inductive COp where
  | eq | ne | lt | le | gt | ge | isn | notn | isin | notin
  deriving DecidableEq
inductive Bi where
  | len | abs | max2 | min2 | maxl | minl | int | list | tuple | sum
  deriving DecidableEq
inductive MT where
  | nm (i : Nat) | tp (is : List Nat)
  deriving DecidableEq

mutual
inductive ME where
  | var (i : Nat) | nvar (i : Nat) | lit (d : D)
  | bin (op : BOp) (a b : ME) | neg (a : ME) | not (a : ME)
  | cmp (op : COp) (a b : ME) | chain (p q : COp) (a b c : ME)
  | and (a b : ME) | or (a b : ME) | ite (c a b : ME)
  | tup (l : MEs) | lst (l : MEs) | sub (a i : ME) | slice (a : ME) (lo hi : MO) | rev (a : ME)
  | call (f : Nat) (l : MEs) | bi (b : Bi) (l : MEs)
  | comp (elt : ME) (tg : MT) (it : MI) (cs : MO) (own : List Nat)
  | comp2 (elt : ME) (tg : MT) (it : MI) (own : List Nat)
  deriving DecidableEq
inductive MEs where
  | nil | cons (a : ME) (l : MEs)
  deriving DecidableEq
inductive MO where
  | none | some (a : ME)
  deriving DecidableEq
inductive MI where
  | ls (a : ME) | rg1 (a : ME) | rg2 (a b : ME) | en (a : ME) | rv (a : ME) | zp (a b : ME)
  deriving DecidableEq
end

inductive Tg where
  | nm (i : Nat) | sb (i : Nat) (x : ME)
  deriving DecidableEq

mutual
inductive MS where
  | asg (fz : List Nat) (i : Nat) (e : ME)
  | asgT (fz : List Nat) (is : List Nat) (e : ME)
  | par (fz : List Nat) (is : List Nat) (l : MEs)
  | parO (fz : List Nat) (i : Nat) (is : List Nat) (l : MEs)
  | set (fz : List Nat) (i : Nat) (x e : ME)
  | set2 (fz : List Nat) (i : Nat) (x y e : ME)
  | swap (i : Nat) (x y : ME)
  | tgs (fz : List Nat) (ts : List Tg) (l : MEs)
  | augN (fz : List Nat) (op : BOp) (i : Nat) (e : ME)
  | augS (fz : List Nat) (op : BOp) (i : Nat) (x e : ME)
  | ite (fz : List Nat) (c : ME) (a b : MSs)
  | whl (fz : List Nat) (c : ME) (b : MSs)
  | loop (fz : List Nat) (tg : MT) (it : MI) (b : MSs)
  | ret (fz : List Nat) (e : ME) | retv (i : Nat) | ret0 | brk | cnt | pass
  | app (fz : List Nat) (i : Nat) (e : ME) | ext (fz : List Nat) (i : Nat) (e : ME) | popx (i : Nat) | popT (tg : MT) (i : Nat) | rvs (i : Nat)
  | mkst (fz : List Nat) (i : Nat) (e : ME)
  | never
  deriving DecidableEq
inductive MSs where
  | nil | cons (s : MS) (l : MSs)
  deriving DecidableEq
end

/-- one after the other -/
def bd {α β : Type} (m : Option (α × Zs)) (f : α → Zs → Option β) : Option β := match m with
  | some (a, z) => f a z
  | none => none
@[simp] theorem bd_some {α β : Type} (a : α) (z : Zs) (f : α → Zs → Option β) : bd (some (a, z)) f = f a z := rfl
@[simp] theorem bd_none {α β : Type} (f : α → Zs → Option β) : bd none f = none := rfl
theorem bd_eq {α β : Type} {m : Option (α × Zs)} {f : α → Zs → Option β} {b : β} (h : bd m f = some b) : ∃ a z, m = some (a, z) ∧ f a z = some b := by
  cases m with
  | none => cases h
  | some p => obtain ⟨a, z⟩ := p; exact ⟨a, z, rfl, h⟩

def small (n : Nat) : Bool := decide (n ≤ 16777216)
def mulOk (i j : Int) : Bool := (decide (-18446744073709551616 < i) && decide (i < 18446744073709551616)) || (decide (-18446744073709551616 < j) && decide (j < 18446744073709551616)) || decide (i.natAbs.log2 + j.natAbs.log2 < 1000000)
def intR (f : Int → Int → Option Int) (x y : R) : Option R := match x, y with
  | .sh (.int i), .sh (.int j) => (f i j).map fun o => .sh (.int o)
  | _, _ => none
def catR (x y : R) : Option R := match x.items, y.items with
  | some a, some b => if small (a.length + b.length) = true then some (.fr (a ++ b)) else none
  | _, _ => none
def repR (x y : R) : Option R := match x.items, y with
  | some ds, .sh (.int k) => if small (ds.length * k.toNat) = true ∧ -9223372036854775808 ≤ k ∧ k < 9223372036854775808 then some (.fr (List.replicate k.toNat ds).flatten) else none
  | _, _ => none
def binR : BOp → R → R → Option R
  | .add, x, y => (intR (fun i j => some (i + j)) x y).or (catR x y)
  | .sub, x, y => intR (fun i j => some (i - j)) x y
  | .mul, x, y => (intR (fun i j => if mulOk i j = true then some (i * j) else none) x y).or (repR x y)
  | .fdiv, x, y => intR (fun i j => if j ≠ 0 ∧ j.natAbs.log2 < 9000 then some (i.fdiv j) else none) x y
  | .mod, x, y => intR (fun i j => if j ≠ 0 then some (i.fmod j) else none) x y
  | .pow, x, y => intR (fun i j => if 0 ≤ j ∧ j ≤ 1000000 ∧ i.natAbs < 18446744073709551616 then some (i ^ j.toNat) else none) x y
  | .band, x, y => intR (fun i j => some (Builtin.bitAnd i j)) x y
/-- x op= y -/
def ibinR : BOp → R → R → Option R
  | .add, x, y => intR (fun i j => some (i + j)) x y
  | .sub, x, y => intR (fun i j => some (i - j)) x y
  | .mul, x, y => intR (fun i j => if mulOk i j = true then some (i * j) else none) x y
  | .fdiv, x, y => intR (fun i j => if j ≠ 0 ∧ j.natAbs.log2 < 9000 then some (i.fdiv j) else none) x y
  | .mod, x, y => intR (fun i j => if 0 < j then some (i % j) else none) x y
  | .pow, _, _ => none
  | .band, x, y => intR (fun i j => some (Builtin.bitAnd i j)) x y
def ordR (f : Int → Int → Bool) (x y : R) : Option Bool := match x, y with
  | .sh (.int i), .sh (.int j) => some (f i j)
  | _, _ => none
def isNoneR : R → Bool
  | .sh .non => true
  | _ => false
def inR (x y : R) : Option Bool := match x.view.pd, y.view.pd with
  | some d, some (.list ds) => if SeqAt.shaped d = true ∧ SeqAt.shaped (.list ds) = true then some (ds.any fun u => PyData.eqv u d) else none
  | _, _ => none
def cmpR : COp → R → R → Option Bool
  | .eq, x, y => eqD x.view y.view
  | .ne, x, y => (eqD x.view y.view).map (!·)
  | .lt, x, y => ordR (fun i j => decide (i < j)) x y
  | .le, x, y => ordR (fun i j => decide (i ≤ j)) x y
  | .gt, x, y => ordR (fun i j => decide (j < i)) x y
  | .ge, x, y => ordR (fun i j => decide (j ≤ i)) x y
  | .isn, x, y => if isNoneR y = true then some (isNoneR x) else none
  | .notn, x, y => if isNoneR y = true then some (!isNoneR x) else none
  | .isin, x, y => inR x y
  | .notin, x, y => (inR x y).map (!·)
def intsOf : List D → Option (List Int)
  | [] => some []
  | .int i :: ds => (intsOf ds).map (i :: ·)
  | _ :: _ => none
def maxI : Int → List Int → Int
  | m, [] => m
  | m, x :: xs => maxI (if x > m then x else m) xs
def minI : Int → List Int → Int
  | m, [] => m
  | m, x :: xs => minI (if x < m then x else m) xs
def lenR : R → Option Nat
  | .sh (.tup ds) => some ds.length
  | .sh (.lst ds) => some ds.length
  | .sh (.ext ns) => some ns.length
  | .sh _ => none
  | .fr ds => some ds.length
  | .vw ds => some ds.length
  | .vw2 dss => some dss.length
  | .fr2 dss => some dss.length
/-- the items of a list or a tuple -/
def seqR : R → Option (List D)
  | .sh (.tup ds) => some ds
  | r => r.items
def intOfR : R → Option Int
  | .sh (.int i) => some i
  | .sh (.bl b) => some (if b then 1 else 0)
  | _ => none
def oneR (f : R → Option R) (rs : List R) : Option R := match rs with
  | [x] => f x
  | _ => none
def twoR (f : R → R → Option R) (rs : List R) : Option R := match rs with
  | [x, y] => f x y
  | _ => none
def absR (x : R) : Option R := match x with
  | .sh (.int i) => some (.sh (.int (if i < 0 then -i else i)))
  | _ => none
def maxlR (x : R) : Option R := match x.items.bind intsOf with
  | some (m :: ns) => some (.sh (.int (maxI m ns)))
  | _ => none
def minlR (x : R) : Option R := match x.items.bind intsOf with
  | some (m :: ns) => some (.sh (.int (minI m ns)))
  | _ => none
def biR : Bi → List R → Option R
  | .len => oneR fun x => (lenR x).map fun (n : Nat) => R.sh (.int (n : Int))
  | .abs => oneR absR
  | .max2 => twoR (intR fun i j => some (if j > i then j else i))
  | .min2 => twoR (intR fun i j => some (if j < i then j else i))
  | .maxl => oneR maxlR
  | .minl => oneR minlR
  | .int => oneR fun x => (intOfR x).map fun i => .sh (.int i)
  | .list => oneR fun x => (seqR x).map .fr
  | .tuple => oneR fun x => (seqR x).map fun ds => .sh (.tup ds)
  | .sum => oneR fun x => (x.items.bind intsOf).map fun ns => .sh (.int ns.sum)
def cutL {α : Type} (xs : List α) (lo hi : Option Int) : List α := (xs.drop (HT.sIx xs.length 0 lo)).take (HT.sIx xs.length xs.length hi - HT.sIx xs.length 0 lo)

def wipeE (ρ : Env) : List Nat → Env
  | [] => ρ
  | v :: vs => (wipeE ρ vs).set v .un
def setTs (ρ : Env) : List Nat → List D → Option Env
  | [], [] => some ρ
  | i :: is, d :: ds => setTs (ρ.set i (.sh d)) is ds
  | _, _ => none
def setT (ρ : Env) : MT → D → Option Env
  | .nm i, d => some (ρ.set i (.sh d))
  | .tp is, .tup ds => setTs ρ is ds
  | .tp _, _ => none
def froz : Slot → Slot
  | .ow ds => .sh (.lst ds)
  | .ow2 dss => .sh (.lst (dss.map .lst))
  | s => s
def freeze (ρ : Env) : List Nat → Env
  | [] => ρ
  | i :: is => freeze (ρ.set i (froz (ρ.getD i .un))) is

def MT.ixs : MT → List Nat
  | .nm i => [i]
  | .tp is => is
def noOw (ρ : Env) (i : Nat) : Bool := match ρ[i]? with
  | some (.ow _) => false
  | some (.ow2 _) => false
  | _ => true
/-- a comprehension's own names are its targets, and own no list -/
def compOk (ρ : Env) (own : List Nat) (tg : MT) : Bool := tg.ixs.all (fun i => own.contains i) && own.all (noOw ρ)
/-- a comprehension's loop: what each turn adds -/
def lcL {α : Type} (f : D → Zs → Option (Option α × Zs)) : List D → Zs → Option (List α × Zs)
  | [], z => some ([], z)
  | d :: ds, z => bd (f d z) fun o z => bd (lcL f ds z) fun r z => some ((match o with | some x => x :: r | none => r), z)
def rangeD (lo : Int) (n : Nat) : List D := (List.range n).map fun (i : Nat) => .int (lo + (i : Int))
def enumD (ds : List D) : List D := (ds.zipIdx).map fun p => .tup [.int p.2, p.1]
def rgOk (i : Int) : Bool := decide (-4611686018427387904 ≤ i) && decide (i < 4611686018427387904)
def subR (x y : R) (z : Zs) : Option R := match y with
  | .sh (.int k) => match x with
    | .sh .hd => if k = 0 then z.map fun n => .sh (.int n) else none
    | .sh (.tup ds) => (atI ds k).map .sh
    | .sh (.ext ns) => (atI ns k).map fun n => .sh (.int n)
    | .vw2 dss => (atI dss k).map .vw
    | x => x.items.bind fun ds => (atI ds k).map .sh
  | _ => none
def toB (r : R) : Option Bool := match r with
  | .sh (.bl b) => some b
  | _ => none

section
variable (C : CallF)
mutual
def evE (ρ : Env) : ME → Zs → Option (R × Zs)
  | .var i, z => match ρ[i]? with
    | some (.sh d) => some (.sh d, z)
    | _ => none
  | .nvar i, z => match ρ[i]? with
    | some (.sh d) => some (.sh d, z)
    | some (.ow ds) => some (.vw ds, z)
    | some (.ow2 dss) => some (.vw2 dss, z)
    | _ => none
  | .lit d, z => some (.sh d, z)
  | .bin op a b, z => bd (evE ρ a z) fun x z => bd (evE ρ b z) fun y z => (binR op x y).map (·, z)
  | .neg a, z => bd (evE ρ a z) fun x z => match x with
    | .sh (.int i) => some (.sh (.int (-i)), z)
    | _ => none
  | .not a, z => bd (evE ρ a z) fun x z => (toB x).map fun b => (.sh (.bl (!b)), z)
  | .cmp op a b, z => bd (evE ρ a z) fun x z => bd (evE ρ b z) fun y z => (cmpR op x y).map fun b => (.sh (.bl b), z)
  | .chain p q a b c, z => bd (evE ρ a z) fun x z => bd (evE ρ b z) fun y z => match cmpR p x y with
    | some true => bd (evE ρ c z) fun w z => (cmpR q y w).map fun b => (.sh (.bl b), z)
    | some false => some (.sh (.bl false), z)
    | none => none
  | .and a b, z => bd (evE ρ a z) fun x z => match toB x with
    | some true => evE ρ b z
    | some false => some (.sh (.bl false), z)
    | none => none
  | .or a b, z => bd (evE ρ a z) fun x z => match toB x with
    | some true => some (.sh (.bl true), z)
    | some false => evE ρ b z
    | none => none
  | .ite c a b, z => bd (evE ρ c z) fun x z => match toB x with
    | some true => evE ρ a z
    | some false => evE ρ b z
    | none => none
  | .tup l, z => bd (evRs ρ l z) fun rs z => (toDs rs).map fun ds => (.sh (.tup ds), z)
  | .lst l, z => bd (evRs ρ l z) fun rs z => (toDs rs).map fun ds => (.fr ds, z)
  | .sub a i, z => bd (evE ρ a z) fun x z => bd (evE ρ i z) fun y z => (subR x y z).map (·, z)
  | .slice a lo hi, z => bd (evE ρ a z) fun x z => bd (evO ρ lo z) fun l z => bd (evO ρ hi z) fun h z => match x.items with
    | some ds => some (.fr (cutL ds l h), z)
    | none => none
  | .rev a, z => bd (evE ρ a z) fun x z => match x.items with
    | some ds => some (.fr ds.reverse, z)
    | none => none
  | .call f l, z => bd (evRs ρ l z) fun rs z => match toDs rs with
    | some ds => C f ds z
    | none => none
  | .bi b l, z => bd (evRs ρ l z) fun rs z => (biR b rs).map (·, z)
  | .comp elt tg it cs own, z => if compOk ρ own tg = true then bd (evI ρ true it z) fun ds z =>
      bd (lcL (fun d z => match setT (wipeE ρ own) tg d with
        | some ρ1 => bd (evC ρ1 cs z) fun b z => if b = true then bd (evE ρ1 elt z) fun r z => match r.toD with
            | some x => some (some x, z)
            | none => none
          else some (none, z)
        | none => none) ds z) fun xs z => some (.fr xs, z)
    else none
  | .comp2 elt tg it own, z => if compOk ρ own tg = true then bd (evI ρ true it z) fun ds z =>
      bd (lcL (fun d z => match setT (wipeE ρ own) tg d with
        | some ρ1 => bd (evE ρ1 elt z) fun r z => match r with
            | .fr xs => some (some xs, z)
            | _ => none
        | none => none) ds z) fun xss z => some (.fr2 xss, z)
    else none
def evRs (ρ : Env) : MEs → Zs → Option (List R × Zs)
  | .nil, z => some ([], z)
  | .cons a l, z => bd (evE ρ a z) fun x z => bd (evRs ρ l z) fun xs z => some (x :: xs, z)
def evO (ρ : Env) : MO → Zs → Option (Option Int × Zs)
  | .none, z => some (none, z)
  | .some a, z => bd (evE ρ a z) fun x z => match x with
    | .sh (.int i) => some (some i, z)
    | _ => none
def evC (ρ : Env) : MO → Zs → Option (Bool × Zs)
  | .none, z => some (true, z)
  | .some a, z => bd (evE ρ a z) fun x z => (toB x).map (·, z)
def evI (ρ : Env) (ow : Bool) : MI → Zs → Option (List D × Zs)
  | .ls a, z => bd (evE ρ a z) fun x z => match x with
    | .sh (.tup ds) => some (ds, z)
    | .sh (.ext ns) => if small ns.length = true then some (ns.map .int, z) else none
    | x => (x.itemsB ow).map (·, z)
  | .rg1 a, z => bd (evE ρ a z) fun x z => match x with
    | .sh (.int j) => if rgOk j = true ∧ small j.toNat = true then some (rangeD 0 j.toNat, z) else none
    | _ => none
  | .rg2 a b, z => bd (evE ρ a z) fun x z => bd (evE ρ b z) fun y z => match x, y with
    | .sh (.int i), .sh (.int j) => if rgOk i = true ∧ rgOk j = true ∧ small (j - i).toNat = true then some (rangeD i (j - i).toNat, z) else none
    | _, _ => none
  | .en a, z => bd (evE ρ a z) fun x z => (x.itemsB ow).map fun ds => (enumD ds, z)
  | .rv a, z => bd (evE ρ a z) fun x z => (x.itemsB ow).map fun ds => (ds.reverse, z)
  | .zp a b, z => bd (evE ρ a z) fun x z => bd (evE ρ b z) fun y z => match x.itemsB ow, y.itemsB ow with
    | some ds, some es => some (ds.zipWith (fun d e => .tup [d, e]) es, z)
    | _, _ => none
end
end

/-! ### statements -/
def loopS (f : D → Env → Zs → Option (Out × Zs)) : List D → Env → Zs → Option (Out × Zs)
  | [], ρ, z => some (.nx ρ, z)
  | d :: ds, ρ, z => match f d ρ z with
    | some (.nx ρ, z) => loopS f ds ρ z
    | some (.ct ρ, z) => loopS f ds ρ z
    | some (.bk ρ, z) => some (.nx ρ, z)
    | some (.ret r, z) => some (.ret r, z)
    | none => none
def whN (c : Env → Zs → Option ((Bool × Env) × Zs)) (b : Env → Zs → Option (Out × Zs)) : Nat → Env → Zs → Option (Out × Zs)
  | 0, _, _ => none
  | n + 1, ρ, z => match c ρ z with
    | some ((true, ρ1), z) => match b ρ1 z with
      | some (.nx ρ, z) => whN c b n ρ z
      | some (.ct ρ, z) => whN c b n ρ z
      | some (.bk ρ, z) => some (.nx ρ, z)
      | some (.ret r, z) => some (.ret r, z)
      | none => none
    | some ((false, ρ1), z) => some (.nx ρ1, z)
    | none => none
open Classical in
noncomputable def whS (c : Env → Zs → Option ((Bool × Env) × Zs)) (b : Env → Zs → Option (Out × Zs)) (ρ : Env) (z : Zs) : Option (Out × Zs) :=
  if h : ∃ n r, whN c b n ρ z = some r then whN c b (choose h) ρ z else none
theorem whN_mono {c : Env → Zs → Option ((Bool × Env) × Zs)} {b : Env → Zs → Option (Out × Zs)} : ∀ {n : Nat} {ρ : Env} {z : Zs} {r}, whN c b n ρ z = some r → ∀ {m : Nat}, n ≤ m → whN c b m ρ z = some r
  | 0, _, _, _, h, _, _ => by cases h
  | n + 1, ρ, z, r, h, 0, hm => by omega
  | n + 1, ρ, z, r, h, m + 1, hm => by
    unfold whN at h ⊢
    cases hc : c ρ z with
    | none => rw [hc] at h; cases h
    | some p =>
      obtain ⟨⟨t, ρ1⟩, z1⟩ := p
      rw [hc] at h
      cases t with
      | false => exact h
      | true =>
        simp only at h ⊢
        cases hb : b ρ1 z1 with
        | none => rw [hb] at h; cases h
        | some q =>
          obtain ⟨o, z2⟩ := q
          rw [hb] at h
          cases o with
          | nx ρ2 => exact whN_mono h (by omega)
          | ct ρ2 => exact whN_mono h (by omega)
          | bk ρ2 => exact h
          | ret v => exact h
theorem whS_iff {c : Env → Zs → Option ((Bool × Env) × Zs)} {b : Env → Zs → Option (Out × Zs)} {ρ : Env} {z : Zs} {r} : whS c b ρ z = some r ↔ ∃ n, whN c b n ρ z = some r := by
  constructor
  · intro h
    unfold whS at h
    split at h
    · exact ⟨_, h⟩
    · cases h
  · rintro ⟨n, h⟩
    have hx : ∃ n r, whN c b n ρ z = some r := ⟨n, r, h⟩
    unfold whS
    rw [dif_pos hx]
    obtain ⟨r', h'⟩ := Classical.choose_spec hx
    rw [h']
    have a := whN_mono h (Nat.le_max_left n (Classical.choose hx))
    have b := whN_mono h' (Nat.le_max_right n (Classical.choose hx))
    rw [a] at b
    exact b.symm
/-- one turn of a while -/
theorem whS_eq (c : Env → Zs → Option ((Bool × Env) × Zs)) (b : Env → Zs → Option (Out × Zs)) (ρ : Env) (z : Zs) : whS c b ρ z = (match c ρ z with
    | some ((true, ρ1), z) => match b ρ1 z with
      | some (.nx ρ, z) => whS c b ρ z
      | some (.ct ρ, z) => whS c b ρ z
      | some (.bk ρ, z) => some (.nx ρ, z)
      | some (.ret r, z) => some (.ret r, z)
      | none => none
    | some ((false, ρ1), z) => some (.nx ρ1, z)
    | none => none) := by
  apply Option.ext
  intro r
  rw [whS_iff]
  constructor
  · rintro ⟨n, h⟩
    cases n with
    | zero => cases h
    | succ n =>
      unfold whN at h
      cases hc : c ρ z with
      | none => rw [hc] at h; cases h
      | some p =>
        obtain ⟨⟨t, ρ1⟩, z1⟩ := p
        rw [hc] at h
        cases t with
        | false => exact h
        | true =>
          simp only at h ⊢
          cases hb : b ρ1 z1 with
          | none => rw [hb] at h; cases h
          | some q =>
            obtain ⟨o, z2⟩ := q
            rw [hb] at h
            cases o with
            | nx ρ2 => exact whS_iff.mpr ⟨n, h⟩
            | ct ρ2 => exact whS_iff.mpr ⟨n, h⟩
            | bk ρ2 => exact h
            | ret v => exact h
  · intro h
    cases hc : c ρ z with
    | none => rw [hc] at h; cases h
    | some p =>
      obtain ⟨⟨t, ρ1⟩, z1⟩ := p
      rw [hc] at h
      cases t with
      | false => exact ⟨1, by unfold whN; rw [hc]; exact h⟩
      | true =>
        simp only at h
        cases hb : b ρ1 z1 with
        | none => rw [hb] at h; cases h
        | some q =>
          obtain ⟨o, z2⟩ := q
          rw [hb] at h
          cases o with
          | nx ρ2 =>
            obtain ⟨n, h⟩ := whS_iff.mp h
            exact ⟨n + 1, by unfold whN; rw [hc]; simp only; rw [hb]; exact h⟩
          | ct ρ2 =>
            obtain ⟨n, h⟩ := whS_iff.mp h
            exact ⟨n + 1, by unfold whN; rw [hc]; simp only; rw [hb]; exact h⟩
          | bk ρ2 => exact ⟨1, by unfold whN; rw [hc]; simp only; rw [hb]; exact h⟩
          | ret v => exact ⟨1, by unfold whN; rw [hc]; simp only; rw [hb]; exact h⟩

/-- a value into a name -/
def putR (ρ : Env) (i : Nat) : R → Option Env
  | .sh d => some (ρ.set i (.sh d))
  | .fr ds => some (ρ.set i (.ow ds))
  | .fr2 dss => some (ρ.set i (.ow2 dss))
  | _ => none
def setD (ds : List D) (k : Int) (d : D) : Option (List D) := (ixN ds.length k).map fun j => ds.set j d
def isI : D → Bool
  | .int _ => true
  | _ => false
section
variable (C : CallF)
def setTg (ρ : Env) : List Tg → List D → Zs → Option (Env × Zs)
  | [], [], z => some (ρ, z)
  | .nm i :: ts, d :: ds, z => setTg (ρ.set i (.sh d)) ts ds z
  | .sb i x :: ts, d :: ds, z => bd (evE C ρ x z) fun k z => match ρ[i]?, k with
    | some (.ow xs), .sh (.int k) => match setD xs k d with
      | some ys => setTg (ρ.set i (.ow ys)) ts ds z
      | none => none
    | _, _ => none
  | _, _, _ => none
mutual
noncomputable def exS : MS → Env → Zs → Option (Out × Zs)
  | .asg fz i e, ρ, z => bd (evE C (freeze ρ fz) e z) fun r z => (putR (freeze ρ fz) i r).map fun ρ => (.nx ρ, z)
  | .asgT fz is e, ρ, z => bd (evE C (freeze ρ fz) e z) fun r z => match r with
    | .sh (.tup ds) => (setTs (freeze ρ fz) is ds).map fun ρ => (.nx ρ, z)
    | _ => none
  | .par fz is l, ρ, z => bd (evRs C (freeze ρ fz) l z) fun rs z => match toDs rs with
    | some ds => (setTs (freeze ρ fz) is ds).map fun ρ => (.nx ρ, z)
    | none => none
  | .parO fz i is l, ρ, z => bd (evRs C (freeze ρ fz) l z) fun rs z => match rs with
    | .fr xs :: rs => match toDs rs with
      | some ds => if ds.all isI = true then (setTs ((freeze ρ fz).set i (.ow xs)) is ds).map fun ρ => (.nx ρ, z) else none
      | none => none
    | _ => none
  | .set fz i x e, ρ, z => bd (evE C (freeze ρ fz) e z) fun r z => bd (evE C (freeze ρ fz) x z) fun k z => match (freeze ρ fz)[i]?, k, r.toD with
    | some (.ow xs), .sh (.int k), some d => (setD xs k d).map fun ys => (.nx ((freeze ρ fz).set i (.ow ys)), z)
    | some (.sh .hd), .sh (.int 0), some (.int n) => match z with
      | some _ => some (.nx (freeze ρ fz), some n)
      | none => none
    | _, _, _ => none
  | .set2 fz i x y e, ρ, z => bd (evE C (freeze ρ fz) e z) fun r z => bd (evE C (freeze ρ fz) x z) fun k z => bd (evE C (freeze ρ fz) y z) fun l z => match (freeze ρ fz)[i]?, k, l, r.toD with
    | some (.ow2 xss), .sh (.int k), .sh (.int l), some d => match ixN xss.length k with
      | some j => match xss[j]? with
        | some xs => (setD xs l d).map fun ys => (.nx ((freeze ρ fz).set i (.ow2 (xss.set j ys))), z)
        | none => none
      | none => none
    | _, _, _, _ => none
  | .swap i x y, ρ, z => bd (evE C (ρ.set i .un) y z) fun l z => bd (evE C (ρ.set i .un) x z) fun k z => bd (evE C (ρ.set i .un) x z) fun k2 z => bd (evE C (ρ.set i .un) y z) fun l2 z => match ρ[i]?, k, l, k2, l2 with
    | some (.ow2 xss), .sh (.int k), .sh (.int l), .sh (.int k2), .sh (.int l2) => if k = k2 ∧ l = l2 then match ixN xss.length k, ixN xss.length l with
        | some j, some m => match xss[j]?, xss[m]? with
          | some xs, some ys => some (.nx (ρ.set i (.ow2 ((xss.set j ys).set m xs))), z)
          | _, _ => none
        | _, _ => none
      else none
    | _, _, _, _, _ => none
  | .tgs fz ts l, ρ, z => bd (evRs C (freeze ρ fz) l z) fun rs z => match toDs rs with
    | some ds => bd (setTg C (freeze ρ fz) ts ds z) fun ρ z => some (.nx ρ, z)
    | none => none
  | .augN fz op i e, ρ, z => match (freeze ρ fz)[i]? with
    | some (.sh d) => bd (evE C (freeze ρ fz) e z) fun r z => match ibinR op (.sh d) r with
      | some (.sh w) => some (.nx ((freeze ρ fz).set i (.sh w)), z)
      | _ => none
    | _ => none
  | .augS fz op i x e, ρ, z => bd (evE C (freeze ρ fz) x z) fun k z => match (freeze ρ fz)[i]?, k with
    | some (.ow xs), .sh (.int k) => match atI xs k with
      | some d => bd (evE C (freeze ρ fz) e z) fun r z => match ibinR op (.sh d) r with
        | some (.sh w) => (setD xs k w).map fun ys => (.nx ((freeze ρ fz).set i (.ow ys)), z)
        | _ => none
      | none => none
    | _, _ => none
  | .ite fz c a b, ρ, z => bd (evE C (freeze ρ fz) c z) fun r z => match toB r with
    | some true => exB a (freeze ρ fz) z
    | some false => exB b (freeze ρ fz) z
    | none => none
  | .whl fz c b, ρ, z => whS (fun ρ z => bd (evE C (freeze ρ fz) c z) fun r z => (toB r).map fun b => ((b, freeze ρ fz), z)) (fun ρ z => exB b ρ z) ρ z
  | .loop fz tg it b, ρ, z => bd (evI C (freeze ρ fz) false it z) fun ds z => loopS (fun d ρ z => match setT ρ tg d with
    | some ρ1 => exB b ρ1 z
    | none => none) ds (freeze ρ fz) z
  | .ret fz e, ρ, z => bd (evE C (freeze ρ fz) e z) fun r z => match r with
    | .sh d => some (.ret (.sh d), z)
    | .fr ds => some (.ret (.fr ds), z)
    | .fr2 dss => some (.ret (.fr2 dss), z)
    | _ => none
  | .retv i, ρ, z => match ρ[i]? with
    | some (.sh d) => some (.ret (.sh d), z)
    | some (.ow ds) => some (.ret (.fr ds), z)
    | some (.ow2 dss) => some (.ret (.fr2 dss), z)
    | _ => none
  | .ret0, _, z => some (.ret (.sh .non), z)
  | .brk, ρ, z => some (.bk ρ, z)
  | .cnt, ρ, z => some (.ct ρ, z)
  | .pass, ρ, z => some (.nx ρ, z)
  | .app fz i e, ρ, z => match (freeze ρ fz)[i]? with
    | some (.ow xs) => bd (evE C (freeze ρ fz) e z) fun r z => match r.toD with
      | some d => if xs.length < 16777216 then some (.nx ((freeze ρ fz).set i (.ow (xs ++ [d]))), z) else none
      | none => none
    | _ => none
  | .ext fz i e, ρ, z => match (freeze ρ fz)[i]? with
    | some (.ow xs) => bd (evE C (freeze ρ fz) e z) fun r z => match r.items with
      | some ds => if small (xs.length + ds.length) = true then some (.nx ((freeze ρ fz).set i (.ow (xs ++ ds))), z) else none
      | none => none
    | _ => none
  | .popx i, ρ, z => match ρ[i]? with
    | some (.ow xs) => match xs[xs.length - 1]? with
      | some _ => some (.nx (ρ.set i (.ow xs.dropLast)), z)
      | none => none
    | _ => none
  | .popT tg i, ρ, z => match ρ[i]? with
    | some (.ow xs) => match xs[xs.length - 1]? with
      | some d => (setT (ρ.set i (.ow xs.dropLast)) tg d).map fun ρ => (.nx ρ, z)
      | none => none
    | _ => none
  | .rvs i, ρ, z => match ρ[i]? with
    | some (.ow xs) => some (.nx (ρ.set i (.ow xs.reverse)), z)
    | _ => none
  | .mkst fz i e, ρ, z => bd (evE C (freeze ρ fz) e z) fun r z => match r, z with
    | .fr [.int n], none => some (.nx ((freeze ρ fz).set i (.sh .hd)), some n)
    | _, _ => none
  | .never, _, _ => none
noncomputable def exB : MSs → Env → Zs → Option (Out × Zs)
  | .nil, ρ, z => some (.nx ρ, z)
  | .cons s l, ρ, z => match exS s ρ z with
    | some (.nx ρ, z) => exB l ρ z
    | r => r
end
end
/-- a def: how many parameters, how many names, the body -/
structure Fn where
  np : Nat
  n : Nat
  body : MSs
  deriving DecidableEq
def startE (n : Nat) (ds : List D) : Env := ds.map Slot.sh ++ List.replicate (n - ds.length) Slot.un
noncomputable def run (P : List Fn) : Nat → CallF
  | 0 => fun _ _ _ => none
  | k + 1 => fun f ds z => match P[f]? with
    | some fd => if ds.length = fd.np then match exB (run P k) fd.body (startE fd.n ds) z with
        | some (.ret r, z') => if z.isSome = z'.isSome then some (r, z') else none
        | some (.nx _, z') => if z.isSome = z'.isSome then some (.sh .non, z') else none
        | _ => none
      else none
    | none => none
end Mn

set_option maxHeartbeats 1000000
/-! Mini: how data lies in the abstract heap. -/
namespace Mn
open PySem PySem.Spec PyProof.Rows L2

def ExtL (K : PySem.W.Frag) (c : Option Addr) (H : Hp) (a : Addr) (xs : List V) : Prop :=
  (c ≠ some a ∧ ∃ o, H a = some (.frz o (.lst xs))) ∨
    ∃ (o : Obj) (its : Array Value) (n : Nat), K.lookup a = some o ∧ o.cls = .type "list" ∧ o.dict = none ∧ o.data = .seq its n ∧ its.size ≤ sizeLine ∧ Vals xs its.toList
theorem ExtL.sq {K : PySem.W.Frag} {c : Option Addr} {H : Hp} {a : Addr} {xs : List V} (h : ExtL K c H a xs) : SqL K H a xs := by
  rcases h with ⟨_, h⟩ | h
  · exact .inl (.inr h)
  · exact .inr h

mutual
inductive Rd (K : PySem.W.Frag) (c : Option Addr) (H : Hp) (A : List Addr) : V → D → Prop
  | non : Rd K c H A .non .non
  | bl (b : Bool) : Rd K c H A (.bl b) (.bl b)
  | int (i : Int) : Rd K c H A (.int i) (.int i)
  | str (x : Str) : Rd K c H A (.str x) (.str x)
  | hd {a : Addr} : c = some a → Rd K c H A (.ref a) .hd
  | ext {a : Addr} {ns : List Int} : ExtL K c H a (ns.map V.int) → Rd K c H A (.ref a) (.ext ns)
  | tup {a : Addr} {xs : List V} {ds : List D} : c ≠ some a → a ∉ A → H a = some (.tup xs) → Rds K c H A xs ds → Rd K c H A (.ref a) (.tup ds)
  | lst {a : Addr} {xs : List V} {ds : List D} : c ≠ some a → a ∉ A → H a = some (.lst xs) → Rds K c H A xs ds → Rd K c H A (.ref a) (.lst ds)
inductive Rds (K : PySem.W.Frag) (c : Option Addr) (H : Hp) (A : List Addr) : List V → List D → Prop
  | nil : Rds K c H A [] []
  | cons {v : V} {vs : List V} {d : D} {ds : List D} : Rd K c H A v d → Rds K c H A vs ds → Rds K c H A (v :: vs) (d :: ds)
end
inductive Rds2 (K : PySem.W.Frag) (c : Option Addr) (H : Hp) (A : List Addr) : List Addr → List (List D) → Prop
  | nil : Rds2 K c H A [] []
  | cons {b : Addr} {bs : List Addr} {xs : List V} {ds : List D} {dss : List (List D)} : c ≠ some b → H b = some (.lst xs) → Rds K c H A xs ds → Rds2 K c H A bs dss → Rds2 K c H A (b :: bs) (ds :: dss)

section
variable {K : PySem.W.Frag} {c c' : Option Addr} {H H' : Hp} {A A' : List Addr}
theorem Rds.length : ∀ {vs : List V} {ds : List D}, Rds K c H A vs ds → vs.length = ds.length
  | _, _, .nil => rfl
  | _, _, .cons _ t => congrArg (· + 1) (Rds.length t)
theorem Rds2.length : ∀ {bs : List Addr} {dss : List (List D)}, Rds2 K c H A bs dss → bs.length = dss.length
  | _, _, .nil => rfl
  | _, _, .cons _ _ _ t => congrArg (· + 1) (Rds2.length t)
theorem Rds.get : ∀ {vs : List V} {ds : List D} {i : Nat} {d : D}, Rds K c H A vs ds → ds[i]? = some d → ∃ v, vs[i]? = some v ∧ Rd K c H A v d
  | _, _, _, _, .nil, e => by simp at e
  | _, _, 0, _, .cons r _, e => by simp at e; subst e; exact ⟨_, rfl, r⟩
  | _, _, i + 1, d, .cons _ t, e => by
    obtain ⟨u, h1, h2⟩ := Rds.get (i := i) (d := d) t (by simpa using e)
    exact ⟨u, by simpa using h1, h2⟩
theorem Rds.append : ∀ {vs ws : List V} {ds es : List D}, Rds K c H A vs ds → Rds K c H A ws es → Rds K c H A (vs ++ ws) (ds ++ es)
  | _, _, _, _, .nil, s => s
  | _, _, _, _, .cons r t, s => .cons r (Rds.append t s)
theorem Rds.set {v : V} {d : D} (r : Rd K c H A v d) : ∀ {vs : List V} {ds : List D} (i : Nat), Rds K c H A vs ds → Rds K c H A (vs.set i v) (ds.set i d)
  | _, _, _, .nil => .nil
  | _, _, 0, .cons _ t => .cons r t
  | _, _, i + 1, .cons q t => .cons q (Rds.set r i t)
theorem Rds.take : ∀ {vs : List V} {ds : List D} (n : Nat), Rds K c H A vs ds → Rds K c H A (vs.take n) (ds.take n)
  | _, _, 0, _ => .nil
  | _, _, _ + 1, .nil => .nil
  | _, _, n + 1, .cons r t => .cons r (Rds.take n t)
theorem Rds.drop : ∀ {vs : List V} {ds : List D} (n : Nat), Rds K c H A vs ds → Rds K c H A (vs.drop n) (ds.drop n)
  | _, _, 0, r => r
  | _, _, _ + 1, .nil => .nil
  | _, _, n + 1, .cons _ t => Rds.drop n t
theorem Rds.reverse {vs : List V} {ds : List D} (h : Rds K c H A vs ds) : Rds K c H A vs.reverse ds.reverse := by
  induction vs generalizing ds with
  | nil => cases h; exact .nil
  | cons v vs ih =>
    cases h with
    | cons r t => rw [List.reverse_cons, List.reverse_cons]; exact (ih t).append (.cons r .nil)
theorem Rds.dropLast {vs : List V} {ds : List D} (h : Rds K c H A vs ds) : Rds K c H A vs.dropLast ds.dropLast := by
  rw [List.dropLast_eq_take, List.dropLast_eq_take, h.length]
  exact h.take _
theorem Rds.rep {vs : List V} {ds : List D} (h : Rds K c H A vs ds) : ∀ k : Nat, Rds K c H A (List.replicate k vs).flatten (List.replicate k ds).flatten
  | 0 => .nil
  | k + 1 => by
    rw [List.replicate_succ, List.replicate_succ, List.flatten_cons, List.flatten_cons]
    exact h.append (Rds.rep h k)
theorem Rds.ints : ∀ {vs : List V} {ds : List D} {ns : List Int}, Rds K c H A vs ds → intsOf ds = some ns → vs = ns.map V.int
  | _, _, ns, .nil, e => by unfold intsOf at e; cases e; rfl
  | v :: vs, d :: ds, ns, .cons r t, e => by
    cases d with
    | int i =>
      unfold intsOf at e
      cases r
      cases q : intsOf ds with
      | none => rw [q] at e; cases e
      | some ms => rw [q] at e; cases e; rw [Rds.ints t q]; rfl
    | _ => unfold intsOf at e; cases e
theorem Rds2.get : ∀ {bs : List Addr} {dss : List (List D)} {i : Nat} {ds : List D}, Rds2 K c H A bs dss → dss[i]? = some ds → ∃ b xs, bs[i]? = some b ∧ c ≠ some b ∧ H b = some (.lst xs) ∧ Rds K c H A xs ds
  | _, _, _, _, .nil, e => by simp at e
  | _, _, 0, _, .cons n h r _, e => by simp at e; subst e; exact ⟨_, _, rfl, n, h, r⟩
  | _, _, i + 1, d, .cons _ _ _ t, e => by
    obtain ⟨u, xs, h1, h2⟩ := Rds2.get (i := i) (ds := d) t (by simpa using e)
    exact ⟨u, xs, by simpa using h1, h2⟩

/- a reading is carried where what it leans on stands -/
mutual
theorem Rd.imp (hk : ∀ a o, a ∉ A → c ≠ some a → H a = some o → (a ∉ A' ∧ c' ≠ some a ∧ H' a = some o)) (hc : ∀ a, c = some a → c' = some a) (he : ∀ a xs, ExtL K c H a xs → ExtL K c' H' a xs) :
    ∀ (d : D) (v : V), Rd K c H A v d → Rd K c' H' A' v d
  | .non, _, h => by cases h; exact .non
  | .bl b, _, h => by cases h; exact .bl b
  | .int i, _, h => by cases h; exact .int i
  | .str x, _, h => by cases h; exact .str x
  | .hd, _, h => by cases h with | hd e => exact .hd (hc _ e)
  | .ext ns, _, h => by cases h with | ext e => exact .ext (he _ _ e)
  | .tup ds, _, h => by
    cases h with
    | tup n m e r =>
      obtain ⟨m', n', e'⟩ := hk _ _ m n e
      exact .tup n' m' e' (Rds.imp hk hc he ds _ r)
  | .lst ds, _, h => by
    cases h with
    | lst n m e r =>
      obtain ⟨m', n', e'⟩ := hk _ _ m n e
      exact .lst n' m' e' (Rds.imp hk hc he ds _ r)
theorem Rds.imp (hk : ∀ a o, a ∉ A → c ≠ some a → H a = some o → (a ∉ A' ∧ c' ≠ some a ∧ H' a = some o)) (hc : ∀ a, c = some a → c' = some a) (he : ∀ a xs, ExtL K c H a xs → ExtL K c' H' a xs) :
    ∀ (ds : List D) (vs : List V), Rds K c H A vs ds → Rds K c' H' A' vs ds
  | [], _, h => by cases h; exact .nil
  | d :: ds, _, h => by
    cases h with
    | cons r t => exact .cons (Rd.imp hk hc he d _ r) (Rds.imp hk hc he ds _ t)
end

/-- all but the cell stands -/
def Keep (c : Option Addr) (H H' : Hp) : Prop := ∀ b o, H b = some o → c ≠ some b → H' b = some o
theorem Keep.refl : Keep c H H := fun _ _ e _ => e
theorem Keep.trans {H1 : Hp} (a : Keep c H H1) (b : Keep c H1 H') : Keep c H H' := fun x o e n => b x o (a x o e n) n
theorem Keep.laid {p : Addr} {o : HO} (n : H p = none) : Keep c H (upd H p o) := fun b u e _ => by rw [upd_ne (ne_of_none e n)]; exact e
theorem ExtL.keep {a : Addr} {xs : List V} (k : Keep c H H') (h : ExtL K c H a xs) : ExtL K c H' a xs := by
  rcases h with ⟨n, o, h⟩ | h
  · exact .inl ⟨n, o, k _ _ h n⟩
  · exact .inr h
theorem Rd.keep {v : V} {d : D} (k : Keep c H H') (r : Rd K c H A v d) : Rd K c H' A v d := r.imp (fun a o m n e => ⟨m, n, k _ _ e n⟩) (fun _ e => e) (fun a xs e => e.keep k)
theorem Rds.keep {v : List V} {d : List D} (k : Keep c H H') (r : Rds K c H A v d) : Rds K c H' A v d := r.imp (fun a o m n e => ⟨m, n, k _ _ e n⟩) (fun _ e => e) (fun a xs e => e.keep k)
theorem Rds2.keep (k : Keep c H H') : ∀ {bs : List Addr} {dss : List (List D)}, Rds2 K c H A bs dss → Rds2 K c H' A bs dss
  | _, _, .nil => .nil
  | _, _, .cons n h r t => .cons n (k _ _ h n) (r.keep k) (Rds2.keep k t)
/-- fewer, or new, places to avoid -/
theorem Rd.avoid {v : V} {d : D} (h : ∀ a ∈ A', a ∈ A ∨ H a = none) (r : Rd K c H A v d) : Rd K c H A' v d :=
  r.imp (fun a o m n e => ⟨fun q => (h a q).elim m fun z => (by rw [z] at e; cases e), n, e⟩) (fun _ e => e) (fun a xs e => e)
theorem Rds.avoid {v : List V} {d : List D} (h : ∀ a ∈ A', a ∈ A ∨ H a = none) (r : Rds K c H A v d) : Rds K c H A' v d :=
  r.imp (fun a o m n e => ⟨fun q => (h a q).elim m fun z => (by rw [z] at e; cases e), n, e⟩) (fun _ e => e) (fun a xs e => e)
theorem Rds2.avoid (h : ∀ a ∈ A', a ∈ A ∨ H a = none) : ∀ {bs : List Addr} {dss : List (List D)}, Rds2 K c H A bs dss → Rds2 K c H A' bs dss
  | _, _, .nil => .nil
  | _, _, .cons n e r t => .cons n e (r.avoid h) (Rds2.avoid h t)
/-- an owned list is written -/
theorem upd_at {p a : Addr} {o u : HO} (h : H a = some o) (n : a ≠ p) : upd H p u a = some o := by rw [upd_ne n]; exact h
theorem ExtL.upd {a p : Addr} {xs ys : List V} {u : HO} (hp : H p = some (.lst ys)) (h : ExtL K c H a xs) : ExtL K c (upd H p u) a xs := by
  rcases h with ⟨n, o, h⟩ | h
  · exact .inl ⟨n, o, upd_at h (ne_of h hp (by intro z; cases z))⟩
  · exact .inr h
theorem Rd.upd {v : V} {d : D} {p : Addr} {ys : List V} {u : HO} (hp : H p = some (.lst ys)) (m : p ∈ A) (r : Rd K c H A v d) : Rd K c (upd H p u) A v d :=
  r.imp (fun a o ma n e => ⟨ma, n, upd_at e fun q => ma (q ▸ m)⟩) (fun _ e => e) (fun a xs e => e.upd hp)
theorem Rds.upd {v : List V} {d : List D} {p : Addr} {ys : List V} {u : HO} (hp : H p = some (.lst ys)) (m : p ∈ A) (r : Rds K c H A v d) : Rds K c (upd H p u) A v d :=
  r.imp (fun a o ma n e => ⟨ma, n, upd_at e fun q => ma (q ▸ m)⟩) (fun _ e => e) (fun a xs e => e.upd hp)
theorem Rds2.upd {p : Addr} {ys : List V} {u : HO} (hp : H p = some (.lst ys)) (m : p ∈ A) : ∀ {bs : List Addr} {dss : List (List D)}, p ∉ bs → Rds2 K c H A bs dss → Rds2 K c (upd H p u) A bs dss
  | _, _, _, .nil => .nil
  | _, _, nb, .cons n e r t => .cons n (upd_at e fun q => nb (q ▸ List.mem_cons_self)) (r.upd hp m) (Rds2.upd hp m (fun q => nb (List.mem_cons_of_mem _ q)) t)
end

/-! ### the world of a frame -/
structure Wd where
  O : List Addr
  L : List (List Addr)
  c : Option Addr
def Wd.A (w : Wd) : List Addr := w.L.flatten ++ w.O
def CellOk (c : Option Addr) (H : Hp) (z : Zs) : Prop := match c, z with
  | none, none => True
  | some a, some n => H a = some (.lst [.int n])
  | _, _ => False
def Bnd (H : Hp) : Prop := (∀ a xs, H a = some (.lst xs) → xs.length ≤ sizeLine) ∧ ∀ a xs, H a = some (.tup xs) → xs.length ≤ sizeLine
theorem Bnd.laidL {H : Hp} {p : Addr} {xs : List V} (b : Bnd H) (h : xs.length ≤ sizeLine) : Bnd (upd H p (.lst xs)) := ⟨fun a ys e => by
  by_cases q : a = p
  · subst q; rw [upd_same] at e; cases e; exact h
  · rw [upd_ne q] at e; exact b.1 a ys e, fun a ys e => by
  by_cases q : a = p
  · subst q; rw [upd_same] at e; cases e
  · rw [upd_ne q] at e; exact b.2 a ys e⟩
theorem Bnd.laidT {H : Hp} {p : Addr} {xs : List V} (b : Bnd H) (h : xs.length ≤ sizeLine) : Bnd (upd H p (.tup xs)) := ⟨fun a ys e => by
  by_cases q : a = p
  · subst q; rw [upd_same] at e; cases e
  · rw [upd_ne q] at e; exact b.1 a ys e, fun a ys e => by
  by_cases q : a = p
  · subst q; rw [upd_same] at e; cases e; exact h
  · rw [upd_ne q] at e; exact b.2 a ys e⟩
theorem bnd_of {P : Program} {w : World} {H : Hp} {h : Heap} (x : HOk P w H h) : Bnd H := ⟨fun a xs e => (x a _ e).1, fun a xs e => (x a _ e).1⟩

inductive SlotR (K : PySem.W.Frag) (c : Option Addr) (H : Hp) (A : List Addr) : Option V → Slot → List Addr → Prop
  | un {x : Option V} : SlotR K c H A x .un []
  | sh {v : V} {d : D} : Rd K c H A v d → SlotR K c H A (some v) (.sh d) []
  | ow {a : Addr} {xs : List V} {ds : List D} : H a = some (.lst xs) → Rds K c H A xs ds → SlotR K c H A (some (.ref a)) (.ow ds) [a]
  | ow2 {a : Addr} {bs : List Addr} {dss : List (List D)} : H a = some (.lst (bs.map V.ref)) → Rds2 K c H A bs dss → SlotR K c H A (some (.ref a)) (.ow2 dss) (a :: bs)
inductive Slots (K : PySem.W.Frag) (c : Option Addr) (H : Hp) (A : List Addr) : L2.St → Env → List (List Addr) → Prop
  | nil : Slots K c H A [] [] []
  | cons {x : Option V} {s : Slot} {l : List Addr} {σ : L2.St} {ρ : Env} {L : List (List Addr)} : SlotR K c H A x s l → Slots K c H A σ ρ L → Slots K c H A (x :: σ) (s :: ρ) (l :: L)
structure Rel (K : PySem.W.Frag) (w : Wd) (H : Hp) (σ : L2.St) (ρ : Env) (z : Zs) : Prop where
  sl : Slots K w.c H w.A σ ρ w.L
  nd : w.L.flatten.Nodup
  out : ∀ a ∈ w.L.flatten, a ∉ w.O ∧ w.c ≠ some a
  oin : ∀ a ∈ w.O, H a ≠ none
  cell : CellOk w.c H z
  bnd : Bnd H

section
variable {K : PySem.W.Frag} {c c' : Option Addr} {H H' : Hp} {A A' : List Addr}
theorem SlotR.keep {x : Option V} {s : Slot} {l : List Addr} (k : Keep c H H') (hl : ∀ a ∈ l, c ≠ some a) (h : SlotR K c H A x s l) : SlotR K c H' A x s l := by
  cases h with
  | un => exact .un
  | sh r => exact .sh (r.keep k)
  | ow e r => exact .ow (k _ _ e (hl _ (by simp))) (r.keep k)
  | ow2 e r => exact .ow2 (k _ _ e (hl _ (by simp))) (r.keep k)
theorem Slots.keep (k : Keep c H H') : ∀ {σ : L2.St} {ρ : Env} {L : List (List Addr)}, (∀ a ∈ L.flatten, c ≠ some a) → Slots K c H A σ ρ L → Slots K c H' A σ ρ L
  | _, _, _, _, .nil => .nil
  | _, _, _, hl, .cons h t => .cons (h.keep k fun a m => hl a (by rw [List.flatten_cons]; exact List.mem_append_left _ m)) (Slots.keep k (fun a m => hl a (by rw [List.flatten_cons]; exact List.mem_append_right _ m)) t)
theorem Slots.get : ∀ {σ : L2.St} {ρ : Env} {L : List (List Addr)} {i : Nat} {s : Slot}, Slots K c H A σ ρ L → ρ[i]? = some s → ∃ x l, σ[i]? = some x ∧ L[i]? = some l ∧ SlotR K c H A x s l
  | _, _, _, _, _, .nil, e => by simp at e
  | _, _, _, 0, _, .cons h _, e => by simp at e; subst e; exact ⟨_, _, rfl, rfl, h⟩
  | _, _, _, i + 1, s, .cons _ t, e => by
    obtain ⟨x, l, h1, h2, h3⟩ := Slots.get (i := i) (s := s) t (by simpa using e)
    exact ⟨x, l, by simpa using h1, by simpa using h2, h3⟩
theorem Slots.lengths : ∀ {σ : L2.St} {ρ : Env} {L : List (List Addr)}, Slots K c H A σ ρ L → σ.length = ρ.length ∧ L.length = ρ.length
  | _, _, _, .nil => ⟨rfl, rfl⟩
  | _, _, _, .cons _ t => let ⟨a, b⟩ := Slots.lengths t; ⟨congrArg (· + 1) a, congrArg (· + 1) b⟩
theorem mem_flat {L : List (List Addr)} {i : Nat} {l : List Addr} {a : Addr} (h : L[i]? = some l) (m : a ∈ l) : a ∈ L.flatten := List.mem_flatten.mpr ⟨l, List.mem_of_getElem? h, m⟩
/-- what an expression leaves -/
structure EPost (c : Option Addr) (H : Hp) (z' : Zs) (H' : Hp) : Prop where
  keep : Keep c H H'
  cell : CellOk c H' z'
  bnd : Bnd H'
theorem EPost.refl {z : Zs} (h : CellOk c H z) (b : Bnd H) : EPost c H z H := ⟨.refl, h, b⟩
theorem EPost.trans {H1 : Hp} {z1 z2 : Zs} (a : EPost c H z1 H1) (b : EPost c H1 z2 H') : EPost c H z2 H' := ⟨a.keep.trans b.keep, b.cell, b.bnd⟩
theorem EPost.dom {z' : Zs} (p : EPost c H z' H') {b : Addr} (h : H b ≠ none) : H' b ≠ none := by
  intro q
  cases e : H b with
  | none => exact h e
  | some o =>
    by_cases n : c = some b
    · have x := p.cell
      rw [n] at x
      cases z' with
      | none => exact x
      | some m => have x' : H' b = some (.lst [.int m]) := x; rw [q] at x'; cases x'
    · rw [p.keep b o e n] at q; cases q
theorem EPost.free {z' : Zs} (p : EPost c H z' H') {b : Addr} (h : H' b = none) : H b = none := by
  cases e : H b with
  | none => rfl
  | some o => exact absurd h (p.dom (by rw [e]; simp))
theorem EPost.laidL {z' : Zs} {q : Addr} {xs : List V} (p : EPost c H z' H') (n : H' q = none) (h : xs.length ≤ sizeLine) : EPost c H z' (upd H' q (.lst xs)) := by
  refine ⟨p.keep.trans (.laid n), ?_, p.bnd.laidL h⟩
  have x := p.cell
  unfold CellOk at x ⊢
  split at x <;> first | trivial | (rw [upd_ne (ne_of_none x n)]; exact x) | exact x.elim
theorem EPost.laidT {z' : Zs} {q : Addr} {xs : List V} (p : EPost c H z' H') (n : H' q = none) (h : xs.length ≤ sizeLine) : EPost c H z' (upd H' q (.tup xs)) := by
  refine ⟨p.keep.trans (.laid n), ?_, p.bnd.laidT h⟩
  have x := p.cell
  unfold CellOk at x ⊢
  split at x <;> first | trivial | (rw [upd_ne (ne_of_none x n)]; exact x) | exact x.elim
theorem cell_ne {z : Zs} {q : Addr} (x : CellOk c H z) (n : H q = none) : c ≠ some q := by
  intro e
  rw [e] at x
  cases z with
  | none => exact x
  | some m => have x' : H q = some (.lst [.int m]) := x; rw [n] at x'; cases x'
theorem Rel.post {w : Wd} {σ : L2.St} {ρ : Env} {z z' : Zs} (h : Rel K w H σ ρ z) (p : EPost w.c H z' H') : Rel K w H' σ ρ z' :=
  ⟨h.sl.keep p.keep fun a m => (h.out a m).2, h.nd, h.out, fun a m => p.dom (h.oin a m), p.cell, p.bnd⟩
theorem Rel.epost {w : Wd} {σ : L2.St} {ρ : Env} {z : Zs} (h : Rel K w H σ ρ z) : EPost w.c H z H := .refl h.cell h.bnd

/-- what a result is -/
def RRes (K : PySem.W.Frag) (c : Option Addr) (A : List Addr) (H H' : Hp) (v : V) : R → Prop
  | .sh d => Rd K c H' A v d
  | .fr ds => ∃ p xs, v = .ref p ∧ H p = none ∧ c ≠ some p ∧ p ∉ A ∧ H' p = some (.lst xs) ∧ Rds K c H' (p :: A) xs ds
  | .vw ds => ∃ p xs, v = .ref p ∧ c ≠ some p ∧ H' p = some (.lst xs) ∧ Rds K c H' A xs ds
  | .vw2 dss => ∃ p bs, v = .ref p ∧ c ≠ some p ∧ H' p = some (.lst (bs.map V.ref)) ∧ Rds2 K c H' A bs dss
  | .fr2 dss => ∃ p bs, v = .ref p ∧ (∀ b ∈ p :: bs, H b = none ∧ c ≠ some b ∧ b ∉ A) ∧ (p :: bs).Nodup ∧ H' p = some (.lst (bs.map V.ref)) ∧ Rds2 K c H' (p :: bs ++ A) bs dss
theorem RRes.keep {H1 : Hp} {v : V} {r : R} (k : Keep c H' H1) (h : RRes K c A H H' v r) : RRes K c A H H1 v r := by
  cases r with
  | sh d => exact Rd.keep k h
  | fr ds => obtain ⟨p, xs, e, n, nc, m, h1, r⟩ := h; exact ⟨p, xs, e, n, nc, m, k _ _ h1 nc, r.keep k⟩
  | vw ds => obtain ⟨p, xs, e, nc, h1, r⟩ := h; exact ⟨p, xs, e, nc, k _ _ h1 nc, r.keep k⟩
  | vw2 ds => obtain ⟨p, xs, e, nc, h1, r⟩ := h; exact ⟨p, xs, e, nc, k _ _ h1 nc, r.keep k⟩
  | fr2 ds => obtain ⟨p, bs, e, n, nd, h1, r⟩ := h; exact ⟨p, bs, e, n, nd, k _ _ h1 (n p List.mem_cons_self).2.1, r.keep k⟩
theorem RRes.older {H0 : Hp} {v : V} {r : R} (k : ∀ b, H b = none → H0 b = none) (h : RRes K c A H H' v r) : RRes K c A H0 H' v r := by
  cases r with
  | sh d => exact h
  | fr ds => obtain ⟨p, xs, e, n, nc, m, h1, r⟩ := h; exact ⟨p, xs, e, k _ n, nc, m, h1, r⟩
  | vw ds => exact h
  | vw2 ds => exact h
  | fr2 ds => obtain ⟨p, bs, e, n, nd, h1, r⟩ := h; exact ⟨p, bs, e, fun b m => ⟨k _ (n b m).1, (n b m).2⟩, nd, h1, r⟩
theorem Rds2.flat : ∀ {bs : List Addr} {dss : List (List D)}, (∀ b ∈ bs, b ∉ A) → Rds2 K c H A bs dss → Rds K c H A (bs.map V.ref) (dss.map .lst)
  | _, _, _, .nil => .nil
  | _, _, nb, .cons n e r t => .cons (.lst n (nb _ List.mem_cons_self) e r) (Rds2.flat (fun b m => nb b (List.mem_cons_of_mem _ m)) t)
theorem RRes.toD {v : V} {r : R} {d : D} (e : r.toD = some d) (h : RRes K c A H H' v r) : Rd K c H' A v d := by
  cases r with
  | sh d' => cases e; exact h
  | fr ds => cases e; obtain ⟨p, xs, rfl, n, nc, m, h1, r⟩ := h; exact .lst nc m h1 (r.imp (fun a o ma na ea => ⟨fun q => ma (List.mem_cons_of_mem _ q), na, ea⟩) (fun _ e => e) (fun a xs e => e))
  | vw ds => cases e
  | vw2 ds => cases e
  | fr2 dss =>
    cases e
    obtain ⟨p, bs, rfl, n, nd, h1, r⟩ := h
    have r' : Rds2 K c H' A bs dss := r.avoid fun a m => .inl (List.mem_append_right _ m)
    exact .lst (n p List.mem_cons_self).2.1 (n p List.mem_cons_self).2.2 h1 (r'.flat fun b m => (n b (List.mem_cons_of_mem _ m)).2.2)
theorem RRes.items {v : V} {r : R} {ds : List D} (e : r.items = some ds) (h : RRes K c A H H' v r) : ∃ p xs, v = .ref p ∧ c ≠ some p ∧ H' p = some (.lst xs) ∧ Rds K c H' A xs ds := by
  cases r with
  | sh d' =>
    cases d' with
    | lst ds' => cases e; cases h with | lst n m h1 r => exact ⟨_, _, rfl, n, h1, r⟩
    | _ => cases e
  | fr ds => cases e; obtain ⟨p, xs, rfl, n, nc, m, h1, r⟩ := h; exact ⟨p, xs, rfl, nc, h1, r.avoid fun a m => .inl (List.mem_cons_of_mem _ m)⟩
  | vw ds => cases e; obtain ⟨p, xs, rfl, nc, h1, r⟩ := h; exact ⟨p, xs, rfl, nc, h1, r⟩
  | vw2 ds => cases e
  | fr2 dss => cases e
/-- as data, read only -/
theorem RRes.view {v : V} {r : R} (h : RRes K c A H H' v r) : Rd K c H' [] v r.view := by
  have sub : ∀ {d : D} {u : V}, Rd K c H' A u d → Rd K c H' [] u d := fun r => r.avoid fun a m => nomatch m
  have subs : ∀ {d : List D} {u : List V}, Rds K c H' A u d → Rds K c H' [] u d := fun r => r.avoid fun a m => nomatch m
  cases r with
  | sh d' => exact sub h
  | fr ds => exact sub (RRes.toD (r := .fr ds) rfl h)
  | vw ds => obtain ⟨p, xs, rfl, nc, h1, r⟩ := h; exact .lst nc (by simp) h1 (subs r)
  | vw2 dss => obtain ⟨p, bs, rfl, nc, h1, r⟩ := h; exact .lst nc (by simp) h1 (Rds2.flat (by simp) (Rds2.avoid (A' := []) (fun a m => absurd m (by simp)) r))
  | fr2 dss => exact sub (RRes.toD (r := .fr2 dss) rfl h)
inductive RRess (K : PySem.W.Frag) (c : Option Addr) (A : List Addr) (H H' : Hp) : List V → List R → Prop
  | nil : RRess K c A H H' [] []
  | cons {v : V} {vs : List V} {r : R} {rs : List R} : RRes K c A H H' v r → RRess K c A H H' vs rs → RRess K c A H H' (v :: vs) (r :: rs)
theorem RRess.toDs {vs : List V} {rs : List R} {ds : List D} (e : toDs rs = some ds) (h : RRess K c A H H' vs rs) : Rds K c H' A vs ds := by
  induction h generalizing ds with
  | nil => cases e; exact .nil
  | @cons v vs r rs h t ih =>
    unfold Mn.toDs at e
    cases q : r.toD with
    | none => rw [q] at e; cases e
    | some d =>
      cases q2 : Mn.toDs rs with
      | none => rw [q, q2] at e; cases e
      | some ds => rw [q, q2] at e; cases e; exact .cons (h.toD q) (ih q2)
theorem RRess.length {vs : List V} {rs : List R} (h : RRess K c A H H' vs rs) : vs.length = rs.length := by
  induction h with
  | nil => rfl
  | cons _ _ ih => exact congrArg (· + 1) ih
theorem RRess.keep {H1 : Hp} (k : Keep c H' H1) {vs : List V} {rs : List R} (h : RRess K c A H H' vs rs) : RRess K c A H H1 vs rs := by
  induction h with
  | nil => exact .nil
  | cons a _ ih => exact .cons (a.keep k) ih
theorem RRess.older {H0 : Hp} (k : ∀ b, H b = none → H0 b = none) {vs : List V} {rs : List R} (h : RRess K c A H H' vs rs) : RRess K c A H0 H' vs rs := by
  induction h with
  | nil => exact .nil
  | cons a _ ih => exact .cons (a.older k) ih
end
end Mn

set_option maxHeartbeats 1000000
/-! Mini: the evaluator is sound: operators, expressions. -/
namespace Mn
open PySem L2

section
variable {K : PySem.W.Frag} {c : Option Addr} {A : List Addr} {H0 H : Hp}
mutual
theorem Rd.dp : ∀ (d : D) (v : V) (p : PyData), Rd K c H A v d → d.pd = some p → Dp K H v p
  | .non, _, p, h, e => by cases h; unfold D.pd at e; cases e; exact .non
  | .bl b, _, p, h, e => by cases h; unfold D.pd at e; cases e; exact .bl b
  | .int i, _, p, h, e => by cases h; unfold D.pd at e; cases e; exact .int i
  | .str x, _, p, h, e => by cases h; unfold D.pd at e; cases e; exact .str x
  | .hd, _, p, h, e => by unfold D.pd at e; cases e
  | .ext ns, _, p, h, e => by unfold D.pd at e; cases e
  | .tup ds, _, p, h, e => by
    unfold D.pd at e
    cases q : pds ds with
    | none => rw [q] at e; cases e
    | some ps =>
      rw [q] at e; cases e
      cases h with
      | tup n m h1 r => exact .tup (SqT.of h1) (Rds.dp ds _ ps r q)
  | .lst ds, _, p, h, e => by
    unfold D.pd at e
    cases q : pds ds with
    | none => rw [q] at e; cases e
    | some ps =>
      rw [q] at e; cases e
      cases h with
      | lst n m h1 r => exact .lst (SqL.of h1) (Rds.dp ds _ ps r q)
theorem Rds.dp : ∀ (ds : List D) (vs : List V) (ps : List PyData), Rds K c H A vs ds → pds ds = some ps → DpAll K H vs ps
  | [], _, ps, h, e => by cases h; unfold pds at e; cases e; exact .nil
  | d :: ds, _, ps, h, e => by
    unfold pds at e
    cases q : d.pd with
    | none => rw [q] at e; cases e
    | some p =>
      cases q2 : pds ds with
      | none => rw [q, q2] at e; cases e
      | some ps =>
        rw [q, q2] at e; cases e
        cases h with
        | cons r t => exact .cons (Rd.dp d _ p r q) (Rds.dp ds _ ps t q2)
end
end

/-- a two-place operation on values is what f says of results -/
def Op2 (K : PySem.W.Frag) (r : R2) (f : R → R → Option R) : Prop := ∀ (c : Option Addr) (A : List Addr) (H0 H : Hp) (z : Zs) (x y : V) (rx ry ro : R) (Q : VK), (∀ b, H b = none → H0 b = none) →
  CellOk c H z → Bnd H → (∀ a ∈ A, H a ≠ none) → RRes K c A H0 H x rx → RRes K c A H0 H y ry → f rx ry = some ro → (∀ v H', EPost c H z H' → RRes K c A H0 H' v ro → Q v H') → r x y H Q
theorem not_mem_new {A : List Addr} {H : Hp} {p : Addr} (h : ∀ a ∈ A, H a ≠ none) (n : H p = none) : p ∉ A := fun m => h p m n
/-- a new list as a result -/
theorem new_list {K : PySem.W.Frag} {c : Option Addr} {A : List Addr} {H0 H : Hp} {z : Zs} {p : Addr} {xs : List V} {ds : List D} (h0 : ∀ b, H b = none → H0 b = none) (hc : CellOk c H z) (hb : Bnd H) (hA : ∀ a ∈ A, H a ≠ none)
    (r : Rds K c H A xs ds) (n : H p = none) (hz : xs.length ≤ sizeLine) : EPost c H z (upd H p (.lst xs)) ∧ RRes K c A H0 (upd H p (.lst xs)) (.ref p) (.fr ds) := by
  have k : Keep c H (upd H p (.lst xs)) := .laid n
  refine ⟨(EPost.refl hc hb).laidL n hz, p, xs, rfl, h0 p n, cell_ne hc n, not_mem_new hA n, upd_same, Rds.keep k (r.avoid fun a m => ?_)⟩
  rcases List.mem_cons.mp m with rfl | m
  · exact .inr n
  · exact .inl m
theorem small_le {n : Nat} (h : small n = true) : n ≤ sizeLine := by
  unfold small at h
  have := of_decide_eq_true h
  rw [sizeLine_eq]
  exact this
theorem RRes.int {K : PySem.W.Frag} {c : Option Addr} {A : List Addr} {H H' : Hp} {v : V} {i : Int} (h : RRes K c A H H' v (.sh (.int i))) : v = .int i := by
  have h : Rd K c H' A v (.int i) := h
  cases h; rfl
theorem RRes.bl {K : PySem.W.Frag} {c : Option Addr} {A : List Addr} {H H' : Hp} {v : V} {b : Bool} (h : RRes K c A H H' v (.sh (.bl b))) : v = .bl b := by
  have h : Rd K c H' A v (.bl b) := h
  cases h; rfl
theorem toB_eq {r : R} {b : Bool} (h : toB r = some b) : r = .sh (.bl b) := by
  unfold toB at h
  split at h
  · cases h; rfl
  · cases h

/-! ### operators -/
theorem mulOk_ok {i j : Int} (h : mulOk i j = true) : IntMulOk i j := by
  unfold mulOk at h
  simp only [Bool.or_eq_true, Bool.and_eq_true, decide_eq_true_eq] at h
  rcases h with (⟨h1, h2⟩ | ⟨h1, h2⟩) | h
  · exact .of_left (intBits_le_64 (by omega) (by omega))
  · exact .of_right (intBits_le_64 (by omega) (by omega))
  · exact CMulW.ok h
theorem intR_eq {f : Int → Int → Option Int} {x y r : R} (h : intR f x y = some r) : ∃ i j o, x = .sh (.int i) ∧ y = .sh (.int j) ∧ f i j = some o ∧ r = .sh (.int o) := by
  unfold intR at h
  split at h
  · rename_i i j
    cases e : f i j with
    | none => rw [e] at h; cases h
    | some o => rw [e] at h; cases h; exact ⟨i, j, o, rfl, rfl, e, rfl⟩
  · cases h
theorem ordR_eq {f : Int → Int → Bool} {x y : R} {b : Bool} (h : ordR f x y = some b) : ∃ i j, x = .sh (.int i) ∧ y = .sh (.int j) ∧ f i j = b := by
  unfold ordR at h
  split at h
  · exact ⟨_, _, rfl, rfl, Option.some.inj h⟩
  · cases h
theorem isNoneR_eq {x : R} (h : isNoneR x = true) : x = .sh .non := by
  unfold isNoneR at h
  split at h
  · rfl
  · cases h
theorem op2_int {K : PySem.W.Frag} {Cd : Int → Int → Prop} {g : Int → Int → Int} {f : Int → Int → Option Int} (hf : ∀ i j o, f i j = some o → Cd i j ∧ g i j = o) : Op2 K (rI Cd fun i j => .int (g i j)) (intR f) := by
  intro c A H0 H z x y rx ry ro Q h0 hc hb hA hx hy e q
  obtain ⟨i, j, o, rfl, rfl, ef, rfl⟩ := intR_eq e
  obtain ⟨hC, rfl⟩ := hf i j o ef
  exact ⟨i, j, hx.int, hy.int, hC, q _ _ (.refl hc hb) (Rd.int _)⟩
theorem op2_int0 {K : PySem.W.Frag} {g : Int → Int → Int} : Op2 K (rI0 fun i j => .int (g i j)) (intR fun i j => some (g i j)) := by
  intro c A H0 H z x y rx ry ro Q h0 hc hb hA hx hy e q
  obtain ⟨i, j, o, rfl, rfl, ef, rfl⟩ := intR_eq e
  cases ef
  exact ⟨i, j, hx.int, hy.int, q _ _ (.refl hc hb) (Rd.int _)⟩
theorem op2_or {K : PySem.W.Frag} {r r' : R2} {f f' : R → R → Option R} (h : Op2 K r f) (h' : Op2 K r' f') : Op2 K (fun x y H Q => r x y H Q ∨ r' x y H Q) (fun x y => (f x y).or (f' x y)) := by
  intro c A H0 H z x y rx ry ro Q h0 hc hb hA hx hy e q
  cases ef : f rx ry with
  | some o =>
    have e : (f rx ry).or (f' rx ry) = some ro := e
    rw [ef] at e
    cases e
    exact .inl (h c A H0 H z x y rx ry _ Q h0 hc hb hA hx hy ef q)
  | none =>
    have e : (f rx ry).or (f' rx ry) = some ro := e
    rw [ef, Option.none_or] at e
    exact .inr (h' c A H0 H z x y rx ry _ Q h0 hc hb hA hx hy e q)
theorem op2_cat {K : PySem.W.Frag} : Op2 K rCat catR := by
  intro c A H0 H z x y rx ry ro Q h0 hc hb hA hx hy e q
  unfold catR at e
  split at e
  · rename_i a b ex ey
    split at e
    · rename_i hs
      cases e
      obtain ⟨p, xs, rfl, n1, h1, r1⟩ := hx.items ex
      obtain ⟨p', ys, rfl, n2, h2, r2⟩ := hy.items ey
      have hl : xs.length + ys.length ≤ sizeLine := by rw [r1.length, r2.length]; exact small_le hs
      refine ⟨p, p', xs, ys, rfl, rfl, h1, h2, hl, fun l nl => ?_⟩
      obtain ⟨ep, rr⟩ := new_list (p := l) h0 hc hb hA (r1.append r2) nl (by rw [List.length_append]; exact hl)
      exact q _ _ ep rr
    · cases e
  · cases e
theorem op2_rep {K : PySem.W.Frag} : Op2 K rRep repR := by
  intro c A H0 H z x y rx ry ro Q h0 hc hb hA hx hy e q
  unfold repR at e
  split at e
  · rename_i ds k ex
    split at e
    · rename_i hs
      cases e
      obtain ⟨p, xs, rfl, n1, h1, r1⟩ := hx.items ex
      have hl : xs.length * k.toNat ≤ sizeLine := by rw [r1.length]; exact small_le hs.1
      refine ⟨p, k, xs, rfl, hy.int, h1, by omega, by omega, hl, fun l nl => ?_⟩
      obtain ⟨ep, rr⟩ := new_list (p := l) h0 hc hb hA (r1.rep k.toNat) nl (by rw [List.length_flatten, List.map_replicate, List.sum_replicate_nat, Nat.mul_comm]; exact hl)
      exact q _ _ ep rr
    · cases e
  · cases e
def rBin (K : PySem.W.Frag) : BOp → R2
  | .add => fun x y H Q => rI0 (fun i j => .int (i + j)) x y H Q ∨ rCat x y H Q
  | .sub => rI0 fun i j => .int (i - j)
  | .mul => fun x y H Q => rI IntMulOk (fun i j => .int (i * j)) x y H Q ∨ rRep x y H Q
  | .fdiv => rI (fun _ j => j ≠ 0 ∧ j.natAbs.log2 < 9000) fun i j => .int (i.fdiv j)
  | .mod => rI (fun _ j => j ≠ 0) fun i j => .int (i.fmod j)
  | .pow => rI CPow fun i j => .int (i ^ j.toNat)
  | .band => rI0 fun i j => .int (Builtin.bitAnd i j)
def rIBin : BOp → R2
  | .add => rI0 (fun i j => .int (i + j))
  | .sub => rI0 fun i j => .int (i - j)
  | .mul => rI IntMulOk (fun i j => .int (i * j))
  | .fdiv => rI (fun _ j => j ≠ 0 ∧ j.natAbs.log2 < 9000) fun i j => .int (i.fdiv j)
  | .mod => rI (fun _ j => 0 < j) fun i j => .int (i % j)
  | .pow => fun _ _ _ _ => False
  | .band => rI0 fun i j => .int (Builtin.bitAnd i j)
def opOf : BOp → Operator
  | .add => .Add | .sub => .Sub | .mul => .Mult | .fdiv => .FloorDiv | .mod => .Mod | .pow => .Pow | .band => .BitAnd
theorem op_bin {X : Cx} : ∀ op : BOp, OpR X (binaryOp (opOf op)) (rBin X.K op)
  | .add => op_add.or op_cat
  | .sub => op_sub
  | .mul => OpR.or (opI fun _ _ _ _ _ _ _ hc q => PyProof.Rows.mul_int q hc) op_rep
  | .fdiv => opI fun _ _ _ _ _ _ _ hc q => PyProof.Rows.floordiv_int hc.1 q (.inl (PyProof.noPylong_of_log2 hc.2))
  | .mod => op_modN
  | .pow => op_pow
  | .band => op_and
theorem iop_bin {X : Cx} : ∀ op : BOp, OpR X (inplaceOp (opOf op)) (rIBin op)
  | .add => iop_add
  | .sub => iop_sub
  | .mul => opI fun _ _ _ _ _ _ _ hc q => PyProof.Rows.imul_int q hc
  | .fdiv => opI fun i j _ _ _ _ _ hc q => PyProof.Rows.ifloordiv_int hc.1 q (.inl (PyProof.noPylong_of_log2 hc.2))
  | .mod => iop_mod
  | .pow => fun _ _ _ _ _ _ _ _ _ _ _ _ h => h.elim
  | .band => iop_and
theorem op2_mul {K : PySem.W.Frag} : Op2 K (rI IntMulOk fun i j => .int (i * j)) (intR fun i j => if mulOk i j = true then some (i * j) else none) := op2_int fun i j o e => by
  split at e
  · rename_i h; cases e; exact ⟨mulOk_ok h, rfl⟩
  · cases e
theorem op2_fdiv {K : PySem.W.Frag} : Op2 K (rI (fun _ j => j ≠ 0 ∧ j.natAbs.log2 < 9000) fun i j => .int (i.fdiv j)) (intR fun i j => if j ≠ 0 ∧ j.natAbs.log2 < 9000 then some (i.fdiv j) else none) := op2_int fun i j o e => by
  split at e
  · rename_i h; cases e; exact ⟨h, rfl⟩
  · cases e
theorem op2_bin (K : PySem.W.Frag) : ∀ op : BOp, Op2 K (rBin K op) (binR op)
  | .add => op2_or op2_int0 op2_cat
  | .sub => op2_int0
  | .mul => op2_or op2_mul op2_rep
  | .fdiv => op2_fdiv
  | .mod => op2_int fun i j o e => by
    split at e
    · rename_i h; cases e; exact ⟨h, rfl⟩
    · cases e
  | .pow => op2_int fun i j o e => by
    split at e
    · rename_i h; cases e; exact ⟨⟨h.1, h.2.1, by omega⟩, rfl⟩
    · cases e
  | .band => op2_int0
theorem op2_ibin (K : PySem.W.Frag) : ∀ op : BOp, Op2 K (rIBin op) (ibinR op)
  | .add => op2_int0
  | .sub => op2_int0
  | .mul => op2_mul
  | .fdiv => op2_fdiv
  | .mod => op2_int fun i j o e => by
    split at e
    · rename_i h; cases e; exact ⟨h, rfl⟩
    · cases e
  | .pow => fun _ _ _ _ _ _ _ _ _ _ _ _ _ _ _ _ _ e _ => by cases e
  | .band => op2_int0

/-! ### comparisons -/
/-- a comparison -/
def Cmp2 (K : PySem.W.Frag) (r : R2) (f : R → R → Option Bool) : Prop := ∀ (c : Option Addr) (A : List Addr) (H0 H : Hp) (x y : V) (rx ry : R) (b : Bool) (Q : VK),
  RRes K c A H0 H x rx → RRes K c A H0 H y ry → f rx ry = some b → Q (.bl b) H → r x y H Q
def copOf : COp → CmpOp
  | .eq => .Eq | .ne => .NotEq | .lt => .Lt | .le => .LtE | .gt => .Gt | .ge => .GtE | .isn => .Is | .notn => .IsNot | .isin => .In | .notin => .NotIn
def rCmp (K : PySem.W.Frag) : COp → R2
  | .eq => rEqD K
  | .ne => rNeD K
  | .lt => rI0 fun i j => .bl (decide (i < j))
  | .le => rI0 fun i j => .bl (decide (i ≤ j))
  | .gt => rI0 fun i j => .bl (decide (j < i))
  | .ge => rI0 fun i j => .bl (decide (j ≤ i))
  | .isn => fun x y H Q => y = .non ∧ Q (.bl (decide (x = .non))) H
  | .notn => fun x y H Q => y = .non ∧ Q (.bl (!decide (x = .non))) H
  | .isin => rInD K
  | .notin => rNotInD K
theorem op_cmp {X : Cx} (hu : X.A.units + 65 < cLine) : ∀ op : COp, OpR X (compareOp (copOf op)) (rCmp X.K op)
  | .eq => op_eqD (by omega)
  | .ne => op_neD (by omega)
  | .lt => op_lt
  | .le => op_le
  | .gt => op_gt
  | .ge => op_ge
  | .isn => op_isN
  | .notn => op_notN
  | .isin => op_inD hu
  | .notin => op_notInD hu
theorem eqD_eq {a b : D} {t : Bool} (h : eqD a b = some t) : ∃ p q, a.pd = some p ∧ b.pd = some q ∧ SeqAt.shaped p = true ∧ SeqAt.shaped q = true ∧ t = PyData.eqv p q := by
  unfold eqD at h
  split at h
  · rename_i p q e1 e2
    split at h
    · rename_i hs
      exact ⟨p, q, e1, e2, hs.1, hs.2, (Option.some.inj h).symm⟩
    · cases h
  · cases h
theorem inR_eq {x y : R} {t : Bool} (h : inR x y = some t) : ∃ d ds, x.view.pd = some d ∧ y.view.pd = some (.list ds) ∧ SeqAt.shaped d = true ∧ SeqAt.shaped (.list ds) = true ∧ t = ds.any fun u => PyData.eqv u d := by
  unfold inR at h
  split at h
  · rename_i p q e1 e2
    split at h
    · rename_i hs
      exact ⟨p, q, e1, e2, hs.1, hs.2, (Option.some.inj h).symm⟩
    · cases h
  · cases h
theorem RRes.isN {K : PySem.W.Frag} {c : Option Addr} {A : List Addr} {H H' : Hp} {v : V} {r : R} (h : RRes K c A H H' v r) : decide (v = .non) = isNoneR r := by
  cases r with
  | sh d =>
    have h : Rd K c H' A v d := h
    cases h <;> first | rfl | exact decide_eq_false (fun q => by cases q)
  | fr ds => obtain ⟨p, xs, rfl, _⟩ := h; exact decide_eq_false (fun q => by cases q)
  | vw ds => obtain ⟨p, xs, rfl, _⟩ := h; exact decide_eq_false (fun q => by cases q)
  | vw2 ds => obtain ⟨p, xs, rfl, _⟩ := h; exact decide_eq_false (fun q => by cases q)
  | fr2 ds => obtain ⟨p, xs, rfl, _⟩ := h; exact decide_eq_false (fun q => by cases q)
theorem cmp2_ord {K : PySem.W.Frag} {f : Int → Int → Bool} : Cmp2 K (rI0 fun i j => .bl (f i j)) (ordR f) := by
  intro c A H0 H x y rx ry b Q hx hy e q
  obtain ⟨i, j, rfl, rfl, rfl⟩ := ordR_eq e
  exact ⟨i, j, hx.int, hy.int, q⟩
theorem cmp2 (K : PySem.W.Frag) : ∀ op : COp, Cmp2 K (rCmp K op) (cmpR op)
  | .eq => fun c A H0 H x y rx ry b Q hx hy e q => by
    obtain ⟨p, p', e1, e2, s1, s2, rfl⟩ := eqD_eq e
    exact ⟨p, p', hx.view.dp _ _ _ e1, hy.view.dp _ _ _ e2, s1, s2, q⟩
  | .ne => fun c A H0 H x y rx ry b Q hx hy e q => by
    obtain ⟨t, et, e'⟩ := Option.map_eq_some_iff.mp e
    obtain ⟨p, p', e1, e2, s1, s2, rfl⟩ := eqD_eq et
    subst e'
    exact ⟨p, p', hx.view.dp _ _ _ e1, hy.view.dp _ _ _ e2, s1, s2, q⟩
  | .lt => cmp2_ord
  | .le => cmp2_ord
  | .gt => cmp2_ord
  | .ge => cmp2_ord
  | .isn => fun c A H0 H x y rx ry b Q hx hy e q => by
    have e : (if isNoneR ry = true then some (isNoneR rx) else none) = some b := e
    split at e
    · rename_i h
      cases e
      rw [isNoneR_eq h] at hy
      have hy : Rd K c H A y .non := hy
      cases hy
      exact ⟨rfl, by rw [hx.isN]; exact q⟩
    · cases e
  | .notn => fun c A H0 H x y rx ry b Q hx hy e q => by
    have e : (if isNoneR ry = true then some (!isNoneR rx) else none) = some b := e
    split at e
    · rename_i h
      cases e
      rw [isNoneR_eq h] at hy
      have hy : Rd K c H A y .non := hy
      cases hy
      exact ⟨rfl, by rw [hx.isN]; exact q⟩
    · cases e
  | .isin => fun c A H0 H x y rx ry b Q hx hy e q => by
    obtain ⟨p, p', e1, e2, s1, s2, rfl⟩ := inR_eq e
    exact ⟨p, p', hx.view.dp _ _ _ e1, hy.view.dp _ _ _ e2, s1, s2, q⟩
  | .notin => fun c A H0 H x y rx ry b Q hx hy e q => by
    obtain ⟨t, et, e'⟩ := Option.map_eq_some_iff.mp e
    obtain ⟨p, p', e1, e2, s1, s2, rfl⟩ := inR_eq et
    subst e'
    exact ⟨p, p', hx.view.dp _ _ _ e1, hy.view.dp _ _ _ e2, s1, s2, q⟩
end Mn

set_option maxHeartbeats 1000000
/-! Mini: built-in calls, subscripts. -/
namespace Mn
open PySem L2

/-- a call of a known value -/
def Cl (K : PySem.W.Frag) (r : List V → Hp → VK → Prop) (f : List R → Option R) : Prop := ∀ (c : Option Addr) (A : List Addr) (H0 H : Hp) (z : Zs) (xs : List V) (rs : List R) (ro : R) (Q : VK), (∀ b, H b = none → H0 b = none) →
  CellOk c H z → Bnd H → (∀ a ∈ A, H a ≠ none) → RRess K c A H0 H xs rs → f rs = some ro → (∀ v H', EPost c H z H' → RRes K c A H0 H' v ro → Q v H') → r xs H Q
section
variable {K : PySem.W.Frag} {c : Option Addr} {A : List Addr} {H0 H : Hp}
theorem RRess.one {xs : List V} {r : R} (h : RRess K c A H0 H xs [r]) : ∃ x, xs = [x] ∧ RRes K c A H0 H x r := by
  cases h with
  | cons a t => cases t; exact ⟨_, rfl, a⟩
theorem RRess.two {xs : List V} {r s : R} (h : RRess K c A H0 H xs [r, s]) : ∃ x y, xs = [x, y] ∧ RRes K c A H0 H x r ∧ RRes K c A H0 H y s := by
  cases h with
  | cons a t =>
    cases t with
    | cons b t => cases t; exact ⟨_, _, rfl, a, b⟩
theorem RRes.len {x : V} {r : R} {n : Nat} (h : RRes K c A H0 H x r) (e : lenR r = some n) : LenV K x H n := by
  cases r with
  | sh d =>
    have h : Rd K c H A x d := h
    cases d with
    | tup ds => cases e; cases h with | tup n m h1 r => exact .inr ⟨_, SqT.of h1, r.length.symm⟩
    | lst ds => cases e; cases h with | lst n m h1 r => exact .inl ⟨_, SqL.of h1, r.length.symm⟩
    | ext ns => cases e; cases h with | ext e => exact .inl ⟨_, e.sq, by rw [List.length_map]⟩
    | _ => cases e
  | fr ds => cases e; obtain ⟨p, xs, rfl, n, nc, m, h1, r⟩ := h; exact .inl ⟨_, SqL.of h1, r.length.symm⟩
  | vw ds => cases e; obtain ⟨p, xs, rfl, nc, h1, r⟩ := h; exact .inl ⟨_, SqL.of h1, r.length.symm⟩
  | vw2 ds => cases e; obtain ⟨p, xs, rfl, nc, h1, r⟩ := h; exact .inl ⟨_, SqL.of h1, by rw [List.length_map]; exact r.length.symm⟩
  | fr2 ds => cases e; obtain ⟨p, xs, rfl, n, nd, h1, r⟩ := h; exact .inl ⟨_, SqL.of h1, by rw [List.length_map]; exact r.length.symm⟩
theorem RRes.seq {x : V} {r : R} {ds : List D} (h : RRes K c A H0 H x r) (e : seqR r = some ds) : ∃ p xs, x = .ref p ∧ (H p = some (.lst xs) ∨ H p = some (.tup xs)) ∧ Rds K c H A xs ds ∧ ((∃ ys, H p = some (.tup ys)) → r = .sh (.tup ds)) := by
  by_cases ht : ∃ es, r = .sh (.tup es)
  · obtain ⟨es, rfl⟩ := ht
    cases e
    have h : Rd K c H A x (.tup ds) := h
    cases h with
    | tup n m h1 r => exact ⟨_, _, rfl, .inr h1, r, fun _ => rfl⟩
  · have e : r.items = some ds := by
      cases r with
      | sh d =>
        cases d with
        | tup es => exact absurd ⟨es, rfl⟩ ht
        | _ => exact e
      | _ => exact e
    obtain ⟨p, xs, rfl, n, h1, r⟩ := h.items e
    exact ⟨p, xs, rfl, .inl h1, r, fun ⟨ys, hy⟩ => by rw [h1] at hy; cases hy⟩
end
theorem oneR_eq {f : R → Option R} {rs : List R} {o : R} (h : oneR f rs = some o) : ∃ x, rs = [x] ∧ f x = some o := by
  unfold oneR at h
  split at h
  · exact ⟨_, rfl, h⟩
  · cases h
theorem twoR_eq {f : R → R → Option R} {rs : List R} {o : R} (h : twoR f rs = some o) : ∃ x y, rs = [x, y] ∧ f x y = some o := by
  unfold twoR at h
  split at h
  · exact ⟨_, _, rfl, h⟩
  · cases h
theorem maxI_is : ∀ (ns : List Int) (m : Int), (maxI m ns = m ∨ maxI m ns ∈ ns) ∧ m ≤ maxI m ns ∧ ∀ y ∈ ns, y ≤ maxI m ns
  | [], m => ⟨.inl rfl, Int.le_refl _, fun y h => nomatch h⟩
  | x :: xs, m => by
    obtain ⟨h1, h2, h3⟩ := maxI_is xs (if x > m then x else m)
    unfold maxI
    refine ⟨?_, ?_, fun y hy => ?_⟩
    · rcases h1 with h1 | h1
      · split at h1
        · rename_i h; rw [if_pos h, h1]; exact .inr List.mem_cons_self
        · rename_i h; rw [if_neg h, h1]; exact .inl rfl
      · exact .inr (List.mem_cons_of_mem _ h1)
    · split at h2 <;> rename_i h
      · rw [if_pos h]; omega
      · rw [if_neg h]; exact h2
    · rcases List.mem_cons.mp hy with rfl | hy
      · split at h2 <;> rename_i h
        · rw [if_pos h]; exact h2
        · rw [if_neg h]; omega
      · exact h3 y hy
theorem minI_is : ∀ (ns : List Int) (m : Int), (minI m ns = m ∨ minI m ns ∈ ns) ∧ minI m ns ≤ m ∧ ∀ y ∈ ns, minI m ns ≤ y
  | [], m => ⟨.inl rfl, Int.le_refl _, fun y h => nomatch h⟩
  | x :: xs, m => by
    obtain ⟨h1, h2, h3⟩ := minI_is xs (if x < m then x else m)
    unfold minI
    refine ⟨?_, ?_, fun y hy => ?_⟩
    · rcases h1 with h1 | h1
      · split at h1
        · rename_i h; rw [if_pos h, h1]; exact .inr List.mem_cons_self
        · rename_i h; rw [if_neg h, h1]; exact .inl rfl
      · exact .inr (List.mem_cons_of_mem _ h1)
    · split at h2 <;> rename_i h
      · rw [if_pos h]; omega
      · rw [if_neg h]; exact h2
    · rcases List.mem_cons.mp hy with rfl | hy
      · split at h2 <;> rename_i h
        · rw [if_pos h]; exact h2
        · rw [if_neg h]; omega
      · exact h3 y hy
theorem max_same {ns : List Int} {m k : Int} {r : List Int} (e : ns = m :: r) (hk : k ∈ ns) (hm : ∀ y, y ∈ ns → y ≤ k) : k = maxI m r := by
  subst e
  obtain ⟨h1, h2, h3⟩ := maxI_is r m
  have a : maxI m r ∈ m :: r := h1.elim (fun q => by rw [q]; exact List.mem_cons_self) fun q => List.mem_cons_of_mem _ q
  have b := hm _ a
  rcases List.mem_cons.mp hk with q | q
  · omega
  · have := h3 k q; omega
theorem min_same {ns : List Int} {m k : Int} {r : List Int} (e : ns = m :: r) (hk : k ∈ ns) (hm : ∀ y, y ∈ ns → k ≤ y) : k = minI m r := by
  subst e
  obtain ⟨h1, h2, h3⟩ := minI_is r m
  have a : minI m r ∈ m :: r := h1.elim (fun q => by rw [q]; exact List.mem_cons_self) fun q => List.mem_cons_of_mem _ q
  have b := hm _ a
  rcases List.mem_cons.mp hk with q | q
  · omega
  · have := h3 k q; omega
theorem RRes.iints {K : PySem.W.Frag} {c : Option Addr} {A : List Addr} {H0 H : Hp} {x : V} {r : R} {ns : List Int} (h : RRes K c A H0 H x r) (e : r.items.bind intsOf = some ns) : ∃ p, x = .ref p ∧ SqL K H p (ns.map V.int) := by
  obtain ⟨ds, e1, e2⟩ := Option.bind_eq_some_iff.mp e
  obtain ⟨p, xs, rfl, n, h1, r1⟩ := h.items e1
  exact ⟨p, rfl, SqL.of (by rw [h1, Rds.ints r1 e2])⟩
def biVal : Bi → Value
  | .len => .builtin "len" | .abs => .builtin "abs" | .max2 => .builtin "max" | .min2 => .builtin "min" | .maxl => .builtin "max" | .minl => .builtin "min"
  | .int => .type "int" | .list => .type "list" | .tuple => .type "tuple" | .sum => .builtin "sum"
def biName : Bi → Str
  | .len => "len" | .abs => "abs" | .max2 => "max" | .min2 => "min" | .maxl => "max" | .minl => "min"
  | .int => "int" | .list => "list" | .tuple => "tuple" | .sum => "sum"
theorem biBoot : ∀ b : Bi, bootBuiltins (biName b) = some (biVal b)
  | .len => PySem.boot_len
  | .abs => PyProof.Rows.boot_abs
  | .max2 => by decide +kernel
  | .min2 => by decide +kernel
  | .maxl => by decide +kernel
  | .minl => by decide +kernel
  | .int => PyProof.Rows.boot_int
  | .list => PyProof.Rows.boot_list
  | .tuple => PyProof.Rows.boot_tuple
  | .sum => by decide +kernel
theorem cl_len {K : PySem.W.Frag} : Cl K (fun xs H Q => ∃ (x : V) (n : Nat), xs = [x] ∧ LenV K x H n ∧ Q (.int n) H) (biR .len) := by
  intro c A H0 H z xs rs ro Q h0 hc hb hA hx e q
  obtain ⟨x, rfl, e⟩ := oneR_eq e
  obtain ⟨v, rfl, hv⟩ := hx.one
  obtain ⟨n, en, rfl⟩ := Option.map_eq_some_iff.mp e
  exact ⟨v, n, rfl, hv.len en, q _ _ (.refl hc hb) (Rd.int _)⟩
theorem cl_abs {K : PySem.W.Frag} : Cl K (fun xs H Q => ∃ i, xs = [.int i] ∧ Q (.int (if i < 0 then -i else i)) H) (biR .abs) := by
  intro c A H0 H z xs rs ro Q h0 hc hb hA hx e q
  obtain ⟨x, rfl, e⟩ := oneR_eq e
  obtain ⟨v, rfl, hv⟩ := hx.one
  have e : absR x = some ro := e
  unfold absR at e
  split at e
  · cases e
    exact ⟨_, by rw [hv.int], q _ _ (.refl hc hb) (Rd.int _)⟩
  · cases e
theorem cl_two {K : PySem.W.Frag} {g : Int → Int → Int} : Cl K (fun xs H Q => ∃ i j, xs = [.int i, .int j] ∧ Q (.int (g i j)) H) (twoR (intR fun i j => some (g i j))) := by
  intro c A H0 H z xs rs ro Q h0 hc hb hA hx e q
  obtain ⟨x, y, rfl, e⟩ := twoR_eq e
  obtain ⟨v, w, rfl, hv, hw⟩ := hx.two
  obtain ⟨i, j, o, rfl, rfl, ef, rfl⟩ := intR_eq e
  cases ef
  exact ⟨i, j, by rw [hv.int, hw.int], q _ _ (.refl hc hb) (Rd.int _)⟩
theorem cl_maxl {K : PySem.W.Frag} : Cl K (rMax K) (biR .maxl) := by
  intro c A H0 H z xs rs ro Q h0 hc hb hA hx e q
  obtain ⟨x, rfl, e⟩ := oneR_eq e
  obtain ⟨v, rfl, hv⟩ := hx.one
  have e : maxlR x = some ro := e
  unfold maxlR at e
  split at e
  · rename_i m ns em
    cases e
    obtain ⟨p, rfl, hp⟩ := hv.iints em
    refine ⟨p, m :: ns, rfl, hp, by simp, fun k hk hm => ?_⟩
    rw [max_same rfl hk hm]
    exact q _ _ (.refl hc hb) (Rd.int _)
  · cases e
theorem cl_minl {K : PySem.W.Frag} : Cl K (rMin K) (biR .minl) := by
  intro c A H0 H z xs rs ro Q h0 hc hb hA hx e q
  obtain ⟨x, rfl, e⟩ := oneR_eq e
  obtain ⟨v, rfl, hv⟩ := hx.one
  have e : minlR x = some ro := e
  unfold minlR at e
  split at e
  · rename_i m ns em
    cases e
    obtain ⟨p, rfl, hp⟩ := hv.iints em
    refine ⟨p, m :: ns, rfl, hp, by simp, fun k hk hm => ?_⟩
    rw [min_same rfl hk hm]
    exact q _ _ (.refl hc hb) (Rd.int _)
  · cases e
theorem cl_int {K : PySem.W.Frag} : Cl K (fun xs H Q => (∃ i, xs = [.int i] ∧ Q (.int i) H) ∨ ∃ k, xs = [.bl k] ∧ Q (.int (if k then 1 else 0)) H) (biR .int) := by
  intro c A H0 H z xs rs ro Q h0 hc hb hA hx e q
  obtain ⟨x, rfl, e⟩ := oneR_eq e
  obtain ⟨v, rfl, hv⟩ := hx.one
  obtain ⟨n, en, rfl⟩ := Option.map_eq_some_iff.mp e
  unfold intOfR at en
  split at en
  · cases en; exact .inl ⟨_, by rw [hv.int], q _ _ (.refl hc hb) (Rd.int _)⟩
  · cases en; exact .inr ⟨_, by rw [hv.bl], q _ _ (.refl hc hb) (Rd.int _)⟩
  · cases en
theorem cl_list {K : PySem.W.Frag} : Cl K (fun xs H Q => ∃ p ys, xs = [.ref p] ∧ (SqL K H p ys ∨ SqT K H p ys) ∧ ∀ l, H l = none → Q (.ref l) (upd H l (.lst ys))) (biR .list) := by
  intro c A H0 H z xs rs ro Q h0 hc hb hA hx e q
  obtain ⟨x, rfl, e⟩ := oneR_eq e
  obtain ⟨v, rfl, hv⟩ := hx.one
  obtain ⟨ds, en, rfl⟩ := Option.map_eq_some_iff.mp e
  obtain ⟨p, ys, rfl, hp, r1, _⟩ := hv.seq en
  have hz : ys.length ≤ sizeLine := hp.elim (fun h => hb.1 _ _ h) fun h => hb.2 _ _ h
  refine ⟨p, ys, rfl, hp.elim (fun h => .inl (SqL.of h)) fun h => .inr (SqT.of h), fun l nl => ?_⟩
  obtain ⟨ep, rr⟩ := new_list (p := l) h0 hc hb hA r1 nl hz
  exact q _ _ ep rr
theorem cl_tuple {K : PySem.W.Frag} : Cl K (fun xs H Q => ∃ p ys, xs = [.ref p] ∧ ((SqL K H p ys ∧ ∀ l, H l = none → Q (.ref l) (upd H l (.tup ys))) ∨ (SqT K H p ys ∧ Q (.ref p) H))) (biR .tuple) := by
  intro c A H0 H z xs rs ro Q h0 hc hb hA hx e q
  obtain ⟨x, rfl, e⟩ := oneR_eq e
  obtain ⟨v, rfl, hv⟩ := hx.one
  obtain ⟨ds, en, rfl⟩ := Option.map_eq_some_iff.mp e
  obtain ⟨p, ys, rfl, hp, r1, ht⟩ := hv.seq en
  rcases hp with hp | hp
  · refine ⟨p, ys, rfl, .inl ⟨SqL.of hp, fun l nl => ?_⟩⟩
    exact q _ _ ((EPost.refl hc hb).laidT nl (hb.1 _ _ hp)) (Rd.tup (cell_ne hc nl) (not_mem_new hA nl) upd_same (r1.keep (.laid nl)))
  · refine ⟨p, ys, rfl, .inr ⟨SqT.of hp, ?_⟩⟩
    have e := ht ⟨ys, hp⟩
    subst e
    exact q _ _ (.refl hc hb) hv
theorem cl_sum {K : PySem.W.Frag} : Cl K (rSum K) (biR .sum) := by
  intro c A H0 H z xs rs ro Q h0 hc hb hA hx e q
  obtain ⟨x, rfl, e⟩ := oneR_eq e
  obtain ⟨v, rfl, hv⟩ := hx.one
  obtain ⟨ns, en, rfl⟩ := Option.map_eq_some_iff.mp e
  obtain ⟨p, rfl, hp⟩ := hv.iints en
  exact ⟨p, ns, rfl, hp, q _ _ (.refl hc hb) (Rd.int _)⟩
theorem cl_bi {X : Cx} (hc : X.calm = true) : ∀ b : Bi, ∃ r, CallR X (biVal b) r ∧ Cl X.K r (biR b)
  | .len => ⟨_, call_len, cl_len⟩
  | .abs => ⟨_, call_abs, cl_abs⟩
  | .max2 => ⟨_, call_max2 hc, cl_two⟩
  | .min2 => ⟨_, call_min2 hc, cl_two⟩
  | .maxl => ⟨_, cr_max hc, cl_maxl⟩
  | .minl => ⟨_, cr_min hc, cl_minl⟩
  | .int => ⟨_, call_int1, cl_int⟩
  | .list => ⟨_, call_list_of, cl_list⟩
  | .tuple => ⟨_, call_tuple_of, cl_tuple⟩
  | .sum => ⟨_, cr_sum hc, cl_sum⟩

/-! ### subscripts -/
theorem atI_len {α β : Type} {xs : List α} {ys : List β} (h : xs.length = ys.length) {i : Int} {y : β} (e : atI ys i = some y) : ∃ (j : Nat) (x : α), atI xs i = some x ∧ xs[j]? = some x ∧ ys[j]? = some y := by
  unfold atI at e ⊢
  rw [h]
  obtain ⟨j, e1, e2⟩ := Option.bind_eq_some_iff.mp e
  have hj : j < xs.length := by
    obtain ⟨hj, _⟩ := List.getElem?_eq_some_iff.mp e2
    omega
  exact ⟨j, xs[j], by rw [e1]; exact List.getElem?_eq_getElem hj, List.getElem?_eq_getElem hj, e2⟩
theorem sub_ok {K : PySem.W.Frag} {c : Option Addr} {A : List Addr} {H0 H : Hp} {z : Zs} {x y : V} {rx ry ro : R} {Q : VK} (hc : CellOk c H z) (hx : RRes K c A H0 H x rx) (hy : RRes K c A H0 H y ry) (e : subR rx ry z = some ro)
    (q : ∀ v, RRes K c A H0 H v ro → Q v H) : rIx K x y H Q := by
  unfold subR at e
  split at e
  · rename_i k
    have ey := hy.int
    subst ey
    split at e
    · split at e
      · rename_i hk
        subst hk
        obtain ⟨n, en, rfl⟩ := Option.map_eq_some_iff.mp e
        subst en
        have hx : Rd K c H A x .hd := hx
        cases hx with
        | hd ec =>
          subst ec
          have hc : H _ = some (.lst [.int n]) := hc
          exact .inl ⟨_, _, 0, _, rfl, rfl, SqL.of hc, atI_nat (j := 0) rfl, q _ (Rd.int n)⟩
      · cases e
    · obtain ⟨d, ed, rfl⟩ := Option.map_eq_some_iff.mp e
      have hx : Rd K c H A x (.tup _) := hx
      cases hx with
      | tup n m h1 r =>
        obtain ⟨j, v, e1, e2, e3⟩ := atI_len r.length ed
        obtain ⟨v', e4, rv⟩ := r.get e3
        rw [e2] at e4; cases e4
        exact .inr (.inl ⟨_, _, k, v, rfl, rfl, SqT.of h1, e1, q _ rv⟩)
    · obtain ⟨d, ed, rfl⟩ := Option.map_eq_some_iff.mp e
      have hx : Rd K c H A x (.ext _) := hx
      cases hx with
      | ext h1 =>
        obtain ⟨j, v, e1, e2, e3⟩ := atI_len (xs := List.map V.int _) (List.length_map _) ed
        rw [List.getElem?_map, e3] at e2
        cases e2
        exact .inl ⟨_, _, k, _, rfl, rfl, h1.sq, e1, q _ (Rd.int _)⟩
    · obtain ⟨d, ed, rfl⟩ := Option.map_eq_some_iff.mp e
      obtain ⟨p, bs, rfl, nc, h1, r⟩ := hx
      obtain ⟨j, v, e1, e2, e3⟩ := atI_len (xs := bs.map V.ref) (by rw [List.length_map]; exact r.length) ed
      obtain ⟨b, xs, e4, n4, h4, r4⟩ := r.get e3
      rw [List.getElem?_map, e4] at e2
      cases e2
      exact .inl ⟨_, _, k, _, rfl, rfl, SqL.of h1, e1, q _ ⟨b, xs, rfl, n4, h4, r4⟩⟩
    · obtain ⟨ds, e1, e2⟩ := Option.bind_eq_some_iff.mp e
      obtain ⟨d, ed, rfl⟩ := Option.map_eq_some_iff.mp e2
      obtain ⟨p, xs, rfl, n, h1, r⟩ := hx.items e1
      obtain ⟨j, v, e1, e2, e3⟩ := atI_len r.length ed
      obtain ⟨v', e4, rv⟩ := r.get e3
      rw [e2] at e4; cases e4
      exact .inl ⟨_, _, k, v, rfl, rfl, SqL.of h1, e1, q _ rv⟩
  · cases e
end Mn

set_option maxHeartbeats 1000000
/-! Mini: expressions. -/
namespace Mn
open PySem L2

/-- the reading of an expression: its evaluation -/
def tE (K : PySem.W.Frag) (C : CallF) (m : ME) : TE := fun σ H Q => ∃ (w : Wd) (ρ : Env) (z z' : Zs) (r : R), Rel K w H σ ρ z ∧ evE C ρ m z = some (r, z') ∧ ∀ v H', EPost w.c H z' H' → RRes K w.c w.A H H' v r → Q v H'
def tT (K : PySem.W.Frag) (C : CallF) (m : ME) : TT := fun σ H Q => ∃ (w : Wd) (ρ : Env) (z z' : Zs) (r : R) (b : Bool), Rel K w H σ ρ z ∧ evE C ρ m z = some (r, z') ∧ toB r = some b ∧ ∀ H', EPost w.c H z' H' → Q b H'
def tEs (K : PySem.W.Frag) (C : CallF) (l : MEs) : TA := fun σ H Q => ∃ (w : Wd) (ρ : Env) (z z' : Zs) (rs : List R), Rel K w H σ ρ z ∧ evRs C ρ l z = some (rs, z') ∧ ∀ vs H', EPost w.c H z' H' → RRess K w.c w.A H H' vs rs → Q vs H'
def tOs (K : PySem.W.Frag) (C : CallF) (m : MO) : TO := fun σ H Q => ∃ (w : Wd) (ρ : Env) (z z' : Zs) (o : Option Int), Rel K w H σ ρ z ∧ evO C ρ m z = some (o, z') ∧ ∀ H', EPost w.c H z' H' → Q o H'

theorem PE.of {X : Cx} {e : Expr} {t t' : TE} (h : PE X e t) (i : ∀ σ H Q, t' σ H Q → t σ H Q) : PE X e t' := ⟨fun pins s σ H Q I q => h.run pins s σ H Q I (i _ _ _ q)⟩
theorem PT.of {X : Cx} {e : Expr} {t t' : TT} (h : PT X e t) (i : ∀ σ H Q, t' σ H Q → t σ H Q) : PT X e t' := ⟨fun pins s σ H Q I q => h.run pins s σ H Q I (i _ _ _ q)⟩
theorem PW.of {X : Cx} {e : Expr} {t t' : TT} (h : PW X e t) (i : ∀ σ H Q, t' σ H Q → t σ H Q) : PW X e t' := ⟨fun wh pins s σ H Q I q => h.run wh pins s σ H Q I (i _ _ _ q)⟩
theorem PA.of {X : Cx} {e : List Expr} {t t' : TA} (h : PA X e t) (i : ∀ σ H Q, t' σ H Q → t σ H Q) : PA X e t' := ⟨fun pos pins s σ H Q I q => h.run pos pins s σ H Q I (i _ _ _ q)⟩
theorem PO.of {X : Cx} {e : Option Expr} {t t' : TO} (h : PO X e t) (i : ∀ σ H Q, t' σ H Q → t σ H Q) : PO X e t' := ⟨fun pins s σ H Q I q => h.run pins s σ H Q I (i _ _ _ q)⟩

theorem Wd.dom {K : PySem.W.Frag} {w : Wd} {H : Hp} {σ : L2.St} {ρ : Env} {z : Zs} (h : Rel K w H σ ρ z) : ∀ a ∈ w.A, H a ≠ none := by
  intro a m
  rcases List.mem_append.mp m with m | m
  · have key : ∀ {σ : L2.St} {ρ : Env} {L : List (List Addr)}, Slots K w.c H w.A σ ρ L → a ∈ L.flatten → H a ≠ none := by
      intro σ ρ L hs
      induction hs with
      | nil => intro m; simp at m
      | @cons x s l σ ρ L hx _ ih =>
        intro m
        rw [List.flatten_cons] at m
        rcases List.mem_append.mp m with m | m
        · cases hx with
          | un => simp at m
          | sh r => simp at m
          | ow e r => simp at m; subst m; rw [e]; simp
          | @ow2 a' bs dss e r =>
            rcases List.mem_cons.mp m with q | m
            · subst q; rw [e]; simp
            · have k2 : ∀ {bs : List Addr} {dss : List (List D)}, Rds2 K w.c H w.A bs dss → a ∈ bs → H a ≠ none := by
                intro bs dss h2
                induction h2 with
                | nil => intro m; simp at m
                | cons n e r _ ih =>
                  intro m
                  rcases List.mem_cons.mp m with q | m
                  · subst q; rw [e]; simp
                  · exact ih m
              exact k2 r m
        · exact ih m
    exact key h.sl m
  · exact h.oin a m

section
variable {X : Cx} {C : CallF} {a b c e : Expr} {ma mb mc : ME} {pos : Pos}
theorem snd_var {x : Str} {i : Nat} (hN : X.N[i]? = some x) (hv : Vis X.env.scope x) (hd : (x == ("__debug__" : Str)) = false) (hcd : (x == ("__classdict__" : Str)) = false) : PE X (.Name x pos) (tE X.K C (.var i)) :=
  PE.of (pe_var hN hv hd hcd) fun σ H Q ⟨w, ρ, z, z', r, h, ev, q⟩ => by
    simp only [evE] at ev
    split at ev
    · rename_i d ed
      cases ev
      obtain ⟨x, l, e1, e2, e3⟩ := h.sl.get ed
      cases e3 with
      | sh rd => exact ⟨_, e1, q _ _ h.epost rd⟩
    · cases ev
theorem snd_nvar {x : Str} {i : Nat} (hN : X.N[i]? = some x) (hv : Vis X.env.scope x) (hd : (x == ("__debug__" : Str)) = false) (hcd : (x == ("__classdict__" : Str)) = false) : PE X (.Name x pos) (tE X.K C (.nvar i)) :=
  PE.of (pe_var hN hv hd hcd) fun σ H Q ⟨w, ρ, z, z', r, h, ev, q⟩ => by
    simp only [evE] at ev
    split at ev
    · rename_i d ed
      cases ev
      obtain ⟨x, l, e1, e2, e3⟩ := h.sl.get ed
      cases e3 with
      | sh rd => exact ⟨_, e1, q _ _ h.epost rd⟩
    · rename_i d ed
      cases ev
      obtain ⟨x, l, e1, e2, e3⟩ := h.sl.get ed
      cases e3 with
      | @ow a xs ds h1 r => exact ⟨_, e1, q _ _ h.epost ⟨a, xs, rfl, (h.out a (mem_flat e2 (by simp))).2, h1, r⟩⟩
    · rename_i d ed
      cases ev
      obtain ⟨x, l, e1, e2, e3⟩ := h.sl.get ed
      cases e3 with
      | @ow2 a bs ds h1 r => exact ⟨_, e1, q _ _ h.epost ⟨a, bs, rfl, (h.out a (mem_flat e2 (by simp))).2, h1, r⟩⟩
    · cases ev
theorem snd_lit {d : D} {v : V} (h : PE X e (tC v)) (hr : ∀ c H A, Rd X.K c H A v d) : PE X e (tE X.K C (.lit d)) :=
  PE.of h fun σ H Q ⟨w, ρ, z, z', r, h, ev, q⟩ => by
    simp only [evE] at ev
    cases ev
    exact q _ _ h.epost (hr _ _ _)
/-- two expressions, one after the other -/
theorem two {K : PySem.W.Frag} {w : Wd} {H : Hp} {σ : L2.St} {ρ : Env} {z : Zs} {m1 m2 : ME} {α : Type} {f : R → R → Zs → Option α} {o : α} {Q : V → V → Hp → Prop} (h : Rel K w H σ ρ z)
    (ev : (bd (evE C ρ m1 z) fun x z => bd (evE C ρ m2 z) fun y z => f x y z) = some o)
    (q : ∀ (x y : V) (rx ry : R) (z2 : Zs) (H2 : Hp), EPost w.c H z2 H2 → RRes K w.c w.A H H2 x rx → RRes K w.c w.A H H2 y ry → f rx ry z2 = some o → Q x y H2) :
    tE K C m1 σ H fun x H1 => tE K C m2 σ H1 fun y H2 => Q x y H2 := by
  obtain ⟨rx, z1, e1, ev⟩ := bd_eq ev
  obtain ⟨ry, z2, e2, ev⟩ := bd_eq ev
  refine ⟨w, ρ, z, z1, rx, h, e1, fun x H1 p1 r1 => ⟨w, ρ, z1, z2, ry, h.post p1, e2, fun y H2 p2 r2 => ?_⟩⟩
  exact q x y rx ry z2 H2 (p1.trans p2) (r1.keep p2.keep) (r2.older fun b n => p1.free n) ev
theorem snd_bin (op : BOp) (ha : PE X a (tE X.K C ma)) (hb : PE X b (tE X.K C mb)) : PE X (.BinOp a (opOf op) b pos) (tE X.K C (.bin op ma mb)) :=
  PE.of (pe_op (op_bin op) ha hb) fun σ H Q ⟨w, ρ, z, z', r, h, ev, q⟩ => by
    simp only [evE] at ev
    refine two h ev fun x y rx ry z2 H2 p2 r1 r2 ev => ?_
    obtain ⟨o, eo, e'⟩ := Option.map_eq_some_iff.mp ev
    cases e'
    exact op2_bin X.K op w.c w.A H H2 z' x y rx ry r Q (fun b n => p2.free n) p2.cell p2.bnd (fun a m => p2.dom (Wd.dom h a m)) r1 r2 eo fun v H' p r => q v H' (p2.trans p) r
theorem snd_neg (ha : PE X a (tE X.K C ma)) : PE X (.UnaryOp .USub a pos) (tE X.K C (.neg ma)) :=
  PE.of (pe_un un_neg ha) fun σ H Q ⟨w, ρ, z, z', r, h, ev, q⟩ => by
    simp only [evE] at ev
    obtain ⟨rx, z1, e1, ev⟩ := bd_eq ev
    refine ⟨w, ρ, z, z1, rx, h, e1, fun x H1 p1 r1 => ?_⟩
    split at ev
    · cases ev
      exact ⟨_, r1.int, q _ _ p1 (Rd.int _)⟩
    · cases ev
theorem snd_not (ha : PE X a (tE X.K C ma)) : PE X (.UnaryOp .Not a pos) (tE X.K C (.not ma)) :=
  PE.of (pe_not ha) fun σ H Q ⟨w, ρ, z, z', r, h, ev, q⟩ => by
    simp only [evE] at ev
    obtain ⟨rx, z1, e1, ev⟩ := bd_eq ev
    refine ⟨w, ρ, z, z1, rx, h, e1, fun x H1 p1 r1 => ?_⟩
    obtain ⟨o, eo, e'⟩ := Option.map_eq_some_iff.mp ev
    cases e'
    rw [toB_eq eo] at r1
    exact ⟨o, r1.bl, q _ _ p1 (Rd.bl _)⟩
theorem snd_cmp {k : Nat} (hr : Room k X.A) (op : COp) (ha : PE X a (tE X.K C ma)) (hb : PE X b (tE X.K C mb)) (hm : behindInMarks (copOf op) b = false) : PE X (.Compare a [copOf op] [b] pos) (tE X.K C (.cmp op ma mb)) :=
  PE.of (pe_cmpR (op_cmp (by have := hr.un; omega) op) ha hb hm) fun σ H Q ⟨w, ρ, z, z', r, h, ev, q⟩ => by
    simp only [evE] at ev
    refine two h ev fun x y rx ry z2 H2 p2 r1 r2 ev => ?_
    obtain ⟨o, eo, e'⟩ := Option.map_eq_some_iff.mp ev
    cases e'
    exact cmp2 X.K op w.c w.A H H2 x y rx ry o Q r1 r2 eo (q _ _ p2 (Rd.bl _))
theorem sndT_cmp {k : Nat} (hr : Room k X.A) (op : COp) (ha : PE X a (tE X.K C ma)) (hb : PE X b (tE X.K C mb)) (hm : behindInMarks (copOf op) b = false) : PT X (.Compare a [copOf op] [b] pos) (tT X.K C (.cmp op ma mb)) :=
  PT.of (pt_cmpR (op_cmp (by have := hr.un; omega) op) ha hb hm) fun σ H Q ⟨w, ρ, z, z', r, t, h, ev, et, q⟩ => by
    simp only [evE] at ev
    refine two h ev fun x y rx ry z2 H2 p2 r1 r2 ev => ?_
    obtain ⟨o, eo, e'⟩ := Option.map_eq_some_iff.mp ev
    cases e'
    cases et
    exact cmp2 X.K op w.c w.A H H2 x y rx ry _ _ r1 r2 eo ⟨_, rfl, q _ p2⟩
theorem chain_ok {K : PySem.W.Frag} {p q' : COp} {σ : L2.St} {H : Hp} {Q : VK} (h : tE K C (.chain p q' ma mb mc) σ H Q) : tChain (rCmp K p) (rCmp K q') (tE K C ma) (tE K C mb) (tE K C mc) σ H Q := by
  obtain ⟨w, ρ, z, z', r, h, ev, q⟩ := h
  simp only [evE] at ev
  refine two h ev fun x y rx ry z2 H2 p2 r1 r2 ev => ?_
  cases e1 : cmpR p rx ry with
  | none => rw [e1] at ev; cases ev
  | some t =>
    rw [e1] at ev
    refine cmp2 K p w.c w.A H H2 x y rx ry t _ r1 r2 e1 ⟨t, rfl, ?_⟩
    cases t with
    | false => cases ev; exact iteF (q _ _ p2 (Rd.bl _))
    | true =>
      obtain ⟨rw', z3, e3, ev⟩ := bd_eq ev
      obtain ⟨o, eo, e'⟩ := Option.map_eq_some_iff.mp ev
      cases e'
      refine iteT ⟨w, ρ, z2, _, rw', h.post p2, e3, fun u H3 p3 r3 => ?_⟩
      exact cmp2 K q' w.c w.A H H3 y u ry rw' o _ (r2.keep p3.keep) (r3.older fun b n => p2.free n) eo (q _ _ (p2.trans p3) (Rd.bl _))
theorem snd_chain {k : Nat} (hr : Room k X.A) (p q' : COp) (ha : PE X a (tE X.K C ma)) (hb : PE X b (tE X.K C mb)) (hc : PE X c (tE X.K C mc)) (hm : lastMarks [copOf p, copOf q'] [b, c] = false) :
    PE X (.Compare a [copOf p, copOf q'] [b, c] pos) (tE X.K C (.chain p q' ma mb mc)) :=
  PE.of (pe_chain (op_cmp (by have := hr.un; omega) p) (op_cmp (by have := hr.un; omega) q') ha hb hc hm) fun σ H Q h => chain_ok h
theorem tE_T {K : PySem.W.Frag} {m : ME} {σ : L2.St} {H : Hp} {Q : Bool → Hp → Prop} (h : tT K C m σ H Q) : tE K C m σ H fun x H1 => ∃ t, x = .bl t ∧ Q t H1 := by
  obtain ⟨w, ρ, z, z', r, t, h, ev, et, q⟩ := h
  refine ⟨w, ρ, z, z', r, h, ev, fun v H' p rr => ?_⟩
  rw [toB_eq et] at rr
  exact ⟨t, rr.bl, q _ p⟩
theorem sndT_chain {k : Nat} (hr : Room k X.A) (p q' : COp) (ha : PE X a (tE X.K C ma)) (hb : PE X b (tE X.K C mb)) (hc : PE X c (tE X.K C mc)) (hm : lastMarks [copOf p, copOf q'] [b, c] = false) :
    PT X (.Compare a [copOf p, copOf q'] [b, c] pos) (tT X.K C (.chain p q' ma mb mc)) :=
  PT.of (pt_chain (op_cmp (by have := hr.un; omega) p) (op_cmp (by have := hr.un; omega) q') ha hb hc hm) fun σ H Q h => chain_ok (tE_T h)
theorem sndT_val {m : ME} (h : PE X e (tE X.K C m)) (he : ∀ whole, isTrue e X.env whole = (do let v ← whole; standAt e.pos; holding [v] (truthy v))) : PT X e (tT X.K C m) :=
  PT.of (pt_val h he) fun σ H Q h => tE_T h

/-! ### and, or, not, if -/
theorem snd_one {op : BoolOp} {m : ME} (ha : PE X a (tE X.K C m)) : PE X (.BoolOp op [a] pos) (tE X.K C m) := pe_one ha
theorem snd_and {rest : List Expr} (ha : PE X a (tE X.K C ma)) (hb : PE X (.BoolOp .And (b :: rest) pos) (tE X.K C mb)) : PE X (.BoolOp .And (a :: b :: rest) pos) (tE X.K C (.and ma mb)) :=
  PE.of (pe_and ha hb) fun σ H Q ⟨w, ρ, z, z', r, h, ev, q⟩ => by
    simp only [evE] at ev
    obtain ⟨rx, z1, e1, ev⟩ := bd_eq ev
    refine ⟨w, ρ, z, z1, rx, h, e1, fun x H1 p1 r1 => ?_⟩
    split at ev
    · rename_i et
      rw [toB_eq et] at r1
      exact ⟨true, r1.bl, iteT ⟨w, ρ, z1, z', r, h.post p1, ev, fun v H' p rr => q v H' (p1.trans p) (rr.older fun b n => p1.free n)⟩⟩
    · rename_i et
      rw [toB_eq et] at r1
      cases ev
      exact ⟨false, r1.bl, iteF (q _ _ p1 (Rd.bl _))⟩
    · cases ev
theorem snd_or {rest : List Expr} (ha : PE X a (tE X.K C ma)) (hb : PE X (.BoolOp .Or (b :: rest) pos) (tE X.K C mb)) : PE X (.BoolOp .Or (a :: b :: rest) pos) (tE X.K C (.or ma mb)) :=
  PE.of (pe_or ha hb) fun σ H Q ⟨w, ρ, z, z', r, h, ev, q⟩ => by
    simp only [evE] at ev
    obtain ⟨rx, z1, e1, ev⟩ := bd_eq ev
    refine ⟨w, ρ, z, z1, rx, h, e1, fun x H1 p1 r1 => ?_⟩
    split at ev
    · rename_i et
      rw [toB_eq et] at r1
      cases ev
      exact ⟨true, r1.bl, iteT (q _ _ p1 (Rd.bl _))⟩
    · rename_i et
      rw [toB_eq et] at r1
      exact ⟨false, r1.bl, iteF ⟨w, ρ, z1, z', r, h.post p1, ev, fun v H' p rr => q v H' (p1.trans p) (rr.older fun b n => p1.free n)⟩⟩
    · cases ev
theorem sndT_not (ha : PT X a (tT X.K C ma)) : PT X (.UnaryOp .Not a pos) (tT X.K C (.not ma)) :=
  PT.of (pt_not ha) fun σ H Q ⟨w, ρ, z, z', r, t, h, ev, et, q⟩ => by
    simp only [evE] at ev
    obtain ⟨rx, z1, e1, ev⟩ := bd_eq ev
    obtain ⟨o, eo, e'⟩ := Option.map_eq_some_iff.mp ev
    cases e'
    cases et
    exact ⟨w, ρ, z, z', rx, o, h, e1, eo, fun H' p => q _ p⟩
theorem sndW_one1 {m : ME} (ha : PT X a (tT X.K C m)) : PW X (.BoolOp .And [a] pos) (tT X.K C m) := pw_and1 ha
theorem sndW_one2 {m : ME} (ha : PT X a (tT X.K C m)) : PW X (.BoolOp .Or [a] pos) (tT X.K C m) := pw_or1 ha
theorem sndW_and {rest : List Expr} (ha : PT X a (tT X.K C ma)) (hb : PW X (.BoolOp .And (b :: rest) pos) (tT X.K C mb)) : PW X (.BoolOp .And (a :: b :: rest) pos) (tT X.K C (.and ma mb)) :=
  PW.of (pw_and ha hb) fun σ H Q ⟨w, ρ, z, z', r, t, h, ev, et, q⟩ => by
    simp only [evE] at ev
    obtain ⟨rx, z1, e1, ev⟩ := bd_eq ev
    split at ev
    · rename_i ex
      exact ⟨w, ρ, z, z1, rx, true, h, e1, ex, fun H1 p1 => iteT ⟨w, ρ, z1, z', r, t, h.post p1, ev, et, fun H' p => q H' (p1.trans p)⟩⟩
    · rename_i ex
      cases ev
      cases et
      exact ⟨w, ρ, z, _, rx, false, h, e1, ex, fun H1 p1 => iteF (q _ p1)⟩
    · cases ev
theorem sndW_or {rest : List Expr} (ha : PT X a (tT X.K C ma)) (hb : PW X (.BoolOp .Or (b :: rest) pos) (tT X.K C mb)) : PW X (.BoolOp .Or (a :: b :: rest) pos) (tT X.K C (.or ma mb)) :=
  PW.of (pw_or ha hb) fun σ H Q ⟨w, ρ, z, z', r, t, h, ev, et, q⟩ => by
    simp only [evE] at ev
    obtain ⟨rx, z1, e1, ev⟩ := bd_eq ev
    split at ev
    · rename_i ex
      cases ev
      cases et
      exact ⟨w, ρ, z, _, rx, true, h, e1, ex, fun H1 p1 => iteT (q _ p1)⟩
    · rename_i ex
      exact ⟨w, ρ, z, z1, rx, false, h, e1, ex, fun H1 p1 => iteF ⟨w, ρ, z1, z', r, t, h.post p1, ev, et, fun H' p => q H' (p1.trans p)⟩⟩
    · cases ev
theorem snd_ite (hc : PT X c (tT X.K C mc)) (ha : PE X a (tE X.K C ma)) (hb : PE X b (tE X.K C mb)) : PE X (.IfExp c a b pos) (tE X.K C (.ite mc ma mb)) :=
  PE.of (pe_ifExp hc ha hb) fun σ H Q ⟨w, ρ, z, z', r, h, ev, q⟩ => by
    simp only [evE] at ev
    obtain ⟨rx, z1, e1, ev⟩ := bd_eq ev
    split at ev
    · rename_i ex
      exact ⟨w, ρ, z, z1, rx, true, h, e1, ex, fun H1 p1 => iteT ⟨w, ρ, z1, z', r, h.post p1, ev, fun v H' p rr => q v H' (p1.trans p) (rr.older fun b n => p1.free n)⟩⟩
    · rename_i ex
      exact ⟨w, ρ, z, z1, rx, false, h, e1, ex, fun H1 p1 => iteF ⟨w, ρ, z1, z', r, h.post p1, ev, fun v H' p rr => q v H' (p1.trans p) (rr.older fun b n => p1.free n)⟩⟩
    · cases ev

/-! ### lists of expressions, displays, calls -/
theorem snd_nil : PA X [] (tEs X.K C .nil) := PA.of pa_nil fun σ H Q ⟨w, ρ, z, z', r, h, ev, q⟩ => by
  simp only [evRs] at ev
  cases ev
  exact q _ _ h.epost .nil
theorem snd_cons {es : List Expr} {l : MEs} (ha : PE X e (tE X.K C ma)) (hr : PA X es (tEs X.K C l)) (hs : starEach (e :: es) X.env = (false, eval e X.env) :: starEach es X.env) : PA X (e :: es) (tEs X.K C (.cons ma l)) :=
  PA.of (pa_cons ha hr hs) fun σ H Q ⟨w, ρ, z, z', rs, h, ev, q⟩ => by
    simp only [evRs] at ev
    obtain ⟨rx, z1, e1, ev⟩ := bd_eq ev
    obtain ⟨ry, z2, e2, ev⟩ := bd_eq ev
    cases ev
    refine ⟨w, ρ, z, z1, rx, h, e1, fun x H1 p1 r1 => ⟨w, ρ, z1, _, ry, h.post p1, e2, fun ys H2 p2 r2 => ?_⟩⟩
    exact q _ _ (p1.trans p2) (.cons (r1.keep p2.keep) (r2.older fun b n => p1.free n))
def MEs.len : MEs → Nat
  | .nil => 0
  | .cons _ l => l.len + 1
theorem evRs_len {ρ : Env} : ∀ {l : MEs} {z z' : Zs} {rs : List R}, evRs C ρ l z = some (rs, z') → rs.length = l.len
  | .nil, _, _, _, h => by simp only [evRs] at h; cases h; rfl
  | .cons a l, z, z', rs, h => by
    simp only [evRs] at h
    obtain ⟨rx, z1, e1, h⟩ := bd_eq h
    obtain ⟨ry, z2, e2, h⟩ := bd_eq h
    cases h
    exact congrArg (· + 1) (evRs_len e2)
theorem len_small {n : Nat} (h : n ≤ 1000) : n ≤ sizeLine := by rw [sizeLine_eq]; omega
theorem snd_tup {es : List Expr} {l : MEs} {x1 : Nat} (hl : l.len ≤ 1000) (h : PA X es (tEs X.K C l)) : PE X (.Tuple es x1 pos) (tE X.K C (.tup l)) :=
  PE.of (pe_tup h) fun σ H Q ⟨w, ρ, z, z', r, h, ev, q⟩ => by
    simp only [evE] at ev
    obtain ⟨rs, z1, e1, ev⟩ := bd_eq ev
    obtain ⟨ds, ed, e'⟩ := Option.map_eq_some_iff.mp ev
    cases e'
    refine ⟨w, ρ, z, _, rs, h, e1, fun vs H1 p1 r1 => ?_⟩
    have hz : vs.length ≤ sizeLine := by rw [r1.length, evRs_len e1]; exact len_small hl
    refine ⟨hz, fun p n => q _ _ (p1.laidT n hz) ?_⟩
    exact Rd.tup (cell_ne p1.cell n) (not_mem_new (fun a m => p1.dom (Wd.dom h a m)) n) upd_same ((r1.toDs ed).keep (.laid n))
theorem snd_lst {es : List Expr} {l : MEs} (hl : l.len ≤ 1000) (h : PA X es (tEs X.K C l)) : PE X (.List es pos) (tE X.K C (.lst l)) :=
  PE.of (pe_lst h) fun σ H Q ⟨w, ρ, z, z', r, h, ev, q⟩ => by
    simp only [evE] at ev
    obtain ⟨rs, z1, e1, ev⟩ := bd_eq ev
    obtain ⟨ds, ed, e'⟩ := Option.map_eq_some_iff.mp ev
    cases e'
    refine ⟨w, ρ, z, _, rs, h, e1, fun vs H1 p1 r1 => ?_⟩
    have hz : vs.length ≤ sizeLine := by rw [r1.length, evRs_len e1]; exact len_small hl
    refine ⟨hz, fun p n => ?_⟩
    obtain ⟨ep, rr⟩ := new_list (p := p) (fun b n => p1.free n) p1.cell p1.bnd (fun a m => p1.dom (Wd.dom h a m)) (r1.toDs ed) n hz
    exact q _ _ (p1.trans ep) rr
theorem snd_sub (ha : PE X a (tE X.K C ma)) (hb : PE X b (tE X.K C mb)) (hs : PlainIx b) : PE X (.Subscript a b pos) (tE X.K C (.sub ma mb)) :=
  PE.of (pe_ix ix_seq ha hb hs) fun σ H Q ⟨w, ρ, z, z', r, h, ev, q⟩ => by
    simp only [evE] at ev
    refine two h ev fun x y rx ry z2 H2 p2 r1 r2 ev => ?_
    obtain ⟨o, eo, e'⟩ := Option.map_eq_some_iff.mp ev
    cases e'
    exact sub_ok p2.cell r1 r2 eo fun v rr => q v H2 p2 rr
theorem snd_none : PO X none (tOs X.K C .none) := PO.of po_none fun σ H Q ⟨w, ρ, z, z', r, h, ev, q⟩ => by
  simp only [evO] at ev
  cases ev
  exact q _ h.epost
theorem snd_some (ha : PE X a (tE X.K C ma)) : PO X (some a) (tOs X.K C (.some ma)) := PO.of (po_some ha) fun σ H Q ⟨w, ρ, z, z', r, h, ev, q⟩ => by
  simp only [evO] at ev
  obtain ⟨rx, z1, e1, ev⟩ := bd_eq ev
  refine ⟨w, ρ, z, z1, rx, h, e1, fun x H1 p1 r1 => ?_⟩
  split at ev
  · cases ev
    exact ⟨_, r1.int, q _ p1⟩
  · cases ev
theorem snd_slice {lo hi : Option Expr} {ml mh : MO} {p2 : Pos} (ha : PE X a (tE X.K C ma)) (hl : PO X lo (tOs X.K C ml)) (hh : PO X hi (tOs X.K C mh)) : PE X (.Subscript a (.Slice lo hi none p2) pos) (tE X.K C (.slice ma ml mh)) :=
  PE.of (pe_slice sl_list ha hl hh) fun σ H Q ⟨w, ρ, z, z', r, h, ev, q⟩ => by
    simp only [evE] at ev
    obtain ⟨rx, z1, e1, ev⟩ := bd_eq ev
    obtain ⟨l, z2, e2, ev⟩ := bd_eq ev
    obtain ⟨u, z3, e3, ev⟩ := bd_eq ev
    refine ⟨w, ρ, z, z1, rx, h, e1, fun x H1 p1 r1 => ⟨w, ρ, z1, z2, l, h.post p1, e2, fun H2 p2 => ⟨w, ρ, z2, z3, u, h.post (p1.trans p2), e3, fun H3 p3 => ?_⟩⟩⟩
    have p23 := p2.trans p3
    have r1' := r1.keep p23.keep
    have p123 := p1.trans p23
    split at ev
    · rename_i ds ed
      cases ev
      obtain ⟨p, xs, rfl, nc, h1, rr⟩ := r1'.items ed
      have hz := p123.bnd.1 _ _ h1
      refine ⟨p, xs, rfl, SqL.of h1, fun l' n => ?_⟩
      have hlen := rr.length
      have rc : Rds X.K w.c H3 w.A (cutV xs l u) (cutL ds l u) := by
        unfold cutV cutL
        rw [hlen]
        exact (rr.drop _).take _
      obtain ⟨ep, rq⟩ := new_list (p := l') (fun b n => p123.free n) p123.cell p123.bnd (fun a m => p123.dom (Wd.dom h a m)) rc n (Nat.le_trans (cutV_length _ _ _) hz)
      exact q _ _ (p123.trans ep) rq
    · cases ev
theorem snd_rev {k : Nat} {p1 p2 p3 : Pos} (ha : PE X a (tE X.K C ma)) : PE X (.Subscript a (.Slice none none (some (.UnaryOp .USub (.Constant (.int 1) k p1) p2)) p3) pos) (tE X.K C (.rev ma)) :=
  PE.of (pe_revL ha) fun σ H Q ⟨w, ρ, z, z', r, h, ev, q⟩ => by
    simp only [evE] at ev
    obtain ⟨rx, z1, e1, ev⟩ := bd_eq ev
    refine ⟨w, ρ, z, z1, rx, h, e1, fun x H1 p1 r1 => ?_⟩
    split at ev
    · rename_i ds ed
      cases ev
      obtain ⟨p, xs, rfl, nc, h1, rr⟩ := r1.items ed
      refine ⟨p, xs, rfl, SqL.of h1, fun l n => ?_⟩
      obtain ⟨ep, rq⟩ := new_list (p := l) (fun b n => p1.free n) p1.cell p1.bnd (fun a m => p1.dom (Wd.dom h a m)) rr.reverse n (by rw [List.length_reverse]; exact p1.bnd.1 _ _ h1)
      exact q _ _ (p1.trans ep) rq
    · cases ev
theorem snd_bi {x : Str} {es : List Expr} {l : MEs} {p : Pos} (hc : X.calm = true) (bi : Bi) (hx : x = biName bi) (hg : Gl X x) (hm : X.mg x = none) (ha : PA X (e :: es) (tEs X.K C l))
    (he : starEach (e :: es) X.env = (false, eval e X.env) :: starEach es X.env) (hpl : (backTo pos (starEach es X.env)).any (·.1) = false) : PE X (.Call (.Name x p) (e :: es) [] pos) (tE X.K C (.bi bi l)) := by
  subst hx
  obtain ⟨r, hr, hk⟩ := cl_bi (X := X) hc bi
  have base : PE X (.Call (.Name (biName bi) p) (e :: es) [] pos) (tCB r (tEs X.K C l)) := by
    have hb := biBoot bi
    have hn : biName bi ≠ ("__name__" : Str) := by cases bi <;> decide +kernel
    have hd : (biName bi == ("__debug__" : Str)) = false := by cases bi <;> decide +kernel
    generalize hv : biVal bi = v at hr hb
    cases bi <;> cases hv <;> first | exact pe_callB hr hg hm hb ha hn hd he hpl | exact pe_callTy hr hg hm hb ha hn hd he hpl
  refine PE.of base fun σ H Q ⟨w, ρ, z, z', ro, h, ev, q⟩ => ?_
  simp only [evE] at ev
  obtain ⟨rs, z1, e1, ev⟩ := bd_eq ev
  obtain ⟨o, eo, e'⟩ := Option.map_eq_some_iff.mp ev
  cases e'
  refine ⟨w, ρ, z, _, rs, h, e1, fun vs H1 p1 r1 => ?_⟩
  exact hk w.c w.A H H1 _ vs rs ro Q (fun b n => p1.free n) p1.cell p1.bnd (fun a m => p1.dom (Wd.dom h a m)) r1 eo fun v H' pp rr => q v H' (p1.trans pp) rr
/-- a def's promise -/
def spOf (K : PySem.W.Frag) (C : CallF) (j np : Nat) : Sp := fun vs H Q _ => ∃ (O : List Addr) (c : Option Addr) (ds : List D) (z z' : Zs) (r : R), Rds K c H O vs ds ∧ ds.length = np ∧ (∀ a ∈ O, H a ≠ none) ∧ CellOk c H z ∧ Bnd H ∧ C j ds z = some (r, z') ∧
  ∀ v H', EPost c H z' H' → RRes K c O H H' v r → Q v H'
theorem snd_call {k np j : Nat} {f : Addr} {fd : FuncData} {ps : List Str} {x : Str} {es : List Expr} {l : MEs} {p : Pos} (F : FnOk X.prog X.w X.K X.mg X.base CX0 k f fd ps (spOf X.K C j np)) (hl : l.len = np) (hr : Room k X.A) (hg : Gl X x) (hm : X.mg x = some (.ref f))
    (hk : PySem.W.keepIn X.K (.ref f) = true) (hb : Binds X.K fd ps []) (hd : (x == ("__debug__" : Str)) = false) (ha : PA X (e :: es) (tEs X.K C l))
    (he : starEach (e :: es) X.env = (false, eval e X.env) :: starEach es X.env) (hpl : (backTo pos (starEach es X.env)).any (·.1) = false) : PE X (.Call (.Name x p) (e :: es) [] pos) (tE X.K C (.call j l)) :=
  PE.of (pe_call F hr hg hm hk hb .nil pass0 ha hd he hpl) fun σ H Q ⟨w, ρ, z, z', r, h, ev, q⟩ => by
    simp only [evE] at ev
    obtain ⟨rs, z1, e1, ev⟩ := bd_eq ev
    refine ⟨w, ρ, z, z1, rs, h, e1, fun vs H1 p1 r1 => ?_⟩
    split at ev
    · rename_i ds ed
      have rd := r1.toDs ed
      rw [List.append_nil]
      refine ⟨w.A, w.c, ds, z1, z', r, rd, ?_, fun a m => p1.dom (Wd.dom h a m), p1.cell, p1.bnd, ev, fun v H' p rr => q v H' (p1.trans p) (rr.older fun b n => p1.free n)⟩
      rw [← rd.length, r1.length, evRs_len e1]
      exact hl
    · cases ev
end
end Mn

set_option maxHeartbeats 1000000
/-! Mini: what is walked; targets; comprehensions. -/
namespace Mn
open PySem L2

/-- what stands while one walks -/
structure Stab (ow : Bool) (K : PySem.W.Frag) (c : Option Addr) (A : List Addr) (H : Hp) (c' : Option Addr) (A' : List Addr) (H1 : Hp) : Prop where
  obj : ∀ a o, (ow = false → a ∉ A) → c ≠ some a → H a = some o → H1 a = some o
  rd : ∀ x d, Rd K c H A x d → Rd K c' H1 A' x d
  ext : ∀ a xs, ExtL K c H a xs → ExtL K c' H1 a xs
  cell : ∃ z, CellOk c' H1 z
  bnd : Bnd H1
  dom : ∀ a ∈ A', H1 a ≠ none
/-- at most a new tuple -/
def Grow (H H' : Hp) : Prop := H' = H ∨ ∃ T xs, H T = none ∧ xs.length ≤ sizeLine ∧ H' = upd H T (.tup xs)
theorem Grow.post {c : Option Addr} {H H' : Hp} {z : Zs} (g : Grow H H') (hc : CellOk c H z) (hb : Bnd H) : EPost c H z H' := by
  rcases g with rfl | ⟨T, xs, n, hz, rfl⟩
  · exact .refl hc hb
  · exact (EPost.refl hc hb).laidT n hz
theorem Grow.keep {H H' : Hp} (g : Grow H H') {b : Addr} {o : HO} (e : H b = some o) : H' b = some o := by
  rcases g with rfl | ⟨T, xs, n, hz, rfl⟩
  · exact e
  · rw [upd_ne (ne_of_none e n)]; exact e
/-- the walker J gives the items ds -/
def ItOk (ow : Bool) (K : PySem.W.Frag) (c : Option Addr) (A : List Addr) (H : Hp) (J : It) (ds : List D) : Prop := ∀ c' A' H1, Stab ow K c A H c' A' H1 → ∀ i, (ds.length ≤ i → J.stop i H1) ∧
  ∀ d, ds[i]? = some d → J.go i H1 ∧ ∀ x H2, J.yld i H1 x H2 → Grow H1 H2 ∧ Rd K c' H2 A' x d
section
variable {ow : Bool} {K : PySem.W.Frag} {c : Option Addr} {A : List Addr} {H : Hp}
theorem it_seq {p : Addr} {xs : List V} {ds : List D} (hs : ∀ c' A' H1, Stab ow K c A H c' A' H1 → SqL K H1 p xs) (r : Rds K c H A xs ds) : ItOk ow K c A H (Itl K p) ds := by
  intro c' A' H1 s i
  have q := hs _ _ _ s
  have hl := r.length
  refine ⟨fun h => ⟨xs, q, by omega⟩, fun d e => ?_⟩
  obtain ⟨v, e1, rv⟩ := r.get e
  refine ⟨⟨xs, v, q, e1⟩, fun x H2 ⟨e2, y⟩ => ?_⟩
  subst e2
  have e3 := y xs q
  rw [e1] at e3; cases e3
  exact ⟨.inl rfl, s.rd _ _ rv⟩
theorem it_lst {p : Addr} {xs : List V} {ds : List D} (hp : H p = some (.lst xs)) (n : c ≠ some p) (hA : ow = false → p ∉ A) (r : Rds K c H A xs ds) : ItOk ow K c A H (Itl K p) ds :=
  it_seq (fun c' A' H1 s => SqL.of (s.obj p _ hA n hp)) r
theorem it_ext {p : Addr} {ns : List Int} (e : ExtL K c H p (ns.map V.int)) : ItOk ow K c A H (Itl K p) (ns.map .int) := by
  refine it_seq (fun c' A' H1 s => (s.ext p _ e).sq) ?_
  induction ns with
  | nil => exact .nil
  | cons m ns ih =>
    have key : ∀ ms : List Int, Rds K c H A (ms.map V.int) (ms.map .int) := by
      intro ms
      induction ms with
      | nil => exact .nil
      | cons m ms ih => exact .cons (.int m) ih
    exact key _
theorem it_tup {p : Addr} {xs : List V} {ds : List D} (hp : H p = some (.tup xs)) (n : c ≠ some p) (hA : p ∉ A) (r : Rds K c H A xs ds) : ItOk ow K c A H (Itt K p) ds := by
  intro c' A' H1 s i
  have q : SqT K H1 p xs := SqT.of (s.obj p _ (fun _ => hA) n hp)
  have hl := r.length
  refine ⟨fun h => ⟨xs, q, by omega⟩, fun d e => ?_⟩
  obtain ⟨v, e1, rv⟩ := r.get e
  refine ⟨⟨xs, v, q, e1⟩, fun x H2 ⟨e2, y⟩ => ?_⟩
  subst e2
  have e3 := y xs q
  rw [e1] at e3; cases e3
  exact ⟨.inl rfl, s.rd _ _ rv⟩
theorem rangeD_len (lo : Int) (n : Nat) : (rangeD lo n).length = n := by unfold rangeD; rw [List.length_map, List.length_range]
theorem it_rng {lo : Int} {n : Nat} : ItOk ow K c A H (Itr lo n) (rangeD lo n) := by
  intro c' A' H1 s i
  refine ⟨fun h => by rw [rangeD_len] at h; exact h, fun d e => ?_⟩
  have hi : i < n := by
    have := (List.getElem?_eq_some_iff.mp e).1
    rw [rangeD_len] at this
    exact this
  have ed : d = .int (lo + (i : Int)) := by
    unfold rangeD at e
    rw [List.getElem?_map, List.getElem?_range hi] at e
    cases e; rfl
  subst ed
  refine ⟨hi, fun x H2 ⟨e2, y⟩ => ?_⟩
  subst e2 y
  exact ⟨.inl rfl, .int _⟩
theorem it_rev {p : Addr} {xs : List V} {ds : List D} (hp : H p = some (.lst xs)) (n : c ≠ some p) (hA : ow = false → p ∉ A) (r : Rds K c H A xs ds) : ItOk ow K c A H (Itv K p xs.length) ds.reverse := by
  intro c' A' H1 s i
  have q : SqL K H1 p xs := SqL.of (s.obj p _ hA n hp)
  have hl := r.length
  refine ⟨fun h => by rw [List.length_reverse] at h; show xs.length ≤ i; omega, fun d e => ?_⟩
  have hi : i < ds.length := by
    have := (List.getElem?_eq_some_iff.mp e).1
    rw [List.length_reverse] at this
    exact this
  rw [List.getElem?_reverse hi] at e
  obtain ⟨v, e1, rv⟩ := r.get e
  rw [← hl] at e1
  refine ⟨⟨by omega, xs, v, q, e1⟩, fun x H2 ⟨e2, y⟩ => ?_⟩
  subst e2
  have e3 := y xs q
  rw [e1] at e3; cases e3
  exact ⟨.inl rfl, s.rd _ _ rv⟩
theorem two_small : 2 ≤ sizeLine := by decide
theorem new_tup {c' : Option Addr} {A' : List Addr} {H1 : Hp} (s : Stab ow K c A H c' A' H1) {T : Addr} {vs : List V} {ds : List D} (n : H1 T = none) (r : Rds K c' H1 A' vs ds) : Rd K c' (upd H1 T (.tup vs)) A' (.ref T) (.tup ds) := by
  obtain ⟨z, hz⟩ := s.cell
  exact .tup (cell_ne hz n) (not_mem_new s.dom n) upd_same (r.keep (.laid n))
theorem it_enum {p : Addr} {xs : List V} {ds : List D} (hp : H p = some (.lst xs)) (n : c ≠ some p) (hA : ow = false → p ∉ A) (r : Rds K c H A xs ds) : ItOk ow K c A H (Ite K p) (enumD ds) := by
  intro c' A' H1 s i
  have q : SqL K H1 p xs := SqL.of (s.obj p _ hA n hp)
  have hl := r.length
  have hlen : (enumD ds).length = ds.length := by unfold enumD; rw [List.length_map, List.length_zipIdx]
  refine ⟨fun h => ⟨xs, q, by omega⟩, fun d e => ?_⟩
  obtain ⟨d0, e0, ed⟩ : ∃ d0, ds[i]? = some d0 ∧ d = .tup [.int (i : Nat), d0] := by
    unfold enumD at e
    rw [List.getElem?_map, List.getElem?_zipIdx] at e
    cases q : ds[i]? with
    | none => rw [q] at e; cases e
    | some d0 => rw [q] at e; refine ⟨d0, rfl, ?_⟩; simpa using e.symm
  subst ed
  obtain ⟨v, e1, rv⟩ := r.get e0
  refine ⟨⟨xs, v, q, e1⟩, fun x H2 ⟨T, y, ex, nT, eH, hy⟩ => ?_⟩
  subst ex eH
  have e3 := hy xs q
  rw [e1] at e3; cases e3
  exact ⟨.inr ⟨T, [_, _], nT, two_small, rfl⟩, new_tup s nT (.cons (.int _) (.cons (s.rd _ _ rv) .nil))⟩
theorem it_zip {p p' : Addr} {xs ys : List V} {ds es : List D} (hp : H p = some (.lst xs)) (n : c ≠ some p) (hA : ow = false → p ∉ A) (r : Rds K c H A xs ds) (hp' : H p' = some (.lst ys)) (n' : c ≠ some p') (hA' : ow = false → p' ∉ A) (r' : Rds K c H A ys es) :
    ItOk ow K c A H (Itz K p p') (ds.zipWith (fun d e => D.tup [d, e]) es) := by
  intro c' A' H1 s i
  have q : SqL K H1 p xs := SqL.of (s.obj p _ hA n hp)
  have q' : SqL K H1 p' ys := SqL.of (s.obj p' _ hA' n' hp')
  have hl := r.length
  have hl' := r'.length
  refine ⟨fun h => ⟨xs, ys, q, q', by rw [List.length_zipWith] at h; omega⟩, fun d e => ?_⟩
  rw [List.getElem?_zipWith] at e
  obtain ⟨d0, e0, E1, E2, ed⟩ : ∃ d0 e0, ds[i]? = some d0 ∧ es[i]? = some e0 ∧ D.tup [d0, e0] = d := by
    cases q1 : ds[i]? with
    | none => rw [q1] at e; cases e
    | some d0 =>
      cases q2 : es[i]? with
      | none => rw [q1, q2] at e; cases e
      | some e0 => rw [q1, q2] at e; exact ⟨d0, e0, rfl, rfl, Option.some.inj e⟩
  subst ed
  obtain ⟨v, e1, rv⟩ := r.get E1
  obtain ⟨v', e1', rv'⟩ := r'.get E2
  refine ⟨⟨xs, ys, v, v', q, q', e1, e1'⟩, fun x H2 ⟨T, y, y', ex, nT, eH, hy, hy'⟩ => ?_⟩
  subst ex eH
  have e3 := hy xs q
  rw [e1] at e3; cases e3
  have e3 := hy' ys q'
  rw [e1'] at e3; cases e3
  exact ⟨.inr ⟨T, [_, _], nT, two_small, rfl⟩, new_tup s nT (.cons (s.rd _ _ rv) (.cons (s.rd _ _ rv') .nil))⟩
theorem RRes.itemsB {H0 : Hp} {v : V} {r : R} {ds : List D} (e : r.itemsB ow = some ds) (h : RRes K c A H0 H v r) : ∃ p xs, v = .ref p ∧ c ≠ some p ∧ (ow = false → p ∉ A) ∧ H p = some (.lst xs) ∧ Rds K c H A xs ds := by
  cases r with
  | sh d' =>
    cases d' with
    | lst ds' => cases e; cases h with | lst n m h1 r => exact ⟨_, _, rfl, n, fun _ => m, h1, r⟩
    | _ => cases e
  | fr ds => cases e; obtain ⟨p, xs, rfl, n, nc, m, h1, r⟩ := h; exact ⟨p, xs, rfl, nc, fun _ => m, h1, r.avoid fun a m => .inl (List.mem_cons_of_mem _ m)⟩
  | vw ds =>
    unfold R.itemsB at e
    split at e
    · rename_i q
      split at e
      · rename_i ho
        cases q
        cases e
        obtain ⟨p, xs, rfl, nc, h1, r⟩ := h
        exact ⟨p, xs, rfl, nc, fun hf => (by rw [ho] at hf; cases hf), h1, r⟩
      · cases e
    · rename_i q
      exact absurd rfl (q _)
  | vw2 ds => cases e
  | fr2 dss => cases e
end
/-- what is walked, by its evaluation -/
def tI (K : PySem.W.Frag) (C : CallF) (ow : Bool) (m : MI) : TI := fun σ H R => ∃ (w : Wd) (ρ : Env) (z z' : Zs) (ds : List D), Rel K w H σ ρ z ∧ evI C ρ ow m z = some (ds, z') ∧
  ∀ J H', EPost w.c H z' H' → ds.length ≤ sizeLine → ItOk ow K w.c w.A H' J ds → R J H'
theorem PI.of {X : Cx} {tg e : Expr} {t t' : TI} (h : PI X tg e t) (i : ∀ σ H Q, t' σ H Q → t σ H Q) : PI X tg e t' := ⟨fun pins s σ H Q I q => h.run pins s σ H Q I (i _ _ _ q)⟩
/-- a list or a tuple is walked -/
def iSeq (K : PySem.W.Frag) (tl : TE) : TI := fun σ H R => tl σ H fun x H1 => ∃ a, x = .ref a ∧ (((∃ xs, SqL K H1 a xs) ∧ R (Itl K a) H1) ∨ ((∃ xs, SqT K H1 a xs) ∧ R (Itt K a) H1))
theorem pi_seq {X : Cx} {tg l : Expr} {tl : TE} (hl : PE X l tl) : PI X tg l (iSeq X.K tl) := by
  refine ⟨fun pins s σ H R I h => ?_⟩
  refine thn (hl.run pins s σ H _ I h) fun v s1 ⟨x, H1, I1, r1, q1⟩ => ?_
  obtain ⟨a, e, q⟩ := q1
  subst e
  cases r1
  rcases q with ⟨⟨xs, hq⟩, q⟩ | ⟨⟨xs, hq⟩, q⟩
  · obtain ⟨its, rv, p, hz⟩ := I1.list hq
    refine PySem.wpAny_pyIter_list p.isList ?_
    refine ⟨s1.heap.objs.size, [s1.heap.objs.size], _, _, H1, rfl, I1.kept (t' := s1.toks) fun b o e => Heap.get?_push_of_some _ e, turn_list a _, ⟨_, Heap.get?_push_size _ rfl, rfl, rfl⟩, fun b hb => ?_, q⟩
    have e : b = s1.heap.objs.size := by simpa using hb
    subst e
    exact I1.fpOk (Nat.le_refl _) (I1.hok.fresh (Nat.le_refl _))
  · obtain ⟨its, rv, p, hz⟩ := I1.tuple hq
    refine PySem.wpAny_pyIter_tuple (show s1.heap.IsTuple a its.toArray from p) ?_
    refine ⟨s1.heap.objs.size, [s1.heap.objs.size], _, _, H1, rfl, I1.kept (t' := s1.toks) fun b o e => Heap.get?_push_of_some _ e, turn_tuple a _, ⟨_, Heap.get?_push_size _ rfl, rfl, rfl⟩, fun b hb => ?_, q⟩
    have e : b = s1.heap.objs.size := by simpa using hb
    subst e
    exact I1.fpOk (Nat.le_refl _) (I1.hok.fresh (Nat.le_refl _))
theorem rgOk_le {i : Int} (h : rgOk i = true) : -(2 ^ 62) ≤ i ∧ i < 2 ^ 62 := by
  unfold rgOk at h
  simp only [Bool.and_eq_true, decide_eq_true_eq] at h
  omega
section
variable {X : Cx} {C : CallF} {tg a b e : Expr} {ma mb mc : ME} {pos : Pos} {ow : Bool}
theorem snd_ls (ha : PE X a (tE X.K C ma)) : PI X tg a (tI X.K C ow (.ls ma)) := PI.of (pi_seq ha) fun σ H R ⟨w, ρ, z, z', ds, h, ev, q⟩ => by
  simp only [evI] at ev
  obtain ⟨rx, z1, e1, ev⟩ := bd_eq ev
  refine ⟨w, ρ, z, z1, rx, h, e1, fun x H1 p1 r1 => ?_⟩
  split at ev
  · cases ev
    have r1 : Rd X.K w.c H1 w.A x (.tup _) := r1
    cases r1 with
    | tup n m h1 r => exact ⟨_, rfl, .inr ⟨⟨_, SqT.of h1⟩, q _ _ p1 (by rw [← r.length]; exact p1.bnd.2 _ _ h1) (it_tup h1 n m r)⟩⟩
  · rename_i ns
    split at ev
    · rename_i hz
      cases ev
      have r1 : Rd X.K w.c H1 w.A x (.ext _) := r1
      cases r1 with
      | ext h1 => exact ⟨_, rfl, .inl ⟨⟨_, h1.sq⟩, q _ _ p1 (by rw [List.length_map]; exact small_le hz) (it_ext h1)⟩⟩
    · cases ev
  · obtain ⟨es, ed, e'⟩ := Option.map_eq_some_iff.mp ev
    cases e'
    obtain ⟨p, xs, rfl, n, hA, h1, r⟩ := r1.itemsB ed
    exact ⟨_, rfl, .inl ⟨⟨_, SqL.of h1⟩, q _ _ p1 (by rw [← r.length]; exact p1.bnd.1 _ _ h1) (it_lst h1 n hA r)⟩⟩
theorem snd_rg1 {p : Pos} (ha : PE X a (tE X.K C ma)) (hg : Gl X "range") (hm : X.mg "range" = none) (hs : starEach [a] X.env = [(false, eval a X.env)]) (he : starEach ([] : List Expr) X.env = []) : PI X tg (.Call (.Name "range" p) [a] [] pos) (tI X.K C ow (.rg1 ma)) :=
  PI.of (pi_range1 hg hm (snd_cons ha snd_nil (by rw [hs, he])) hs) fun σ H R ⟨w, ρ, z, z', ds, h, ev, q⟩ => by
    simp only [evI] at ev
    obtain ⟨rx, z1, e1, ev⟩ := bd_eq ev
    refine ⟨w, ρ, z, z1, [rx], h, by simp only [evRs, e1, bd_some], fun vs H1 p1 r1 => ?_⟩
    obtain ⟨v, rfl, rv⟩ := r1.one
    split at ev
    · rename_i j
      split at ev
      · rename_i hj
        cases ev
        obtain ⟨b1, b2⟩ := rgOk_le hj.1
        exact ⟨j, by rw [rv.int], b1, b2, q _ _ p1 (by rw [rangeD_len]; exact small_le hj.2) it_rng⟩
      · cases ev
    · cases ev
theorem snd_rg2 {p : Pos} (ha : PE X a (tE X.K C ma)) (hb : PE X b (tE X.K C mb)) (hg : Gl X "range") (hm : X.mg "range" = none) (hs : starEach [a, b] X.env = [(false, eval a X.env), (false, eval b X.env)]) (hs2 : starEach [b] X.env = [(false, eval b X.env)]) (he : starEach ([] : List Expr) X.env = []) :
    PI X tg (.Call (.Name "range" p) [a, b] [] pos) (tI X.K C ow (.rg2 ma mb)) :=
  PI.of (pi_range2 hg hm (snd_cons ha (snd_cons hb snd_nil (by rw [hs2, he])) (by rw [hs, hs2])) hs hs2) fun σ H R ⟨w, ρ, z, z', ds, h, ev, q⟩ => by
    simp only [evI] at ev
    obtain ⟨rx, z1, e1, ev⟩ := bd_eq ev
    obtain ⟨ry, z2, e2, ev⟩ := bd_eq ev
    refine ⟨w, ρ, z, z2, [rx, ry], h, by simp only [evRs, e1, e2, bd_some], fun vs H1 p1 r1 => ?_⟩
    obtain ⟨v, v', rfl, rv, rv'⟩ := r1.two
    split at ev
    · rename_i i j _
      split at ev
      · rename_i hj
        cases ev
        obtain ⟨b1, b2⟩ := rgOk_le hj.1
        obtain ⟨b3, b4⟩ := rgOk_le hj.2.1
        exact ⟨i, j, by rw [rv.int, rv'.int], ⟨b1, b2, b3, b4⟩, q _ _ p1 (by rw [rangeD_len]; exact small_le hj.2.2) it_rng⟩
      · cases ev
    · cases ev
theorem snd_rv {p : Pos} (ha : PE X a (tE X.K C ma)) (hg : Gl X "reversed") (hm : X.mg "reversed" = none) (hs : starEach [a] X.env = [(false, eval a X.env)]) (he : starEach ([] : List Expr) X.env = []) : PI X tg (.Call (.Name "reversed" p) [a] [] pos) (tI X.K C ow (.rv ma)) :=
  PI.of (pi_reversed hg hm (snd_cons ha snd_nil (by rw [hs, he])) hs) fun σ H R ⟨w, ρ, z, z', ds, h, ev, q⟩ => by
    simp only [evI] at ev
    obtain ⟨rx, z1, e1, ev⟩ := bd_eq ev
    refine ⟨w, ρ, z, z1, [rx], h, by simp only [evRs, e1, bd_some], fun vs H1 p1 r1 => ?_⟩
    obtain ⟨v, rfl, rv⟩ := r1.one
    obtain ⟨es, ed, e'⟩ := Option.map_eq_some_iff.mp ev
    cases e'
    obtain ⟨p, xs, rfl, n, hA, h1, r⟩ := rv.itemsB ed
    exact ⟨p, xs, rfl, SqL.of h1, q _ _ p1 (by rw [List.length_reverse, ← r.length]; exact p1.bnd.1 _ _ h1) (it_rev h1 n hA r)⟩
theorem snd_en {p tpos : Pos} {elts : List Expr} {kk : Nat} (ha : PE X a (tE X.K C ma)) (hg : Gl X "enumerate") (hm : X.mg "enumerate" = none) (hs : starEach [a] X.env = [(false, eval a X.env)]) (he : starEach ([] : List Expr) X.env = []) :
    PI X (.Tuple elts kk tpos) (.Call (.Name "enumerate" p) [a] [] pos) (tI X.K C ow (.en ma)) :=
  PI.of (pi_enum hg hm (snd_cons ha snd_nil (by rw [hs, he])) hs) fun σ H R ⟨w, ρ, z, z', ds, h, ev, q⟩ => by
    simp only [evI] at ev
    obtain ⟨rx, z1, e1, ev⟩ := bd_eq ev
    refine ⟨w, ρ, z, z1, [rx], h, by simp only [evRs, e1, bd_some], fun vs H1 p1 r1 => ?_⟩
    obtain ⟨v, rfl, rv⟩ := r1.one
    obtain ⟨es, ed, e'⟩ := Option.map_eq_some_iff.mp ev
    cases e'
    obtain ⟨p, xs, rfl, n, hA, h1, r⟩ := rv.itemsB ed
    exact ⟨p, xs, rfl, SqL.of h1, q _ _ p1 (by unfold enumD; rw [List.length_map, List.length_zipIdx, ← r.length]; exact p1.bnd.1 _ _ h1) (it_enum h1 n hA r)⟩
theorem snd_zp {p tpos : Pos} {elts : List Expr} {kk : Nat} (ha : PE X a (tE X.K C ma)) (hb : PE X b (tE X.K C mb)) (hg : Gl X "zip") (hm : X.mg "zip" = none) (hs : starEach [a, b] X.env = (false, eval a X.env) :: starEach [b] X.env) (hs2 : starEach [b] X.env = [(false, eval b X.env)]) (he : starEach ([] : List Expr) X.env = [])
    (hpl : (backTo pos (starEach [b] X.env)).any (·.1) = false) : PI X (.Tuple elts kk tpos) (.Call (.Name "zip" p) [a, b] [] pos) (tI X.K C ow (.zp ma mb)) :=
  PI.of (pi_zip hg hm (snd_cons ha (snd_cons hb snd_nil (by rw [hs2, he])) hs) hs hpl) fun σ H R ⟨w, ρ, z, z', ds, h, ev, q⟩ => by
    simp only [evI] at ev
    obtain ⟨rx, z1, e1, ev⟩ := bd_eq ev
    obtain ⟨ry, z2, e2, ev⟩ := bd_eq ev
    refine ⟨w, ρ, z, z2, [rx, ry], h, by simp only [evRs, e1, e2, bd_some], fun vs H1 p1 r1 => ?_⟩
    obtain ⟨v, v', rfl, rv, rv'⟩ := r1.two
    split at ev
    · rename_i d1 d2 e3 e4
      cases ev
      obtain ⟨p, xs, rfl, n, hA, h1, r⟩ := rv.itemsB e3
      obtain ⟨p', ys, rfl, n', hA', h1', r'⟩ := rv'.itemsB e4
      exact ⟨p, p', xs, ys, rfl, SqL.of h1, SqL.of h1', q _ _ p1 (by rw [List.length_zipWith]; exact Nat.le_trans (Nat.min_le_left _ _) (by rw [← r.length]; exact p1.bnd.1 _ _ h1)) (it_zip h1 n hA r h1' n' hA' r')⟩
    · cases ev
end

/-! ### targets -/
def gNms : List Nat → TGs
  | [] => gNil
  | i :: is => gCons (gName i) (gNms is)
def gMT (K : PySem.W.Frag) : MT → TG
  | .nm i => gName i
  | .tp is => gTup K is.length (gNms is)
def setVs (σ : L2.St) : List Nat → List V → L2.St
  | i :: is, v :: vs => setVs (σ.set i (some v)) is vs
  | _, _ => σ
section
variable {K : PySem.W.Frag} {w : Wd} {H : Hp} {σ : L2.St} {ρ : Env} {z : Zs}
theorem SlotR.avoid {c : Option Addr} {A A' : List Addr} {x : Option V} {s : Slot} {l : List Addr} (h : ∀ a ∈ A', a ∈ A ∨ H a = none) (r : SlotR K c H A x s l) : SlotR K c H A' x s l := by
  cases r with
  | un => exact .un
  | sh r => exact .sh (r.avoid h)
  | ow e r => exact .ow e (r.avoid h)
  | ow2 e r => exact .ow2 e (r.avoid h)
theorem Slots.avoid {c : Option Addr} {A A' : List Addr} (h : ∀ a ∈ A', a ∈ A ∨ H a = none) : ∀ {σ : L2.St} {ρ : Env} {L : List (List Addr)}, Slots K c H A σ ρ L → Slots K c H A' σ ρ L
  | _, _, _, .nil => .nil
  | _, _, _, .cons r t => .cons (r.avoid h) (Slots.avoid h t)
theorem Slots.set {c : Option Addr} {A : List Addr} {x : Option V} {s : Slot} {l : List Addr} (r : SlotR K c H A x s l) : ∀ {σ : L2.St} {ρ : Env} {L : List (List Addr)} (i : Nat), Slots K c H A σ ρ L → Slots K c H A (σ.set i x) (ρ.set i s) (L.set i l)
  | _, _, _, _, .nil => .nil
  | _, _, _, 0, .cons _ t => .cons r t
  | _, _, _, i + 1, .cons q t => .cons q (Slots.set r i t)
theorem set_flat_sub {L : List (List Addr)} {i : Nat} {a : Addr} (h : a ∈ (L.set i []).flatten) : a ∈ L.flatten := by
  obtain ⟨l, hl, ha⟩ := List.mem_flatten.mp h
  rcases List.mem_or_eq_of_mem_set hl with q | q
  · exact List.mem_flatten.mpr ⟨l, q, ha⟩
  · subst q; simp at ha
theorem set_flat_nd : ∀ {L : List (List Addr)} {i : Nat}, L.flatten.Nodup → (L.set i []).flatten.Nodup
  | [], _, h => h
  | l :: L, 0, h => by
    rw [List.flatten_cons] at h
    show ([] ++ L.flatten).Nodup
    exact (List.nodup_append.mp h).2.1
  | l :: L, i + 1, h => by
    rw [List.flatten_cons] at h
    show (l ++ (L.set i []).flatten).Nodup
    obtain ⟨h1, h2, h3⟩ := List.nodup_append.mp h
    exact List.nodup_append.mpr ⟨h1, set_flat_nd h2, fun a ha b hb => h3 a ha b (set_flat_sub hb)⟩
/-- a shared value, put into a name -/
theorem Rel.put {v : V} {d : D} {i : Nat} (h : Rel K w H σ ρ z) (r : Rd K w.c H w.A v d) : Rel K { w with L := w.L.set i [] } H (σ.set i (some v)) (ρ.set i (.sh d)) z := by
  have sub : ∀ a ∈ (Wd.mk w.O (w.L.set i []) w.c).A, a ∈ w.A := fun a m => by
    rcases List.mem_append.mp m with m | m
    · exact List.mem_append_left _ (set_flat_sub m)
    · exact List.mem_append_right _ m
  exact ⟨Slots.set (.sh (r.avoid fun a m => .inl (sub a m))) i (h.sl.avoid fun a m => .inl (sub a m)), set_flat_nd h.nd, fun a m => h.out a (set_flat_sub m), h.oin, h.cell, h.bnd⟩
theorem set_self {α : Type} : ∀ {l : List α} {i : Nat} {x : α}, (∀ y, l[i]? = some y → y = x) → l.set i x = l
  | [], _, _, _ => rfl
  | a :: l, 0, x, h => by rw [List.set_cons_zero, h a rfl]
  | a :: l, i + 1, x, h => by
    show a :: l.set i x = a :: l
    rw [set_self (l := l) (i := i) (fun y e => h y e)]
theorem noOw_nil (h : Rel K w H σ ρ z) {i : Nat} (e : noOw ρ i = true) : w.L.set i [] = w.L := by
  refine set_self fun l el => ?_
  obtain ⟨h1, h2⟩ := h.sl.lengths
  have hi : i < ρ.length := by
    have := (List.getElem?_eq_some_iff.mp el).1
    omega
  obtain ⟨x, l', e1, e2, e3⟩ := h.sl.get (List.getElem?_eq_getElem hi)
  rw [el] at e2; cases e2
  unfold noOw at e
  rw [List.getElem?_eq_getElem hi] at e
  generalize ρ[i] = s at e e3
  cases e3 with
  | un => rfl
  | sh _ => rfl
  | ow _ _ => cases e
  | ow2 _ _ => cases e
theorem noOw_set {i j : Nat} {s : Slot} (hs : (∀ ds, s ≠ .ow ds) ∧ ∀ dss, s ≠ .ow2 dss) (e : noOw ρ j = true) : noOw (ρ.set i s) j = true := by
  unfold noOw at e ⊢
  by_cases h : i = j
  · subst h
    by_cases hi : i < ρ.length
    · rw [List.getElem?_set_self hi]
      cases s with
      | ow ds => exact absurd rfl (hs.1 ds)
      | ow2 ds => exact absurd rfl (hs.2 ds)
      | _ => rfl
    · rw [List.getElem?_eq_none (by rw [List.length_set]; omega)]
  · rw [List.getElem?_set_ne h]; exact e
/-- .. where the name owned nothing -/
theorem Rel.putN {v : V} {d : D} {i : Nat} (h : Rel K w H σ ρ z) (e : noOw ρ i = true) (r : Rd K w.c H w.A v d) : Rel K w H (σ.set i (some v)) (ρ.set i (.sh d)) z := by
  have := h.put (i := i) r
  rw [noOw_nil h e] at this
  exact this
theorem Rel.putNs : ∀ {is : List Nat} {vs : List V} {ds : List D} {σ : L2.St} {ρ ρ' : Env}, Rel K w H σ ρ z → (∀ i ∈ is, noOw ρ i = true) → Rds K w.c H w.A vs ds → setTs ρ is ds = some ρ' → Rel K w H (setVs σ is vs) ρ' z
  | [], _, _, σ, ρ, ρ', h, _, .nil, e => by unfold setTs at e; cases e; exact h
  | [], _, _, σ, ρ, ρ', h, _, .cons _ _, e => by unfold setTs at e; cases e
  | i :: is, _, _, σ, ρ, ρ', h, _, .nil, e => by unfold setTs at e; cases e
  | i :: is, v :: vs, d :: ds, σ, ρ, ρ', h, n, .cons r t, e => by
    unfold setTs at e
    have h1 := h.putN (n i List.mem_cons_self) r
    have h2 : ∀ j ∈ is, noOw (ρ.set i (.sh d)) j = true := fun j m => noOw_set ⟨fun ds q => (by cases q), fun ds q => (by cases q)⟩ (n j (List.mem_cons_of_mem _ m))
    show Rel K w H (setVs (σ.set i (some v)) is vs) ρ' z
    exact Rel.putNs h1 h2 t e
theorem setTs_len : ∀ {is : List Nat} {ds : List D} {ρ ρ' : Env}, setTs ρ is ds = some ρ' → ds.length = is.length
  | [], [], _, _, _ => rfl
  | [], _ :: _, _, _, e => by unfold setTs at e; cases e
  | _ :: _, [], _, _, e => by unfold setTs at e; cases e
  | i :: is, d :: ds, _, _, e => by unfold setTs at e; exact congrArg (· + 1) (setTs_len e)
theorem gNms_ok : ∀ {is : List Nat} {vs : List V} {σ : L2.St} {H : Hp} {Q : L2.St → Hp → Prop}, vs.length = is.length → Q (setVs σ is vs) H → gNms is vs σ H Q
  | [], [], _, _, _, _, q => ⟨rfl, q⟩
  | [], _ :: _, _, _, _, e, _ => by cases e
  | _ :: _, [], _, _, _, e, _ => by cases e
  | i :: is, v :: vs, σ, H, Q, e, q => ⟨v, vs, rfl, gNms_ok (Nat.succ.inj e) q⟩
/-- a target that owns nothing takes a value -/
theorem gMT_ok {tg : MT} {v : V} {d : D} {ρ' : Env} {Q : L2.St → Hp → Prop} (h : Rel K w H σ ρ z) (n : ∀ i ∈ tg.ixs, noOw ρ i = true) (r : Rd K w.c H w.A v d) (e : setT ρ tg d = some ρ')
    (q : ∀ σ', Rel K w H σ' ρ' z → (∃ vs, σ' = setVs σ tg.ixs vs) → Q σ' H) : gMT K tg v σ H Q := by
  cases tg with
  | nm i =>
    unfold setT at e
    cases e
    exact q _ (h.putN (n i (by simp [MT.ixs])) r) ⟨[v], rfl⟩
  | tp is =>
    unfold setT at e
    cases d with
    | tup ds =>
      cases r with
      | tup nc m h1 rs =>
        have hl := setTs_len e
        exact ⟨_, _, rfl, SqT.of h1, by rw [rs.length, hl], gNms_ok (by rw [rs.length, hl]) (q _ (h.putNs n rs e) ⟨_, rfl⟩)⟩
    | _ => cases e
end

/-! ### comprehensions -/
def tC (K : PySem.W.Frag) (C : CallF) (m : MO) : TT := fun σ H Q => ∃ (w : Wd) (ρ : Env) (z z' : Zs) (b : Bool), Rel K w H σ ρ z ∧ evC C ρ m z = some (b, z') ∧ ∀ H', EPost w.c H z' H' → Q b H'
theorem PTs.of {X : Cx} {e : List Expr} {t t' : TT} (h : PTs X e t) (i : ∀ σ H Q, t' σ H Q → t σ H Q) : PTs X e t' := ⟨fun pins s σ H Q I q => h.run pins s σ H Q I (i _ _ _ q)⟩
section
variable {X : Cx} {C : CallF} {a : Expr} {ma : ME}
theorem snd_cnone : PTs X [] (tC X.K C .none) := PTs.of pts_nil fun σ H Q ⟨w, ρ, z, z', b, h, ev, q⟩ => by
  simp only [evC] at ev
  cases ev
  exact q _ h.epost
theorem snd_csome (h : PT X a (tT X.K C ma)) : PTs X [a] (tC X.K C (.some ma)) := PTs.of (pts_one h) fun σ H Q ⟨w, ρ, z, z', b, h, ev, q⟩ => by
  simp only [evC] at ev
  obtain ⟨rx, z1, e1, ev⟩ := bd_eq ev
  obtain ⟨o, eo, e'⟩ := Option.map_eq_some_iff.mp ev
  cases e'
  exact ⟨w, ρ, z, _, rx, _, h, e1, eo, q⟩
end
theorem wipe_set {σ : L2.St} {x : Option V} : ∀ {vs : List Nat} {i : Nat}, i ∈ vs → wipe (σ.set i x) vs = wipe σ vs
  | v :: vs, i, m => by
    unfold wipe
    by_cases h : i ∈ vs
    · rw [wipe_set h]
    · rcases List.mem_cons.mp m with q | q
      · subst q
        have key : ∀ (ws : List Nat), i ∉ ws → (wipe (σ.set i x) ws) = (wipe σ ws).set i x := by
          intro ws
          induction ws with
          | nil => intro _; rfl
          | cons w ws ih =>
            intro hw
            unfold wipe
            rw [ih fun q => hw (List.mem_cons_of_mem _ q)]
            exact List.set_comm _ _ fun q => hw (q ▸ List.mem_cons_self)
        rw [key vs h, List.set_set]
      · exact absurd q h
theorem wipe_setVs {vs : List Nat} : ∀ {is : List Nat} {us : List V} {σ : L2.St}, (∀ i ∈ is, i ∈ vs) → wipe (setVs σ is us) vs = wipe σ vs
  | [], _, _, _ => rfl
  | i :: is, [], _, _ => rfl
  | i :: is, u :: us, σ, m => by
    show wipe (setVs (σ.set i (some u)) is us) vs = wipe σ vs
    rw [wipe_setVs fun j h => m j (List.mem_cons_of_mem _ h), wipe_set (m i List.mem_cons_self)]
theorem wipe_in {σ : L2.St} : ∀ {vs : List Nat} {i : Nat}, i ∈ vs → (wipe σ vs).set i none = wipe σ vs
  | v :: vs, i, m => by
    unfold wipe
    rcases List.mem_cons.mp m with q | q
    · subst q; rw [List.set_set]
    · by_cases h : i = v
      · subst h; rw [List.set_set]
      · rw [List.set_comm _ _ (Ne.symm h), wipe_in q]
theorem wipe_wipe {σ : L2.St} : ∀ {us vs : List Nat}, (∀ i ∈ us, i ∈ vs) → wipe (wipe σ vs) us = wipe σ vs
  | [], _, _ => rfl
  | u :: us, vs, m => by
    show (wipe (wipe σ vs) us).set u none = wipe σ vs
    rw [wipe_wipe fun i h => m i (List.mem_cons_of_mem _ h)]
    exact wipe_in (m u List.mem_cons_self)
section
variable {K : PySem.W.Frag} {w : Wd} {H : Hp} {σ : L2.St} {ρ : Env} {z : Zs}
/-- the block's own names forgotten -/
theorem Rel.unset {i : Nat} (h : Rel K w H σ ρ z) (e : noOw ρ i = true) : Rel K w H (σ.set i none) (ρ.set i .un) z := by
  have s : Slots K w.c H w.A (σ.set i none) (ρ.set i .un) (w.L.set i []) := Slots.set .un i h.sl
  rw [noOw_nil h e] at s
  exact ⟨s, h.nd, h.out, h.oin, h.cell, h.bnd⟩
theorem Rel.wipe {own : List Nat} (h : Rel K w H σ ρ z) (e : ∀ i ∈ own, noOw ρ i = true) : Rel K w H (L2.wipe σ own) (wipeE ρ own) z ∧ ∀ i, noOw ρ i = true → noOw (wipeE ρ own) i = true := by
  induction own with
  | nil => exact ⟨h, fun _ q => q⟩
  | cons v vs ih =>
    obtain ⟨h1, h2⟩ := ih fun i m => e i (List.mem_cons_of_mem _ m)
    exact ⟨h1.unset (h2 v (e v List.mem_cons_self)), fun i q => noOw_set ⟨fun _ q => (by cases q), fun _ q => (by cases q)⟩ (h2 i q)⟩
/-- a new list beside -/
theorem Rel.beside {D : Addr} {o : HO} (h : Rel K w H σ ρ z) (n : H D = none) (hb : Bnd (upd H D o)) : Rel K ⟨D :: w.O, w.L, w.c⟩ (upd H D o) σ ρ z := by
  have k : Keep w.c H (upd H D o) := .laid n
  have nD : ∀ a ∈ w.L.flatten, a ≠ D := fun a m q => Wd.dom h a (List.mem_append_left _ m) (q ▸ n)
  have sl : Slots K w.c (upd H D o) (w.L.flatten ++ D :: w.O) σ ρ w.L := by
    refine (h.sl.avoid (A' := w.L.flatten ++ D :: w.O) fun a m => ?_).keep k fun a m => (h.out a m).2
    rcases List.mem_append.mp m with m | m
    · exact .inl (List.mem_append_left _ m)
    · rcases List.mem_cons.mp m with rfl | m
      · exact .inr n
      · exact .inl (List.mem_append_right _ m)
  refine ⟨sl, h.nd, fun a m => ⟨fun q => ?_, (h.out a m).2⟩, fun a m => ?_, ?_, hb⟩
  · rcases List.mem_cons.mp q with q | q
    · exact nD a m q
    · exact (h.out a m).1 q
  · rcases List.mem_cons.mp m with rfl | m
    · rw [upd_same]; simp
    · by_cases q : a = D
      · subst q; rw [upd_same]; simp
      · rw [upd_ne q]; exact h.oin a m
  · have x := h.cell
    show CellOk w.c (upd H D o) z
    unfold CellOk at x ⊢
    split at x <;> first | trivial | (rw [upd_ne (ne_of_none x n)]; exact x) | exact x.elim
end
theorem compOk_eq {ρ : Env} {own : List Nat} {tg : MT} (h : compOk ρ own tg = true) : (∀ i ∈ tg.ixs, i ∈ own) ∧ ∀ i ∈ own, noOw ρ i = true := by
  unfold compOk at h
  rw [Bool.and_eq_true, List.all_eq_true, List.all_eq_true] at h
  exact ⟨fun i m => by simpa using h.1 i m, h.2⟩
theorem cell_upd {c : Option Addr} {H : Hp} {z : Zs} {p : Addr} {o : HO} (h : CellOk c H z) (n : c ≠ some p) : CellOk c (upd H p o) z := by
  unfold CellOk at h ⊢
  split at h
  · trivial
  · rename_i a m
    rw [upd_ne fun q => n (by rw [q])]; exact h
  · exact h.elim
/-- the state of a comprehension's loop -/
structure LcSt (K : PySem.W.Frag) (w : Wd) (H1 : Hp) (σ : L2.St) (ρ : Env) (own : List Nat) (D : Addr) (Hc : Hp) (zi : Zs) (acc : List V) (accD : List Mn.D) : Prop where
  lst : Hc D = some (.lst acc)
  rds : Rds K w.c Hc (D :: w.A) acc accD
  rel : Rel K ⟨D :: w.O, w.L, w.c⟩ Hc (wipe σ own) (wipeE ρ own) zi
  keep : Keep w.c H1 Hc
theorem LcSt.stab {K : PySem.W.Frag} {w : Wd} {H1 Hc : Hp} {σ : L2.St} {ρ : Env} {own : List Nat} {D : Addr} {zi : Zs} {acc : List V} {accD : List Mn.D} (s : LcSt K w H1 σ ρ own D Hc zi acc accD) (n : H1 D = none) :
    Stab true K w.c w.A H1 w.c (D :: w.A) Hc :=
  ⟨fun a o _ nc e => s.keep a o e nc, fun x d r => (r.avoid fun a m => (List.mem_cons.mp m).elim (fun q => .inr (q ▸ n)) .inl).keep s.keep, fun a xs e => e.keep s.keep, ⟨zi, s.rel.cell⟩, s.rel.bnd, fun a m => by
    rcases List.mem_cons.mp m with rfl | m
    · rw [s.lst]; simp
    · rcases List.mem_append.mp m with m | m
      · exact Wd.dom s.rel a (List.mem_append_left _ m)
      · exact Wd.dom s.rel a (List.mem_append_right _ (List.mem_cons_of_mem _ m))⟩
theorem inner_avoid {w : Wd} {D : Addr} : ∀ a ∈ D :: w.A, a ∈ (Wd.mk (D :: w.O) w.L w.c).A := fun a m => by
  rcases List.mem_cons.mp m with rfl | m
  · exact List.mem_append_right _ List.mem_cons_self
  · rcases List.mem_append.mp m with m | m
    · exact List.mem_append_left _ m
    · exact List.mem_append_right _ (List.mem_cons_of_mem _ m)
theorem inner_avoid' {w : Wd} {D : Addr} : ∀ a ∈ (Wd.mk (D :: w.O) w.L w.c).A, a ∈ D :: w.A := fun a m => by
  rcases List.mem_append.mp m with m | m
  · exact List.mem_cons_of_mem _ (List.mem_append_left _ m)
  · rcases List.mem_cons.mp m with rfl | m
    · exact List.mem_cons_self
    · exact List.mem_cons_of_mem _ (List.mem_append_right _ m)
/-- what a turn of a comprehension adds -/
def compF (C : CallF) (ρ : Env) (own : List Nat) (tg : MT) (cs : MO) (elt : ME) : D → Zs → Option (Option D × Zs) := fun d z => match setT (wipeE ρ own) tg d with
  | some ρ1 => bd (evC C ρ1 cs z) fun b z => if b = true then bd (evE C ρ1 elt z) fun r z => match r.toD with
      | some x => some (some x, z)
      | none => none
    else some (none, z)
  | none => none
theorem comp_ok {K : PySem.W.Frag} {C : CallF} {melt : ME} {mtg : MT} {mit : MI} {mcs : MO} {own : List Nat} {σ : L2.St} {H : Hp} {Q : VK} (h : tE K C (.comp melt mtg mit mcs own) σ H Q) :
    tLc (tI K C true mit) (gMT K mtg) (tC K C mcs) (tE K C melt) own σ H Q := by
  obtain ⟨w, ρ, z, z', r, h, ev, q⟩ := h
  simp only [evE] at ev
  split at ev
  · rename_i hok
    obtain ⟨hix, how⟩ := compOk_eq hok
    obtain ⟨ds, z1, e1, ev⟩ := bd_eq ev
    obtain ⟨xs, z2, e2, ev⟩ := bd_eq ev
    cases ev
    have e2 : lcL (compF C ρ own mtg mcs melt) ds z1 = some (xs, z') := e2
    refine ⟨w, ρ, z, z1, ds, h, e1, fun J H1 p1 hz it => fun D nD => ?_⟩
    have h1 := h.post p1
    have nc : w.c ≠ some D := cell_ne p1.cell nD
    have bnd0 : Bnd (upd H1 D (.lst [])) := p1.bnd.laidL (Nat.zero_le _)
    obtain ⟨hw1, hw2⟩ := Rel.wipe (own := own) h1 how
    refine ⟨fun i m Hc => m = ds.length - i ∧ i ≤ ds.length ∧ ∃ acc accD zi rest, LcSt K w H1 σ ρ own D Hc zi acc accD ∧ acc.length ≤ i ∧ lcL (compF C ρ own mtg mcs melt) (ds.drop i) zi = some (rest, z') ∧ xs = accD ++ rest,
      ⟨ds.length, rfl, Nat.zero_le _, [], [], z1, xs, ⟨upd_same, .nil, hw1.beside nD bnd0, .laid nD⟩, Nat.le_refl _, e2, rfl⟩, ?_⟩
    rintro i m Hc ⟨rfl, hi, acc, accD, zi, rest, S, hacc, el, ex⟩
    obtain ⟨it1, it2⟩ := it _ _ _ (S.stab nD) i
    by_cases hlt : i < ds.length
    · have ed : ds[i]? = some ds[i] := List.getElem?_eq_getElem hlt
      obtain ⟨go, yl⟩ := it2 _ ed
      rw [List.drop_eq_getElem_cons hlt] at el
      unfold lcL at el
      obtain ⟨o, z3, ef, el⟩ := bd_eq el
      obtain ⟨rest', z4, er, el⟩ := bd_eq el
      cases el
      refine .inr ⟨go, fun Hn => ∃ acc accD zi rest, LcSt K w H1 σ ρ own D Hn zi acc accD ∧ acc.length ≤ i + 1 ∧ lcL (compF C ρ own mtg mcs melt) (ds.drop (i + 1)) zi = some (rest, z') ∧ xs = accD ++ rest, fun H' ⟨acc, accD, zi, rest, s, hl, e, ex⟩ => ⟨ds.length - (i + 1), by omega, rfl, hlt, acc, accD, zi, rest, s, hl, e, ex⟩, fun x H2 y => ?_⟩
      obtain ⟨gr, rx⟩ := yl x H2 y
      have p2 := gr.post S.rel.cell S.rel.bnd
      have S2 : Rel K ⟨D :: w.O, w.L, w.c⟩ H2 (wipe σ own) (wipeE ρ own) zi := S.rel.post p2
      unfold compF at ef
      split at ef
      · rename_i ρ1 es
        refine gMT_ok S2 (fun j m => hw2 j (how j (hix j m))) (rx.avoid fun a m => .inl (inner_avoid' a m)) es fun σ' R1 ⟨us, eσ⟩ => ⟨?_, ?_⟩
        · subst eσ
          rw [wipe_setVs hix, wipe_wipe fun j m => m]
        · obtain ⟨b, z5, ec, ef⟩ := bd_eq ef
          refine ⟨_, ρ1, zi, z5, b, R1, ec, fun H3 p3 => ?_⟩
          have keepD : ∀ {Hx : Hp} {zx : Zs}, EPost w.c H2 zx Hx → Hx D = some (.lst acc) ∧ Rds K w.c Hx (D :: w.A) acc accD ∧ Keep w.c H1 Hx := fun p =>
            ⟨p.keep _ _ (gr.keep S.lst) nc, (S.rds.keep p2.keep).keep p.keep, (S.keep.trans p2.keep).trans p.keep⟩
          cases b with
          | false =>
            cases ef
            refine iteF ?_
            obtain ⟨k1, k2, k3⟩ := keepD p3
            exact ⟨acc, accD, _, rest', ⟨k1, k2, S2.post p3, k3⟩, Nat.le_succ_of_le hacc, er, ex⟩
          | true =>
            rw [if_pos rfl] at ef
            refine iteT ?_
            obtain ⟨ro, z6, ee, ef⟩ := bd_eq ef
            refine ⟨_, ρ1, z5, z6, ro, R1.post p3, ee, fun v H4 p4 rr => ?_⟩
            have p34 := p3.trans p4
            obtain ⟨k1, k2, k3⟩ := keepD p34
            split at ef
            · rename_i xd exd
              cases ef
              have hsz : acc.length < sizeLine := by omega
              refine ⟨acc, k1, hsz, acc ++ [v], accD ++ [xd], _, rest', ⟨upd_same, ?_, ?_, ?_⟩, by rw [List.length_append]; exact Nat.succ_le_succ hacc, er, by rw [ex, List.append_assoc]; rfl⟩
              · exact ((k2.append (.cons ((rr.toD exd).avoid fun a m => .inl (inner_avoid a m)) .nil))).upd k1 List.mem_cons_self
              · have S4 := S2.post p34
                have mD : D ∈ (Wd.mk (D :: w.O) w.L w.c).A := List.mem_append_right _ List.mem_cons_self
                have nL : ∀ a ∈ w.L.flatten, a ≠ D := fun a m q => (S4.out a m).1 (q ▸ List.mem_cons_self)
                refine ⟨?_, S4.nd, S4.out, fun a m => ?_, cell_upd S4.cell nc, S4.bnd.laidL (by rw [List.length_append]; exact hsz)⟩
                · have key : ∀ {σ : L2.St} {ρ : Env} {L : List (List Addr)}, (∀ a ∈ L.flatten, a ≠ D) → Slots K w.c H4 (Wd.mk (D :: w.O) w.L w.c).A σ ρ L → Slots K w.c (upd H4 D (.lst (acc ++ [v]))) (Wd.mk (D :: w.O) w.L w.c).A σ ρ L := by
                    intro σ ρ L hL hs
                    induction hs with
                    | nil => exact .nil
                    | @cons x s l σ ρ L hx _ ih =>
                      have hl : ∀ a ∈ l, a ≠ D := fun a m => hL a (by rw [List.flatten_cons]; exact List.mem_append_left _ m)
                      refine .cons ?_ (ih fun a m => hL a (by rw [List.flatten_cons]; exact List.mem_append_right _ m))
                      cases hx with
                      | un => exact .un
                      | sh r => exact .sh (r.upd k1 mD)
                      | ow e r => exact .ow (upd_at e (hl _ (by simp))) (r.upd k1 mD)
                      | ow2 e r => exact .ow2 (upd_at e (hl _ (by simp))) (r.upd k1 mD fun m => hl D (List.mem_cons_of_mem _ m) rfl)
                  exact key nL S4.sl
                · by_cases qa : a = D
                  · subst qa; rw [upd_same]; simp
                  · rw [upd_ne qa]; exact S4.oin a m
              · exact fun b o e nb => by rw [upd_ne (ne_of_none e nD)]; exact k3 b o e nb
            · cases ef
      · cases ef
    · have hie : i = ds.length := by omega
      subst hie
      rw [List.drop_length] at el
      unfold lcL at el
      cases el
      rw [List.append_nil] at ex
      subst ex
      have P : EPost w.c H z' Hc := ⟨p1.keep.trans S.keep, S.rel.cell, S.rel.bnd⟩
      exact .inl ⟨it1 (Nat.le_refl _), q _ _ P ⟨D, acc, rfl, p1.free nD, nc, not_mem_new (fun a m => p1.dom (Wd.dom h a m)) nD, S.lst, S.rds⟩⟩
  · cases ev
end Mn

set_option maxHeartbeats 1000000
/-! Mini: statements. -/
namespace Mn
open PySem L2

theorem snd_comp {X : Cx} {C : CallF} {elt tg iter : Expr} {ifs : List Expr} {scope : Scope} {own : List (Str × Nat)} {pos : Pos} {melt : ME} {mtg : MT} {mit : MI} {mcs : MO} (hc : X.calm = true) (hN : X.N.Nodup) (hi : PI X tg iter (tI X.K C true mit)) (ok : BlkOk X.N X.env.scope scope own)
    (hg : ∀ (s : Shared) (H : Hp) (D : Addr) (cl : List (Str × Addr)) (fp : List Addr), PG (X.blk s H scope (compEnvC scope cl D X.env) fp) tg (gMT X.K mtg)) (ht : ∀ (s : Shared) (H : Hp) (D : Addr) (cl : List (Str × Addr)) (fp : List Addr), PTs (X.blk s H scope (compEnvC scope cl D X.env) fp) ifs (tC X.K C mcs))
    (he : ∀ (s : Shared) (H : Hp) (D : Addr) (cl : List (Str × Addr)) (fp : List Addr), PE (X.blk s H scope (compEnvC scope cl D X.env) fp) elt (tE X.K C melt)) (hs : ∀ x, foldedSetIterable iter X.env x = pure x) :
    PE X (.ListComp elt [⟨tg, iter, ifs, 0⟩] scope pos) (tE X.K C (.comp melt mtg mit mcs (own.map (·.2)))) := PE.of (pe_lc hc hN hi ok hg ht he hs) fun σ H Q h => comp_ok h

/-- how a frame goes on -/
structure WEx (w : Wd) (H : Hp) (w' : Wd) (H' : Hp) : Prop where
  O : w'.O = w.O
  keep : ∀ b o, H b = some o → b ∉ w.L.flatten → w.c ≠ some b → H' b = some o
  dom : ∀ b, H b ≠ none → H' b ≠ none
  new : ∀ a ∈ w'.L.flatten, a ∈ w.L.flatten ∨ H a = none
  cel : w'.c = w.c ∨ (w.c = none ∧ ∃ p, w'.c = some p ∧ H p = none)
theorem WEx.refl {w : Wd} {H : Hp} : WEx w H w H := ⟨rfl, fun _ _ e _ _ => e, fun _ h => h, fun _ m => .inl m, .inl rfl⟩
theorem WEx.free {w w' : Wd} {H H' : Hp} (a : WEx w H w' H') {b : Addr} (n : H' b = none) : H b = none := by
  cases e : H b with
  | none => rfl
  | some o => exact absurd n (a.dom b (by rw [e]; simp))
theorem WEx.trans {w w1 w2 : Wd} {H H1 H2 : Hp} (a : WEx w H w1 H1) (b : WEx w1 H1 w2 H2) : WEx w H w2 H2 := by
  refine ⟨b.O.trans a.O, fun x o e m n => ?_, fun x h => b.dom x (a.dom x h), fun x m => ?_, ?_⟩
  · refine b.keep x o (a.keep x o e m n) (fun q => ?_) fun q => ?_
    · rcases a.new x q with z | z
      · exact m z
      · rw [e] at z; cases z
    · rcases a.cel with z | ⟨z, p, h1, h2⟩
      · rw [z] at q; exact n q
      · rw [h1] at q; cases q; rw [e] at h2; cases h2
  · rcases b.new x m with z | z
    · exact a.new x z
    · exact .inr (a.free z)
  · rcases b.cel with z | ⟨z, p, h1, h2⟩
    · rcases a.cel with y | ⟨y, p, h1, h2⟩
      · exact .inl (z.trans y)
      · exact .inr ⟨y, p, z.trans h1, h2⟩
    · rcases a.cel with y | ⟨y, p', h1', h2'⟩
      · exact .inr ⟨y ▸ z, p, h1, a.free h2⟩
      · rw [h1'] at z; cases z
theorem WEx.post {w : Wd} {H H' : Hp} {z' : Zs} (p : EPost w.c H z' H') : WEx w H w H' := ⟨rfl, fun b o e _ n => p.keep b o e n, fun b h => p.dom h, fun a m => .inl m, .inl rfl⟩
section
variable {K : PySem.W.Frag} {w w' : Wd} {H H' : Hp} {σ : L2.St} {ρ : Env} {z z' : Zs}
theorem Rds2.lsts {c : Option Addr} {A : List Addr} {a : Addr} : ∀ {bs : List Addr} {dss : List (List D)}, Rds2 K c H A bs dss → a ∈ bs → ∃ xs, H a = some (.lst xs)
  | _, _, .nil, m => by simp at m
  | _, _, .cons n e r t, m => by
    rcases List.mem_cons.mp m with rfl | m
    · exact ⟨_, e⟩
    · exact Rds2.lsts t m
theorem Rel.own_lst (h : Rel K w H σ ρ z) {a : Addr} (m : a ∈ w.L.flatten) : ∃ xs, H a = some (.lst xs) := by
  have key : ∀ {σ : L2.St} {ρ : Env} {L : List (List Addr)}, Slots K w.c H w.A σ ρ L → a ∈ L.flatten → ∃ xs, H a = some (.lst xs) := by
    intro σ ρ L hs
    induction hs with
    | nil => intro m; simp at m
    | @cons x s l σ ρ L hx _ ih =>
      intro m
      rw [List.flatten_cons] at m
      rcases List.mem_append.mp m with m | m
      · cases hx with
        | un => simp at m
        | sh r => simp at m
        | ow e r => simp at m; subst m; exact ⟨_, e⟩
        | ow2 e r =>
          rcases List.mem_cons.mp m with rfl | m
          · exact ⟨_, e⟩
          · exact r.lsts m
      · exact ih m
  exact key h.sl m
/-- a reading is carried along -/
theorem WEx.stab (x : WEx w H w' H') (h : Rel K w H σ ρ z) {σ' : L2.St} {ρ' : Env} (h' : Rel K w' H' σ' ρ' z') : Stab false K w.c w.A H w'.c w'.A H' := by
  have hk : ∀ a o, a ∉ w.A → w.c ≠ some a → H a = some o → (a ∉ w'.A ∧ w'.c ≠ some a ∧ H' a = some o) := fun a o m n e => by
    refine ⟨fun q => ?_, fun q => ?_, x.keep a o e (fun q => m (List.mem_append_left _ q)) n⟩
    · rcases List.mem_append.mp q with q | q
      · rcases x.new a q with z | z
        · exact m (List.mem_append_left _ z)
        · rw [e] at z; cases z
      · rw [x.O] at q; exact m (List.mem_append_right _ q)
    · rcases x.cel with z | ⟨z, p, h1, h2⟩
      · rw [z] at q; exact n q
      · rw [h1] at q; cases q; rw [e] at h2; cases h2
  have he : ∀ a xs, ExtL K w.c H a xs → ExtL K w'.c H' a xs := fun a xs e => by
    rcases e with ⟨n, o, e⟩ | e
    · refine .inl ⟨fun q => ?_, o, x.keep a _ e (fun q => by obtain ⟨ys, h2⟩ := h.own_lst q; rw [e] at h2; cases h2) n⟩
      rcases x.cel with z | ⟨z, p, h1, h2⟩
      · rw [z] at q; exact n q
      · rw [h1] at q; cases q; rw [e] at h2; cases h2
    · exact .inr e
  have hc : ∀ a, w.c = some a → w'.c = some a := fun a e => by
    rcases x.cel with z | ⟨z, p, h1, h2⟩
    · rw [z]; exact e
    · rw [z] at e; cases e
  exact ⟨fun a o m n e => (hk a o (m rfl) n e).2.2, fun v d r => r.imp hk hc he, he, ⟨z', h'.cell⟩, h'.bnd, Wd.dom h'⟩

theorem set_flat_mem {L : List (List Addr)} {i : Nat} {l : List Addr} {a : Addr} (h : a ∈ (L.set i l).flatten) : a ∈ L.flatten ∨ a ∈ l := by
  obtain ⟨l', hl, ha⟩ := List.mem_flatten.mp h
  rcases List.mem_or_eq_of_mem_set hl with q | q
  · exact .inl (List.mem_flatten.mpr ⟨l', q, ha⟩)
  · subst q; exact .inr ha
theorem set_flat_nd2 {l : List Addr} (nl : l.Nodup) : ∀ {L : List (List Addr)} {i : Nat}, (∀ a ∈ l, a ∉ L.flatten) → L.flatten.Nodup → (L.set i l).flatten.Nodup
  | [], _, _, h => h
  | l0 :: L, 0, d, h => by
    rw [List.flatten_cons] at h
    show (l ++ L.flatten).Nodup
    exact List.nodup_append.mpr ⟨nl, (List.nodup_append.mp h).2.1, fun a ha b hb e => d a ha (by rw [List.flatten_cons]; exact List.mem_append_right _ (e ▸ hb))⟩
  | l0 :: L, i + 1, d, h => by
    rw [List.flatten_cons] at h
    show (l0 ++ (L.set i l).flatten).Nodup
    obtain ⟨h1, h2, h3⟩ := List.nodup_append.mp h
    refine List.nodup_append.mpr ⟨h1, set_flat_nd2 nl (fun a m q => d a m (by rw [List.flatten_cons]; exact List.mem_append_right _ q)) h2, fun a ha b hb => ?_⟩
    rcases set_flat_mem hb with q | q
    · exact h3 a ha b q
    · intro e; subst e; exact d a q (by rw [List.flatten_cons]; exact List.mem_append_left _ ha)
/-- a name takes new lists -/
theorem Rel.putG {H1 : Hp} {l : List Addr} {s : Slot} {x : Option V} {i : Nat} (h : Rel K w H σ ρ z) (p : EPost w.c H z' H1) (hs : SlotR K w.c H1 (l ++ w.A) x s l) (nl : l.Nodup) (hn : ∀ a ∈ l, H a = none ∧ w.c ≠ some a) :
    Rel K ⟨w.O, w.L.set i l, w.c⟩ H1 (σ.set i x) (ρ.set i s) z' ∧ WEx w H ⟨w.O, w.L.set i l, w.c⟩ H1 := by
  have hA := Wd.dom h
  have sub : ∀ a ∈ (Wd.mk w.O (w.L.set i l) w.c).A, a ∈ w.A ∨ a ∈ l := fun a m => by
    rcases List.mem_append.mp m with m | m
    · rcases set_flat_mem m with q | q
      · exact .inl (List.mem_append_left _ q)
      · exact .inr q
    · exact .inl (List.mem_append_right _ m)
  have sl : Slots K w.c H1 (Wd.mk w.O (w.L.set i l) w.c).A σ ρ w.L := (h.sl.avoid fun a m => (sub a m).elim .inl fun q => .inr (hn a q).1).keep p.keep fun a m => (h.out a m).2
  refine ⟨⟨Slots.set (hs.avoid fun a m => .inl ?_) i sl, set_flat_nd2 nl (fun a m q => hA a (List.mem_append_left _ q) (hn a m).1) h.nd, fun a m => ?_, fun a m => p.dom (h.oin a m), p.cell, p.bnd⟩, rfl, fun b o e _ n => p.keep b o e n, fun b h => p.dom h, fun a m => ?_, .inl rfl⟩
  · exact (sub a m).elim (fun q => List.mem_append_right _ q) fun q => List.mem_append_left _ q
  · rcases set_flat_mem m with q | q
    · exact h.out a q
    · exact ⟨fun y => h.oin a y (hn a q).1, (hn a q).2⟩
  · exact (set_flat_mem m).elim .inl fun q => .inr (hn a q).1
theorem Rel.put_wex {v : V} {d : D} {i : Nat} (h : Rel K w H σ ρ z) (r : Rd K w.c H w.A v d) : Rel K ⟨w.O, w.L.set i [], w.c⟩ H (σ.set i (some v)) (ρ.set i (.sh d)) z ∧ WEx w H ⟨w.O, w.L.set i [], w.c⟩ H :=
  ⟨h.put r, rfl, fun b o e _ _ => e, fun b h => h, fun a m => .inl (set_flat_sub m), .inl rfl⟩
theorem Rel.putR {H1 : Hp} {v : V} {r : R} {i : Nat} {ρ' : Env} (h : Rel K w H σ ρ z) (p : EPost w.c H z' H1) (rr : RRes K w.c w.A H H1 v r) (e : putR ρ i r = some ρ') : ∃ w', Rel K w' H1 (σ.set i (some v)) ρ' z' ∧ WEx w H w' H1 := by
  cases r with
  | sh d =>
    cases e
    obtain ⟨a, b⟩ := (h.post p).put_wex (i := i) rr
    exact ⟨_, a, (WEx.post p).trans b⟩
  | fr ds =>
    cases e
    obtain ⟨q, xs, rfl, n, nc, m, h1, rs⟩ := rr
    obtain ⟨a, b⟩ := h.putG (i := i) (l := [q]) p (.ow h1 rs) (by simp) (fun a m => by simp at m; subst m; exact ⟨n, nc⟩)
    exact ⟨_, a, b⟩
  | vw ds => cases e
  | vw2 ds => cases e
  | fr2 dss =>
    cases e
    obtain ⟨q, bs, rfl, n, nd, h1, rs⟩ := rr
    obtain ⟨a, b⟩ := h.putG (i := i) (l := q :: bs) p (.ow2 h1 rs) nd (fun a m => ⟨(n a m).1, (n a m).2.1⟩)
    exact ⟨_, a, b⟩
theorem Rel.froz1 (h : Rel K w H σ ρ z) (i : Nat) : ∃ w', Rel K w' H σ (ρ.set i (froz (ρ.getD i .un))) z ∧ WEx w H w' H := by
  by_cases hi : i < ρ.length
  · have e : ρ[i]? = some ρ[i] := List.getElem?_eq_getElem hi
    have eg : ρ.getD i .un = ρ[i] := by rw [List.getD_eq_getElem?_getD, e]; rfl
    rw [eg]
    obtain ⟨x, l, e1, e2, e3⟩ := h.sl.get e
    generalize hs : ρ[i] = s at e e3
    have same : σ.set i x = σ := set_self fun y ey => by rw [e1] at ey; exact (Option.some.inj ey).symm
    have sameρ : ρ.set i s = ρ := set_self fun y ey => by rw [e] at ey; exact (Option.some.inj ey).symm
    have L0 : ∀ a ∈ (w.L.set i []).flatten, a ∉ l := by
      intro a ha hb
      have key : ∀ {L : List (List Addr)} {i : Nat}, L.flatten.Nodup → L[i]? = some l → a ∈ (L.set i []).flatten → a ∈ l → False := by
        intro L
        induction L with
        | nil => intro i _ e _ _; simp at e
        | cons l0 L ih =>
          intro i nd e m ml
          rw [List.flatten_cons] at nd
          obtain ⟨n1, n2, n3⟩ := List.nodup_append.mp nd
          cases i with
          | zero =>
            simp at e; subst e
            have m' : a ∈ ([] ++ L.flatten) := m
            exact n3 a ml a (by simpa using m') rfl
          | succ i =>
            have e' : L[i]? = some l := by simpa using e
            have m' : a ∈ l0 ++ (L.set i []).flatten := m
            rcases List.mem_append.mp m' with q | q
            · exact n3 a q a (List.mem_flatten.mpr ⟨l, List.mem_of_getElem? e', ml⟩) rfl
            · exact ih n2 e' q ml
      exact key h.nd e2 ha hb
    have go : ∀ (v : V) (d : D), x = some v → froz s = .sh d → Rd K w.c H (Wd.mk w.O (w.L.set i []) w.c).A v d → ∃ w', Rel K w' H σ (ρ.set i (froz s)) z ∧ WEx w H w' H := by
      rintro v d rfl ef r
      have sub : ∀ a ∈ (Wd.mk w.O (w.L.set i []) w.c).A, a ∈ w.A := fun a m => by
        rcases List.mem_append.mp m with m | m
        · exact List.mem_append_left _ (set_flat_sub m)
        · exact List.mem_append_right _ m
      refine ⟨⟨w.O, w.L.set i [], w.c⟩, ⟨?_, set_flat_nd h.nd, fun a m => h.out a (set_flat_sub m), h.oin, h.cell, h.bnd⟩, rfl, fun b o e _ _ => e, fun b h => h, fun a m => .inl (set_flat_sub m), .inl rfl⟩
      have := Slots.set (x := some v) (s := froz s) (l := []) (by rw [ef]; exact .sh r) i (h.sl.avoid (A' := (Wd.mk w.O (w.L.set i []) w.c).A) fun a m => .inl (sub a m))
      rw [same] at this
      exact this
    cases e3 with
    | un => exact ⟨w, by show Rel K w H σ (ρ.set i .un) z; rw [sameρ]; exact h, .refl⟩
    | sh r => exact ⟨w, by show Rel K w H σ (ρ.set i (.sh _)) z; rw [sameρ]; exact h, .refl⟩
    | @ow a xs ds h1 r =>
      have ha := h.out a (mem_flat e2 (by simp))
      refine go (.ref a) (.lst ds) rfl rfl (.lst ha.2 (fun m => ?_) h1 (r.avoid fun b m => .inl ?_))
      · rcases List.mem_append.mp m with m | m
        · exact L0 a m (by simp)
        · exact ha.1 m
      · rcases List.mem_append.mp m with m | m
        · exact List.mem_append_left _ (set_flat_sub m)
        · exact List.mem_append_right _ m
    | @ow2 a bs dss h1 r =>
      have ha : ∀ b ∈ a :: bs, b ∉ (Wd.mk w.O (w.L.set i []) w.c).A := fun b mb m => by
        rcases List.mem_append.mp m with m | m
        · exact L0 b m mb
        · exact (h.out b (mem_flat e2 mb)).1 m
      have r' : Rds2 K w.c H (Wd.mk w.O (w.L.set i []) w.c).A bs dss := r.avoid fun b m => .inl (by
        rcases List.mem_append.mp m with m | m
        · exact List.mem_append_left _ (set_flat_sub m)
        · exact List.mem_append_right _ m)
      exact go (.ref a) (.lst (dss.map .lst)) rfl rfl (.lst (h.out a (mem_flat e2 List.mem_cons_self)).2 (ha a List.mem_cons_self) h1 (r'.flat fun b m => ha b (List.mem_cons_of_mem _ m)))
  · have e : ∀ s, ρ.set i s = ρ := fun s => List.set_eq_of_length_le (by omega)
    rw [e]
    exact ⟨w, h, .refl⟩
theorem Rel.freeze (h : Rel K w H σ ρ z) (fz : List Nat) : ∃ w', Rel K w' H σ (Mn.freeze ρ fz) z ∧ WEx w H w' H := by
  induction fz generalizing ρ w with
  | nil => exact ⟨w, h, .refl⟩
  | cons i is ih =>
    obtain ⟨w1, h1, x1⟩ := h.froz1 i
    obtain ⟨w2, h2, x2⟩ := ih h1
    exact ⟨w2, h2, x1.trans x2⟩
/-- an owned list is written -/
theorem Rel.write {i : Nat} {p : Addr} {xs ys : List V} {ds : List D} (h : Rel K w H σ ρ z) (e1 : σ[i]? = some (some (.ref p))) (e2 : w.L[i]? = some [p]) (hp : H p = some (.lst xs)) (r : Rds K w.c H w.A ys ds) (hz : ys.length ≤ sizeLine) :
    Rel K w (upd H p (.lst ys)) σ (ρ.set i (.ow ds)) z ∧ WEx w H w (upd H p (.lst ys)) := by
  have mp : p ∈ w.L.flatten := mem_flat e2 (by simp)
  have mA : p ∈ w.A := List.mem_append_left _ mp
  have nc := (h.out p mp).2
  have key : ∀ {σ : L2.St} {ρ : Env} {L : List (List Addr)} {i : Nat}, L.flatten.Nodup → σ[i]? = some (some (.ref p)) → L[i]? = some [p] → Slots K w.c H w.A σ ρ L → Slots K w.c (upd H p (.lst ys)) w.A σ (ρ.set i (.ow ds)) L := by
    have other : ∀ {σ : L2.St} {ρ : Env} {L : List (List Addr)}, p ∉ L.flatten → Slots K w.c H w.A σ ρ L → Slots K w.c (upd H p (.lst ys)) w.A σ ρ L := by
      intro σ ρ L hL hs
      induction hs with
      | nil => exact .nil
      | @cons x s l σ ρ L hx _ ih =>
        rw [List.flatten_cons] at hL
        have hl : p ∉ l := fun m => hL (List.mem_append_left _ m)
        refine .cons ?_ (ih fun m => hL (List.mem_append_right _ m))
        cases hx with
        | un => exact .un
        | sh r => exact .sh (r.upd hp mA)
        | ow e r => exact .ow (upd_at e fun q => hl (by simp [q])) (r.upd hp mA)
        | ow2 e r => exact .ow2 (upd_at e fun q => hl (by simp [q])) (r.upd hp mA fun m => hl (List.mem_cons_of_mem _ m))
    intro σ ρ L i nd e1 e2 hs
    induction hs generalizing i with
    | nil => simp at e1
    | @cons x s l σ ρ L hx ht ih =>
      rw [List.flatten_cons] at nd
      obtain ⟨n1, n2, n3⟩ := List.nodup_append.mp nd
      cases i with
      | zero =>
        simp at e1 e2
        subst e1 e2
        exact .cons (.ow upd_same (r.upd hp mA)) (other (fun m => n3 p (by simp) p m rfl) ht)
      | succ i =>
        have e2' : L[i]? = some [p] := by simpa using e2
        have hl : p ∉ l := fun m => n3 p m p (mem_flat e2' (by simp)) rfl
        refine .cons ?_ (ih n2 (by simpa using e1) e2')
        cases hx with
        | un => exact .un
        | sh r => exact .sh (r.upd hp mA)
        | ow e r => exact .ow (upd_at e fun q => hl (by simp [q])) (r.upd hp mA)
        | ow2 e r => exact .ow2 (upd_at e fun q => hl (by simp [q])) (r.upd hp mA fun m => hl (List.mem_cons_of_mem _ m))
  refine ⟨⟨key h.nd e1 e2 h.sl, h.nd, h.out, fun a m => ?_, cell_upd h.cell nc, h.bnd.laidL hz⟩, rfl, fun b o e m n => by rw [upd_ne (a := p) (b := b) (fun q => m (by rw [q]; exact mp))]; exact e, fun b hb => ?_, fun a m => .inl m, .inl rfl⟩
  · by_cases q : a = p
    · subst q; rw [upd_same]; simp
    · rw [upd_ne q]; exact h.oin a m
  · by_cases q : b = p
    · subst q; rw [upd_same]; simp
    · rw [upd_ne q]; exact hb
/-- the cell is written -/
theorem Rel.cellw {p : Addr} {m n : Int} (h : Rel K w H σ ρ (some m)) (ec : w.c = some p) : Rel K w (upd H p (.lst [.int n])) σ ρ (some n) ∧ WEx w H w (upd H p (.lst [.int n])) := by
  have hk : ∀ a o, a ∉ w.A → w.c ≠ some a → H a = some o → (a ∉ w.A ∧ w.c ≠ some a ∧ upd H p (.lst [.int n]) a = some o) := fun a o ma na e => ⟨ma, na, by rw [upd_ne fun q => na (by rw [ec, q])]; exact e⟩
  have he : ∀ a xs, ExtL K w.c H a xs → ExtL K w.c (upd H p (.lst [.int n])) a xs := fun a xs e => by
    rcases e with ⟨na, o, e⟩ | e
    · exact .inl ⟨na, o, by rw [upd_ne fun q => na (by rw [ec, q])]; exact e⟩
    · exact .inr e
  have r1 : ∀ {ds : List D} {vs : List V}, Rds K w.c H w.A vs ds → Rds K w.c (upd H p (.lst [.int n])) w.A vs ds := fun r => r.imp hk (fun _ e => e) he
  have r2 : ∀ {bs : List Addr} {dss : List (List D)}, Rds2 K w.c H w.A bs dss → Rds2 K w.c (upd H p (.lst [.int n])) w.A bs dss := by
    intro bs dss r
    induction r with
    | nil => exact .nil
    | cons nc e r _ ih => exact .cons nc (by rw [upd_ne fun q => nc (by rw [ec, q])]; exact e) (r1 r) ih
  have key : ∀ {σ : L2.St} {ρ : Env} {L : List (List Addr)}, (∀ a ∈ L.flatten, w.c ≠ some a) → Slots K w.c H w.A σ ρ L → Slots K w.c (upd H p (.lst [.int n])) w.A σ ρ L := by
    intro σ ρ L hL hs
    induction hs with
    | nil => exact .nil
    | @cons x s l σ ρ L hx _ ih =>
      have hl : ∀ a ∈ l, w.c ≠ some a := fun a m => hL a (by rw [List.flatten_cons]; exact List.mem_append_left _ m)
      refine .cons ?_ (ih fun a m => hL a (by rw [List.flatten_cons]; exact List.mem_append_right _ m))
      have ne : ∀ a ∈ l, a ≠ p := fun a m q => hl a m (by rw [ec, q])
      cases hx with
      | un => exact .un
      | sh r => exact .sh (r.imp hk (fun _ e => e) he)
      | ow e r => exact .ow (upd_at e (ne _ (by simp))) (r1 r)
      | ow2 e r => exact .ow2 (upd_at e (ne _ (by simp))) (r2 r)
  refine ⟨⟨key (fun a m => (h.out a m).2) h.sl, h.nd, h.out, fun a m => ?_, ?_, h.bnd.laidL (by show 1 ≤ sizeLine; decide)⟩, rfl, fun b o e _ nb => by rw [upd_ne fun q => nb (by rw [ec, q])]; exact e, fun b hb => ?_, fun a m => .inl m, .inl rfl⟩
  · by_cases q : a = p
    · subst q; rw [upd_same]; simp
    · rw [upd_ne q]; exact h.oin a m
  · rw [ec]; exact upd_same
  · by_cases q : b = p
    · subst q; rw [upd_same]; simp
    · rw [upd_ne q]; exact hb
end

/-! ### the readings of statements -/
/-- what a def hands back -/
def RetR (K : PySem.W.Frag) (w : Wd) (H : Hp) (c' : Option Addr) (H' : Hp) (v : V) : R → Prop
  | .sh d => Rd K c' H' w.O v d
  | .fr ds => ∃ p xs, v = .ref p ∧ (p ∈ w.L.flatten ∨ H p = none) ∧ c' ≠ some p ∧ p ∉ w.O ∧ H' p = some (.lst xs) ∧ Rds K c' H' (p :: w.O) xs ds
  | .fr2 dss => ∃ p bs, v = .ref p ∧ (∀ b ∈ p :: bs, (b ∈ w.L.flatten ∨ H b = none) ∧ c' ≠ some b ∧ b ∉ w.O) ∧ (p :: bs).Nodup ∧ H' p = some (.lst (bs.map V.ref)) ∧ Rds2 K c' H' (p :: bs ++ w.O) bs dss
  | _ => False
theorem RetR.older {K : PySem.W.Frag} {w w1 : Wd} {H H1 H' : Hp} {c' : Option Addr} {v : V} {r : R} (x : WEx w H w1 H1) (h : RetR K w1 H1 c' H' v r) : RetR K w H c' H' v r := by
  have o : ∀ b, (b ∈ w1.L.flatten ∨ H1 b = none) → (b ∈ w.L.flatten ∨ H b = none) := fun b q => q.elim (x.new b) fun n => .inr (x.free n)
  cases r with
  | sh d => unfold RetR at h ⊢; rw [x.O] at h; exact h
  | fr ds => obtain ⟨p, xs, e, n, nc, m, h1, r⟩ := h; rw [x.O] at m r; exact ⟨p, xs, e, o p n, nc, m, h1, r⟩
  | fr2 dss => obtain ⟨p, bs, e, n, nd, h1, r⟩ := h; rw [x.O] at r; exact ⟨p, bs, e, fun b m => ⟨o b (n b m).1, (n b m).2.1, x.O ▸ (n b m).2.2⟩, nd, h1, r⟩
  | vw ds => exact h
  | vw2 ds => exact h
def SPost (K : PySem.W.Frag) (w : Wd) (H : Hp) (z' : Zs) (D : Ends) : Out → Prop
  | .nx ρ' => ∀ w' σ' H', WEx w H w' H' → Rel K w' H' σ' ρ' z' → D.nx σ' H'
  | .bk ρ' => ∀ w' σ' H', WEx w H w' H' → Rel K w' H' σ' ρ' z' → D.bk σ' H'
  | .ct ρ' => ∀ w' σ' H', WEx w H w' H' → Rel K w' H' σ' ρ' z' → D.ct σ' H'
  | .ret r => ∀ w' v H', WEx w H w' H' → CellOk w'.c H' z' → Bnd H' → RetR K w H w'.c H' v r → D.rt v H'
theorem SPost.later {K : PySem.W.Frag} {w w1 : Wd} {H H1 : Hp} {z' : Zs} {D : Ends} {o : Out} (x : WEx w H w1 H1) (h : SPost K w H z' D o) : SPost K w1 H1 z' D o := by
  cases o with
  | nx ρ' => exact fun w' σ' H' y r => h w' σ' H' (x.trans y) r
  | bk ρ' => exact fun w' σ' H' y r => h w' σ' H' (x.trans y) r
  | ct ρ' => exact fun w' σ' H' y r => h w' σ' H' (x.trans y) r
  | ret r => exact fun w' v H' y c b q => h w' v H' (x.trans y) c b (q.older x)
def tS (K : PySem.W.Frag) (C : CallF) (m : MS) : TS := fun D σ H => ∃ (w : Wd) (ρ : Env) (z z' : Zs) (o : Out), Rel K w H σ ρ z ∧ exS C m ρ z = some (o, z') ∧ SPost K w H z' D o
def tB (K : PySem.W.Frag) (C : CallF) (m : MSs) : TS := fun D σ H => ∃ (w : Wd) (ρ : Env) (z z' : Zs) (o : Out), Rel K w H σ ρ z ∧ exB C m ρ z = some (o, z') ∧ SPost K w H z' D o
theorem PS.of {X : Cx} {e : Stmt} {t t' : TS} (h : PS X e t) (i : ∀ D σ H, t' D σ H → t D σ H) : PS X e t' := ⟨fun pins s σ H D I q => h.run pins s σ H D I (i _ _ _ q)⟩
theorem PSs.of {X : Cx} {e : List Stmt} {t t' : TS} (h : PSs X e t) (i : ∀ D σ H, t' D σ H → t D σ H) : PSs X e t' := ⟨fun pins s σ H D I q => h.run pins s σ H D I (i _ _ _ q)⟩
section
variable {X : Cx} {C : CallF} {pos : Pos} {e : Expr} {me : ME}
theorem sndB_nil : PSs X [] (tB X.K C .nil) := PSs.of pss_nil fun D σ H ⟨w, ρ, z, z', o, h, ev, q⟩ => by
  simp only [exB] at ev
  cases ev
  exact q _ _ _ .refl h
theorem sndB_cons {st : Stmt} {sts : List Stmt} {m : MS} {ms : MSs} (h1 : PS X st (tS X.K C m)) (h2 : PSs X sts (tB X.K C ms)) : PSs X (st :: sts) (tB X.K C (.cons m ms)) :=
  PSs.of (pss_cons h1 h2) fun D σ H ⟨w, ρ, z, z', o, h, ev, q⟩ => by
    simp only [exB] at ev
    cases e1 : exS C m ρ z with
    | none => rw [e1] at ev; cases ev
    | some p =>
      obtain ⟨o1, z1⟩ := p
      rw [e1] at ev
      refine ⟨w, ρ, z, z1, o1, h, e1, ?_⟩
      cases o1 with
      | nx ρ1 => exact fun w1 σ1 H1 x1 r1 => ⟨w1, ρ1, z1, z', o, r1, ev, q.later x1⟩
      | bk ρ1 => cases ev; exact q
      | ct ρ1 => cases ev; exact q
      | ret r => cases ev; exact q
theorem snd_pass : PS X (.Pass pos) (tS X.K C .pass) := PS.of ps_pass fun D σ H ⟨w, ρ, z, z', o, h, ev, q⟩ => by
  simp only [exS] at ev
  cases ev
  exact q _ _ _ .refl h
theorem snd_brk : PS X (.Break pos) (tS X.K C .brk) := PS.of ps_break fun D σ H ⟨w, ρ, z, z', o, h, ev, q⟩ => by
  simp only [exS] at ev
  cases ev
  exact q _ _ _ .refl h
theorem snd_cnt : PS X (.Continue pos) (tS X.K C .cnt) := PS.of ps_continue fun D σ H ⟨w, ρ, z, z', o, h, ev, q⟩ => by
  simp only [exS] at ev
  cases ev
  exact q _ _ _ .refl h
theorem snd_never {st : Stmt} : PS X st (tS X.K C .never) := PS.of ps_never fun D σ H ⟨w, ρ, z, z', o, h, ev, q⟩ => by
  simp only [exS] at ev
  cases ev
theorem snd_ret0 : PS X (.Return none pos) (tS X.K C .ret0) := PS.of ps_retN fun D σ H ⟨w, ρ, z, z', o, h, ev, q⟩ => by
  simp only [exS] at ev
  cases ev
  exact q _ _ _ .refl h.cell h.bnd Rd.non
theorem RRes.ret {K : PySem.W.Frag} {w : Wd} {H H' : Hp} {v : V} {r : R} (hr : r.toD ≠ none) (h : RRes K w.c w.A H H' v r) : RetR K w H w.c H' v r := by
  have sub : ∀ a ∈ w.O, a ∈ w.A := fun a m => List.mem_append_right _ m
  cases r with
  | sh d => exact Rd.avoid (fun a m => .inl (sub a m)) h
  | fr ds => obtain ⟨p, xs, e, n, nc, m, h1, r⟩ := h; exact ⟨p, xs, e, .inr n, nc, fun q => m (sub _ q), h1, r.avoid fun a q => .inl ((List.mem_cons.mp q).elim (fun y => y ▸ List.mem_cons_self) fun y => List.mem_cons_of_mem _ (sub a y))⟩
  | vw ds => exact absurd rfl hr
  | vw2 ds => exact absurd rfl hr
  | fr2 dss =>
    obtain ⟨p, bs, e, n, nd, h1, r⟩ := h
    exact ⟨p, bs, e, fun b m => ⟨.inr (n b m).1, (n b m).2.1, fun q => (n b m).2.2 (sub _ q)⟩, nd, h1, r.avoid fun a q => .inl ((List.mem_append.mp q).elim (fun y => List.mem_append_left _ y) fun y => List.mem_append_right _ (sub a y))⟩
theorem snd_ret {fz : List Nat} (he : PE X e (tE X.K C me)) : PS X (.Return (some e) pos) (tS X.K C (.ret fz me)) := PS.of (ps_ret he) fun D σ H ⟨w, ρ, z, z', o, h, ev, q⟩ => by
  simp only [exS] at ev
  obtain ⟨w1, h1, x1⟩ := h.freeze fz
  obtain ⟨r, z1, e1, ev⟩ := bd_eq ev
  refine ⟨w1, _, z, z1, r, h1, e1, fun v H' p rr => ?_⟩
  have fin : r.toD ≠ none → o = .ret r → z1 = z' → D.rt v H' := by
    rintro hr rfl rfl
    exact q _ _ _ (x1.trans (WEx.post p)) p.cell p.bnd ((rr.ret hr).older x1)
  split at ev <;> first | (cases ev; exact fin (fun q => by cases q) rfl rfl) | cases ev
theorem snd_retv {x : Str} {i : Nat} {p : Pos} (hN : X.N[i]? = some x) (hv : Vis X.env.scope x) (hd : (x == ("__debug__" : Str)) = false) (hcd : (x == ("__classdict__" : Str)) = false) : PS X (.Return (some (.Name x p)) pos) (tS X.K C (.retv i)) :=
  PS.of (ps_ret (pe_var hN hv hd hcd)) fun D σ H ⟨w, ρ, z, z', o, h, ev, q⟩ => by
    simp only [exS] at ev
    have sub : ∀ a ∈ w.O, a ∈ w.A := fun a m => List.mem_append_right _ m
    split at ev
    · rename_i d ed
      cases ev
      obtain ⟨x, l, e1, e2, e3⟩ := h.sl.get ed
      cases e3 with
      | sh rd => exact ⟨_, e1, q _ _ _ .refl h.cell h.bnd (Rd.avoid (fun a m => .inl (sub a m)) rd)⟩
    · rename_i d ed
      cases ev
      obtain ⟨x, l, e1, e2, e3⟩ := h.sl.get ed
      cases e3 with
      | @ow a xs ds h1 r =>
        have ma := mem_flat e2 (a := a) (by simp)
        exact ⟨_, e1, q _ _ _ .refl h.cell h.bnd ⟨a, xs, rfl, .inl ma, (h.out a ma).2, (h.out a ma).1, h1, r.avoid fun b m => .inl ((List.mem_cons.mp m).elim (fun y => y ▸ List.mem_append_left _ ma) (sub b))⟩⟩
    · rename_i d ed
      cases ev
      obtain ⟨x, l, e1, e2, e3⟩ := h.sl.get ed
      cases e3 with
      | @ow2 a bs dss h1 r =>
        have ma : ∀ b ∈ a :: bs, b ∈ w.L.flatten := fun b m => mem_flat e2 m
        have nd : (a :: bs).Nodup := by
          have key : ∀ {L : List (List Addr)} {i : Nat}, L.flatten.Nodup → L[i]? = some (a :: bs) → (a :: bs).Nodup := by
            intro L
            induction L with
            | nil => intro i _ e; simp at e
            | cons l0 L ih =>
              intro i nd e
              rw [List.flatten_cons] at nd
              obtain ⟨n1, n2, n3⟩ := List.nodup_append.mp nd
              cases i with
              | zero => simp at e; subst e; exact n1
              | succ i => exact ih n2 (by simpa using e)
          exact key h.nd e2
        refine ⟨_, e1, q _ _ _ .refl h.cell h.bnd ⟨a, bs, rfl, fun b m => ⟨.inl (ma b m), (h.out b (ma b m)).2, (h.out b (ma b m)).1⟩, nd, h1, r.avoid fun b m => .inl ?_⟩⟩
        exact (List.mem_append.mp m).elim (fun y => List.mem_append_left _ (ma b y)) (sub b)
    · cases ev
theorem snd_asg {fz : List Nat} {i : Nat} {x : Str} {p : Pos} (hN : X.N.Nodup) (hi : X.N[i]? = some x) (hx : Loc X.env.scope x) (he : PE X e (tE X.K C me)) (hs : swapsWith e (some (.Name x p)) pos.line X.env = pure false) (hf : X.fn x = true ∨ X.env.scope.names.lookup x = some .local) :
    PS X (.Assign [.Name x p] e pos) (tS X.K C (.asg fz i me)) := PS.of (ps_set hN hi hx he hs hf) fun D σ H ⟨w, ρ, z, z', o, h, ev, q⟩ => by
  simp only [exS] at ev
  obtain ⟨w1, h1, x1⟩ := h.freeze fz
  obtain ⟨r, z1, e1, ev⟩ := bd_eq ev
  obtain ⟨ρ', ep, e'⟩ := Option.map_eq_some_iff.mp ev
  cases e'
  refine ⟨w1, _, z, _, r, h1, e1, fun v H' p rr => ?_⟩
  obtain ⟨w2, r2, x2⟩ := h1.putR p rr ep
  exact q w2 _ H' (x1.trans x2) r2
end
end Mn

set_option maxHeartbeats 1000000
/-! Mini: more statements. -/
namespace Mn
open PySem L2
section
variable {X : Cx} {C : CallF} {pos : Pos} {e : Expr} {me : ME}
/-- y = [..], the name a local, on one line -/
theorem snd_asgLc {fz : List Nat} {i : Nat} {y : Str} {py : Pos} {elt tg iter : Expr} {ifs : List Expr} {scope : Scope} {own : List (Str × Nat)} {spos : Pos} {melt : ME} {mtg : MT} {mit : MI} {mcs : MO} (hc : X.calm = true) (hN : X.N.Nodup) (hy : X.N[i]? = some y) (hyl : X.env.scope.names.lookup y = some .local)
    (hsw : swapsWith (.ListComp elt [⟨tg, iter, ifs, 0⟩] scope pos) (some (.Name y py)) spos.line X.env = pure true) (hi : PI X tg iter (tI X.K C true mit)) (ok : BlkOk X.N X.env.scope scope own)
    (hg : ∀ (s : Shared) (H : Hp) (D : Addr) (cl : List (Str × Addr)) (fp : List Addr), PG (X.blk s H scope (compEnvC scope cl D X.env) fp) tg (gMT X.K mtg)) (ht : ∀ (s : Shared) (H : Hp) (D : Addr) (cl : List (Str × Addr)) (fp : List Addr), PTs (X.blk s H scope (compEnvC scope cl D X.env) fp) ifs (tC X.K C mcs))
    (he : ∀ (s : Shared) (H : Hp) (D : Addr) (cl : List (Str × Addr)) (fp : List Addr), PE (X.blk s H scope (compEnvC scope cl D X.env) fp) elt (tE X.K C melt)) (hs : ∀ x, foldedSetIterable iter X.env x = pure x) :
    PS X (.Assign [.Name y py] (.ListComp elt [⟨tg, iter, ifs, 0⟩] scope pos) spos) (tS X.K C (.asg fz i (.comp melt mtg mit mcs (own.map (·.2))))) :=
  PS.of (ps_setLc hc hN hy hyl hsw hi ok hg ht he hs) fun D σ H ⟨w, ρ, z, z', o, h, ev, q⟩ => by
    simp only [exS] at ev
    obtain ⟨w1, h1, x1⟩ := h.freeze fz
    obtain ⟨r, z1, e1, ev⟩ := bd_eq ev
    obtain ⟨ρ', ep, e'⟩ := Option.map_eq_some_iff.mp ev
    cases e'
    refine comp_ok ⟨w1, _, z, _, r, h1, e1, fun v H' p rr => ?_⟩
    obtain ⟨w2, r2, x2⟩ := h1.putR p rr ep
    exact q w2 _ H' (x1.trans x2) r2
/-- names take values, one after the other -/
theorem Rel.puts {K : PySem.W.Frag} {z : Zs} {H : Hp} : ∀ {is : List Nat} {vs : List V} {ds : List D} {w : Wd} {σ : L2.St} {ρ ρ' : Env}, Rel K w H σ ρ z → Rds K w.c H w.A vs ds → setTs ρ is ds = some ρ' → ∃ w', Rel K w' H (setVs σ is vs) ρ' z ∧ WEx w H w' H
  | [], _, _, w, σ, ρ, ρ', h, .nil, e => by unfold setTs at e; cases e; exact ⟨w, h, .refl⟩
  | [], _, _, w, σ, ρ, ρ', h, .cons _ _, e => by unfold setTs at e; cases e
  | i :: is, _, _, w, σ, ρ, ρ', h, .nil, e => by unfold setTs at e; cases e
  | i :: is, v :: vs, d :: ds, w, σ, ρ, ρ', h, .cons r t, e => by
    unfold setTs at e
    obtain ⟨h1, x1⟩ := h.put_wex (i := i) r
    have sub : ∀ a ∈ (Wd.mk w.O (w.L.set i []) w.c).A, a ∈ w.A := fun a m => by
      rcases List.mem_append.mp m with m | m
      · exact List.mem_append_left _ (set_flat_sub m)
      · exact List.mem_append_right _ m
    obtain ⟨w2, h2, x2⟩ := Rel.puts (is := is) (vs := vs) h1 (t.avoid fun a m => .inl (sub a m)) e
    exact ⟨w2, h2, x1.trans x2⟩
/-- any target takes a value -/
theorem gMT_put {K : PySem.W.Frag} {w : Wd} {H : Hp} {σ : L2.St} {ρ : Env} {z : Zs} {tg : MT} {v : V} {d : D} {ρ' : Env} {Q : L2.St → Hp → Prop} (h : Rel K w H σ ρ z) (r : Rd K w.c H w.A v d) (e : setT ρ tg d = some ρ')
    (q : ∀ w' σ', WEx w H w' H → Rel K w' H σ' ρ' z → Q σ' H) : gMT K tg v σ H Q := by
  cases tg with
  | nm i =>
    unfold setT at e
    cases e
    obtain ⟨h1, x1⟩ := h.put_wex (i := i) r
    exact q _ _ x1 h1
  | tp is =>
    unfold setT at e
    cases d with
    | tup ds =>
      cases r with
      | tup nc m h1 rs =>
        have hl := setTs_len e
        obtain ⟨w2, h2, x2⟩ := h.puts rs e
        exact ⟨_, _, rfl, SqT.of h1, by rw [rs.length, hl], gNms_ok (by rw [rs.length, hl]) (q _ _ x2 h2)⟩
    | _ => cases e
theorem snd_asgT {fz : List Nat} {is : List Nat} {tg : Expr} (he : PE X e (tE X.K C me)) (hg : PG X tg (gMT X.K (.tp is))) (hs : swapsWithSole [tg] e pos.line X.env = pure false) (hw : swappedStores [tg] e X.env = pure none)
    (h1 : (assignEach [tg] X.env).map (·.2) = [assign tg X.env]) : PS X (.Assign [tg] e pos) (tS X.K C (.asgT fz is me)) := PS.of (ps_asg he hg hs hw h1) fun D σ H ⟨w, ρ, z, z', o, h, ev, q⟩ => by
  simp only [exS] at ev
  obtain ⟨w1, h1, x1⟩ := h.freeze fz
  obtain ⟨r, z1, e1, ev⟩ := bd_eq ev
  refine ⟨w1, _, z, z1, r, h1, e1, fun v H' p rr => ?_⟩
  split at ev
  · rename_i ds
    obtain ⟨ρ', ep, e'⟩ := Option.map_eq_some_iff.mp ev
    cases e'
    exact gMT_put (h1.post p) (d := .tup ds) rr ep fun w' σ' x2 r2 => q _ _ _ ((x1.trans (WEx.post p)).trans x2) r2
  · cases ev
theorem par_ok {K : PySem.W.Frag} {fz : List Nat} {is : List Nat} {l : MEs} {D : Ends} {σ : L2.St} {H : Hp} (h : tS K C (.par fz is l) D σ H) : tEs K C l σ H fun vs H1 => vs.length = is.length ∧ D.nx (setVs σ is vs) H1 := by
  obtain ⟨w, ρ, z, z', o, h, ev, q⟩ := h
  simp only [exS] at ev
  obtain ⟨w1, h1, x1⟩ := h.freeze fz
  obtain ⟨rs, z1, e1, ev⟩ := bd_eq ev
  refine ⟨w1, _, z, z1, rs, h1, e1, fun vs H' p rr => ?_⟩
  split at ev
  · rename_i ds ed
    obtain ⟨ρ', ep, e'⟩ := Option.map_eq_some_iff.mp ev
    cases e'
    have rd := rr.toDs ed
    obtain ⟨w2, h2, x2⟩ := (h1.post p).puts rd ep
    exact ⟨by rw [rd.length, setTs_len ep], q _ _ _ ((x1.trans (WEx.post p)).trans x2) h2⟩
  · cases ev
theorem rds_int {K : PySem.W.Frag} {c c' : Option Addr} {H H' : Hp} {A A' : List Addr} : ∀ {vs : List V} {ds : List D}, ds.all isI = true → Rds K c H A vs ds → Rds K c' H' A' vs ds
  | _, _, _, .nil => .nil
  | _, d :: ds, h, .cons r t => by
    simp only [List.all_cons, Bool.and_eq_true] at h
    cases d with
    | int i => cases r; exact .cons (.int i) (rds_int h.2 t)
    | _ => exact absurd h.1 (by simp [isI])
theorem parO_ok {K : PySem.W.Frag} {fz : List Nat} {i : Nat} {is : List Nat} {l : MEs} {D : Ends} {σ : L2.St} {H : Hp} (h : tS K C (.parO fz i is l) D σ H) : tEs K C l σ H fun vs H1 => vs.length = (i :: is).length ∧ D.nx (setVs σ (i :: is) vs) H1 := by
  obtain ⟨w, ρ, z, z', o, h, ev, q⟩ := h
  simp only [exS] at ev
  obtain ⟨w1, h1, x1⟩ := h.freeze fz
  obtain ⟨rs, z1, e1, ev⟩ := bd_eq ev
  refine ⟨w1, _, z, z1, rs, h1, e1, fun vs H' p rr => ?_⟩
  split at ev
  · rename_i xs rs
    split at ev
    · rename_i ds ed
      split at ev
      · rename_i hi
        obtain ⟨ρ', ep, e'⟩ := Option.map_eq_some_iff.mp ev
        cases e'
        cases rr with
        | @cons v vs _ _ r t =>
          obtain ⟨w2, r2, x2⟩ := h1.putR (i := i) p r rfl
          have rd := rds_int (c' := w2.c) (H' := H') (A' := w2.A) hi (t.toDs ed)
          obtain ⟨w3, h3, x3⟩ := r2.puts rd ep
          exact ⟨by rw [List.length_cons, List.length_cons, rd.length, setTs_len ep], q w3 _ H' ((x1.trans x2).trans x3) h3⟩
      · cases ev
    · cases ev
  · cases ev
theorem snd_par2 {fz : List Nat} {i j : Nat} {x y : Str} {a b : Expr} {l : MEs} {px py pt : Pos} {kt k2 : Nat} {pt2 : Pos} (hc : X.calm = true) (hN : X.N.Nodup) (hi : X.N[i]? = some x) (hj : X.N[j]? = some y) (hij : i ≠ j)
    (hx : X.env.scope.names.lookup x = some .local) (hy : X.env.scope.names.lookup y = some .local) (ha : PA X [a, b] (tEs X.K C l))
    (hw : swappedStores [.Tuple [.Name x px, .Name y py] kt pt] (.Tuple [a, b] k2 pt2) X.env = pure (some [x, y]))
    (hs : swapsWithSole [.Tuple [.Name x px, .Name y py] kt pt] (.Tuple [a, b] k2 pt2) pos.line X.env = pure false) :
    PS X (.Assign [.Tuple [.Name x px, .Name y py] kt pt] (.Tuple [a, b] k2 pt2) pos) (tS X.K C (.par fz [i, j] l)) := PS.of (ps_par hc hN hi hj hij hx hy ha hw hs) fun D σ H h => by
  obtain ⟨w, ρ, z, z', rs, h, ev, q⟩ := par_ok h
  refine ⟨w, ρ, z, z', rs, h, ev, fun vs H1 p rr => ?_⟩
  obtain ⟨hl, q⟩ := q vs H1 p rr
  match vs, hl, q with
  | [u, v], _, q => exact ⟨u, v, rfl, q⟩
theorem snd_par3 {fz : List Nat} {i j k : Nat} {x y t : Str} {a b c : Expr} {l : MEs} {px py pz pt : Pos} {kt k2 : Nat} {pt2 : Pos} (hc : X.calm = true) (hN : X.N.Nodup) (hi : X.N[i]? = some x) (hj : X.N[j]? = some y) (hk : X.N[k]? = some t) (hij : i ≠ j) (hik : i ≠ k) (hjk : j ≠ k)
    (hx : X.env.scope.names.lookup x = some .local) (hy : X.env.scope.names.lookup y = some .local) (hz : X.env.scope.names.lookup t = some .local) (ha : PA X [a, b, c] (tEs X.K C l))
    (hw : swappedStores [.Tuple [.Name x px, .Name y py, .Name t pz] kt pt] (.Tuple [a, b, c] k2 pt2) X.env = pure (some [x, y, t]))
    (hs : swapsWithSole [.Tuple [.Name x px, .Name y py, .Name t pz] kt pt] (.Tuple [a, b, c] k2 pt2) pos.line X.env = pure false) :
    PS X (.Assign [.Tuple [.Name x px, .Name y py, .Name t pz] kt pt] (.Tuple [a, b, c] k2 pt2) pos) (tS X.K C (.par fz [i, j, k] l)) := PS.of (ps_par3 hc hN hi hj hk hij hik hjk hx hy hz ha hw hs) fun D σ H h => by
  obtain ⟨w, ρ, z, z', rs, h, ev, q⟩ := par_ok h
  refine ⟨w, ρ, z, z', rs, h, ev, fun vs H1 p rr => ?_⟩
  obtain ⟨hl, q⟩ := q vs H1 p rr
  match vs, hl, q with
  | [u, v, t], _, q => exact ⟨u, v, t, rfl, q⟩

/-! ### stores -/
theorem snd_parO2 {fz : List Nat} {i j : Nat} {x y : Str} {a b : Expr} {l : MEs} {px py pt : Pos} {kt k2 : Nat} {pt2 : Pos} (hc : X.calm = true) (hN : X.N.Nodup) (hi : X.N[i]? = some x) (hj : X.N[j]? = some y) (hij : i ≠ j)
    (hx : X.env.scope.names.lookup x = some .local) (hy : X.env.scope.names.lookup y = some .local) (ha : PA X [a, b] (tEs X.K C l))
    (hw : swappedStores [.Tuple [.Name x px, .Name y py] kt pt] (.Tuple [a, b] k2 pt2) X.env = pure (some [x, y]))
    (hs : swapsWithSole [.Tuple [.Name x px, .Name y py] kt pt] (.Tuple [a, b] k2 pt2) pos.line X.env = pure false) :
    PS X (.Assign [.Tuple [.Name x px, .Name y py] kt pt] (.Tuple [a, b] k2 pt2) pos) (tS X.K C (.parO fz i [j] l)) := PS.of (ps_par hc hN hi hj hij hx hy ha hw hs) fun D σ H h => by
  obtain ⟨w, ρ, z, z', rs, h, ev, q⟩ := parO_ok h
  refine ⟨w, ρ, z, z', rs, h, ev, fun vs H1 p rr => ?_⟩
  obtain ⟨hl, q⟩ := q vs H1 p rr
  match vs, hl, q with
  | [u, v], _, q => exact ⟨u, v, rfl, q⟩
theorem snd_parO3 {fz : List Nat} {i j k : Nat} {x y t : Str} {a b c : Expr} {l : MEs} {px py pz pt : Pos} {kt k2 : Nat} {pt2 : Pos} (hc : X.calm = true) (hN : X.N.Nodup) (hi : X.N[i]? = some x) (hj : X.N[j]? = some y) (hk : X.N[k]? = some t) (hij : i ≠ j) (hik : i ≠ k) (hjk : j ≠ k)
    (hx : X.env.scope.names.lookup x = some .local) (hy : X.env.scope.names.lookup y = some .local) (hz : X.env.scope.names.lookup t = some .local) (ha : PA X [a, b, c] (tEs X.K C l))
    (hw : swappedStores [.Tuple [.Name x px, .Name y py, .Name t pz] kt pt] (.Tuple [a, b, c] k2 pt2) X.env = pure (some [x, y, t]))
    (hs : swapsWithSole [.Tuple [.Name x px, .Name y py, .Name t pz] kt pt] (.Tuple [a, b, c] k2 pt2) pos.line X.env = pure false) :
    PS X (.Assign [.Tuple [.Name x px, .Name y py, .Name t pz] kt pt] (.Tuple [a, b, c] k2 pt2) pos) (tS X.K C (.parO fz i [j, k] l)) := PS.of (ps_par3 hc hN hi hj hk hij hik hjk hx hy hz ha hw hs) fun D σ H h => by
  obtain ⟨w, ρ, z, z', rs, h, ev, q⟩ := parO_ok h
  refine ⟨w, ρ, z, z', rs, h, ev, fun vs H1 p rr => ?_⟩
  obtain ⟨hl, q⟩ := q vs H1 p rr
  match vs, hl, q with
  | [u, v, t], _, q => exact ⟨u, v, t, rfl, q⟩

/-! ### stores -/
theorem setD_eq {ds ys : List D} {k : Int} {d : D} (h : setD ds k d = some ys) : ∃ j, ixN ds.length k = some j ∧ ys = ds.set j d := by
  obtain ⟨j, e1, e2⟩ := Option.map_eq_some_iff.mp h
  exact ⟨j, e1, e2.symm⟩
theorem snd_set {fz : List Nat} {i : Nat} {x : Str} {p p2 : Pos} {a : Expr} {ma : ME} (hN : X.N[i]? = some x) (hv : Vis X.env.scope x) (hd : (x == ("__debug__" : Str)) = false) (hcd : (x == ("__classdict__" : Str)) = false) (he : PE X e (tE X.K C me)) (ha : PE X a (tE X.K C ma))
    (hss : ∀ v, assign (.Subscript (.Name x p) a p2) X.env v = (do
      let ov ← holding [v] (eval (.Name x p) X.env)
      let iv ← holding [v, ov] (eval a X.env)
      standAt p2
      holding [v, ov, iv] (setItem ov iv v)
      release [v, ov, iv] [])) (hs : swapsWithSole [.Subscript (.Name x p) a p2] e pos.line X.env = pure false) (hw : swappedStores [.Subscript (.Name x p) a p2] e X.env = pure none)
    (h1 : (assignEach [.Subscript (.Name x p) a p2] X.env).map (·.2) = [assign (.Subscript (.Name x p) a p2) X.env]) : PS X (.Assign [.Subscript (.Name x p) a p2] e pos) (tS X.K C (.set fz i ma me)) :=
  PS.of (ps_asg he (pg_sub (pe_var hN hv hd hcd) ha set_list hss) hs hw h1) fun D σ H ⟨w, ρ, z, z', o, h, ev, q⟩ => by
    simp only [exS] at ev
    obtain ⟨w1, h1, x1⟩ := h.freeze fz
    obtain ⟨r, z1, e1, ev⟩ := bd_eq ev
    obtain ⟨k, z2, e2, ev⟩ := bd_eq ev
    refine ⟨w1, _, z, z1, r, h1, e1, fun v H1 p1 rr => ?_⟩
    split at ev
    · rename_i xs k d es ed
      obtain ⟨ys, ey, e'⟩ := Option.map_eq_some_iff.mp ev
      cases e'
      obtain ⟨vx, l, s1, s2, s3⟩ := h1.sl.get es
      cases s3 with
      | @ow a vs ds ha r0 =>
        refine ⟨_, s1, w1, _, z1, _, _, h1.post p1, e2, fun kv H2 p2 rk => ?_⟩
        have hm := mem_flat s2 (a := a) (by simp)
        have nc := (h1.out a hm).2
        have hp2 : H2 a = some (.lst vs) := p2.keep _ _ (p1.keep _ _ ha nc) nc
        obtain ⟨j, ej, rfl⟩ := setD_eq ey
        refine ⟨a, vs, k, j, rfl, rk.int, hp2, by rw [r0.length]; exact ej, ?_⟩
        have rv := (rr.keep p2.keep).toD ed
        have r2 := (r0.keep p1.keep).keep p2.keep
        have h2 := (h1.post p1).post p2
        obtain ⟨h3, x3⟩ := h2.write s1 s2 hp2 (Rds.set rv j r2) (by rw [List.length_set]; exact h2.bnd.1 _ _ hp2)
        exact q _ _ _ ((x1.trans (WEx.post (p1.trans p2))).trans x3) h3
    · rename_i n es ed
      split at ev
      · rename_i n0
        cases ev
        obtain ⟨vx, l, s1, s2, s3⟩ := h1.sl.get es
        cases s3 with
        | sh rh =>
          cases rh with
          | @hd a ec =>
            refine ⟨_, s1, w1, _, z1, _, _, h1.post p1, e2, fun kv H2 p2 rk => ?_⟩
            have h2 := (h1.post p1).post p2
            have hcell := h2.cell
            rw [ec] at hcell
            have hcell : H2 a = some (.lst [.int n0]) := hcell
            have ev' := (rr.keep p2.keep).toD ed
            cases ev'
            refine ⟨a, [.int n0], 0, 0, rfl, rk.int, hcell, rfl, ?_⟩
            obtain ⟨h3, x3⟩ := h2.cellw (n := n) ec
            exact q _ _ _ ((x1.trans (WEx.post (p1.trans p2))).trans x3) h3
      · cases ev
    · cases ev
/-- xs[k], by values -/
def rGetL : V → V → Hp → VK → Prop := fun o i H Q => ∃ p xs k v, o = .ref p ∧ i = .int k ∧ H p = some (.lst xs) ∧ atI xs k = some v ∧ Q v H
theorem get_list : PGet X rGetL := by
  intro pins s σ H o i ov iv Q I ro ri h
  obtain ⟨p, xs, k, v, rfl, rfl, hp, he, q⟩ := h
  cases ro
  obtain ⟨t, rfl⟩ := ri
  obtain ⟨its, r, pl, hz⟩ := I.list (SqL.of (K := X.K) hp)
  obtain ⟨j, h1, h2, h3, h4, h5⟩ := atI_get he
  obtain ⟨w, ew, rw'⟩ := r.get h2
  have hl := r.length
  have hn := L2.line63
  have fin : EP X pins σ Q w s := ⟨v, H, I, rw', q⟩
  by_cases h0 : 0 ≤ k
  · have hj : k.toNat = j := by
      rw [seqIndex_of h0 h5] at h1
      exact Option.some.inj h1
    exact wpAny_getItem_list pl.isList h0 (by omega) (by rw [hj]; simpa using ew) fin
  · have hj : (k + (its.toArray.size : Int)).toNat = j := by
      rw [seqIndex_neg (by omega) h4] at h1
      rw [List.size_toArray, ← hl]
      exact Option.some.inj h1
    exact wpAny_getItem_list_neg pl.isList (by omega) (by rw [List.size_toArray] <;> omega) (by omega) (by rw [hj]; simpa using ew) fin
theorem snd_augS {fz : List Nat} {op : BOp} {i : Nat} {x : Str} {p p2 : Pos} {a : Expr} {ma : ME} (hN : X.N[i]? = some x) (hv : Vis X.env.scope x) (hd : (x == ("__debug__" : Str)) = false) (hcd : (x == ("__classdict__" : Str)) = false) (he : PE X e (tE X.K C me)) (ha : PE X a (tE X.K C ma))
    (hss : ∀ ov iv new, augStore a ov iv new = (do holding [new, ov, iv] (setItem ov iv new); release [new, ov, iv] []; pure .next)) : PS X (.AugAssign (.Subscript (.Name x p) a p2) (opOf op) e pos) (tS X.K C (.augS fz op i ma me)) :=
  PS.of (ps_augS (pe_var hN hv hd hcd) ha get_list he (fun pins s σ H x y v u Q I rx ry h => iop_bin op pins s σ H x y v u Q I rx ry h) set_list hss) fun D σ H ⟨w, ρ, z, z', o, h, ev, q⟩ => by
    simp only [exS] at ev
    obtain ⟨w1, h1, x1⟩ := h.freeze fz
    obtain ⟨k, z1, e1, ev⟩ := bd_eq ev
    split at ev
    · rename_i xs k es
      split at ev
      · rename_i d ea
        obtain ⟨r, z2, e2, ev⟩ := bd_eq ev
        obtain ⟨vx, l, s1, s2, s3⟩ := h1.sl.get es
        cases s3 with
        | @ow a vs ds ha r0 =>
          refine ⟨_, s1, w1, _, z, z1, _, h1, e1, fun kv H1 p1 rk => ?_⟩
          have hm := mem_flat s2 (a := a) (by simp)
          have nc := (h1.out a hm).2
          have hp1 : H1 a = some (.lst vs) := p1.keep _ _ ha nc
          obtain ⟨j, ve, a1, a2, a3⟩ := atI_len r0.length ea
          obtain ⟨ve', a4, rve⟩ := (r0.keep p1.keep).get a3
          rw [a2] at a4; cases a4
          refine ⟨a, vs, k, ve, rfl, rk.int, hp1, a1, w1, _, z1, z2, r, h1.post p1, e2, fun v H2 p2 rr => ?_⟩
          have h2 := (h1.post p1).post p2
          have hp2 : H2 a = some (.lst vs) := p2.keep _ _ hp1 nc
          split at ev
          · rename_i dn eb
            refine op2_ibin X.K op w1.c w1.A H1 H2 z2 ve v (.sh d) r (.sh dn) _ (fun b n => p2.free n) p2.cell p2.bnd (Wd.dom h2) (rve.keep p2.keep) rr eb fun vn H3 p3 rn => ?_
            obtain ⟨ys, ey, e'⟩ := Option.map_eq_some_iff.mp ev
            cases e'
            obtain ⟨j, ej, rfl⟩ := setD_eq ey
            have h3 := h2.post p3
            have hp3 : H3 a = some (.lst vs) := p3.keep _ _ hp2 nc
            refine ⟨a, vs, k, j, rfl, rk.int, hp3, by rw [r0.length]; exact ej, ?_⟩
            have r3 := ((r0.keep p1.keep).keep p2.keep).keep p3.keep
            obtain ⟨h4, x4⟩ := h3.write s1 s2 hp3 (Rds.set (v := vn) (d := dn) rn j r3) (by rw [List.length_set]; exact h3.bnd.1 _ _ hp3)
            exact q _ _ _ ((x1.trans (WEx.post ((p1.trans p2).trans p3))).trans x4) h4
          · cases ev
      · cases ev
    · cases ev
theorem snd_augN {fz : List Nat} {op : BOp} {i : Nat} {x : Str} {p : Pos} (hN : X.N.Nodup) (hi : X.N[i]? = some x) (hx : Loc X.env.scope x) (he : PE X e (tE X.K C me)) (hf : X.fn x = true ∨ X.env.scope.names.lookup x = some .local) :
    PS X (.AugAssign (.Name x p) (opOf op) e pos) (tS X.K C (.augN fz op i me)) :=
  PS.of (ps_aug hN hi hx he (fun pins s σ H x y v u Q I rx ry h => iop_bin op pins s σ H x y v u Q I rx ry h) hf) fun D σ H ⟨w, ρ, z, z', o, h, ev, q⟩ => by
    simp only [exS] at ev
    obtain ⟨w1, h1, x1⟩ := h.freeze fz
    split at ev
    · rename_i d es
      obtain ⟨r, z1, e1, ev⟩ := bd_eq ev
      obtain ⟨vx, l, s1, s2, s3⟩ := h1.sl.get es
      cases s3 with
      | @sh v0 d rd =>
        refine ⟨v0, s1, w1, _, z, z1, r, h1, e1, fun v H1 p1 rr => ?_⟩
        split at ev
        · rename_i dn eb
          cases ev
          refine op2_ibin X.K op w1.c w1.A H H1 z' v0 v (.sh d) r (.sh dn) _ (fun b n => p1.free n) p1.cell p1.bnd (Wd.dom (h1.post p1)) (Rd.keep p1.keep rd) rr eb fun vn H2 p2 rn => ?_
          obtain ⟨h3, x3⟩ := ((h1.post p1).post p2).put_wex (i := i) (d := dn) rn
          exact q _ _ _ ((x1.trans (WEx.post (p1.trans p2))).trans x3) h3
        · cases ev
    · cases ev

/-! ### branches, loops -/
theorem snd_ite_s {fz : List Nat} {c : Expr} {mc : ME} {a b : List Stmt} {ma mb : MSs} (hc : PT X c (tT X.K C mc)) (ha : PSs X a (tB X.K C ma)) (hb : PSs X b (tB X.K C mb)) : PS X (.If c a b pos) (tS X.K C (.ite fz mc ma mb)) :=
  PS.of (ps_if hc ha hb) fun D σ H ⟨w, ρ, z, z', o, h, ev, q⟩ => by
    simp only [exS] at ev
    obtain ⟨w1, h1, x1⟩ := h.freeze fz
    obtain ⟨r, z1, e1, ev⟩ := bd_eq ev
    split at ev
    · rename_i et
      exact ⟨w1, _, z, z1, r, true, h1, e1, et, fun H1 p1 => iteT ⟨w1, _, z1, z', o, h1.post p1, ev, q.later (x1.trans (WEx.post p1))⟩⟩
    · rename_i et
      exact ⟨w1, _, z, z1, r, false, h1, e1, et, fun H1 p1 => iteF ⟨w1, _, z1, z', o, h1.post p1, ev, q.later (x1.trans (WEx.post p1))⟩⟩
    · cases ev
theorem snd_whl {fz : List Nat} {c : Expr} {mc : ME} {b : List Stmt} {mb : MSs} (hp : PassesOwn (model X.prog X.w) X.A X.env X.xe) (hc : PT X c (tT X.K C mc)) (hb : PSs X b (tB X.K C mb)) : PS X (.While c b [] pos) (tS X.K C (.whl fz mc mb)) :=
  PS.of (ps_while hp hc hb) fun D σ H ⟨w, ρ, z, z', o, h, ev, q⟩ => by
    simp only [exS] at ev
    obtain ⟨n, ev⟩ := whS_iff.mp ev
    refine ⟨fun m σ' H' => ∃ w' ρ' z1, WEx w H w' H' ∧ Rel X.K w' H' σ' ρ' z1 ∧ whN (fun ρ z => bd (evE C (freeze ρ fz) mc z) fun r z => (toB r).map fun b => ((b, freeze ρ fz), z)) (fun ρ z => exB C mb ρ z) m ρ' z1 = some (o, z'), ⟨n, w, ρ, z, .refl, h, ev⟩, ?_⟩
    rintro m σ1 H1 ⟨w1, ρ1, z1, x1, h1, ev⟩
    cases m with
    | zero => unfold whN at ev; cases ev
    | succ m =>
      unfold whN at ev
      obtain ⟨w2, h2, x2⟩ := h1.freeze fz
      have x12 := x1.trans x2
      cases e1 : evE C (freeze ρ1 fz) mc z1 with
      | none => rw [e1] at ev; cases ev
      | some pr =>
        obtain ⟨r, z2⟩ := pr
        rw [e1] at ev
        simp only [bd_some] at ev
        cases et : toB r with
        | none => rw [et] at ev; cases ev
        | some t =>
          rw [et] at ev
          simp only [Option.map_some] at ev
          refine ⟨w2, _, z1, z2, r, t, h2, e1, et, fun H2 p2 => ?_⟩
          have h3 := h2.post p2
          have x3 := x12.trans (WEx.post p2)
          cases t with
          | false =>
            simp only at ev
            cases ev
            exact iteF (q _ _ _ x3 h3)
          | true =>
            simp only at ev
            refine iteT ⟨fun σ' H' => ∃ w' ρ' z1, WEx w H w' H' ∧ Rel X.K w' H' σ' ρ' z1 ∧ whN (fun ρ z => bd (evE C (freeze ρ fz) mc z) fun r z => (toB r).map fun b => ((b, freeze ρ fz), z)) (fun ρ z => exB C mb ρ z) m ρ' z1 = some (o, z'), fun σ' H' y => ⟨m, Nat.lt_succ_self _, y⟩, ?_⟩
            cases eb : exB C mb (freeze ρ1 fz) z2 with
            | none => rw [eb] at ev; cases ev
            | some pb =>
              obtain ⟨ob, z3⟩ := pb
              rw [eb] at ev
              refine ⟨w2, _, z2, z3, ob, h3, eb, ?_⟩
              cases ob with
              | nx ρ' => exact fun w' σ' H' y r => ⟨w', ρ', z3, x3.trans y, r, ev⟩
              | ct ρ' => exact fun w' σ' H' y r => ⟨w', ρ', z3, x3.trans y, r, ev⟩
              | bk ρ' => cases ev; exact fun w' σ' H' y r => q w' σ' H' (x3.trans y) r
              | ret v => cases ev; exact fun w' v' H' y c b rr => q w' v' H' (x3.trans y) c b (rr.older x3)
theorem snd_loop {fz : List Nat} {tg it : Expr} {mtg : MT} {mit : MI} {b : List Stmt} {mb : MSs} (hp : PassesOwn (model X.prog X.w) X.A X.env X.xe) (hc : X.calm = true) (hi : PI X tg it (tI X.K C false mit)) (hg : PG X tg (gMT X.K mtg)) (hb : PSs X b (tB X.K C mb))
    (hs : ∀ x, foldedSetIterable it X.env x = pure x) : PS X (.For tg it b [] pos) (tS X.K C (.loop fz mtg mit mb)) :=
  PS.of (ps_for hp hc hi hg hb hs) fun D σ H ⟨w, ρ, z, z', o, h, ev, q⟩ => by
    simp only [exS] at ev
    obtain ⟨w0, h0, x0⟩ := h.freeze fz
    obtain ⟨ds, z1, e1, ev⟩ := bd_eq ev
    refine ⟨w0, _, z, z1, ds, h0, e1, fun J H1 p1 hz it => ?_⟩
    have h1 := h0.post p1
    have x1 := x0.trans (WEx.post p1)
    refine ⟨fun i m σ' H' => m = ds.length - i ∧ i ≤ ds.length ∧ ∃ w' ρ' z2, WEx w0 H1 w' H' ∧ Rel X.K w' H' σ' ρ' z2 ∧ loopS (fun d ρ z => match setT ρ mtg d with
        | some ρ1 => exB C mb ρ1 z
        | none => none) (ds.drop i) ρ' z2 = some (o, z'), ⟨ds.length, rfl, Nat.zero_le _, w0, _, z1, .refl, h1, ev⟩, ?_⟩
    rintro i m σ2 H2 ⟨rfl, hi', w2, ρ2, z2, x2, h2, ev⟩
    obtain ⟨it1, it2⟩ := it _ _ _ (x2.stab h1 h2) i
    have x02 := x1.trans x2
    by_cases hlt : i < ds.length
    · have ed : ds[i]? = some ds[i] := List.getElem?_eq_getElem hlt
      obtain ⟨go, yl⟩ := it2 _ ed
      rw [List.drop_eq_getElem_cons hlt] at ev
      unfold loopS at ev
      refine .inr ⟨go, fun σ' H' => ∃ w' ρ' z2, WEx w0 H1 w' H' ∧ Rel X.K w' H' σ' ρ' z2 ∧ loopS (fun d ρ z => match setT ρ mtg d with
        | some ρ1 => exB C mb ρ1 z
        | none => none) (ds.drop (i + 1)) ρ' z2 = some (o, z'), fun σ' H' y => ⟨ds.length - (i + 1), by omega, rfl, hlt, y⟩, fun x H3 y => ?_⟩
      obtain ⟨gr, rx⟩ := yl x H3 y
      have p3 := gr.post h2.cell h2.bnd
      have h3 := h2.post p3
      have x3 : WEx w2 H2 w2 H3 := WEx.post p3
      cases es : setT ρ2 mtg ds[i] with
      | none => rw [es] at ev; cases ev
      | some ρ3 =>
        rw [es] at ev
        refine gMT_put h3 rx es fun w4 σ4 x4 h4 => ?_
        have x24 := x3.trans x4
        cases eb : exB C mb ρ3 z2 with
        | none => simp only [eb] at ev; cases ev
        | some pb =>
          obtain ⟨ob, z4⟩ := pb
          simp only [eb] at ev
          refine ⟨w4, ρ3, z2, z4, ob, h4, eb, ?_⟩
          cases ob with
          | nx ρ' => exact fun w' σ' H' y r => ⟨w', ρ', z4, (x2.trans x24).trans y, r, ev⟩
          | ct ρ' => exact fun w' σ' H' y r => ⟨w', ρ', z4, (x2.trans x24).trans y, r, ev⟩
          | bk ρ' => cases ev; exact fun w' σ' H' y r => q w' σ' H' ((x02.trans x24).trans y) r
          | ret v => cases ev; exact fun w' v' H' y c b rr => q w' v' H' ((x02.trans x24).trans y) c b (rr.older (x02.trans x24))
    · have hie : i = ds.length := by omega
      subst hie
      rw [List.drop_length] at ev
      unfold loopS at ev
      cases ev
      exact .inl ⟨it1 (Nat.le_refl _), q _ _ _ x02 h2⟩
end
end Mn

set_option maxHeartbeats 1000000
/-! Mini: methods of lists, several targets, the state's cell. -/
namespace Mn
open PySem L2
section
variable {X : Cx} {C : CallF} {pos : Pos} {e : Expr} {me : ME}
theorem few1 {env : PySem.Env} {cpos : Pos} (hs : starEach [e] env = [(false, eval e env)]) : ((backTo cpos (starEach [e] env)).all (fun x => !x.1) && (backToKw cpos (keywordEach [] env)).all (fun x => x.1.isSome)
      && decide (([e] : List Expr).length + ([] : List Keyword).length + (if ([] : List Keyword).isEmpty then 0 else 1) < 30)) = true := by
  rw [hs]
  rfl
theorem ty_list {K : PySem.W.Frag} {a : Addr} {H : Hp} {xs : List V} (h : H a = some (.lst xs)) : tyV K "list" (.ref a) H := .inl ⟨rfl, _, SqL.of h⟩
/-- the owned list of a name -/
theorem own_at {K : PySem.W.Frag} {w : Wd} {H : Hp} {σ : L2.St} {ρ : Mn.Env} {z : Zs} {i : Nat} {ds : List D} (h : Rel K w H σ ρ z) (es : ρ[i]? = some (.ow ds)) : ∃ a xs, σ[i]? = some (some (.ref a)) ∧ w.L[i]? = some [a] ∧ H a = some (.lst xs) ∧ Rds K w.c H w.A xs ds ∧ w.c ≠ some a := by
  obtain ⟨vx, l, s1, s2, s3⟩ := h.sl.get es
  cases s3 with
  | @ow a xs ds ha r => exact ⟨a, xs, s1, s2, ha, r, (h.out a (mem_flat s2 (by simp))).2⟩
theorem snd_app {fz : List Nat} {i : Nat} {x : Str} {p apos cpos : Pos} (hN : X.N[i]? = some x) (hv : Vis X.env.scope x) (hd : (x == ("__debug__" : Str)) = false) (hcd : (x == ("__classdict__" : Str)) = false) (he : PE X e (tE X.K C me)) (hline : (apos.endLine == cpos.line) = true)
    (hs : starEach [e] X.env = [(false, eval e X.env)]) (hn : starEach ([] : List Expr) X.env = []) : PS X (.Expr (.Call (.Attribute (.Name x p) "append" apos) [e] [] cpos) pos) (tS X.K C (.app fz i me)) :=
  PS.of (ps_expr (pe_bm PySem.F.plainAttrs_list PySem.F.slot_list_append PySem.F.type_list_append mt_append (pe_var hN hv hd hcd) (snd_cons he snd_nil (by rw [hs, hn])) rfl (few1 hs) hline (by rw [hs, hn]) (by rw [hn]; rfl)) rfl) fun D σ H ⟨w, ρ, z, z', o, h, ev, q⟩ => by
    simp only [exS] at ev
    obtain ⟨w1, h1, x1⟩ := h.freeze fz
    split at ev
    · rename_i ds es
      obtain ⟨r, z1, e1, ev⟩ := bd_eq ev
      obtain ⟨a, xs, s1, s2, ha, r0, nc⟩ := own_at h1 es
      refine ⟨_, s1, ty_list ha, w1, _, z, z1, [r], h1, by simp only [evRs, e1, bd_some], fun vs H1 p1 rr => ?_⟩
      obtain ⟨v, rfl, rv⟩ := rr.one
      split at ev
      · rename_i d ed
        split at ev
        · rename_i hz
          cases ev
          have hp1 : H1 a = some (.lst xs) := p1.keep _ _ ha nc
          have hl := r0.length
          have hz' : xs.length < sizeLine := by rw [sizeLine_eq]; omega
          obtain ⟨h3, x3⟩ := (h1.post p1).write s1 s2 hp1 ((r0.keep p1.keep).append (.cons (rv.toD ed) .nil)) (by rw [List.length_append]; exact hz')
          exact ⟨a, xs, v, rfl, rfl, hp1, hz', q _ _ _ ((x1.trans (WEx.post p1)).trans x3) h3⟩
        · cases ev
      · cases ev
    · cases ev
theorem snd_ext {fz : List Nat} {i : Nat} {x : Str} {p apos cpos : Pos} (hN : X.N[i]? = some x) (hv : Vis X.env.scope x) (hd : (x == ("__debug__" : Str)) = false) (hcd : (x == ("__classdict__" : Str)) = false) (he : PE X e (tE X.K C me)) (hline : (apos.endLine == cpos.line) = true)
    (hs : starEach [e] X.env = [(false, eval e X.env)]) (hn : starEach ([] : List Expr) X.env = []) : PS X (.Expr (.Call (.Attribute (.Name x p) "extend" apos) [e] [] cpos) pos) (tS X.K C (.ext fz i me)) :=
  PS.of (ps_expr (pe_bm PySem.F.plainAttrs_list PySem.F.slot_list_extend PySem.F.type_list_extend mt_extend (pe_var hN hv hd hcd) (snd_cons he snd_nil (by rw [hs, hn])) rfl (few1 hs) hline (by rw [hs, hn]) (by rw [hn]; rfl)) rfl) fun D σ H ⟨w, ρ, z, z', o, h, ev, q⟩ => by
    simp only [exS] at ev
    obtain ⟨w1, h1, x1⟩ := h.freeze fz
    split at ev
    · rename_i ds es
      obtain ⟨r, z1, e1, ev⟩ := bd_eq ev
      obtain ⟨a, xs, s1, s2, ha, r0, nc⟩ := own_at h1 es
      refine ⟨_, s1, ty_list ha, w1, _, z, z1, [r], h1, by simp only [evRs, e1, bd_some], fun vs H1 p1 rr => ?_⟩
      obtain ⟨v, rfl, rv⟩ := rr.one
      split at ev
      · rename_i ds2 ed
        split at ev
        · rename_i hz
          cases ev
          have hp1 : H1 a = some (.lst xs) := p1.keep _ _ ha nc
          obtain ⟨b, ys, rfl, nb, hb, rb⟩ := rv.items ed
          have hl := r0.length
          have hl2 := rb.length
          have hz' : xs.length + ys.length ≤ sizeLine := by rw [hl, hl2]; exact small_le hz
          obtain ⟨h3, x3⟩ := (h1.post p1).write s1 s2 hp1 ((r0.keep p1.keep).append rb) (by rw [List.length_append]; exact hz')
          exact ⟨a, b, xs, ys, rfl, rfl, hp1, hb, hz', q _ _ _ ((x1.trans (WEx.post p1)).trans x3) h3⟩
        · cases ev
      · cases ev
    · cases ev
theorem dropLast_le {α : Type} (xs : List α) : xs.dropLast.length ≤ xs.length := by rw [List.length_dropLast]; omega
theorem pop_ok {K : PySem.W.Frag} {w : Wd} {H : Hp} {σ : L2.St} {ρ : Mn.Env} {z : Zs} {i : Nat} {ds : List D} {d : D} (h : Rel K w H σ ρ z) (es : ρ[i]? = some (.ow ds)) (ed : ds[ds.length - 1]? = some d) :
    ∃ a xs v, σ[i]? = some (some (.ref a)) ∧ H a = some (.lst xs) ∧ xs[xs.length - 1]? = some v ∧ Rel K w (upd H a (.lst xs.dropLast)) σ (ρ.set i (.ow ds.dropLast)) z ∧ WEx w H w (upd H a (.lst xs.dropLast)) ∧ Rd K w.c (upd H a (.lst xs.dropLast)) w.A v d := by
  obtain ⟨a, xs, s1, s2, ha, r0, nc⟩ := own_at h es
  have hl := r0.length
  obtain ⟨v, ev, rv⟩ := r0.get ed
  obtain ⟨h3, x3⟩ := h.write s1 s2 ha r0.dropLast (Nat.le_trans (dropLast_le xs) (h.bnd.1 _ _ ha))
  exact ⟨a, xs, v, s1, ha, by rw [hl]; exact ev, h3, x3, rv.upd ha (List.mem_append_left _ (mem_flat s2 (by simp)))⟩
theorem pe_popV {i : Nat} {x : Str} {p apos cpos : Pos} (hN : X.N[i]? = some x) (hv : Vis X.env.scope x) (hd : (x == ("__debug__" : Str)) = false) (hcd : (x == ("__classdict__" : Str)) = false) (hline : (apos.endLine == cpos.line) = true) :
    PE X (.Call (.Attribute (.Name x p) "pop" apos) [] [] cpos) (tBM0 X.K "list" rPop (tVar i)) :=
  pe_bm0 PySem.F.plainAttrs_list PySem.F.slot_list_pop PySem.F.type_list_pop mt_pop (pe_var hN hv hd hcd) rfl hline
theorem snd_popx {i : Nat} {x : Str} {p apos cpos : Pos} (hN : X.N[i]? = some x) (hv : Vis X.env.scope x) (hd : (x == ("__debug__" : Str)) = false) (hcd : (x == ("__classdict__" : Str)) = false) (hline : (apos.endLine == cpos.line) = true) :
    PS X (.Expr (.Call (.Attribute (.Name x p) "pop" apos) [] [] cpos) pos) (tS X.K C (.popx i)) :=
  PS.of (ps_expr (pe_popV hN hv hd hcd hline) rfl) fun D σ H ⟨w, ρ, z, z', o, h, ev, q⟩ => by
    simp only [exS] at ev
    split at ev
    · rename_i ds es
      split at ev
      · rename_i d ed
        cases ev
        obtain ⟨a, xs, v, s1, ha, ev, h3, x3, rv⟩ := pop_ok h es ed
        exact ⟨_, s1, ty_list ha, a, xs, v, rfl, rfl, ha, ev, q _ _ _ x3 h3⟩
      · cases ev
    · cases ev
theorem snd_popT {i : Nat} {x : Str} {p apos cpos : Pos} {tg : Expr} {mtg : MT} (hN : X.N[i]? = some x) (hv : Vis X.env.scope x) (hd : (x == ("__debug__" : Str)) = false) (hcd : (x == ("__classdict__" : Str)) = false) (hline : (apos.endLine == cpos.line) = true)
    (hg : PG X tg (gMT X.K mtg)) (hs : swapsWithSole [tg] (.Call (.Attribute (.Name x p) "pop" apos) [] [] cpos) pos.line X.env = pure false) (hw : swappedStores [tg] (.Call (.Attribute (.Name x p) "pop" apos) [] [] cpos) X.env = pure none)
    (h1 : (assignEach [tg] X.env).map (·.2) = [assign tg X.env]) : PS X (.Assign [tg] (.Call (.Attribute (.Name x p) "pop" apos) [] [] cpos) pos) (tS X.K C (.popT mtg i)) :=
  PS.of (ps_asg (pe_popV hN hv hd hcd hline) hg hs hw h1) fun D σ H ⟨w, ρ, z, z', o, h, ev, q⟩ => by
    simp only [exS] at ev
    split at ev
    · rename_i ds es
      split at ev
      · rename_i d ed
        obtain ⟨ρ', ep, e'⟩ := Option.map_eq_some_iff.mp ev
        cases e'
        obtain ⟨a, xs, v, s1, ha, ev, h3, x3, rv⟩ := pop_ok h es ed
        exact ⟨_, s1, ty_list ha, a, xs, v, rfl, rfl, ha, ev, gMT_put h3 rv ep fun w' σ' x4 h4 => q _ _ _ (x3.trans x4) h4⟩
      · cases ev
    · cases ev
theorem snd_rvs {i : Nat} {x : Str} {p apos cpos : Pos} (hN : X.N[i]? = some x) (hv : Vis X.env.scope x) (hd : (x == ("__debug__" : Str)) = false) (hcd : (x == ("__classdict__" : Str)) = false) (hline : (apos.endLine == cpos.line) = true) :
    PS X (.Expr (.Call (.Attribute (.Name x p) "reverse" apos) [] [] cpos) pos) (tS X.K C (.rvs i)) :=
  PS.of (ps_expr (pe_bm0 PySem.F.plainAttrs_list PySem.F.slot_list_reverse PySem.F.type_list_reverse mt_reverse (pe_var hN hv hd hcd) rfl hline) rfl) fun D σ H ⟨w, ρ, z, z', o, h, ev, q⟩ => by
    simp only [exS] at ev
    split at ev
    · rename_i ds es
      cases ev
      obtain ⟨a, xs, s1, s2, ha, r0, nc⟩ := own_at h es
      obtain ⟨h3, x3⟩ := h.write s1 s2 ha r0.reverse (by rw [List.length_reverse]; exact h.bnd.1 _ _ ha)
      exact ⟨_, s1, ty_list ha, a, xs, rfl, rfl, ha, q _ _ _ x3 h3⟩
    · cases ev

/-! ### the state's cell -/
theorem Rel.mkc {K : PySem.W.Frag} {w : Wd} {H H1 : Hp} {σ : L2.St} {ρ : Mn.Env} {z1 : Zs} {p : Addr} {n : Int} {i : Nat} (h : Rel K w H σ ρ z1) (p1 : EPost w.c H none H1) (hn : H p = none) (hp : H1 p = some (.lst [.int n])) :
    Rel K ⟨w.O, w.L.set i [], some p⟩ H1 (σ.set i (some (.ref p))) (ρ.set i (.sh .hd)) (some n) ∧ WEx w H ⟨w.O, w.L.set i [], some p⟩ H1 := by
  have ec : w.c = none := by
    have x := p1.cell
    cases q : w.c with
    | none => rfl
    | some a => rw [q] at x; exact x.elim
  have sub : ∀ a ∈ (Wd.mk w.O (w.L.set i []) (some p)).A, a ∈ w.A := fun a m => by
    rcases List.mem_append.mp m with m | m
    · exact List.mem_append_left _ (set_flat_sub m)
    · exact List.mem_append_right _ m
  have k : ∀ b o, H b = some o → H1 b = some o := fun b o e => p1.keep b o e (by rw [ec]; simp)
  have hk : ∀ a o, a ∉ w.A → w.c ≠ some a → H a = some o → (a ∉ (Wd.mk w.O (w.L.set i []) (some p)).A ∧ (some p : Option Addr) ≠ some a ∧ H1 a = some o) := fun a o ma na e =>
    ⟨fun q => ma (sub a q), fun q => (by cases q; rw [hn] at e; cases e), k a o e⟩
  have he : ∀ a xs, ExtL K w.c H a xs → ExtL K (some p) H1 a xs := fun a xs e => by
    rcases e with ⟨na, o, e⟩ | e
    · exact .inl ⟨fun q => (by cases q; rw [hn] at e; cases e), o, k a _ e⟩
    · exact .inr e
  have hc : ∀ a, w.c = some a → (some p : Option Addr) = some a := fun a q => by rw [ec] at q; cases q
  have r1 : ∀ {ds : List D} {vs : List V}, Rds K w.c H w.A vs ds → Rds K (some p) H1 (Wd.mk w.O (w.L.set i []) (some p)).A vs ds := fun r => r.imp hk hc he
  have r2 : ∀ {bs : List Addr} {dss : List (List D)}, Rds2 K w.c H w.A bs dss → Rds2 K (some p) H1 (Wd.mk w.O (w.L.set i []) (some p)).A bs dss := by
    intro bs dss r
    induction r with
    | nil => exact .nil
    | cons nc e r _ ih => exact .cons (fun q => (by cases q; rw [hn] at e; cases e)) (k _ _ e) (r1 r) ih
  have key : ∀ {σ : L2.St} {ρ : Mn.Env} {L : List (List Addr)}, Slots K w.c H w.A σ ρ L → Slots K (some p) H1 (Wd.mk w.O (w.L.set i []) (some p)).A σ ρ L := by
    intro σ ρ L hs
    induction hs with
    | nil => exact .nil
    | cons hx _ ih =>
      refine .cons ?_ ih
      cases hx with
      | un => exact .un
      | sh r => exact .sh (r.imp hk hc he)
      | ow e r => exact .ow (k _ _ e) (r1 r)
      | ow2 e r => exact .ow2 (k _ _ e) (r2 r)
  refine ⟨⟨Slots.set (.sh (.hd rfl)) i (key h.sl), set_flat_nd h.nd, fun a m => ⟨(h.out a (set_flat_sub m)).1, fun q => ?_⟩, fun a m => p1.dom (h.oin a m), hp, p1.bnd⟩, rfl, fun b o e _ _ => k b o e, fun b hb => p1.dom hb, fun a m => .inl (set_flat_sub m), .inr ⟨ec, p, rfl, hn⟩⟩
  cases q
  exact Wd.dom h _ (List.mem_append_left _ (set_flat_sub m)) hn
theorem snd_mkst {fz : List Nat} {i : Nat} {x : Str} {p : Pos} (hN : X.N.Nodup) (hi : X.N[i]? = some x) (hx : Loc X.env.scope x) (he : PE X e (tE X.K C me)) (hs : swapsWith e (some (.Name x p)) pos.line X.env = pure false) (hf : X.fn x = true ∨ X.env.scope.names.lookup x = some .local) :
    PS X (.Assign [.Name x p] e pos) (tS X.K C (.mkst fz i me)) := PS.of (ps_set hN hi hx he hs hf) fun D σ H ⟨w, ρ, z, z', o, h, ev, q⟩ => by
  simp only [exS] at ev
  obtain ⟨w1, h1, x1⟩ := h.freeze fz
  obtain ⟨r, z1, e1, ev⟩ := bd_eq ev
  refine ⟨w1, _, z, z1, r, h1, e1, fun v H' p rr => ?_⟩
  split at ev
  · rename_i n
    cases ev
    obtain ⟨p', xs, rfl, n1, nc, m, hp, rs⟩ := rr
    cases rs with
    | cons a t =>
      cases t
      cases a
      obtain ⟨h3, x3⟩ := h1.mkc (i := i) p n1 hp
      exact q _ _ _ (x1.trans x3) h3
  · cases ev

/-! ### several targets -/
def gTg (K : PySem.W.Frag) (C : CallF) : Tg → TG
  | .nm i => gName i
  | .sb i m => gSub (tVar i) (tE K C m) rSetL
def gTgs (K : PySem.W.Frag) (C : CallF) : List Tg → TGs
  | [] => gNil
  | t :: ts => gCons (gTg K C t) (gTgs K C ts)
theorem gTgs_ok {K : PySem.W.Frag} {z' : Zs} : ∀ {ts : List Tg} {vs : List V} {ds : List D} {w : Wd} {H : Hp} {σ : L2.St} {ρ ρ' : Mn.Env} {z : Zs} {Q : L2.St → Hp → Prop}, Rel K w H σ ρ z → Rds K w.c H w.A vs ds → setTg C ρ ts ds z = some (ρ', z') →
    (∀ w' σ' H', WEx w H w' H' → Rel K w' H' σ' ρ' z' → Q σ' H') → gTgs K C ts vs σ H Q
  | [], vs, ds, w, H, σ, ρ, ρ', z, Q, h, r, e, q => by
    cases r with
    | nil => unfold setTg at e; cases e; exact ⟨rfl, q _ _ _ .refl h⟩
    | cons _ _ => unfold setTg at e; cases e
  | .nm i :: ts, vs, ds, w, H, σ, ρ, ρ', z, Q, h, r, e, q => by
    cases r with
    | nil => unfold setTg at e; cases e
    | @cons v vs d ds r t =>
      unfold setTg at e
      obtain ⟨h1, x1⟩ := h.put_wex (i := i) r
      have sub : ∀ a ∈ (Wd.mk w.O (w.L.set i []) w.c).A, a ∈ w.A := fun a m => by
        rcases List.mem_append.mp m with m | m
        · exact List.mem_append_left _ (set_flat_sub m)
        · exact List.mem_append_right _ m
      exact ⟨v, vs, rfl, gTgs_ok (ts := ts) h1 (t.avoid fun a m => .inl (sub a m)) e fun w' σ' H' y r => q w' σ' H' (x1.trans y) r⟩
  | .sb i m :: ts, vs, ds, w, H, σ, ρ, ρ', z, Q, h, r, e, q => by
    cases r with
    | nil => unfold setTg at e; cases e
    | @cons v vs d ds r t =>
      unfold setTg at e
      obtain ⟨k, z1, e1, e⟩ := bd_eq e
      split at e
      · rename_i xs k es
        split at e
        · rename_i ys ey
          obtain ⟨a, vs', s1, s2, ha, r0, nc⟩ := own_at h es
          refine ⟨v, vs, rfl, _, s1, w, ρ, z, z1, _, h, e1, fun kv H1 p1 rk => ?_⟩
          have ha1 : H1 a = some (.lst vs') := p1.keep _ _ ha nc
          obtain ⟨j, ej, rfl⟩ := setD_eq ey
          have h1 := h.post p1
          obtain ⟨h3, x3⟩ := h1.write s1 s2 ha1 (Rds.set (r.keep p1.keep) j (r0.keep p1.keep)) (by rw [List.length_set]; exact h1.bnd.1 _ _ ha1)
          refine ⟨a, vs', k, j, rfl, rk.int, ha1, by rw [r0.length]; exact ej, ?_⟩
          exact gTgs_ok (ts := ts) h3 ((t.keep p1.keep).upd ha1 (List.mem_append_left _ (mem_flat s2 (by simp)))) e fun w' σ' H' y r => q w' σ' H' ((WEx.post p1).trans (x3.trans y)) r
        · cases e
      · cases e
theorem setTg_len {C : CallF} {z' : Zs} : ∀ {ts : List Tg} {ds : List D} {ρ ρ' : Mn.Env} {z : Zs}, setTg C ρ ts ds z = some (ρ', z') → ds.length = ts.length
  | [], [], _, _, _, _ => rfl
  | [], _ :: _, _, _, _, e => by unfold setTg at e; cases e
  | .nm i :: ts, [], _, _, _, e => by unfold setTg at e; cases e
  | .sb i m :: ts, [], _, _, _, e => by unfold setTg at e; cases e
  | .nm i :: ts, d :: ds, _, _, _, e => by unfold setTg at e; exact congrArg (· + 1) (setTg_len e)
  | .sb i m :: ts, d :: ds, _, _, _, e => by
    unfold setTg at e
    obtain ⟨k, z1, e1, e⟩ := bd_eq e
    split at e
    · split at e
      · exact congrArg (· + 1) (setTg_len e)
      · cases e
    · cases e
theorem snd_tgs {fz : List Nat} {ts : List Tg} {l : MEs} {tgs es : List Expr} {k1 k2 : Nat} {p1 p2 : Pos} (hc : X.calm = true) (hl : l.len ≤ 1000) (he : PA X es (tEs X.K C l)) (hg : PGs X tgs (gTgs X.K C ts)) (hn : (assignEach tgs X.env).length = ts.length) (hst : (assignEach tgs X.env).findIdx? (·.1) = none)
    (hs : swapsWithSole [.Tuple tgs k1 p1] (.Tuple es k2 p2) pos.line X.env = pure false) (hw : swappedStores [.Tuple tgs k1 p1] (.Tuple es k2 p2) X.env = pure none) :
    PS X (.Assign [.Tuple tgs k1 p1] (.Tuple es k2 p2) pos) (tS X.K C (.tgs fz ts l)) :=
  PS.of (ps_asg (pe_tup he) (pg_tup hc hg hn hst) hs hw rfl) fun D σ H ⟨w, ρ, z, z', o, h, ev, q⟩ => by
    simp only [exS] at ev
    obtain ⟨w1, h1, x1⟩ := h.freeze fz
    obtain ⟨rs, z1, e1, ev⟩ := bd_eq ev
    refine ⟨w1, _, z, z1, rs, h1, e1, fun vs H1 pp rr => ?_⟩
    split at ev
    · rename_i ds ed
      obtain ⟨ρ', z2, e2, ev⟩ := bd_eq ev
      cases ev
      have hz : vs.length ≤ sizeLine := by rw [rr.length, evRs_len e1]; exact len_small hl
      refine ⟨hz, fun p n => ?_⟩
      have rd := rr.toDs ed
      have p3 := (EPost.refl (h1.post pp).cell (h1.post pp).bnd).laidT n hz
      refine ⟨p, vs, rfl, SqT.of upd_same, by rw [rd.length, setTg_len e2], ?_⟩
      exact gTgs_ok ((h1.post pp).post p3) (rd.keep p3.keep) e2 fun w' σ' H' y r => q w' σ' H' ((x1.trans ((WEx.post pp).trans (WEx.post p3))).trans y) r
    · cases ev
end
end Mn

set_option maxHeartbeats 1000000
/-! Mini: the compiler. -/
namespace Mn
open PySem L2

/-! ### facts of the text that are told by its shape -/
def blkKind (sc : Scope) : ScopeKind := if sc.kind.isAnnotationScope then .function else sc.kind
def swapNames (sc : Scope) (ts : List Expr) : List Str := ts.filterMap fun
      | .Name id pos => if sc.names.lookup id == some .local && pos.line == (ts.head?.map (·.pos.line)).getD 0 then some id else none
      | _ => none
def swapRes (sc : Scope) (ts vs : List Expr) : Option (Option (List Str)) :=
    if !(ts.length == 2 || ts.length == 3) || vs.length != ts.length || blkKind sc != .function then some none else
    if vs.any (fun | .Starred .. => true | _ => false) then some none else
    if (swapNames sc ts).length != ts.length || (swapNames sc ts).eraseDups.length != (swapNames sc ts).length then some none else
    if vs.all (foldedForSure 8) then some none else
    if vs.all (constantsAlone 8) then none else
    some (some (swapNames sc ts))
theorem swap_eq {env : PySem.Env} {ts vs : List Expr} {k k2 : Nat} {p p2 : Pos} {r : Option (List Str)} (h : swapRes env.scope ts vs = some r) : swappedStores [.Tuple ts k p] (.Tuple vs k2 p2) env = pure r := by
  unfold swapRes at h
  unfold swappedStores
  simp only
  have eb : env.blockKind = blkKind env.scope := rfl
  have ek : ∀ id, env.kindOf id = env.scope.names.lookup id := fun _ => rfl
  simp only [eb, ek]
  split at h
  · cases h; rename_i c; exact if_pos c
  · rename_i c; refine (if_neg c).trans ?_
    split at h
    · cases h; rename_i c; exact if_pos c
    · rename_i c; refine (if_neg c).trans ?_
      split at h
      · cases h; rename_i c; exact if_pos c
      · rename_i c; refine (if_neg c).trans ?_
        split at h
        · cases h; rename_i c; exact if_pos c
        · rename_i c; refine (if_neg c).trans ?_
          split at h
          · cases h
          · cases h; rename_i c; exact if_neg c
def noTup : Expr → Bool
  | .Tuple .. => false
  | _ => true
def noTgT : Expr → Bool
  | .Tuple .. => false
  | .List .. => false
  | _ => true
def noComp : Expr → Bool
  | .ListComp .. => false
  | .SetComp .. => false
  | .DictComp .. => false
  | _ => true
def noStar : Expr → Bool
  | .Starred .. => false
  | _ => true
def noSet : Expr → Bool
  | .Set .. => false
  | _ => true
def noName : Expr → Bool
  | .Name .. => false
  | _ => true
def plainB : Expr → Bool
  | .Name .. => true | .Constant .. => true | .BinOp .. => true | .UnaryOp .. => true | .Call .. => true | .Subscript .. => true
  | _ => false
theorem swap_no {env : PySem.Env} {tg value : Expr} (h : noTup value = true) : swappedStores [tg] value env = pure none := by
  cases value <;> first | (cases tg <;> rfl) | cases h
theorem swap_no2 {env : PySem.Env} {tg value : Expr} (h : noTgT tg = true) : swappedStores [tg] value env = pure none := by
  cases tg <;> first | (cases value <;> rfl) | cases h
theorem sw_false {e : Expr} {t : Option Expr} {l : Nat} {env : PySem.Env} (h : noComp e = true) : swapsWith e t l env = pure false := by
  unfold swapsWith
  cases e <;> first | rfl | cases h
theorem sw_false2 {e t : Expr} {l : Nat} {env : PySem.Env} (h : noName t = true) : swapsWith e (some t) l env = pure false := by
  unfold swapsWith
  cases e <;> first | rfl | (cases t <;> first | rfl | cases h)
/-- y = [..] at one go -/
def swapB (sc : Scope) (y : Str) (py pos : Pos) (scope : Scope) : Bool := blkKind sc == .function && sc.names.lookup y == some .local && py.line == pos.line
      && !(scope.names.any fun (n, k) => n == y && (k == .local || k == .cell))
theorem sw_comp {elt : Expr} {gs : List Comprehension} {scope : Scope} {pos py : Pos} {y : Str} {l : Nat} {env : PySem.Env} : swapsWith (.ListComp elt gs scope pos) (some (.Name y py)) l env = pure (swapB env.scope y py pos scope) := rfl
theorem star_eq {e : Expr} {es : List Expr} {env : PySem.Env} (h : noStar e = true) : starEach (e :: es) env = (false, eval e env) :: starEach es env := by
  cases e <;> first | rfl | cases h
theorem aeach_eq {e : Expr} {es : List Expr} {env : PySem.Env} (h : noStar e = true) : assignEach (e :: es) env = (false, assign e env) :: assignEach es env := by
  cases e <;> first | rfl | cases h
theorem aeach1 {e : Expr} {env : PySem.Env} (h : noStar e = true) : (assignEach [e] env).map (·.2) = [assign e env] := by
  rw [aeach_eq h]; rfl
theorem aeach_len {env : PySem.Env} : ∀ {es : List Expr}, es.all noStar = true → (assignEach es env).length = es.length ∧ (assignEach es env).findIdx? (·.1) = none
  | [], _ => ⟨rfl, rfl⟩
  | e :: es, h => by
    simp only [List.all_cons, Bool.and_eq_true] at h
    obtain ⟨h1, h2⟩ := aeach_len (es := es) h.2
    rw [aeach_eq h.1]
    refine ⟨congrArg (· + 1) h1, ?_⟩
    rw [List.findIdx?_cons]
    simp [h2]
theorem back_any {pos : Pos} {env : PySem.Env} : ∀ {es : List Expr}, es.all noStar = true → (backTo pos (starEach es env)).any (·.1) = false
  | [], _ => rfl
  | e :: es, h => by
    simp only [List.all_cons, Bool.and_eq_true] at h
    rw [star_eq h.1]
    exact back_any (es := es) h.2
theorem plain_ix {e : Expr} (h : plainB e = true) : PlainIx e := by
  cases e <;> first | (intro o i; rfl) | cases h
theorem fold_eq {e : Expr} {env : PySem.Env} (h : noSet e = true) (x : Value) : foldedSetIterable e env x = pure x := by
  cases e <;> first | rfl | cases h
theorem marks_eq {e : Expr} {op : CmpOp} (h : noSet e = true) : behindInMarks op e = false := by
  cases e <;> first | rfl | cases h
theorem marks2_eq {e f : Expr} {p q : CmpOp} (h : noSet f = true) : lastMarks [p, q] [e, f] = false := marks_eq h
theorem set_sub {o i : Expr} {p : Pos} {env : PySem.Env} (h : plainB i = true) (v : Value) : assign (.Subscript o i p) env v = (do
      let ov ← holding [v] (eval o env)
      let iv ← holding [v, ov] (eval i env)
      standAt p
      holding [v, ov, iv] (setItem ov iv v)
      release [v, ov, iv] []) := by
  cases i <;> first | rfl | cases h
theorem aug_sub {i : Expr} (h : plainB i = true) (ov iv new : Value) : augStore i ov iv new = (do holding [new, ov, iv] (setItem ov iv new); release [new, ov, iv] []; pure .next) := by
  cases i <;> first | rfl | cases h

/-! ### the compiler -/
/-- N: the slots' names; sc: the scope; own: the names whose cells are the frame's own; G: the defs, by number and count of parameters; st: the name of the law's state -/
structure Cc where
  N : List Str
  sc : Scope
  own : Scope
  G : List (Str × (Nat × Nat))
  st : Option Str

def ck {α : Type} (b : Bool) (x : Option α) : Option α := if b = true then x else none
theorem ck_eq {α : Type} {b : Bool} {x : Option α} {y : α} : ck b x = some y ↔ b = true ∧ x = some y := by
  unfold ck; split <;> simp_all
def ixOf : List Str → Str → Option Nat
  | [], _ => none
  | y :: ys, x => if y = x then some 0 else (ixOf ys x).map (· + 1)
theorem ixOf_eq : ∀ {N : List Str} {x : Str} {i : Nat}, ixOf N x = some i → N[i]? = some x
  | [], _, _, h => by cases h
  | y :: ys, x, i, h => by
    unfold ixOf at h
    split at h
    · rename_i e; cases h; rw [e]; rfl
    · obtain ⟨j, e, rfl⟩ := Option.map_eq_some_iff.mp h
      exact ixOf_eq (N := ys) e
def visB (sc : Scope) (x : Str) : Bool := match sc.names.lookup x with
  | some .local => true | some .cell => true | some .free => true
  | _ => false
theorem visB_eq {sc : Scope} {x : Str} (h : visB sc x = true) : Vis sc x := by
  unfold visB at h
  split at h
  · exact .inl (by assumption)
  · exact .inr (.inl (by assumption))
  · exact .inr (.inr (by assumption))
  · cases h
/-- a name that may be set -/
def locB (c : Cc) (x : Str) : Bool := match c.sc.names.lookup x with
  | some .local => true
  | some .cell => match c.own.names.lookup x with
    | some .cell => true
    | _ => false
  | _ => false
def glB (c : Cc) (x : Str) : Bool := match c.sc.names.lookup x with
  | some .globalImplicit => true
  | _ => false
theorem glB_eq {c : Cc} {x : Str} (h : glB c x = true) : c.sc.names.lookup x = some .globalImplicit := by
  unfold glB at h
  split at h
  · assumption
  · cases h
def nmB (x : Str) : Bool := !(x == ("__debug__" : Str)) && !(x == ("__classdict__" : Str))
theorem nmB_eq {x : Str} (h : nmB x = true) : (x == ("__debug__" : Str)) = false ∧ (x == ("__classdict__" : Str)) = false := by
  unfold nmB at h
  simpa using h
def nmE (c : Cc) (x : Str) : Option Nat := ck (visB c.sc x && nmB x) (ixOf c.N x)
def nmL (c : Cc) (x : Str) : Option Nat := ck (locB c x) (ixOf c.N x)
def bopOf : Operator → Option BOp
  | .Add => some .add | .Sub => some .sub | .Mult => some .mul | .FloorDiv => some .fdiv | .Mod => some .mod | .Pow => some .pow | .BitAnd => some .band
  | _ => none
theorem bopOf_eq {o : Operator} {p : BOp} (h : bopOf o = some p) : opOf p = o := by
  cases o <;> cases h <;> rfl
def cmOf : CmpOp → Option COp
  | .Eq => some .eq | .NotEq => some .ne | .Lt => some .lt | .LtE => some .le | .Gt => some .gt | .GtE => some .ge | .Is => some .isn | .IsNot => some .notn | .In => some .isin | .NotIn => some .notin
theorem cmOf_eq {o : CmpOp} {p : COp} (h : cmOf o = some p) : copOf p = o := by
  cases o <;> cases h <;> rfl
def bltNames : List Str := ["len", "abs", "max", "min", "int", "list", "tuple", "sum", "range", "reversed", "enumerate", "zip"]
def biOf (x : Str) (n : Nat) : Option Bi :=
  if x = "len" then some .len else if x = "abs" then some .abs else if x = "max" then (if n = 1 then some .maxl else some .max2) else if x = "min" then (if n = 1 then some .minl else some .min2)
  else if x = "int" then some .int else if x = "list" then some .list else if x = "tuple" then some .tuple else if x = "sum" then some .sum else none
theorem biOf_eq {x : Str} {n : Nat} {b : Bi} (h : biOf x n = some b) : x = biName b ∧ x ∈ bltNames := by
  unfold biOf at h
  repeat' split at h
  all_goals first | (cases h; subst_vars; exact ⟨rfl, by decide +kernel⟩) | cases h
/-- a value that goes nowhere: an owned list is looked at only -/
def compN (c : Cc) (rec : Expr → Option ME) : Expr → Option ME
  | .Name x _ => (nmE c x).map .nvar
  | e => rec e
def compL (rec : Expr → Option ME) : List Expr → Option MEs
  | [] => some .nil
  | e :: es => ck (noStar e) ((rec e).bind fun m => (compL rec es).bind fun l => some (.cons m l))
def compO (rec : Expr → Option ME) : Option Expr → Option MO
  | none => some .none
  | some e => (rec e).map .some
def compBo (rec : Expr → Option ME) (op : BoolOp) : List Expr → Option ME
  | [] => none
  | [e] => rec e
  | e :: es => (rec e).bind fun m => (compBo rec op es).bind fun l => some (match op with | .And => .and m l | .Or => .or m l)
def isTup : Expr → Bool
  | .Tuple .. => true
  | _ => false
def compIc (c : Cc) (rec rw : Expr → Option ME) (tg : Expr) (x : Str) : List Expr → Option MI
  | [a] => if x = "range" then (compN c rec a).map .rg1 else if x = "reversed" then (rw a).map .rv else if x = "enumerate" then ck (isTup tg) ((rw a).map .en) else none
  | [a, b] => if x = "range" then (compN c rec a).bind fun m => (compN c rec b).bind fun l => some (.rg2 m l) else if x = "zip" then ck (isTup tg) ((rw a).bind fun m => (rw b).bind fun l => some (.zp m l)) else none
  | _ => none
def compI (c : Cc) (rec rw : Expr → Option ME) (tg : Expr) : Expr → Option MI
  | .Call (.Name x p) es [] pos =>
    if x ∈ (["range", "reversed", "enumerate", "zip"] : List Str) then ck (glB c x && es.all noStar) (compIc c rec rw tg x es)
    else (rec (.Call (.Name x p) es [] pos)).map .ls
  | e => (rw e).map .ls
def compNs (c : Cc) : List Expr → Option (List Nat)
  | [] => some []
  | .Name x _ :: es => (nmL c x).bind fun i => (compNs c es).bind fun is => some (i :: is)
  | _ :: _ => none
def compTg (c : Cc) : Expr → Option MT
  | .Name x _ => (nmL c x).map .nm
  | .Tuple es _ _ => (compNs c es).map .tp
  | _ => none
/-- a test that may stand behind if, while, not -/
def tOk : Nat → Expr → Bool
  | 0, _ => false
  | n + 1, e => match e with
    | .UnaryOp .Not a _ => tOk n a
    | .BoolOp _ es _ => es.all (tOk n)
    | .Compare .. => true
    | .Name .. => true
    | .Call .. => true
    | .Subscript .. => true
    | _ => false
/-- a comprehension's own names -/
def ownOf (N : List Str) (scope : Scope) : List (Str × Nat) := scope.names.filterMap fun y => match y.2 with
  | .local => (ixOf N y.1).map (y.1, ·)
  | .cell => (ixOf N y.1).map (y.1, ·)
  | _ => none
def compCs (n : Nat) (rec : Expr → Option ME) : List Expr → Option MO
  | [] => some .none
  | [e] => ck (tOk n e) ((rec e).map .some)
  | _ => none
def compK : Const → Option ME
  | .int i => some (.lit (.int i))
  | .bool b => some (.lit (.bl b))
  | .none => some (.lit .non)
  | .str s => some (.lit (.str s))
  | _ => none
def compU (o : UnaryOp) (m : Option ME) : Option ME := match o with
  | .USub => m.map .neg
  | .Not => m.map .not
  | _ => none
def compCm (rn : Expr → Option ME) (a : Expr) : List CmpOp → List Expr → Option ME
  | [o], [b] => (cmOf o).bind fun op => (rn a).bind fun ma => (rn b).bind fun mb => ck (noSet b) (some (.cmp op ma mb))
  | [o, o'], [b, d] => (cmOf o).bind fun op => (cmOf o').bind fun op' => (rn a).bind fun ma => (rn b).bind fun mb => (rn d).bind fun md => ck (noSet d) (some (.chain op op' ma mb md))
  | _, _ => none
def isRev : Expr → Bool
  | .Slice none none (some (.UnaryOp .USub (.Constant (.int 1) _ _) _)) _ => true
  | _ => false
def compIx (rec rn : Expr → Option ME) (ma : ME) : Expr → Option ME
  | .Slice lo hi st p => if isRev (.Slice lo hi st p) = true then some (.rev ma) else ck st.isNone ((compO rec lo).bind fun ml => (compO rec hi).bind fun mh => some (.slice ma ml mh))
  | i => ck (plainB i) ((rn i).bind fun mi => some (.sub ma mi))
def compCl (c : Cc) (rec rn : Expr → Option ME) : Expr → List Expr → List Keyword → Option ME
  | .Name x _, e :: es, [] => ck (glB c x && (e :: es).all noStar && nmB x) (match biOf x (es.length + 1) with
      | some b => (compL rn (e :: es)).map (.bi b)
      | none => (c.G.lookup x).bind fun jn => (compL rec (e :: es)).bind fun l => ck (decide (l.len = jn.2)) (some (.call jn.1 l)))
  | _, _, _ => none
def compLc (n : Nat) (c ci : Cc) (rec rn ri : Expr → Option ME) (elt : Expr) (scope : Scope) : List Comprehension → Option ME
  | [⟨tg, it, ifs, 0⟩] => ck (blkC c.N c.sc scope (ownOf c.N scope) && noSet it) ((compI c rec rn tg it).bind fun mi =>
        (compTg ci tg).bind fun mt => (compCs n ri ifs).bind fun mc => (ri elt).bind fun me => some (.comp me mt mi mc ((ownOf c.N scope).map (·.2))))
  | _ => none
def compE : Nat → Cc → Expr → Option ME
  | 0, _, _ => none
  | n + 1, c, e => match e with
    | .Name x _ => (nmE c x).map .var
    | .Constant v _ _ => compK v
    | .BinOp a o b _ => (bopOf o).bind fun op => (compN c (compE n c) a).bind fun ma => (compN c (compE n c) b).bind fun mb => some (.bin op ma mb)
    | .UnaryOp o a _ => compU o (compE n c a)
    | .Compare a os bs _ => compCm (compN c (compE n c)) a os bs
    | .BoolOp op es _ => compBo (compE n c) op es
    | .IfExp t a b _ => ck (tOk n t) ((compE n c t).bind fun mt => (compE n c a).bind fun ma => (compE n c b).bind fun mb => some (.ite mt ma mb))
    | .Tuple es _ _ => (compL (compE n c) es).bind fun l => ck (decide (l.len ≤ 1000)) (some (.tup l))
    | .List es _ => (compL (compE n c) es).bind fun l => ck (decide (l.len ≤ 1000)) (some (.lst l))
    | .Subscript a i _ => (compN c (compE n c) a).bind fun ma => compIx (compE n c) (compN c (compE n c)) ma i
    | .Call f es ks _ => compCl c (compE n c) (compN c (compE n c)) f es ks
    | .ListComp elt gs scope _ => compLc n c ⟨c.N, relS scope c.sc, scope, c.G, none⟩ (compE n c) (compN c (compE n c)) (compE n ⟨c.N, relS scope c.sc, scope, c.G, none⟩) elt scope gs
    | _ => none

/-! the names whose lists get away -/
mutual
def escE : ME → List Nat
  | .var i => [i]
  | .nvar _ => []
  | .lit _ => []
  | .bin _ a b => escE a ++ escE b
  | .neg a => escE a
  | .not a => escE a
  | .cmp _ a b => escE a ++ escE b
  | .chain _ _ a b c => escE a ++ escE b ++ escE c
  | .and a b => escE a ++ escE b
  | .or a b => escE a ++ escE b
  | .ite c a b => escE c ++ escE a ++ escE b
  | .tup l => escEs l
  | .lst l => escEs l
  | .sub a i => escE a ++ escE i
  | .slice a lo hi => escE a ++ escO lo ++ escO hi
  | .rev a => escE a
  | .call _ l => escEs l
  | .bi _ l => escEs l
  | .comp e _ it cs own => (escE e ++ escI it ++ escO cs).filter fun i => !own.contains i
  | .comp2 e _ it own => (escE e ++ escI it).filter fun i => !own.contains i
def escEs : MEs → List Nat
  | .nil => []
  | .cons a l => escE a ++ escEs l
def escO : MO → List Nat
  | .none => []
  | .some a => escE a
def escI : MI → List Nat
  | .ls a => escE a
  | .rg1 a => escE a
  | .rg2 a b => escE a ++ escE b
  | .en a => escE a
  | .rv a => escE a
  | .zp a b => escE a ++ escE b
end
def compGs (n : Nat) (c : Cc) : List Expr → Option (List Tg)
  | [] => some []
  | .Name x _ :: es => (nmL c x).bind fun i => (compGs n c es).bind fun is => some (.nm i :: is)
  | .Subscript (.Name x _) a _ :: es => ck (plainB a) ((nmE c x).bind fun i => (compE n c a).bind fun m => (compGs n c es).bind fun is => some (.sb i m :: is))
  | _ :: _ => none
def isPop : Expr → Option (Str × Bool)
  | .Call (.Attribute (.Name x _) m apos) [] [] cpos => if m = "pop" then some (x, apos.endLine == cpos.line) else none
  | _ => none
def lclB (c : Cc) (x : Str) : Bool := match c.sc.names.lookup x with
  | some .local => true
  | _ => false
theorem lclB_eq {c : Cc} {x : Str} (h : lclB c x = true) : c.sc.names.lookup x = some .local := by
  unfold lclB at h
  split at h
  · assumption
  · cases h
def isNil : Expr → Bool
  | .List [] _ => true
  | _ => false
def intish : Expr → Bool
  | .Constant (.int _) _ _ => true
  | .BinOp _ .Sub _ _ => true
  | _ => false
def compPar (n : Nat) (c : Cc) (ns : List Str) : List Expr → List Expr → Option MS
  | [.Name x _, .Name y _], [a, b] => ck (decide (ns = [x, y]) && lclB c x && lclB c y) ((ixOf c.N x).bind fun i => (ixOf c.N y).bind fun j => ck (decide (i ≠ j)) ((compL (compE n c) [a, b]).bind fun l => some (if (isNil a && intish b) = true then .parO (escEs l) i [j] l else .par (escEs l) [i, j] l)))
  | [.Name x _, .Name y _, .Name z _], [a, b, d] => ck (decide (ns = [x, y, z]) && lclB c x && lclB c y && lclB c z) ((ixOf c.N x).bind fun i => (ixOf c.N y).bind fun j => (ixOf c.N z).bind fun k => ck (decide (i ≠ j ∧ i ≠ k ∧ j ≠ k)) ((compL (compE n c) [a, b, d]).bind fun l => some (if (isNil a && (intish b && intish d)) = true then .parO (escEs l) i [j, k] l else .par (escEs l) [i, j, k] l)))
  | _, _ => none
def compAsg (n : Nat) (c : Cc) (tg v : Expr) (pos : Pos) : Option MS := match tg with
  | .Name x p => (nmL c x).bind fun i => match isPop v with
    | some (y, b) => ck b ((nmE c y).map fun j => .popT (.nm i) j)
    | none => (compE n c v).bind fun m => if c.st = some x then ck (noComp v) (some (.mkst (escE m) i m)) else some (.asg (escE m) i m)
  | .Tuple ts k p => match isPop v with
    | some (y, b) => ck b ((compTg c (.Tuple ts k p)).bind fun mt => (nmE c y).map fun j => .popT mt j)
    | none => match v with
      | .Tuple vs _ _ => match swapRes c.sc ts vs with
        | some (some ns) => compPar n c ns ts vs
        | some none => (compGs n c ts).bind fun gs => (compL (compE n c) vs).bind fun l => ck (decide (l.len ≤ 1000)) (some (.tgs (escEs l) gs l))
        | none => none
      | v => (compNs c ts).bind fun is => (compE n c v).bind fun m => ck (noTup v) (some (.asgT (escE m) is m))
  | .Subscript (.Name x _) a _ => ck (plainB a) ((nmE c x).bind fun i => (compN c (compE n c) a).bind fun ma => (compE n c v).bind fun m => some (.set (escE m) i ma m))
  | _ => none
def compMt (n : Nat) (c : Cc) (x m : Str) (b : Bool) (es : List Expr) : Option MS := ck b ((nmE c x).bind fun i => match es with
  | [] => if m = "pop" then some (.popx i) else if m = "reverse" then some (.rvs i) else none
  | [e] => ck (noStar e) (if m = "append" then (compE n c e).bind fun m => some (.app (escE m) i m) else if m = "extend" then (compN c (compE n c) e).bind fun m => some (.ext (escE m) i m) else none)
  | _ => none)
def compS (n : Nat) (c : Cc) (rb : List Stmt → MSs) (s : Stmt) : Option MS := match s with
  | .Pass _ => some .pass
  | .Break _ => some .brk
  | .Continue _ => some .cnt
  | .Return none _ => some .ret0
  | .Return (some (.Name x _)) _ => (nmE c x).map MS.retv
  | .Return (some e) _ => (compE n c e).map fun m => MS.ret (escE m) m
  | .Assign [tg] v pos => compAsg n c tg v pos
  | .AugAssign (.Name x _) o e _ => (nmL c x).bind fun i => (bopOf o).bind fun op => (compE n c e).bind fun m => some (.augN (escE m) op i m)
  | .AugAssign (.Subscript (.Name x _) a _) o e _ => ck (plainB a) ((nmE c x).bind fun i => (bopOf o).bind fun op => (compN c (compE n c) a).bind fun ma => (compE n c e).bind fun m => some (.augS (escE m) op i ma m))
  | .If t a b _ => ck (tOk n t) ((compE n c t).bind fun m => some (.ite (escE m) m (rb a) (rb b)))
  | .While t b [] _ => ck (tOk n t) ((compE n c t).bind fun m => some (.whl (escE m) m (rb b)))
  | .For tg it b [] _ => ck (noSet it) ((compI c (compE n c) (compE n c) tg it).bind fun mi => (compTg c tg).bind fun mt => some (.loop (escI mi) mt mi (rb b)))
  | .Expr (.Call (.Attribute (.Name x _) m apos) es [] cpos) _ => compMt n c x m (apos.endLine == cpos.line) es
  | _ => none
def compBl (f : Stmt → Option MS) : List Stmt → MSs
  | [] => .nil
  | s :: l => .cons ((f s).getD .never) (compBl f l)
def compB : Nat → Cc → List Stmt → MSs
  | 0, _, _ => .cons .never .nil
  | n + 1, c, l => compBl (compS n c (compB n c)) l
end Mn

set_option maxHeartbeats 1000000
/-! Mini: the compiler is sound. -/
namespace Mn
open PySem L2

structure Fx (X : Cx) (c : Cc) (C : CallF) (k : Nat) : Prop where
  N : c.N = X.N
  sc : c.sc = X.env.scope
  calm : X.calm = true
  nd : X.N.Nodup
  room : Room k X.A
  fnc : ∀ x, c.own.names.lookup x = some .cell → X.fn x = true
  call : ∀ x jn, c.G.lookup x = some jn → ∃ f fd ps, X.mg x = some (.ref f) ∧ PySem.W.keepIn X.K (.ref f) = true ∧ Binds X.K fd ps [] ∧ FnOk X.prog X.w X.K X.mg X.base CX0 k f fd ps (spOf X.K C jn.1 jn.2)
  blt : ∀ x ∈ bltNames, X.mg x = none
theorem Fx.blk {X : Cx} {c : Cc} {C : CallF} {k : Nat} (F : Fx X c C k) (s : Shared) (H : Hp) (scope : Scope) (D : Addr) (cl : List (Str × Addr)) (fp : List Addr) : Fx (X.blk s H scope (compEnvC scope cl D X.env) fp) ⟨c.N, relS scope c.sc, scope, c.G, none⟩ C k :=
  ⟨F.N, by rw [F.sc]; rfl, F.calm, F.nd, F.room, fun x h => by show (scope.names.lookup x == some .cell) = true; rw [h]; rfl, F.call, F.blt⟩
section
variable {X : Cx} {c : Cc} {C : CallF} {k : Nat}
theorem Fx.nm (F : Fx X c C k) {x : Str} {i : Nat} (h : nmE c x = some i) : X.N[i]? = some x ∧ Vis X.env.scope x ∧ (x == ("__debug__" : Str)) = false ∧ (x == ("__classdict__" : Str)) = false := by
  unfold nmE at h
  obtain ⟨h1, h2⟩ := ck_eq.mp h
  simp only [Bool.and_eq_true] at h1
  rw [← F.N, ← F.sc]
  exact ⟨ixOf_eq h2, visB_eq h1.1, nmB_eq h1.2⟩
theorem Fx.loc (F : Fx X c C k) {x : Str} (h : locB c x = true) : Loc X.env.scope x ∧ (X.fn x = true ∨ X.env.scope.names.lookup x = some .local) := by
  unfold locB at h
  rw [← F.sc]
  split at h
  · rename_i e; exact ⟨.inl e, .inr e⟩
  · rename_i e
    split at h
    · rename_i e2; exact ⟨.inr e, .inl (F.fnc x e2)⟩
    · cases h
  · cases h
theorem Fx.nl (F : Fx X c C k) {x : Str} {i : Nat} (h : nmL c x = some i) : X.N[i]? = some x ∧ Loc X.env.scope x ∧ (X.fn x = true ∨ X.env.scope.names.lookup x = some .local) := by
  unfold nmL at h
  obtain ⟨h1, h2⟩ := ck_eq.mp h
  exact ⟨by rw [← F.N]; exact ixOf_eq h2, F.loc h1⟩
theorem Fx.gl (F : Fx X c C k) {x : Str} (h : glB c x = true) : Gl X x := by
  show X.env.scope.names.lookup x = _
  rw [← F.sc]
  exact glB_eq h
theorem compN_ok (F : Fx X c C k) {rec : Expr → Option ME} (h : ∀ e m, rec e = some m → PE X e (tE X.K C m)) : ∀ e m, compN c rec e = some m → PE X e (tE X.K C m) := by
  intro e m hm
  cases e <;> first
    | exact h _ _ hm
    | (unfold compN at hm
       obtain ⟨i, e1, rfl⟩ := Option.map_eq_some_iff.mp hm
       obtain ⟨h1, h2, h3, h4⟩ := F.nm e1
       exact snd_nvar h1 h2 h3 h4)
theorem compL_ok {rec : Expr → Option ME} (h : ∀ e m, rec e = some m → PE X e (tE X.K C m)) : ∀ es l, compL rec es = some l → PA X es (tEs X.K C l)
  | [], l, hl => by cases hl; exact snd_nil
  | e :: es, l, hl => by
    unfold compL at hl
    obtain ⟨h1, h2⟩ := ck_eq.mp hl
    obtain ⟨m, e1, h2⟩ := Option.bind_eq_some_iff.mp h2
    obtain ⟨l', e2, h2⟩ := Option.bind_eq_some_iff.mp h2
    cases h2
    exact snd_cons (h _ _ e1) (compL_ok h es l' e2) (star_eq h1)
theorem compO_ok {rec : Expr → Option ME} (h : ∀ e m, rec e = some m → PE X e (tE X.K C m)) : ∀ o m, compO rec o = some m → PO X o (tOs X.K C m) := by
  intro o m hm
  cases o with
  | none => cases hm; exact snd_none
  | some e =>
    unfold compO at hm
    obtain ⟨i, e1, rfl⟩ := Option.map_eq_some_iff.mp hm
    exact snd_some (h _ _ e1)
theorem compBo_ok {rec : Expr → Option ME} {op : BoolOp} {pos : Pos} (h : ∀ e m, rec e = some m → PE X e (tE X.K C m)) : ∀ es m, compBo rec op es = some m → PE X (.BoolOp op es pos) (tE X.K C m)
  | [], m, hm => by cases hm
  | [e], m, hm => snd_one (h _ _ hm)
  | e :: e' :: es, m, hm => by
    unfold compBo at hm
    obtain ⟨m1, e1, hm⟩ := Option.bind_eq_some_iff.mp hm
    obtain ⟨m2, e2, hm⟩ := Option.bind_eq_some_iff.mp hm
    have ih := compBo_ok (pos := pos) h (e' :: es) m2 e2
    cases op with
    | And => cases hm; exact snd_and (h _ _ e1) ih
    | Or => cases hm; exact snd_or (h _ _ e1) ih
theorem compBo_okT {rec : Expr → Option ME} {op : BoolOp} {pos : Pos} {t : Nat} (h : ∀ e m, rec e = some m → tOk t e = true → PT X e (tT X.K C m)) : ∀ es m, compBo rec op es = some m → es.all (tOk t) = true → PW X (.BoolOp op es pos) (tT X.K C m)
  | [], m, hm, _ => by cases hm
  | [e], m, hm, ht => by
    simp only [List.all_cons, List.all_nil, Bool.and_true] at ht
    cases op with
    | And => exact sndW_one1 (h _ _ hm ht)
    | Or => exact sndW_one2 (h _ _ hm ht)
  | e :: e' :: es, m, hm, ht => by
    unfold compBo at hm
    obtain ⟨m1, e1, hm⟩ := Option.bind_eq_some_iff.mp hm
    obtain ⟨m2, e2, hm⟩ := Option.bind_eq_some_iff.mp hm
    rw [List.all_cons, Bool.and_eq_true] at ht
    have ih := compBo_okT (pos := pos) h (e' :: es) m2 e2 ht.2
    cases op with
    | And => cases hm; exact sndW_and (h _ _ e1 ht.1) ih
    | Or => cases hm; exact sndW_or (h _ _ e1 ht.1) ih
theorem compNs_ok (F : Fx X c C k) : ∀ es is, compNs c es = some is → PGs X es (gNms is) ∧ es.all noStar = true ∧ es.length = is.length
  | [], is, h => by cases h; exact ⟨pgs_nil, rfl, rfl⟩
  | e :: es, is, h => by
    cases e <;> first
      | (unfold compNs at h; cases h; done)
      | (unfold compNs at h
         obtain ⟨i, e1, h⟩ := Option.bind_eq_some_iff.mp h
         obtain ⟨is', e2, h⟩ := Option.bind_eq_some_iff.mp h
         cases h
         obtain ⟨h1, h2, h3⟩ := F.nl e1
         obtain ⟨i1, i2, i3⟩ := compNs_ok F es is' e2
         exact ⟨pgs_cons (pg_name F.nd h1 h2 h3) i1 (by rw [aeach_eq rfl]; rfl), by simpa [noStar] using i2, congrArg (· + 1) i3⟩)
theorem compTg_ok (F : Fx X c C k) : ∀ e m, compTg c e = some m → PG X e (gMT X.K m) ∧ noStar e = true := by
  intro e m h
  cases e <;> first
    | (unfold compTg at h; cases h; done)
    | (unfold compTg at h
       obtain ⟨i, e1, rfl⟩ := Option.map_eq_some_iff.mp h
       obtain ⟨h1, h2, h3⟩ := F.nl e1
       exact ⟨pg_name F.nd h1 h2 h3, rfl⟩)
    | (unfold compTg at h
       obtain ⟨is, e1, rfl⟩ := Option.map_eq_some_iff.mp h
       obtain ⟨h1, h2, h3⟩ := compNs_ok F _ _ e1
       obtain ⟨h4, h5⟩ := aeach_len (env := X.env) h2
       exact ⟨pg_tup F.calm h1 (by rw [h4, h3]) h5, rfl⟩)
theorem compIc_ok (F : Fx X c C k) {ow : Bool} {rec rw' : Expr → Option ME} (h : ∀ e m, rec e = some m → PE X e (tE X.K C m)) (h' : ∀ e m, rw' e = some m → PE X e (tE X.K C m)) {x : Str} (g : Gl X x) (hb : X.mg x = none) {p pos : Pos} : ∀ tg es m, es.all noStar = true → compIc c rec rw' tg x es = some m → PI X tg (.Call (.Name x p) es [] pos) (tI X.K C ow m)
  | tg, [a], m, sa, hm => by
    have sa : noStar a = true := by simpa using sa
    simp only [compIc] at hm
    split at hm
    · rename_i e; subst e
      obtain ⟨ma, e1, rfl⟩ := Option.map_eq_some_iff.mp hm
      exact snd_rg1 (compN_ok F h _ _ e1) g hb (star_eq sa) rfl
    · split at hm
      · rename_i e; subst e
        obtain ⟨ma, e1, rfl⟩ := Option.map_eq_some_iff.mp hm
        exact snd_rv (h' _ _ e1) g hb (star_eq sa) rfl
      · split at hm
        · rename_i e; subst e
          obtain ⟨ht, hm⟩ := ck_eq.mp hm
          obtain ⟨ma, e1, rfl⟩ := Option.map_eq_some_iff.mp hm
          cases tg <;> first
            | exact snd_en (h' _ _ e1) g hb (star_eq sa) rfl
            | cases ht
        · cases hm
  | tg, [a, b], m, sab, hm => by
    have sab : noStar a = true ∧ noStar b = true := by simpa using sab
    simp only [compIc] at hm
    split at hm
    · rename_i e; subst e
      obtain ⟨ma, e1, hm⟩ := Option.bind_eq_some_iff.mp hm
      obtain ⟨mb, e2, hm⟩ := Option.bind_eq_some_iff.mp hm
      cases hm
      exact snd_rg2 (compN_ok F h _ _ e1) (compN_ok F h _ _ e2) g hb (by rw [star_eq sab.1, star_eq sab.2]; rfl) (star_eq sab.2) rfl
    · split at hm
      · rename_i e; subst e
        obtain ⟨ht, hm⟩ := ck_eq.mp hm
        obtain ⟨ma, e1, hm⟩ := Option.bind_eq_some_iff.mp hm
        obtain ⟨mb, e2, hm⟩ := Option.bind_eq_some_iff.mp hm
        cases hm
        cases tg <;> first
          | exact snd_zp (h' _ _ e1) (h' _ _ e2) g hb (star_eq sab.1) (star_eq sab.2) rfl (back_any (by simpa using sab.2))
          | cases ht
      · cases hm
  | _, [], _, _, hm => by cases hm
  | _, _ :: _ :: _ :: _, _, _, hm => by cases hm
theorem compI_ok (F : Fx X c C k) {ow : Bool} {rec rw' : Expr → Option ME} (h : ∀ e m, rec e = some m → PE X e (tE X.K C m)) (h' : ∀ e m, rw' e = some m → PE X e (tE X.K C m)) : ∀ tg it m, compI c rec rw' tg it = some m → PI X tg it (tI X.K C ow m) := by
  intro tg it m hm
  unfold compI at hm
  split at hm
  · rename_i x p es pos
    split at hm
    · rename_i hx
      obtain ⟨hg, hm⟩ := ck_eq.mp hm
      rw [Bool.and_eq_true] at hg
      have hb : X.mg x = none := F.blt x (by
        simp only [List.mem_cons, List.not_mem_nil, or_false] at hx
        rcases hx with rfl | rfl | rfl | rfl <;> decide +kernel)
      exact compIc_ok F h h' (F.gl hg.1) hb _ _ _ hg.2 hm
    · obtain ⟨ma, e1, rfl⟩ := Option.map_eq_some_iff.mp hm
      exact snd_ls (h _ _ e1)
  · obtain ⟨ma, e1, rfl⟩ := Option.map_eq_some_iff.mp hm
    exact snd_ls (h' _ _ e1)
theorem compCm_ok (F : Fx X c C k) {rn : Expr → Option ME} (h : ∀ e m, rn e = some m → PE X e (tE X.K C m)) {a : Expr} {p : Pos} : ∀ os bs m, compCm rn a os bs = some m → PE X (.Compare a os bs p) (tE X.K C m) ∧ PT X (.Compare a os bs p) (tT X.K C m) := by
  intro os bs m hm
  unfold compCm at hm
  split at hm
  · obtain ⟨op, e1, hm⟩ := Option.bind_eq_some_iff.mp hm
    obtain ⟨ma, e2, hm⟩ := Option.bind_eq_some_iff.mp hm
    obtain ⟨mb, e3, hm⟩ := Option.bind_eq_some_iff.mp hm
    obtain ⟨h1, hm⟩ := ck_eq.mp hm
    cases hm
    rw [← cmOf_eq e1]
    exact ⟨snd_cmp F.room op (h _ _ e2) (h _ _ e3) (marks_eq h1), sndT_cmp F.room op (h _ _ e2) (h _ _ e3) (marks_eq h1)⟩
  · obtain ⟨op, e1, hm⟩ := Option.bind_eq_some_iff.mp hm
    obtain ⟨op', e1', hm⟩ := Option.bind_eq_some_iff.mp hm
    obtain ⟨ma, e2, hm⟩ := Option.bind_eq_some_iff.mp hm
    obtain ⟨mb, e3, hm⟩ := Option.bind_eq_some_iff.mp hm
    obtain ⟨md, e4, hm⟩ := Option.bind_eq_some_iff.mp hm
    obtain ⟨h1, hm⟩ := ck_eq.mp hm
    cases hm
    rw [← cmOf_eq e1, ← cmOf_eq e1']
    exact ⟨snd_chain F.room op op' (h _ _ e2) (h _ _ e3) (h _ _ e4) (marks2_eq h1), sndT_chain F.room op op' (h _ _ e2) (h _ _ e3) (h _ _ e4) (marks2_eq h1)⟩
  · cases hm
theorem isRev_eq {e : Expr} (h : isRev e = true) : ∃ k p1 p2 p3, e = .Slice none none (some (.UnaryOp .USub (.Constant (.int 1) k p1) p2)) p3 := by
  unfold isRev at h
  split at h
  · exact ⟨_, _, _, _, rfl⟩
  · cases h
theorem compIx_ok {rec rn : Expr → Option ME} (h : ∀ e m, rec e = some m → PE X e (tE X.K C m)) (hN : ∀ e m, rn e = some m → PE X e (tE X.K C m)) {a : Expr} {ma : ME} {p : Pos} (ha : PE X a (tE X.K C ma)) : ∀ i m, compIx rec rn ma i = some m → PE X (.Subscript a i p) (tE X.K C m) := by
  intro i m hm
  by_cases hsl : ∃ lo hi st q, i = .Slice lo hi st q
  · obtain ⟨lo, hi, st, q, rfl⟩ := hsl
    simp only [compIx] at hm
    split at hm
    · rename_i e
      obtain ⟨k, p1, p2, p3, e⟩ := isRev_eq e
      rw [e]
      cases hm
      exact snd_rev ha
    · obtain ⟨h1, hm⟩ := ck_eq.mp hm
      obtain ⟨ml, e2, hm⟩ := Option.bind_eq_some_iff.mp hm
      obtain ⟨mh, e3, hm⟩ := Option.bind_eq_some_iff.mp hm
      cases hm
      cases st with
      | none => exact snd_slice ha (compO_ok h _ _ e2) (compO_ok h _ _ e3)
      | some _ => cases h1
  · unfold compIx at hm
    split at hm
    · exact absurd ⟨_, _, _, _, rfl⟩ hsl
    · obtain ⟨h1, hm⟩ := ck_eq.mp hm
      obtain ⟨mi, e2, hm⟩ := Option.bind_eq_some_iff.mp hm
      cases hm
      exact snd_sub ha (hN _ _ e2) (plain_ix h1)
theorem compCl_ok (F : Fx X c C k) {rec rn : Expr → Option ME} (h : ∀ e m, rec e = some m → PE X e (tE X.K C m)) (hN : ∀ e m, rn e = some m → PE X e (tE X.K C m)) {p : Pos} : ∀ f es ks m, compCl c rec rn f es ks = some m → PE X (.Call f es ks p) (tE X.K C m) := by
  intro f es ks m hm
  unfold compCl at hm
  split at hm
  · obtain ⟨h1, hm⟩ := ck_eq.mp hm
    simp only [Bool.and_eq_true, List.all_cons] at h1
    obtain ⟨⟨hg, hs, hss⟩, hn⟩ := h1
    split at hm
    · rename_i b eb
      obtain ⟨l, e1, rfl⟩ := Option.map_eq_some_iff.mp hm
      obtain ⟨hb1, hb2⟩ := biOf_eq eb
      exact snd_bi F.calm b hb1 (F.gl hg) (F.blt _ hb2) (compL_ok hN _ _ e1) (star_eq hs) (back_any hss)
    · obtain ⟨jn, e1, hm⟩ := Option.bind_eq_some_iff.mp hm
      obtain ⟨l, e2, hm⟩ := Option.bind_eq_some_iff.mp hm
      obtain ⟨h2, hm⟩ := ck_eq.mp hm
      cases hm
      obtain ⟨f, fd, ps, f1, f2, f3, f4⟩ := F.call _ _ e1
      exact snd_call f4 (of_decide_eq_true h2) F.room (F.gl hg) f1 f2 f3 (nmB_eq hn).1 (compL_ok h _ _ e2) (star_eq hs) (back_any hss)
  · cases hm
theorem tOk_ok (n : Nat) (F : Fx X c C k) (h : ∀ e m, compE n c e = some m → PE X e (tE X.K C m)) (h' : ∀ t e m, compE n c e = some m → tOk t e = true → PT X e (tT X.K C m)) (h1 : ∀ e m, compE (n + 1) c e = some m → PE X e (tE X.K C m)) : ∀ t e m, compE (n + 1) c e = some m → tOk t e = true → PT X e (tT X.K C m)
  | 0, e, m, hm, ht => by cases ht
  | t + 1, e, m, hm, ht => by
    have hE := h1 e m hm
    cases e with
    | UnaryOp o a p =>
      cases o with
      | Not =>
        have hm : (compE n c a).map .not = some m := hm
        obtain ⟨ma, e1, rfl⟩ := Option.map_eq_some_iff.mp hm
        exact sndT_not (h' t _ _ e1 ht)
      | _ => cases ht
    | BoolOp op es p => exact (compBo_okT (t := t) (fun e m q1 q2 => h' t e m q1 q2) es m hm ht).pt
    | Compare a os bs p => exact (compCm_ok F (compN_ok F h) os bs m hm).2
    | Name => exact sndT_val hE fun _ => rfl
    | Call => exact sndT_val hE fun _ => rfl
    | Subscript => exact sndT_val hE fun _ => rfl
    | _ => cases ht
end
theorem compLc_ok {X : Cx} {c : Cc} {C : CallF} {k : Nat} (F : Fx X c C k) {n : Nat} {rec rn ri : Expr → Option ME} (h : ∀ e m, rec e = some m → PE X e (tE X.K C m)) (hN : ∀ e m, rn e = some m → PE X e (tE X.K C m)) {elt : Expr} {scope : Scope} {p : Pos}
    (hi : ∀ s H D cl fp e m, ri e = some m → PE (X.blk s H scope (compEnvC scope cl D X.env) fp) e (tE X.K C m)) (ht : ∀ s H D cl fp t e m, ri e = some m → tOk t e = true → PT (X.blk s H scope (compEnvC scope cl D X.env) fp) e (tT X.K C m)) :
    ∀ gs m, compLc n c ⟨c.N, relS scope c.sc, scope, c.G, none⟩ rec rn ri elt scope gs = some m → PE X (.ListComp elt gs scope p) (tE X.K C m) := by
  intro gs m hm
  unfold compLc at hm
  split at hm
  · obtain ⟨h1, hm⟩ := ck_eq.mp hm
    rw [Bool.and_eq_true] at h1
    obtain ⟨mi, e1, hm⟩ := Option.bind_eq_some_iff.mp hm
    obtain ⟨mt, e2, hm⟩ := Option.bind_eq_some_iff.mp hm
    obtain ⟨mc, e3, hm⟩ := Option.bind_eq_some_iff.mp hm
    obtain ⟨me, e4, hm⟩ := Option.bind_eq_some_iff.mp hm
    cases hm
    refine snd_comp F.calm F.nd (compI_ok F h hN _ _ _ e1) (by rw [← F.N, ← F.sc]; exact blkOk_by h1.1) (fun s H D cl fp => (compTg_ok (F.blk s H _ D cl fp) _ _ e2).1) (fun s H D cl fp => ?_) (fun s H D cl fp => hi s H D cl fp _ _ e4) fun x => fold_eq h1.2 x
    unfold compCs at e3
    split at e3
    · cases e3; exact snd_cnone
    · obtain ⟨t1, e3⟩ := ck_eq.mp e3
      obtain ⟨mm, e5, rfl⟩ := Option.map_eq_some_iff.mp e3
      exact snd_csome (ht s H D cl fp _ _ _ e5 t1)
    · cases e3
  · cases hm
theorem compET_ok {C : CallF} {k : Nat} : ∀ n {X : Cx} {c : Cc}, Fx X c C k → (∀ e m, compE n c e = some m → PE X e (tE X.K C m)) ∧ (∀ t e m, compE n c e = some m → tOk t e = true → PT X e (tT X.K C m))
  | 0, X, c, F => ⟨fun e m hm => (by cases hm), fun t e m hm => (by cases hm)⟩
  | n + 1, X, c, F => by
    obtain ⟨ih, iht⟩ := compET_ok n F
    have hN := compN_ok F ih
    have h1 : ∀ e m, compE (n + 1) c e = some m → PE X e (tE X.K C m) := fun e m hm => by
      cases e with
      | Name x p =>
        obtain ⟨i, e1, rfl⟩ := Option.map_eq_some_iff.mp (show (nmE c x).map .var = some m from hm)
        obtain ⟨h1, h2, h3, h4⟩ := F.nm e1
        exact snd_var h1 h2 h3 h4
      | Constant v kk p =>
        have hm : compK v = some m := hm
        cases v <;> cases hm
        · exact snd_lit pe_non fun _ _ _ => .non
        · exact snd_lit pe_bl fun _ _ _ => .bl _
        · exact snd_lit pe_int fun _ _ _ => .int _
        · exact snd_lit pe_str fun _ _ _ => .str _
      | BinOp a o b p =>
        have hm : ((bopOf o).bind fun op => (compN c (compE n c) a).bind fun ma => (compN c (compE n c) b).bind fun mb => some (.bin op ma mb)) = some m := hm
        obtain ⟨op, e1, hm⟩ := Option.bind_eq_some_iff.mp hm
        obtain ⟨ma, e2, hm⟩ := Option.bind_eq_some_iff.mp hm
        obtain ⟨mb, e3, hm⟩ := Option.bind_eq_some_iff.mp hm
        cases hm
        rw [← bopOf_eq e1]
        exact snd_bin op (hN _ _ e2) (hN _ _ e3)
      | UnaryOp o a p =>
        have hm : compU o (compE n c a) = some m := hm
        cases o with
        | USub =>
          obtain ⟨ma, e1, rfl⟩ := Option.map_eq_some_iff.mp hm
          exact snd_neg (ih _ _ e1)
        | Not =>
          obtain ⟨ma, e1, rfl⟩ := Option.map_eq_some_iff.mp hm
          exact snd_not (ih _ _ e1)
        | _ => cases hm
      | Compare a os bs p => exact (compCm_ok F hN os bs m hm).1
      | BoolOp op es p => exact compBo_ok ih es m hm
      | IfExp t a b p =>
        have hm : ck (tOk n t) ((compE n c t).bind fun mt => (compE n c a).bind fun ma => (compE n c b).bind fun mb => some (.ite mt ma mb)) = some m := hm
        obtain ⟨h1, hm⟩ := ck_eq.mp hm
        obtain ⟨mt, e1, hm⟩ := Option.bind_eq_some_iff.mp hm
        obtain ⟨ma, e2, hm⟩ := Option.bind_eq_some_iff.mp hm
        obtain ⟨mb, e3, hm⟩ := Option.bind_eq_some_iff.mp hm
        cases hm
        exact snd_ite (iht _ _ _ e1 h1) (ih _ _ e2) (ih _ _ e3)
      | Tuple es kk p =>
        have hm : ((compL (compE n c) es).bind fun l => ck (decide (l.len ≤ 1000)) (some (.tup l))) = some m := hm
        obtain ⟨l, e1, hm⟩ := Option.bind_eq_some_iff.mp hm
        obtain ⟨h1, hm⟩ := ck_eq.mp hm
        cases hm
        exact snd_tup (of_decide_eq_true h1) (compL_ok ih _ _ e1)
      | List es p =>
        have hm : ((compL (compE n c) es).bind fun l => ck (decide (l.len ≤ 1000)) (some (.lst l))) = some m := hm
        obtain ⟨l, e1, hm⟩ := Option.bind_eq_some_iff.mp hm
        obtain ⟨h1, hm⟩ := ck_eq.mp hm
        cases hm
        exact snd_lst (of_decide_eq_true h1) (compL_ok ih _ _ e1)
      | Subscript a i p =>
        have hm : ((compN c (compE n c) a).bind fun ma => compIx (compE n c) (compN c (compE n c)) ma i) = some m := hm
        obtain ⟨ma, e1, hm⟩ := Option.bind_eq_some_iff.mp hm
        exact compIx_ok ih hN (hN _ _ e1) i m hm
      | Call f es ks p => exact compCl_ok F ih hN f es ks m hm
      | ListComp elt gs scope p =>
        exact compLc_ok F ih hN (fun s H D cl fp e m q => (compET_ok n (F.blk s H scope D cl fp)).1 e m q) (fun s H D cl fp t e m q1 q2 => (compET_ok n (F.blk s H scope D cl fp)).2 t e m q1 q2) gs m hm
      | _ => cases hm
    exact ⟨h1, tOk_ok n F ih iht h1⟩
end Mn

set_option maxHeartbeats 1000000
/-! Mini: the compiler is sound on statements. -/
namespace Mn
open PySem L2
section
variable {X : Cx} {c : Cc} {C : CallF} {k n : Nat}
theorem sws1 {e t : Expr} {l : Nat} {env : PySem.Env} (h : noComp e = true) : swapsWithSole [t] e l env = pure false := sw_false h
theorem sws2 {e t : Expr} {l : Nat} {env : PySem.Env} (h : noName t = true) : swapsWithSole [t] e l env = pure false := sw_false2 h
theorem compGs_ok (F : Fx X c C k) : ∀ es is, compGs n c es = some is → PGs X es (gTgs X.K C is) ∧ es.all noStar = true ∧ es.length = is.length
  | [], is, h => by cases h; exact ⟨pgs_nil, rfl, rfl⟩
  | e :: es, is, h => by
    have hE := (compET_ok n F).1
    unfold compGs at h
    split at h
    · rename_i heq; cases heq
    · rename_i heq; cases heq
      obtain ⟨i, e1, h⟩ := Option.bind_eq_some_iff.mp h
      obtain ⟨is', e2, h⟩ := Option.bind_eq_some_iff.mp h
      cases h
      obtain ⟨h1, h2, h3⟩ := F.nl e1
      obtain ⟨i1, i2, i3⟩ := compGs_ok F _ is' e2
      exact ⟨pgs_cons (pg_name F.nd h1 h2 h3) i1 (by rw [aeach_eq rfl]; rfl), by simpa [noStar] using i2, congrArg (· + 1) i3⟩
    · rename_i heq; cases heq
      obtain ⟨hp, h⟩ := ck_eq.mp h
      obtain ⟨i, e1, h⟩ := Option.bind_eq_some_iff.mp h
      obtain ⟨m, e3, h⟩ := Option.bind_eq_some_iff.mp h
      obtain ⟨is', e2, h⟩ := Option.bind_eq_some_iff.mp h
      cases h
      obtain ⟨h1, h2, h3, h4⟩ := F.nm e1
      obtain ⟨i1, i2, i3⟩ := compGs_ok F _ is' e2
      exact ⟨pgs_cons (pg_sub (pe_var h1 h2 h3 h4) (hE _ _ e3) set_list (set_sub hp)) i1 (by rw [aeach_eq rfl]; rfl), by simpa [noStar] using i2, congrArg (· + 1) i3⟩
    · cases h
theorem isPop_eq {v : Expr} {x : Str} {b : Bool} (h : isPop v = some (x, b)) : ∃ p apos cpos, v = .Call (.Attribute (.Name x p) "pop" apos) [] [] cpos ∧ b = (apos.endLine == cpos.line) := by
  unfold isPop at h
  split at h
  · split at h
    · rename_i e; subst e; cases h; exact ⟨_, _, _, rfl, rfl⟩
    · cases h
  · cases h
theorem compPar_ok (F : Fx X c C k) {ns : List Str} {k1 k2 : Nat} {p1 p2 pos : Pos} : ∀ ts vs m, swapRes c.sc ts vs = some (some ns) → compPar n c ns ts vs = some m → PS X (.Assign [.Tuple ts k1 p1] (.Tuple vs k2 p2) pos) (tS X.K C m) := by
  intro ts vs m hw hm
  have hL := fun es l => compL_ok (compET_ok n F).1 es l
  have hw := swap_eq (env := X.env) (k := k1) (k2 := k2) (p := p1) (p2 := p2) (show swapRes X.env.scope ts vs = some (some ns) by rw [← F.sc]; exact hw)
  unfold compPar at hm
  split at hm
  · obtain ⟨h1, hq⟩ := ck_eq.mp hm
    clear hm
    simp only [Bool.and_eq_true, decide_eq_true_eq] at h1
    obtain ⟨⟨rfl, hx⟩, hy⟩ := h1
    have hx := lclB_eq hx
    have hy := lclB_eq hy
    rw [F.sc] at hx hy
    obtain ⟨i, e1, hq⟩ := Option.bind_eq_some_iff.mp hq
    obtain ⟨j, e2, hq⟩ := Option.bind_eq_some_iff.mp hq
    obtain ⟨h2, hq⟩ := ck_eq.mp hq
    obtain ⟨l, e3, hq⟩ := Option.bind_eq_some_iff.mp hq
    cases hq
    split
    · exact snd_parO2 F.calm F.nd (by rw [← F.N]; exact ixOf_eq e1) (by rw [← F.N]; exact ixOf_eq e2) (of_decide_eq_true h2) hx hy (hL _ _ e3) hw (sws1 rfl)
    exact snd_par2 F.calm F.nd (by rw [← F.N]; exact ixOf_eq e1) (by rw [← F.N]; exact ixOf_eq e2) (of_decide_eq_true h2) hx hy (hL _ _ e3) hw (sws1 rfl)
  · obtain ⟨h1, hq⟩ := ck_eq.mp hm
    clear hm
    simp only [Bool.and_eq_true, decide_eq_true_eq] at h1
    obtain ⟨⟨⟨rfl, hx⟩, hy⟩, hz⟩ := h1
    have hx := lclB_eq hx
    have hy := lclB_eq hy
    have hz := lclB_eq hz
    rw [F.sc] at hx hy hz
    obtain ⟨i, e1, hq⟩ := Option.bind_eq_some_iff.mp hq
    obtain ⟨j, e2, hq⟩ := Option.bind_eq_some_iff.mp hq
    obtain ⟨k', e4, hq⟩ := Option.bind_eq_some_iff.mp hq
    obtain ⟨h2, hq⟩ := ck_eq.mp hq
    obtain ⟨l, e3, hq⟩ := Option.bind_eq_some_iff.mp hq
    cases hq
    obtain ⟨d1, d2, d3⟩ := of_decide_eq_true h2
    split
    · exact snd_parO3 F.calm F.nd (by rw [← F.N]; exact ixOf_eq e1) (by rw [← F.N]; exact ixOf_eq e2) (by rw [← F.N]; exact ixOf_eq e4) d1 d2 d3 hx hy hz (hL _ _ e3) hw (sws1 rfl)
    exact snd_par3 F.calm F.nd (by rw [← F.N]; exact ixOf_eq e1) (by rw [← F.N]; exact ixOf_eq e2) (by rw [← F.N]; exact ixOf_eq e4) d1 d2 d3 hx hy hz (hL _ _ e3) hw (sws1 rfl)
  · cases hm
theorem asg_name (F : Fx X c C k) {x : Str} {p pos : Pos} {v : Expr} {i : Nat} {m : ME} {fz : List Nat} (hi : nmL c x = some i) (hm : compE n c v = some m) : PS X (.Assign [.Name x p] v pos) (tS X.K C (.asg fz i m)) := by
  obtain ⟨h1, h2, h3⟩ := F.nl hi
  have hE := (compET_ok n F).1
  by_cases hc : noComp v = true
  · exact snd_asg F.nd h1 h2 (hE _ _ hm) (sw_false hc) h3
  · cases v with
    | ListComp elt gs scope p2 =>
      cases hb : swapB X.env.scope x p p2 scope with
      | false => exact snd_asg F.nd h1 h2 (hE _ _ hm) (by rw [sw_comp, hb]) h3
      | true =>
        cases n with
        | zero => cases hm
        | succ n =>
          obtain ⟨ih, iht⟩ := compET_ok (C := C) n F
          have hN := compN_ok F ih
          have hm : compLc n c ⟨c.N, relS scope c.sc, scope, c.G, none⟩ (compE n c) (compN c (compE n c)) (compE n ⟨c.N, relS scope c.sc, scope, c.G, none⟩) elt scope gs = some m := hm
          have hl : X.env.scope.names.lookup x = some .local := by
            unfold swapB at hb
            simp only [Bool.and_eq_true] at hb
            exact eq_of_beq hb.1.1.2
          unfold compLc at hm
          split at hm
          · obtain ⟨g1, hm⟩ := ck_eq.mp hm
            rw [Bool.and_eq_true] at g1
            obtain ⟨mi, e1, hm⟩ := Option.bind_eq_some_iff.mp hm
            obtain ⟨mt, e2, hm⟩ := Option.bind_eq_some_iff.mp hm
            obtain ⟨mc, e3, hm⟩ := Option.bind_eq_some_iff.mp hm
            obtain ⟨me, e4, hm⟩ := Option.bind_eq_some_iff.mp hm
            cases hm
            refine snd_asgLc F.calm F.nd h1 hl (by rw [sw_comp, hb]) (compI_ok F ih hN _ _ _ e1) (by rw [← F.N, ← F.sc]; exact blkOk_by g1.1) (fun s H D cl fp => (compTg_ok (F.blk s H _ D cl fp) _ _ e2).1) (fun s H D cl fp => ?_) (fun s H D cl fp => (compET_ok n (F.blk s H _ D cl fp)).1 _ _ e4) fun x => fold_eq g1.2 x
            unfold compCs at e3
            split at e3
            · cases e3; exact snd_cnone
            · obtain ⟨t1, e3⟩ := ck_eq.mp e3
              obtain ⟨mm, e5, rfl⟩ := Option.map_eq_some_iff.mp e3
              exact snd_csome ((compET_ok n (F.blk s H _ D cl fp)).2 _ _ _ e5 t1)
            · cases e3
          · cases hm
    | SetComp => cases n <;> cases hm
    | DictComp => cases n <;> cases hm
    | _ => exact absurd rfl hc
theorem noStarTg {c : Cc} {e : Expr} {m : MT} (h : compTg c e = some m) : noStar e = true := by
  cases e <;> first | rfl | cases h
theorem compAsg_ok (F : Fx X c C k) {tg v : Expr} {pos : Pos} {m : MS} (hm : compAsg n c tg v pos = some m) : PS X (.Assign [tg] v pos) (tS X.K C m) := by
  have hE := (compET_ok n F).1
  have hN := compN_ok F hE
  cases tg with
  | Name x p =>
    have hm : ((nmL c x).bind fun i => match isPop v with
      | some (y, b) => ck b ((nmE c y).map fun j => .popT (.nm i) j)
      | none => (compE n c v).bind fun m => if c.st = some x then ck (noComp v) (some (.mkst (escE m) i m)) else some (.asg (escE m) i m)) = some m := hm
    obtain ⟨i, e1, hm⟩ := Option.bind_eq_some_iff.mp hm
    obtain ⟨h1, h2, h3⟩ := F.nl e1
    split at hm
    · rename_i y b ep
      obtain ⟨pp, apos, cpos, rfl, rfl⟩ := isPop_eq ep
      obtain ⟨hl, hm⟩ := ck_eq.mp hm
      obtain ⟨j, e2, rfl⟩ := Option.map_eq_some_iff.mp hm
      obtain ⟨g1, g2, g3, g4⟩ := F.nm e2
      exact snd_popT g1 g2 g3 g4 hl (pg_name F.nd h1 h2 h3) (sws1 rfl) (swap_no rfl) (aeach1 rfl)
    · obtain ⟨ma, e2, hm⟩ := Option.bind_eq_some_iff.mp hm
      split at hm
      · obtain ⟨h4, hm⟩ := ck_eq.mp hm
        cases hm
        exact snd_mkst F.nd h1 h2 (hE _ _ e2) (sw_false h4) h3
      · cases hm
        exact asg_name F e1 e2
  | Tuple ts kk p =>
    unfold compAsg at hm
    simp only at hm
    split at hm
    · rename_i y b ep
      obtain ⟨pp, apos, cpos, rfl, rfl⟩ := isPop_eq ep
      obtain ⟨hl, hm⟩ := ck_eq.mp hm
      obtain ⟨mt, e1, hm⟩ := Option.bind_eq_some_iff.mp hm
      obtain ⟨j, e2, rfl⟩ := Option.map_eq_some_iff.mp hm
      obtain ⟨g1, g2, g3, g4⟩ := F.nm e2
      exact snd_popT g1 g2 g3 g4 hl (compTg_ok F _ _ e1).1 (sws1 rfl) (swap_no rfl) (aeach1 rfl)
    · split at hm
      · rename_i vs k2 p2 _
        split at hm
        · rename_i ns ew
          exact compPar_ok F _ _ _ ew hm
        · rename_i ew
          obtain ⟨gs, e1, hm⟩ := Option.bind_eq_some_iff.mp hm
          obtain ⟨l, e2, hm⟩ := Option.bind_eq_some_iff.mp hm
          obtain ⟨hl, hm⟩ := ck_eq.mp hm
          cases hm
          obtain ⟨i1, i2, i3⟩ := compGs_ok F _ _ e1
          obtain ⟨a1, a2⟩ := aeach_len (env := X.env) i2
          exact snd_tgs F.calm (of_decide_eq_true hl) (compL_ok hE _ _ e2) i1 (by rw [a1, i3]) a2 (sws1 rfl) (swap_eq (by rw [← F.sc]; exact ew))
        · cases hm
      · obtain ⟨is, e1, hm⟩ := Option.bind_eq_some_iff.mp hm
        obtain ⟨ma, e2, hm⟩ := Option.bind_eq_some_iff.mp hm
        obtain ⟨hl, hm⟩ := ck_eq.mp hm
        cases hm
        exact snd_asgT (hE _ _ e2) (compTg_ok F (.Tuple ts kk p) (.tp is) (by show (compNs c ts).map MT.tp = _; rw [e1]; rfl)).1 (sws2 rfl) (swap_no hl) (aeach1 rfl)
  | Subscript o a p =>
    cases o with
    | Name x p0 =>
      have hm : ck (plainB a) ((nmE c x).bind fun i => (compN c (compE n c) a).bind fun ma => (compE n c v).bind fun m => some (.set (escE m) i ma m)) = some m := hm
      obtain ⟨hl, hm⟩ := ck_eq.mp hm
      obtain ⟨i, e1, hm⟩ := Option.bind_eq_some_iff.mp hm
      obtain ⟨ma, e2, hm⟩ := Option.bind_eq_some_iff.mp hm
      obtain ⟨me, e3, hm⟩ := Option.bind_eq_some_iff.mp hm
      cases hm
      obtain ⟨g1, g2, g3, g4⟩ := F.nm e1
      exact snd_set g1 g2 g3 g4 (hE _ _ e3) (hN _ _ e2) (set_sub hl) (sws2 rfl) (swap_no2 rfl) (aeach1 rfl)
    | _ => cases hm
  | _ => cases hm
theorem compMt_ok (F : Fx X c C k) {x m : Str} {p apos cpos pos : Pos} {es : List Expr} {s : MS} (hm : compMt n c x m (apos.endLine == cpos.line) es = some s) : PS X (.Expr (.Call (.Attribute (.Name x p) m apos) es [] cpos) pos) (tS X.K C s) := by
  have hE := (compET_ok n F).1
  have hN := compN_ok F hE
  unfold compMt at hm
  obtain ⟨hl, hm1⟩ := ck_eq.mp hm
  clear hm
  obtain ⟨i, e1, hq⟩ := Option.bind_eq_some_iff.mp hm1
  clear hm1
  obtain ⟨g1, g2, g3, g4⟩ := F.nm e1
  split at hq
  · split at hq
    · rename_i e; subst e; cases hq
      exact snd_popx g1 g2 g3 g4 hl
    · split at hq
      · rename_i e; subst e; cases hq
        exact snd_rvs g1 g2 g3 g4 hl
      · cases hq
  · obtain ⟨hs, hr⟩ := ck_eq.mp hq
    clear hq
    split at hr
    · rename_i e; subst e
      obtain ⟨ma, e2, hr⟩ := Option.bind_eq_some_iff.mp hr
      cases hr
      exact snd_app g1 g2 g3 g4 (hE _ _ e2) hl (star_eq hs) rfl
    · split at hr
      · rename_i e; subst e
        obtain ⟨ma, e2, hr⟩ := Option.bind_eq_some_iff.mp hr
        cases hr
        exact snd_ext g1 g2 g3 g4 (hN _ _ e2) hl (star_eq hs) rfl
      · cases hr
  · cases hq
theorem compS_ok (F : Fx X c C k) (hp : PassesOwn (model X.prog X.w) X.A X.env X.xe) {rb : List Stmt → MSs} (hb : ∀ l, PSs X l (tB X.K C (rb l))) {s : Stmt} {m : MS} (hm : compS n c rb s = some m) : PS X s (tS X.K C m) := by
  obtain ⟨hE, hT⟩ := compET_ok (C := C) n F
  have hN := compN_ok F hE
  unfold compS at hm
  split at hm
  · cases hm; exact snd_pass
  · cases hm; exact snd_brk
  · cases hm; exact snd_cnt
  · cases hm; exact snd_ret0
  · obtain ⟨i, e1, rfl⟩ := Option.map_eq_some_iff.mp hm
    obtain ⟨g1, g2, g3, g4⟩ := F.nm e1
    exact snd_retv g1 g2 g3 g4
  · obtain ⟨ma, e1, rfl⟩ := Option.map_eq_some_iff.mp hm
    exact snd_ret (hE _ _ e1)
  · exact compAsg_ok F hm
  · obtain ⟨i, e1, hm⟩ := Option.bind_eq_some_iff.mp hm
    obtain ⟨op, e2, hm⟩ := Option.bind_eq_some_iff.mp hm
    obtain ⟨ma, e3, hm⟩ := Option.bind_eq_some_iff.mp hm
    cases hm
    obtain ⟨h1, h2, h3⟩ := F.nl e1
    rw [← bopOf_eq e2]
    exact snd_augN F.nd h1 h2 (hE _ _ e3) h3
  · obtain ⟨hl, hm⟩ := ck_eq.mp hm
    obtain ⟨i, e1, hm⟩ := Option.bind_eq_some_iff.mp hm
    obtain ⟨op, e2, hm⟩ := Option.bind_eq_some_iff.mp hm
    obtain ⟨ma, e3, hm⟩ := Option.bind_eq_some_iff.mp hm
    obtain ⟨me, e4, hm⟩ := Option.bind_eq_some_iff.mp hm
    cases hm
    obtain ⟨g1, g2, g3, g4⟩ := F.nm e1
    rw [← bopOf_eq e2]
    exact snd_augS g1 g2 g3 g4 (hE _ _ e4) (hN _ _ e3) (aug_sub hl)
  · obtain ⟨ht, hm⟩ := ck_eq.mp hm
    obtain ⟨ma, e1, hm⟩ := Option.bind_eq_some_iff.mp hm
    cases hm
    exact snd_ite_s (hT _ _ _ e1 ht) (hb _) (hb _)
  · obtain ⟨ht, hm⟩ := ck_eq.mp hm
    obtain ⟨ma, e1, hm⟩ := Option.bind_eq_some_iff.mp hm
    cases hm
    exact snd_whl hp (hT _ _ _ e1 ht) (hb _)
  · obtain ⟨ht, hm⟩ := ck_eq.mp hm
    obtain ⟨mi, e1, hm⟩ := Option.bind_eq_some_iff.mp hm
    obtain ⟨mt, e2, hm⟩ := Option.bind_eq_some_iff.mp hm
    cases hm
    exact snd_loop hp F.calm (compI_ok F hE hE _ _ _ e1) (compTg_ok F _ _ e2).1 (hb _) fun x => fold_eq ht x
  · exact compMt_ok F hm
  · cases hm
theorem compBl_ok {f : Stmt → Option MS} (h : ∀ s m, f s = some m → PS X s (tS X.K C m)) : ∀ l, PSs X l (tB X.K C (compBl f l))
  | [] => sndB_nil
  | s :: l => by
    unfold compBl
    refine sndB_cons ?_ (compBl_ok h l)
    cases e : f s with
    | none => exact snd_never
    | some m => exact h s m e
theorem compB_ok : ∀ n {X : Cx} {c : Cc}, Fx X c C k → PassesOwn (model X.prog X.w) X.A X.env X.xe → ∀ l, PSs X l (tB X.K C (compB n c l))
  | 0, X, c, F, hp, l => by
    unfold compB
    cases l with
    | nil =>
      refine PSs.of pss_nil fun D σ H ⟨w, ρ, z, z', o, h, ev, q⟩ => ?_
      simp only [exB, exS] at ev
      cases ev
    | cons s l =>
      have : PSs X (s :: l) (tB X.K C (.cons .never (compBl (fun _ => none) l))) := sndB_cons snd_never (compBl_ok (fun s m h => (by cases h)) l)
      refine PSs.of this fun D σ H ⟨w, ρ, z, z', o, h, ev, q⟩ => ?_
      simp only [exB, exS] at ev
      cases ev
  | n + 1, X, c, F, hp, l => by
    unfold compB
    exact compBl_ok (fun s m h => compS_ok F hp (fun l => compB_ok n F hp l) h) l
end
end Mn

set_option maxHeartbeats 1000000
/-! Mini: whole defs. -/
namespace Mn
open PySem PySem.Spec PyProof.Rows L2
/-- a def of the text: the global name that holds it, its own name, its statement, its slots' names, its parameters -/
structure De where
  g : Str
  x : Str
  st : Stmt
  N : List Str
  ps : List Str
def gOf : Nat → List De → List (Str × (Nat × Nat))
  | _, [] => []
  | i, d :: ds => (d.g, (i, d.ps.length)) :: gOf (i + 1) ds
def ccOf (G : List (Str × (Nat × Nat))) (st : Option Str) (d : De) : Cc := ⟨d.N, defScope d.st, defScope d.st, G, st⟩
def fnDe (n : Nat) (G : List (Str × (Nat × Nat))) (d : De) : Fn := ⟨d.ps.length, d.N.length, compB n (ccOf G none d) (defBody d.st)⟩
def pOf (n : Nat) (ds : List De) : List Fn := ds.map (fnDe n (gOf 0 ds))
theorem gOf_eq : ∀ {ds : List De} {i : Nat} {x : Str} {jn : Nat × Nat}, (gOf i ds).lookup x = some jn → ∃ m d, ds[m]? = some d ∧ d.g = x ∧ jn = (i + m, d.ps.length)
  | [], i, x, jn, h => by cases h
  | d :: ds, i, x, jn, h => by
    unfold gOf at h
    rw [List.lookup_cons] at h
    split at h
    · rename_i e
      cases h
      exact ⟨0, d, rfl, (eq_of_beq e).symm, rfl⟩
    · obtain ⟨m, d', h1, h2, h3⟩ := gOf_eq h
      exact ⟨m + 1, d', h1, h2, by rw [h3]; congr 1; omega⟩
/-- what the top has made of the defs -/
structure DeOk (K : PySem.W.Frag) (mg : Str → Option Value) (d : De) : Prop where
  ex : ∃ f fd, mg d.g = some (.ref f) ∧ Fun K d.x d.x d.st f fd ∧ Binds K fd d.ps []
  sc : FnScope d.N d.ps (defScope d.st)
theorem flat_nil {n : Nat} : (List.replicate n ([] : List Addr)).flatten = [] := by
  induction n with
  | zero => rfl
  | succ n ih => rw [List.replicate_succ, List.flatten_cons, ih]; rfl
theorem slots_un {K : PySem.W.Frag} {c : Option Addr} {H : Hp} {A : List Addr} : ∀ n, Slots K c H A (List.replicate n none) (List.replicate n Slot.un) (List.replicate n [])
  | 0 => .nil
  | n + 1 => .cons .un (slots_un n)
theorem slots_start {K : PySem.W.Frag} {c : Option Addr} {H : Hp} {A : List Addr} (n : Nat) : ∀ {vs : List V} {ds : List D}, Rds K c H A vs ds → Slots K c H A (vs.map some ++ List.replicate n none) (ds.map Slot.sh ++ List.replicate n Slot.un) (List.replicate (ds.length + n) [])
  | _, _, .nil => by simpa using slots_un n
  | _, _, @Rds.cons _ _ _ _ v vs d ds r t => by
    have e : (d :: ds).length + n = (ds.length + n) + 1 := by simp; omega
    rw [e, List.replicate_succ]
    exact .cons (.sh r) (slots_start n t)
theorem rel_start {K : PySem.W.Frag} {c : Option Addr} {H : Hp} {O : List Addr} {z : Zs} {N : List Str} {vs : List V} {ds : List D} (r : Rds K c H O vs ds) (ho : ∀ a ∈ O, H a ≠ none) (hc : CellOk c H z) (hb : Bnd H) :
    Rel K ⟨O, List.replicate (ds.length + (N.length - ds.length)) [], c⟩ H (L2.start N vs) (startE N.length ds) z := by
  have e : (Wd.mk O (List.replicate (ds.length + (N.length - ds.length)) []) c).A = O := by unfold Wd.A; simp only [flat_nil]; rfl
  refine ⟨?_, by rw [flat_nil]; exact List.nodup_nil, fun a m => ?_, ho, hc, hb⟩
  · rw [e]
    unfold L2.start startE
    rw [r.length]
    exact slots_start _ r
  · rw [flat_nil] at m; cases m
theorem ret_res {K : PySem.W.Frag} {w : Wd} {H H' : Hp} {c' : Option Addr} {v : V} {r : R} (hl : w.L.flatten = []) (h : RetR K w H c' H' v r) : RRes K c' w.O H H' v r := by
  cases r with
  | sh d => exact h
  | fr ds => obtain ⟨p, xs, e, n, nc, m, h1, r⟩ := h; exact ⟨p, xs, e, n.resolve_left (by rw [hl]; simp), nc, m, h1, r⟩
  | fr2 dss => obtain ⟨p, bs, e, n, nd, h1, r⟩ := h; exact ⟨p, bs, e, fun b m => ⟨(n b m).1.resolve_left (by rw [hl]; simp), (n b m).2⟩, nd, h1, r⟩
  | vw ds => exact h.elim
  | vw2 ds => exact h.elim
theorem cell_some {c : Option Addr} {H : Hp} {z : Zs} (h : CellOk c H z) : c.isSome = z.isSome := by
  unfold CellOk at h
  split at h
  · rfl
  · rfl
  · exact h.elim
theorem wex_post {w w' : Wd} {H H' : Hp} {z z' : Zs} (x : WEx w H w' H') (hl : w.L.flatten = []) (hc : CellOk w.c H z) (hc' : CellOk w'.c H' z') (hb : Bnd H') (e : z.isSome = z'.isSome) : w'.c = w.c ∧ EPost w.c H z' H' := by
  have ec : w'.c = w.c := by
    rcases x.cel with h | ⟨h1, p, h2, h3⟩
    · exact h
    · have a := cell_some hc
      have b := cell_some hc'
      rw [h1] at a; rw [h2] at b
      rw [← a, ← b] at e
      cases e
  exact ⟨ec, fun b o q n => x.keep b o q (by rw [hl]; simp) n, ec ▸ hc', hb⟩
section
variable {P : Program} {W : World} {K : PySem.W.Frag} {mg : Str → Option Value} {base : Heap}
theorem fx_of {CX : CXT} {k : Nat} {ds : List De} {d : De} {C : CallF} {f : Addr} {cdv : Value} {A : Around} {outer : List PySem.Env} {s : Shared} {H : Hp} {E : XK} (st : Option Str) (S : FnScope d.N d.ps (defScope d.st)) (hr : Room k (A.deeper (envOfC d.x (defScope d.st) s.heap.objs.size f cdv)))
    (B : ∀ x ∈ bltNames, mg x = none) (T : ∀ (m : Nat) (d : De), ds[m]? = some d → ∃ f fd, mg d.g = some (.ref f) ∧ PySem.W.keepIn K (.ref f) = true ∧ Binds K fd d.ps [] ∧ FnOk P W K mg base CX0 k f fd d.ps (spOf K C m d.ps.length)) :
    Fx (cxOf CX P W K mg base d.N d.x (defScope d.st) f cdv A outer s H E).nox (ccOf (gOf 0 ds) st d) C k := by
  refine ⟨rfl, rfl, rfl, S.nd, hr, fun _ _ => rfl, fun x jn h => ?_, B⟩
  obtain ⟨m, d', h1, h2, h3⟩ := gOf_eq h
  obtain ⟨f', fd', g1, g2, g3, g4⟩ := T m d' h1
  refine ⟨f', fd', d'.ps, by rw [← h2]; exact g1, g2, g3, ?_⟩
  rw [h3]
  simp only [Nat.zero_add]
  exact g4
theorem defs_ok (n : Nat) {ds : List De} (T : ∀ d ∈ ds, DeOk K mg d) (B : ∀ x ∈ bltNames, mg x = none) : ∀ (k m : Nat) (d : De), ds[m]? = some d → ∃ f fd, mg d.g = some (.ref f) ∧ PySem.W.keepIn K (.ref f) = true ∧ Binds K fd d.ps [] ∧ FnOk P W K mg base CX0 k f fd d.ps (spOf K (run (pOf n ds) k) m d.ps.length)
  | 0, m, d, hd => by
    obtain ⟨⟨f, fd, h1, h2, h3⟩, h4⟩ := T d (List.mem_of_getElem? hd)
    refine ⟨f, fd, h1, h2.kp, h3, ⟨fun vs H Q E h => ?_, fun A outer s H args us vs Q E _ _ _ _ h => ?_⟩⟩
    all_goals
      obtain ⟨O, c, ds', z, z', r, _, _, _, _, _, e, _⟩ := h
      cases e
  | k + 1, m, d, hd => by
    have ih := defs_ok n T B k
    obtain ⟨⟨f, fd, h1, h2, h3⟩, h4⟩ := T d (List.mem_of_getElem? hd)
    refine ⟨f, fd, h1, h2.kp, h3, h2.ok h4 (fun vs H Q E h => ?_) (fun cdv A outer s H vs Q E hr h => ?_)⟩
    · obtain ⟨O, c, ds', z, z', r, h5, h6, _⟩ := h
      rw [h5.length, h6]
    · obtain ⟨O, c, ds', z, z', r, hR, hl, ho, hc, hb, e, q⟩ := h
      have F := fx_of (E := E) (CX := CX0) (outer := outer) (H := H) none h4 hr B ih
      refine ⟨_, compB_ok n F PassesOwn.never (defBody d.st), ?_⟩
      have R0 := rel_start (N := d.N) hR ho hc hb
      have hP : (pOf n ds)[m]? = some (fnDe n (gOf 0 ds) d) := by unfold pOf; rw [List.getElem?_map, hd]; rfl
      unfold run at e
      rw [hP] at e
      simp only at e
      rw [if_pos (by rw [hl]; rfl)] at e
      have e2 : (fnDe n (gOf 0 ds) d).body = compB n (ccOf (gOf 0 ds) none d) (defBody d.st) := rfl
      have e3 : (fnDe n (gOf 0 ds) d).n = d.N.length := rfl
      rw [e2, e3] at e
      split at e
      · rename_i r1 z1 ev
        split at e
        · rename_i ez
          cases e
          refine ⟨_, _, z, _, _, R0, ev, fun w' v H' x c' b' rr => ?_⟩
          obtain ⟨ec, ep⟩ := wex_post x flat_nil hc c' b' ez
          rw [ec] at rr
          exact q v H' ep (ret_res (w := ⟨O, List.replicate (ds'.length + (d.N.length - ds'.length)) [], c⟩) flat_nil rr)
        · cases e
      · rename_i r1 z1 ev
        split at e
        · rename_i ez
          cases e
          refine ⟨_, _, z, _, _, R0, ev, fun w' σ' H' x rel => ?_⟩
          obtain ⟨ec, ep⟩ := wex_post x flat_nil hc rel.cell rel.bnd ez
          exact q .non H' ep .non
        · cases e
      · cases e
/-- the law's promise -/
def spLaw (K : PySem.W.Frag) : Sp := fun vs H Q _ => ∃ (a : Addr) (ns : List Int), vs = [.ref a] ∧ SqL K H a (ns.map V.int) ∧ Only H ∧ ns.length ≤ 63 ∧ ∀ H', Q (.bl true) H'
theorem only_bnd {H : Hp} (h : Only H) : Bnd H := ⟨fun a xs e => by rcases h a with q | ⟨o, ys, q⟩ <;> (rw [q] at e; cases e), fun a xs e => by rcases h a with q | ⟨o, ys, q⟩ <;> (rw [q] at e; cases e)⟩
theorem only_ext {H : Hp} {a : Addr} {xs : List V} (h : Only H) (s : SqL K H a xs) : ExtL K none H a xs := by
  rcases s with s | s
  · rcases s with s | s
    · rcases h a with q | ⟨o, ys, q⟩ <;> (rw [q] at s; cases s)
    · exact .inl ⟨by simp, s⟩
  · exact .inr s
theorem law_fn (n k : Nat) {ds : List De} (T : ∀ d ∈ ds, DeOk K mg d) (B : ∀ x ∈ bltNames, mg x = none) {d : De} {f : Addr} {fd : FuncData} (F : Fun K d.x d.x d.st f fd) (S : FnScope d.N d.ps (defScope d.st)) (hp : d.ps.length = 1)
    (h : ∀ ns : List Int, ns.length ≤ 63 → ∃ z', exB (run (pOf n ds) k) (compB n (ccOf (gOf 0 ds) (some "state") d) (defBody d.st)) (startE d.N.length [.ext ns]) none = some (.ret (.sh (.bl true)), z')) :
    FnOk P W K mg base CX0 (k + 1) f fd d.ps (spLaw K) := by
  refine F.ok S (fun vs H Q E h => ?_) (fun cdv A outer s H vs Q E hr h' => ?_)
  · obtain ⟨a, ns, rfl, _⟩ := h
    exact hp.symm
  · obtain ⟨a, ns, rfl, hS, hO, hlen, q⟩ := h'
    have Fc := fx_of (E := E) (CX := CX0) (outer := outer) (H := H) (some "state") S hr B (defs_ok (P := P) (W := W) (base := base) n T B k)
    refine ⟨_, compB_ok n Fc PassesOwn.never (defBody d.st), ?_⟩
    obtain ⟨z', ev⟩ := h ns hlen
    have R0 := rel_start (N := d.N) (O := []) (c := none) (z := none) (.cons (.ext (only_ext hO hS)) .nil) (fun a m => by cases m) trivial (only_bnd hO)
    refine ⟨_, _, none, _, _, R0, ev, fun w' v H' x c' b' rr => ?_⟩
    have rr : Rd K w'.c H' [] v (.bl true) := rr
    cases rr
    exact q H'
theorem law_walk {l : PySem.W.OpenLaw} {q : Program} {loose : List Str} {XP : (Str → Option Value) → Heap → Prop} {YP : World → Heap → Prop} {dr : DefRec} {K : Params → PySem.W.Frag} {k : Nat} (hn : l.most = some 63) (hk : k ≤ 200) (hdf : dr.params.defaults = [])
    (hY : ∀ (w : World) (h : Heap), YP w h → (K w.params).In h)
    (F : ∀ (w : World) (mg : Str → Option Value) (fa : Addr) (h : Heap), (K w.params).In h → h.Ns mainGlobals mg → mg dr.name = some (.ref fa) →
      ∃ fd : FuncData, (∀ (s : Shared) (u : Value), BindsTo s fd ⟨[u], []⟩ [("script", u)]) ∧ ∀ base : Heap, (K w.params).In base → base.Ns mainGlobals mg → FnOk l.prog w (K w.params) mg base CX0 k fa fd ["script"] (spLaw (K w.params))) :
    PySem.W.WalkO q loose XP YP l.row.toRowW dr [] (fun f vs => PySem.call f vs) :=
  L2.walk_of (n := 63) (k := k) (x := "script") (CX := fun _ => CX0) (sp := fun w => spLaw (K w.params)) hn (by decide) hdf (Room.mono (k := 200) ⟨rfl, by decide, by decide⟩ hk) hY F (fun _ _ a ns hl hO hS => ⟨a, ns, rfl, hS, hO, hl, fun _ => rfl⟩) fun _ _ _ _ _ z => z
end
end Mn

/-! Mini: what the top has made of a def. -/
namespace Mn
open PySem PySem.Spec PyProof.Rows L2
theorem de_ok {K : PySem.W.Frag} {h : Heap} {mg : Str → Option Value} (X : K.In h) (G : h.Ns mainGlobals mg) (d : De) {f : Addr} {oc kV dc pm cd ct : Value} {od an : Option Addr} {sl : Array (Option Value)}
    (a : PySem.W.nsIn K mainGlobals d.g = some (some (.ref f))) (l : K.lookup f = some ⟨oc, od, .func (PySem.W.fnOf d.x d.x (defArgs d.st) (defBody d.st) (defScope d.st) .none kV dc pm an cd ct), sl⟩) (c : PySem.W.codeIn K cd d.x = true) (k : PySem.W.keepIn K (.ref f) = true)
    (S : FnScope d.N d.ps (defScope d.st)) (hb : ∀ (kV doc pm : Value) (an : Option Addr) (cdv ct : Value) (us : List Value), us.length = d.ps.length → bindArgs (PySem.W.fnOf d.x d.x (defArgs d.st) (defBody d.st) (defScope d.st) .none kV doc pm an cdv ct) ⟨us, []⟩ = pure (d.ps.zip us)) : DeOk K mg d := by
  have F := fun_mk (st := d.st) l c k
  exact ⟨⟨f, _, PySem.W.mg_of X G a, F, F.binds hb⟩, S⟩
end Mn


set_option maxHeartbeats 1000000
/-! Mini: the evaluator that counts its turns; what it tells is what the other tells. -/
namespace Mn
open PySem L2
section
variable (C : CallF) (fu : Nat)
mutual
def exSN : MS → Env → Zs → Option (Out × Zs)
  | .asg fz i e, ρ, z => bd (evE C (freeze ρ fz) e z) fun r z => (putR (freeze ρ fz) i r).map fun ρ => (.nx ρ, z)
  | .asgT fz is e, ρ, z => bd (evE C (freeze ρ fz) e z) fun r z => match r with
    | .sh (.tup ds) => (setTs (freeze ρ fz) is ds).map fun ρ => (.nx ρ, z)
    | _ => none
  | .par fz is l, ρ, z => bd (evRs C (freeze ρ fz) l z) fun rs z => match toDs rs with
    | some ds => (setTs (freeze ρ fz) is ds).map fun ρ => (.nx ρ, z)
    | none => none
  | .parO fz i is l, ρ, z => bd (evRs C (freeze ρ fz) l z) fun rs z => match rs with
    | .fr xs :: rs => match toDs rs with
      | some ds => if ds.all isI = true then (setTs ((freeze ρ fz).set i (.ow xs)) is ds).map fun ρ => (.nx ρ, z) else none
      | none => none
    | _ => none
  | .set fz i x e, ρ, z => bd (evE C (freeze ρ fz) e z) fun r z => bd (evE C (freeze ρ fz) x z) fun k z => match (freeze ρ fz)[i]?, k, r.toD with
    | some (.ow xs), .sh (.int k), some d => (setD xs k d).map fun ys => (.nx ((freeze ρ fz).set i (.ow ys)), z)
    | some (.sh .hd), .sh (.int 0), some (.int n) => match z with
      | some _ => some (.nx (freeze ρ fz), some n)
      | none => none
    | _, _, _ => none
  | .set2 fz i x y e, ρ, z => bd (evE C (freeze ρ fz) e z) fun r z => bd (evE C (freeze ρ fz) x z) fun k z => bd (evE C (freeze ρ fz) y z) fun l z => match (freeze ρ fz)[i]?, k, l, r.toD with
    | some (.ow2 xss), .sh (.int k), .sh (.int l), some d => match ixN xss.length k with
      | some j => match xss[j]? with
        | some xs => (setD xs l d).map fun ys => (.nx ((freeze ρ fz).set i (.ow2 (xss.set j ys))), z)
        | none => none
      | none => none
    | _, _, _, _ => none
  | .swap i x y, ρ, z => bd (evE C (ρ.set i .un) y z) fun l z => bd (evE C (ρ.set i .un) x z) fun k z => bd (evE C (ρ.set i .un) x z) fun k2 z => bd (evE C (ρ.set i .un) y z) fun l2 z => match ρ[i]?, k, l, k2, l2 with
    | some (.ow2 xss), .sh (.int k), .sh (.int l), .sh (.int k2), .sh (.int l2) => if k = k2 ∧ l = l2 then match ixN xss.length k, ixN xss.length l with
        | some j, some m => match xss[j]?, xss[m]? with
          | some xs, some ys => some (.nx (ρ.set i (.ow2 ((xss.set j ys).set m xs))), z)
          | _, _ => none
        | _, _ => none
      else none
    | _, _, _, _, _ => none
  | .tgs fz ts l, ρ, z => bd (evRs C (freeze ρ fz) l z) fun rs z => match toDs rs with
    | some ds => bd (setTg C (freeze ρ fz) ts ds z) fun ρ z => some (.nx ρ, z)
    | none => none
  | .augN fz op i e, ρ, z => match (freeze ρ fz)[i]? with
    | some (.sh d) => bd (evE C (freeze ρ fz) e z) fun r z => match ibinR op (.sh d) r with
      | some (.sh w) => some (.nx ((freeze ρ fz).set i (.sh w)), z)
      | _ => none
    | _ => none
  | .augS fz op i x e, ρ, z => bd (evE C (freeze ρ fz) x z) fun k z => match (freeze ρ fz)[i]?, k with
    | some (.ow xs), .sh (.int k) => match atI xs k with
      | some d => bd (evE C (freeze ρ fz) e z) fun r z => match ibinR op (.sh d) r with
        | some (.sh w) => (setD xs k w).map fun ys => (.nx ((freeze ρ fz).set i (.ow ys)), z)
        | _ => none
      | none => none
    | _, _ => none
  | .ite fz c a b, ρ, z => bd (evE C (freeze ρ fz) c z) fun r z => match toB r with
    | some true => exBN a (freeze ρ fz) z
    | some false => exBN b (freeze ρ fz) z
    | none => none
  | .whl fz c b, ρ, z => whN (fun ρ z => bd (evE C (freeze ρ fz) c z) fun r z => (toB r).map fun b => ((b, freeze ρ fz), z)) (fun ρ z => exBN b ρ z) fu ρ z
  | .loop fz tg it b, ρ, z => bd (evI C (freeze ρ fz) false it z) fun ds z => loopS (fun d ρ z => match setT ρ tg d with
    | some ρ1 => exBN b ρ1 z
    | none => none) ds (freeze ρ fz) z
  | .ret fz e, ρ, z => bd (evE C (freeze ρ fz) e z) fun r z => match r with
    | .sh d => some (.ret (.sh d), z)
    | .fr ds => some (.ret (.fr ds), z)
    | .fr2 dss => some (.ret (.fr2 dss), z)
    | _ => none
  | .retv i, ρ, z => match ρ[i]? with
    | some (.sh d) => some (.ret (.sh d), z)
    | some (.ow ds) => some (.ret (.fr ds), z)
    | some (.ow2 dss) => some (.ret (.fr2 dss), z)
    | _ => none
  | .ret0, _, z => some (.ret (.sh .non), z)
  | .brk, ρ, z => some (.bk ρ, z)
  | .cnt, ρ, z => some (.ct ρ, z)
  | .pass, ρ, z => some (.nx ρ, z)
  | .app fz i e, ρ, z => match (freeze ρ fz)[i]? with
    | some (.ow xs) => bd (evE C (freeze ρ fz) e z) fun r z => match r.toD with
      | some d => if xs.length < 16777216 then some (.nx ((freeze ρ fz).set i (.ow (xs ++ [d]))), z) else none
      | none => none
    | _ => none
  | .ext fz i e, ρ, z => match (freeze ρ fz)[i]? with
    | some (.ow xs) => bd (evE C (freeze ρ fz) e z) fun r z => match r.items with
      | some ds => if small (xs.length + ds.length) = true then some (.nx ((freeze ρ fz).set i (.ow (xs ++ ds))), z) else none
      | none => none
    | _ => none
  | .popx i, ρ, z => match ρ[i]? with
    | some (.ow xs) => match xs[xs.length - 1]? with
      | some _ => some (.nx (ρ.set i (.ow xs.dropLast)), z)
      | none => none
    | _ => none
  | .popT tg i, ρ, z => match ρ[i]? with
    | some (.ow xs) => match xs[xs.length - 1]? with
      | some d => (setT (ρ.set i (.ow xs.dropLast)) tg d).map fun ρ => (.nx ρ, z)
      | none => none
    | _ => none
  | .rvs i, ρ, z => match ρ[i]? with
    | some (.ow xs) => some (.nx (ρ.set i (.ow xs.reverse)), z)
    | _ => none
  | .mkst fz i e, ρ, z => bd (evE C (freeze ρ fz) e z) fun r z => match r, z with
    | .fr [.int n], none => some (.nx ((freeze ρ fz).set i (.sh .hd)), some n)
    | _, _ => none
  | .never, _, _ => none
def exBN : MSs → Env → Zs → Option (Out × Zs)
  | .nil, ρ, z => some (.nx ρ, z)
  | .cons s l, ρ, z => match exSN s ρ z with
    | some (.nx ρ, z) => exBN l ρ z
    | r => r
end
end
def runN (P : List Fn) (fu : Nat) : Nat → CallF
  | 0 => fun _ _ _ => none
  | k + 1 => fun f ds z => match P[f]? with
    | some fd => if ds.length = fd.np then match exBN (runN P fu k) fu fd.body (startE fd.n ds) z with
        | some (.ret r, z') => if z.isSome = z'.isSome then some (r, z') else none
        | some (.nx _, z') => if z.isSome = z'.isSome then some (.sh .non, z') else none
        | _ => none
      else none
    | none => none
end Mn

/-! Power series and polynomials over a ring. -/
namespace Mn
open Lean.Grind
structure PS (R : Type) where
  c : Nat → R
namespace PS
variable {R : Type}
theorem ext {f g : PS R} (h : ∀ k, f.c k = g.c k) : f = g := by
  cases f; cases g; congr; exact funext h
/-- the series without its first number -/
def tl (f : PS R) : PS R := ⟨fun k => f.c (k + 1)⟩
@[simp] theorem tl_c (f : PS R) (k : Nat) : f.tl.c k = f.c (k + 1) := rfl
local instance nc11 {R : Type} [CommRing R] : NatCast R := Semiring.natCast
local instance ic11 {R : Type} [CommRing R] : IntCast R := Ring.intCast
variable [CommRing R]
def ad (f g : PS R) : PS R := ⟨fun k => f.c k + g.c k⟩
def ne (f : PS R) : PS R := ⟨fun k => - f.c k⟩
def sb (f g : PS R) : PS R := ⟨fun k => f.c k - g.c k⟩
def cst (a : R) : PS R := ⟨fun k => if k = 0 then a else 0⟩
def sc (a : R) (f : PS R) : PS R := ⟨fun k => a * f.c k⟩
def muc : Nat → PS R → PS R → R
  | 0, f, g => f.c 0 * g.c 0
  | k + 1, f, g => f.c 0 * g.c (k + 1) + muc k f.tl g
def mu (f g : PS R) : PS R := ⟨fun k => muc k f g⟩
theorem muc_add (k : Nat) : ∀ f g h : PS R, muc k (ad f g) h = muc k f h + muc k g h := by
  induction k with
  | zero => intro f g h; show (f.c 0 + g.c 0) * h.c 0 = f.c 0 * h.c 0 + g.c 0 * h.c 0; grind
  | succ k ih =>
    intro f g h
    show (f.c 0 + g.c 0) * h.c (k + 1) + muc k (ad f.tl g.tl) h = (f.c 0 * h.c (k+1) + muc k f.tl h) + (g.c 0 * h.c (k+1) + muc k g.tl h)
    rw [ih]; grind
theorem muc_sc (k : Nat) (a : R) : ∀ f h : PS R, muc k (sc a f) h = a * muc k f h := by
  induction k with
  | zero => intro f h; show (a * f.c 0) * h.c 0 = a * (f.c 0 * h.c 0); grind
  | succ k ih =>
    intro f h
    show (a * f.c 0) * h.c (k + 1) + muc k (sc a f.tl) h = a * (f.c 0 * h.c (k+1) + muc k f.tl h)
    rw [ih]; grind
theorem muc_right (k : Nat) : ∀ f g : PS R, muc (k + 1) f g = muc k f g.tl + f.c (k + 1) * g.c 0 := by
  induction k with
  | zero => intro f g; show f.c 0 * g.c 1 + f.c 1 * g.c 0 = f.c 0 * g.c 1 + f.c 1 * g.c 0; rfl
  | succ k ih =>
    intro f g
    show f.c 0 * g.c (k + 2) + muc (k + 1) f.tl g = (f.c 0 * g.c (k + 2) + muc k f.tl g.tl) + f.c (k + 2) * g.c 0
    rw [ih]
    show f.c 0 * g.c (k + 2) + (muc k f.tl g.tl + f.c (k+2) * g.c 0) = _
    grind
theorem muc_comm (k : Nat) : ∀ f g : PS R, muc k f g = muc k g f := by
  induction k with
  | zero => intro f g; show f.c 0 * g.c 0 = g.c 0 * f.c 0; grind
  | succ k ih =>
    intro f g
    rw [muc_right k g f, ← ih f.tl g]
    show f.c 0 * g.c (k + 1) + muc k f.tl g = _
    grind
theorem tl_mu (f g : PS R) : (mu f g).tl = ad (sc (f.c 0) g.tl) (mu f.tl g) := rfl
theorem muc_assoc (k : Nat) : ∀ f g h : PS R, muc k (mu f g) h = muc k f (mu g h) := by
  induction k with
  | zero => intro f g h; show (f.c 0 * g.c 0) * h.c 0 = f.c 0 * (g.c 0 * h.c 0); grind
  | succ k ih =>
    intro f g h
    show (f.c 0 * g.c 0) * h.c (k + 1) + muc k (mu f g).tl h = f.c 0 * (g.c 0 * h.c (k + 1) + muc k g.tl h) + muc k f.tl (mu g h)
    rw [tl_mu, muc_add, muc_sc, ih]; grind
theorem muc_zero (k : Nat) : ∀ f : PS R, (∀ k, f.c k = 0) → ∀ g : PS R, muc k f g = 0 := by
  induction k with
  | zero => intro f hf g; show f.c 0 * g.c 0 = 0; rw [hf]; grind
  | succ k ih => intro f hf g; show f.c 0 * g.c (k + 1) + muc k f.tl g = 0; rw [hf, ih _ fun k => hf (k + 1)]; grind
theorem muc_cst (k : Nat) (a : R) (g : PS R) : muc k (cst a) g = a * g.c k := by
  cases k with
  | zero => rfl
  | succ k =>
    show a * g.c (k + 1) + muc k (cst a).tl g = _
    rw [muc_zero k _ (fun k => rfl)]; grind
def pw (f : PS R) : Nat → PS R
  | 0 => cst 1
  | n + 1 => mu (pw f n) f
instance : CommRing (PS R) where
  add := ad
  mul := mu
  natCast := ⟨fun n => cst (n : R)⟩
  ofNat n := ⟨cst (OfNat.ofNat n)⟩
  nsmul := ⟨fun n f => sc (n : R) f⟩
  npow := ⟨pw⟩
  neg := ne
  sub := sb
  intCast := ⟨fun n => cst (n : R)⟩
  zsmul := ⟨fun n f => sc (n : R) f⟩
  add_zero f := ext fun k => by show f.c k + (if k = 0 then (0 : R) else 0) = f.c k; grind
  add_comm f g := ext fun k => by show f.c k + g.c k = g.c k + f.c k; grind
  add_assoc f g h := ext fun k => by show (f.c k + g.c k) + h.c k = f.c k + (g.c k + h.c k); grind
  mul_assoc f g h := ext fun k => muc_assoc k f g h
  mul_comm f g := ext fun k => muc_comm k f g
  mul_one f := ext fun k => by show muc k f (cst 1) = f.c k; rw [muc_comm, muc_cst]; grind
  one_mul f := ext fun k => by show muc k (cst 1) f = f.c k; rw [muc_cst]; grind
  left_distrib f g h := ext fun k => by show muc k f (ad g h) = muc k f g + muc k f h; rw [muc_comm, muc_add, muc_comm, muc_comm k h]
  right_distrib f g h := ext fun k => by show muc k (ad f g) h = muc k f h + muc k g h; rw [muc_add]
  zero_mul f := ext fun k => by show muc k (cst 0) f = (cst 0).c k; rw [muc_cst]; show 0 * f.c k = if k = 0 then (0 : R) else 0; grind
  mul_zero f := ext fun k => by show muc k f (cst 0) = (cst 0).c k; rw [muc_comm, muc_cst]; show 0 * f.c k = if k = 0 then (0 : R) else 0; grind
  pow_zero f := rfl
  pow_succ f n := rfl
  ofNat_succ n := ext fun k => by
    show (if k = 0 then (OfNat.ofNat (n + 1) : R) else 0) = (if k = 0 then (OfNat.ofNat n : R) else 0) + (if k = 0 then (OfNat.ofNat 1 : R) else 0)
    have := Semiring.ofNat_succ (α := R) n
    split
    · exact this
    · grind
  ofNat_eq_natCast n := ext fun k => by
    show (if k = (0 : Nat) then (OfNat.ofNat n : R) else 0) = (if k = (0 : Nat) then (n : R) else 0)
    split
    · exact Semiring.ofNat_eq_natCast n
    · rfl
  nsmul_eq_natCast_mul n f := ext fun k => by
    show (n : R) * f.c k = muc k (cst (n : R)) f
    rw [muc_cst]
  neg_add_cancel f := ext fun k => by show -f.c k + f.c k = if k = 0 then (0 : R) else 0; grind
  sub_eq_add_neg f g := ext fun k => by show f.c k - g.c k = f.c k + -g.c k; grind
  neg_zsmul n f := ext fun k => by show ((-n : Int) : R) * f.c k = -((n : R) * f.c k); rw [Ring.intCast_neg]; grind
  zsmul_natCast_eq_nsmul n f := ext fun k => by show (((n : Int)) : R) * f.c k = (n : R) * f.c k; rw [Ring.intCast_natCast]
  intCast_ofNat n := ext fun k => by
    show (if k = 0 then ((OfNat.ofNat (α := Int) n : Int) : R) else 0) = (if k = 0 then (OfNat.ofNat n : R) else 0)
    rw [Ring.intCast_ofNat]
  intCast_neg n := ext fun k => by
    show (if k = 0 then ((-n : Int) : R) else 0) = -(if k = 0 then (n : R) else 0)
    rw [Ring.intCast_neg]; grind
theorem add_c (f g : PS R) (k : Nat) : (f + g).c k = f.c k + g.c k := rfl
theorem sub_c (f g : PS R) (k : Nat) : (f - g).c k = f.c k - g.c k := rfl
theorem neg_c (f : PS R) (k : Nat) : (-f).c k = -f.c k := rfl
theorem zero_c (k : Nat) : (0 : PS R).c k = 0 := by show (if k = 0 then (0 : R) else 0) = 0; grind
theorem mul_c0 (f g : PS R) : (f * g).c 0 = f.c 0 * g.c 0 := rfl
theorem mul_cs (f g : PS R) (k : Nat) : (f * g).c (k + 1) = f.c 0 * g.c (k + 1) + (f.tl * g).c k := rfl
theorem cst_mul (a : R) (f : PS R) (k : Nat) : (cst a * f).c k = a * f.c k := muc_cst k a f
end PS
example (f g : PS Int) : (f + g)^2 = f^2 + 2*f*g + g^2 := by grind
example (f g : PS (PS Int)) : (f + g)^2 = f^2 + 2*f*g + g^2 := by grind
end Mn

/-! Polynomials over a ring, as series that end. -/
namespace Mn
open Lean.Grind
namespace PS
variable {R : Type} [CommRing R]
local instance nc21 {R : Type} [CommRing R] : NatCast R := Semiring.natCast
local instance ic21 {R : Type} [CommRing R] : IntCast R := Ring.intCast
/-- all numbers from n on are 0 -/
def lt (f : PS R) (n : Nat) : Prop := ∀ k, n ≤ k → f.c k = 0
theorem lt.mono {f : PS R} {m n : Nat} (h : f.lt m) (l : m ≤ n) : f.lt n := fun k hk => h k (Nat.le_trans l hk)
theorem lt.tl {f : PS R} {n : Nat} (h : f.lt (n + 1)) : f.tl.lt n := fun k hk => h (k + 1) (by omega)
theorem lt0 {f : PS R} (h : f.lt 0) : f = 0 := ext fun k => by rw [h k (Nat.zero_le _), zero_c]
theorem lt_zero (n : Nat) : (0 : PS R).lt n := fun k _ => zero_c k
theorem lt_add {f g : PS R} {n : Nat} (h : f.lt n) (h' : g.lt n) : (f + g).lt n := fun k hk => by rw [add_c, h k hk, h' k hk]; grind
theorem lt_sub {f g : PS R} {n : Nat} (h : f.lt n) (h' : g.lt n) : (f - g).lt n := fun k hk => by rw [sub_c, h k hk, h' k hk]; grind
theorem lt_neg {f : PS R} {n : Nat} (h : f.lt n) : (-f).lt n := fun k hk => by rw [neg_c, h k hk]; grind
theorem lt_cst (a : R) : (cst a).lt 1 := fun k hk => by show (if k = 0 then a else 0) = 0; rw [if_neg (by omega)]
theorem lt_mul0 {g : PS R} : ∀ (k : Nat) {f : PS R}, f.lt 0 → (f * g).c k = 0 := fun k f h => muc_zero k f (fun k => h k (Nat.zero_le _)) g
/-- the length of a product -/
theorem lt_mul {g : PS R} {n : Nat} (hg : g.lt (n + 1)) : ∀ {m : Nat} {f : PS R}, f.lt (m + 1) → (f * g).lt (m + n + 1)
  | 0, f, hf, k, hk => by
    cases k with
    | zero => omega
    | succ k => rw [mul_cs, hg _ (by omega), lt_mul0 k hf.tl]; grind
  | m + 1, f, hf, k, hk => by
    cases k with
    | zero => omega
    | succ k => rw [mul_cs, hg _ (by omega), lt_mul hg hf.tl k (by omega)]; grind
theorem lead_mul {g : PS R} {n : Nat} (hg : g.lt (n + 1)) : ∀ {m : Nat} {f : PS R}, f.lt (m + 1) → (f * g).c (m + n) = f.c m * g.c n
  | 0, f, hf => by
    rw [Nat.zero_add]
    cases n with
    | zero => rfl
    | succ n => rw [mul_cs, lt_mul0 n hf.tl]; grind
  | m + 1, f, hf => by
    rw [show m + 1 + n = (m + n) + 1 by omega, mul_cs, hg _ (by omega), lead_mul hg hf.tl]
    show _ + f.c (m + 1) * _ = _
    grind
/-! the derivative -/
def D (f : PS R) : PS R := ⟨fun k => ((k + 1 : Nat) : R) * f.c (k + 1)⟩
theorem D_c (f : PS R) (k : Nat) : (D f).c k = ((k + 1 : Nat) : R) * f.c (k + 1) := rfl
theorem cast_succ (k : Nat) : ((k + 1 : Nat) : R) = (k : R) + 1 := Semiring.natCast_succ k
theorem D_add (f g : PS R) : D (f + g) = D f + D g := ext fun k => by rw [D_c, add_c, add_c, D_c, D_c]; grind
theorem D_tl (f : PS R) : (D f).tl = D f.tl + f.tl.tl := ext fun k => by
  rw [add_c]
  show ((k + 1 + 1 : Nat) : R) * f.c (k + 1 + 1) = ((k + 1 : Nat) : R) * f.c (k + 1 + 1) + f.c (k + 1 + 1)
  rw [cast_succ (k + 1)]; grind
theorem add_mul_c (f g h : PS R) (k : Nat) : ((f + g) * h).c k = (f * h).c k + (g * h).c k := muc_add k f g h
theorem D_mul_c : ∀ (k : Nat) (f g : PS R), (D (f * g)).c k = (D f * g + f * D g).c k
  | 0, f, g => by
    rw [D_c, add_c, mul_c0, mul_c0, D_c, D_c]
    show ((0 + 1 : Nat) : R) * (f.c 0 * g.c 1 + f.c 1 * g.c 0) = ((0 + 1 : Nat) : R) * f.c 1 * g.c 0 + f.c 0 * (((0 + 1 : Nat) : R) * g.c 1)
    grind
  | k + 1, f, g => by
    have ih := D_mul_c k f.tl g
    rw [add_c, D_c, mul_cs] at ih
    rw [add_c, mul_cs, mul_cs, D_c, mul_cs, mul_cs, D_tl, add_mul_c, D_c, D_c, cast_succ (k + 1)]
    rw [cast_succ k] at ih ⊢
    have c1 := cast_succ (R := R) 0
    have c0 : ((0 : Nat) : R) = 0 := Semiring.natCast_zero
    show ((k : R) + 1 + 1) * (f.c 0 * g.c (k + 1 + 1) + (f.c 1 * g.c (k + 1) + (f.tl.tl * g).c k)) = ((0 + 1 : Nat) : R) * f.c 1 * g.c (k + 1) + ((D f.tl * g).c k + (f.tl.tl * g).c k) + (f.c 0 * (((k : R) + 1 + 1) * g.c (k + 1 + 1)) + (f.tl * D g).c k)
    have ih' : ((k : R) + 1) * (f.c 1 * g.c (k + 1) + (f.tl.tl * g).c k) = (D f.tl * g).c k + (f.tl * D g).c k := ih
    grind
theorem D_mul (f g : PS R) : D (f * g) = D f * g + f * D g := ext fun k => D_mul_c k f g
theorem D_lt {f : PS R} {n : Nat} (h : f.lt (n + 1)) : (D f).lt n := fun k hk => by rw [D_c, h _ (by omega)]; grind
end PS
/-- polynomials -/
structure Pol (R : Type) [CommRing R] where
  s : PS R
  p : ∃ n, s.lt n
namespace Pol
variable {R : Type} [CommRing R]
local instance nc22 {R : Type} [CommRing R] : NatCast R := Semiring.natCast
local instance ic22 {R : Type} [CommRing R] : IntCast R := Ring.intCast
theorem ext {f g : Pol R} (h : f.s = g.s) : f = g := by cases f; cases g; cases h; rfl
theorem extc {f g : Pol R} (h : ∀ k, f.s.c k = g.s.c k) : f = g := ext (PS.ext h)
theorem pAdd {f g : PS R} : (∃ n, f.lt n) → (∃ n, g.lt n) → ∃ n, (f + g).lt n := fun ⟨m, a⟩ ⟨n, b⟩ => ⟨m + n, PS.lt_add (a.mono (by omega)) (b.mono (by omega))⟩
theorem pMul {f g : PS R} : (∃ n, f.lt n) → (∃ n, g.lt n) → ∃ n, (f * g).lt n := fun ⟨m, a⟩ ⟨n, b⟩ => ⟨m + n + 1, PS.lt_mul (b.mono (by omega)) (a.mono (by omega))⟩
theorem pCst (a : R) : ∃ n, (PS.cst a).lt n := ⟨1, PS.lt_cst a⟩
theorem pPow {f : PS R} (h : ∃ n, f.lt n) : ∀ k : Nat, ∃ n, (PS.pw f k).lt n
  | 0 => pCst 1
  | k + 1 => pMul (pPow h k) h
def cst (a : R) : Pol R := ⟨PS.cst a, pCst a⟩
instance : CommRing (Pol R) where
  add f g := ⟨f.s + g.s, pAdd f.p g.p⟩
  mul f g := ⟨f.s * g.s, pMul f.p g.p⟩
  natCast := ⟨fun n => cst (n : R)⟩
  ofNat n := ⟨cst (OfNat.ofNat n)⟩
  nsmul := ⟨fun n f => ⟨PS.sc (n : R) f.s, let ⟨m, h⟩ := f.p; ⟨m, fun k hk => by show _ * f.s.c k = 0; rw [h k hk]; grind⟩⟩⟩
  npow := ⟨fun f n => ⟨PS.pw f.s n, pPow f.p n⟩⟩
  neg f := ⟨-f.s, let ⟨m, h⟩ := f.p; ⟨m, PS.lt_neg h⟩⟩
  sub f g := ⟨f.s - g.s, let ⟨m, a⟩ := f.p; let ⟨n, b⟩ := g.p; ⟨m + n, PS.lt_sub (a.mono (by omega)) (b.mono (by omega))⟩⟩
  intCast := ⟨fun n => cst (n : R)⟩
  zsmul := ⟨fun n f => ⟨PS.sc (n : R) f.s, let ⟨m, h⟩ := f.p; ⟨m, fun k hk => by show _ * f.s.c k = 0; rw [h k hk]; grind⟩⟩⟩
  add_zero f := ext (Semiring.add_zero f.s)
  add_comm f g := ext (Semiring.add_comm f.s g.s)
  add_assoc f g h := ext (Semiring.add_assoc f.s g.s h.s)
  mul_assoc f g h := ext (Semiring.mul_assoc f.s g.s h.s)
  mul_comm f g := ext (CommSemiring.mul_comm f.s g.s)
  mul_one f := ext (Semiring.mul_one f.s)
  one_mul f := ext (Semiring.one_mul f.s)
  left_distrib f g h := ext (Semiring.left_distrib f.s g.s h.s)
  right_distrib f g h := ext (Semiring.right_distrib f.s g.s h.s)
  zero_mul f := ext (Semiring.zero_mul f.s)
  mul_zero f := ext (Semiring.mul_zero f.s)
  pow_zero f := rfl
  pow_succ f n := rfl
  ofNat_succ n := ext (Semiring.ofNat_succ (α := PS R) n)
  ofNat_eq_natCast n := ext (Semiring.ofNat_eq_natCast (α := PS R) n)
  nsmul_eq_natCast_mul n f := ext (Semiring.nsmul_eq_natCast_mul (α := PS R) n f.s)
  neg_add_cancel f := ext (Ring.neg_add_cancel f.s)
  sub_eq_add_neg f g := ext (Ring.sub_eq_add_neg f.s g.s)
  neg_zsmul n f := ext (Ring.neg_zsmul n f.s)
  zsmul_natCast_eq_nsmul n f := ext (Ring.zsmul_natCast_eq_nsmul n f.s)
  intCast_ofNat n := ext (Ring.intCast_ofNat (α := PS R) n)
  intCast_neg n := ext (Ring.intCast_neg (α := PS R) n)
theorem add_s (f g : Pol R) : (f + g).s = f.s + g.s := rfl
theorem mul_s (f g : Pol R) : (f * g).s = f.s * g.s := rfl
theorem sub_s (f g : Pol R) : (f - g).s = f.s - g.s := rfl
theorem neg_s (f : Pol R) : (-f).s = -f.s := rfl
theorem zero_s : (0 : Pol R).s = 0 := rfl
theorem one_s : (1 : Pol R).s = 1 := rfl
def lt (f : Pol R) (n : Nat) : Prop := f.s.lt n
def D (f : Pol R) : Pol R := ⟨f.s.D, let ⟨n, h⟩ := f.p; ⟨n, PS.D_lt (h.mono (by omega))⟩⟩
theorem D_mul (f g : Pol R) : D (f * g) = D f * g + f * D g := ext (PS.D_mul f.s g.s)
theorem D_add (f g : Pol R) : D (f + g) = D f + D g := ext (PS.D_add f.s g.s)
/-- the letter -/
def X : Pol R := ⟨⟨fun k => if k = 1 then 1 else 0⟩, 2, fun k hk => by show (if k = 1 then (1 : R) else 0) = 0; rw [if_neg (by omega)]⟩
theorem X_tl : (X : Pol R).s.tl = PS.cst 1 := PS.ext fun k => by
  show (if k + 1 = 1 then (1 : R) else 0) = if k = 0 then 1 else 0
  by_cases h : k = 0
  · subst h; rfl
  · rw [if_neg h, if_neg (by omega)]
theorem X_mul0 (f : Pol R) : (X * f).s.c 0 = 0 := by
  rw [mul_s, PS.mul_c0]
  show (if (0 : Nat) = 1 then (1 : R) else 0) * _ = 0
  rw [if_neg (by omega)]; grind
theorem X_mul (f : Pol R) (k : Nat) : (X * f).s.c (k + 1) = f.s.c k := by
  rw [mul_s, PS.mul_cs, X_tl, PS.cst_mul]
  show (if (0 : Nat) = 1 then (1 : R) else 0) * _ + _ = _
  rw [if_neg (by omega)]; grind
theorem cst_mul (a : R) (f : Pol R) (k : Nat) : (cst a * f).s.c k = a * f.s.c k := PS.cst_mul a f.s k
theorem cst_c (a : R) (k : Nat) : (cst a).s.c k = if k = 0 then a else 0 := rfl
theorem add_c (f g : Pol R) (k : Nat) : (f + g).s.c k = f.s.c k + g.s.c k := rfl
theorem sub_c (f g : Pol R) (k : Nat) : (f - g).s.c k = f.s.c k - g.s.c k := rfl
theorem neg_c (f : Pol R) (k : Nat) : (-f).s.c k = -f.s.c k := rfl
theorem zero_c (k : Nat) : (0 : Pol R).s.c k = 0 := PS.zero_c k
theorem cst_add (a b : R) : cst (a + b) = cst a + cst b := extc fun k => by rw [add_c, cst_c, cst_c, cst_c]; split <;> grind
theorem cst_mul_cst (a b : R) : cst (a * b) = cst a * cst b := extc fun k => by rw [cst_mul, cst_c, cst_c]; split <;> grind
theorem cst_zero : cst (0 : R) = 0 := rfl
theorem cst_one : cst (1 : R) = 1 := rfl
theorem cst_neg (a : R) : cst (-a) = -cst a := extc fun k => by rw [neg_c, cst_c, cst_c]; split <;> grind
theorem cst_sub (a b : R) : cst (a - b) = cst a - cst b := extc fun k => by rw [sub_c, cst_c, cst_c, cst_c]; split <;> grind
theorem D_cst (a : R) : D (cst a) = 0 := extc fun k => by
  show _ * (if k + 1 = 0 then a else 0) = _
  rw [if_neg (by omega), zero_c]; grind
theorem D_X : D (X : Pol R) = 1 := extc fun k => by
  show ((k + 1 : Nat) : R) * (if k + 1 = 1 then 1 else 0) = if k = 0 then 1 else 0
  by_cases h : k = 0
  · subst h
    have := PS.cast_succ (R := R) 0
    have c0 : ((0 : Nat) : R) = 0 := Semiring.natCast_zero
    rw [if_pos rfl, if_pos rfl]; grind
  · rw [if_neg (by omega), if_neg h]; grind
/-- from a list -/
def ofL (l : List R) : Pol R := ⟨⟨fun k => l.getD k 0⟩, l.length, fun k hk => by show l.getD k 0 = 0; simp [List.getD, List.getElem?_eq_none hk]⟩
theorem ofL_c (l : List R) (k : Nat) : (ofL l).s.c k = l.getD k 0 := rfl
theorem ofL_nil : ofL ([] : List R) = 0 := extc fun k => by rw [zero_c]; rfl
theorem ofL_cons (a : R) (l : List R) : ofL (a :: l) = cst a + X * ofL l := extc fun k => by
  rw [add_c]
  cases k with
  | zero => rw [X_mul0, cst_c, if_pos rfl]; show a = a + 0; grind
  | succ k => rw [X_mul, cst_c, if_neg (by omega)]; show l.getD k 0 = 0 + l.getD k 0; grind
theorem ofL_single (a : R) : ofL [a] = cst a := by rw [ofL_cons, ofL_nil]; grind
/-- a list of the polynomial's length, for a ring in which 0 is told -/
theorem ofL_lt (l : List R) : (ofL l).lt l.length := fun k hk => by rw [ofL_c]; simp [List.getD, List.getElem?_eq_none hk]
end Pol
end Mn

/-! Division, common divisors, irreducible ones over the fractions. -/
namespace Mn
open Lean.Grind
abbrev QP := Pol Rat
namespace QP
open Pol
/-- length n+1: the last number is not 0 -/
def ln (f : QP) (n : Nat) : Prop := f.lt (n + 1) ∧ f.s.c n ≠ 0
theorem ln_ex (f : QP) : f = 0 ∨ ∃ n, ln f n := by
  obtain ⟨m, h⟩ := f.p
  induction m with
  | zero => exact .inl (Pol.ext (PS.lt0 h))
  | succ m ih =>
    by_cases e : f.s.c m = 0
    · refine ih fun k hk => ?_
      by_cases k = m
      · subst k; exact e
      · exact h k (by omega)
    · exact .inr ⟨m, h, e⟩
theorem ln_ne {f : QP} {n : Nat} (h : ln f n) : f ≠ 0 := fun e => h.2 (by rw [e]; exact zero_c n)
theorem ln_mul {f g : QP} {m n : Nat} (h : ln f m) (h' : ln g n) : ln (f * g) (m + n) := by
  refine ⟨PS.lt_mul h'.1 h.1, ?_⟩
  have e : (f * g).s.c (m + n) = f.s.c m * g.s.c n := PS.lead_mul h'.1 h.1
  rw [e]
  have a := h.2
  have b := h'.2
  grind
theorem ln_uniq {f : QP} {m n : Nat} (h : ln f m) (h' : ln f n) : m = n := by
  rcases Nat.lt_trichotomy m n with l | l | l
  · exact absurd (h.1 n (by omega)) h'.2
  · exact l
  · exact absurd (h'.1 m (by omega)) h.2
theorem ln_le {f : QP} {m n : Nat} (h : f.lt m) (h' : ln f n) : n < m := by
  rcases Nat.lt_or_ge n m with l | l
  · exact l
  · exact absurd (h n l) h'.2
theorem no_zero_div {f g : QP} (h : f * g = 0) : f = 0 ∨ g = 0 := by
  rcases ln_ex f with a | ⟨m, a⟩
  · exact .inl a
  · rcases ln_ex g with b | ⟨n, b⟩
    · exact .inr b
    · exact absurd h (ln_ne (ln_mul a b))
theorem mul_cancel {f g h : QP} (e : f * g = f * h) (n : f ≠ 0) : g = h := by
  have : f * (g - h) = 0 := by grind
  rcases no_zero_div this with a | a
  · exact absurd a n
  · grind
instance : Dvd QP := ⟨fun a b => ∃ c, b = a * c⟩
theorem dvd_iff {a b : QP} : a ∣ b ↔ ∃ c, b = a * c := Iff.rfl
theorem dvd_rfl (a : QP) : a ∣ a := ⟨1, by grind⟩
theorem dvd_trans {a b c : QP} (h : a ∣ b) (h' : b ∣ c) : a ∣ c := by
  obtain ⟨x, rfl⟩ := h; obtain ⟨y, rfl⟩ := h'; exact ⟨x * y, by grind⟩
theorem dvd_mul_right {a b : QP} (h : a ∣ b) (c : QP) : a ∣ b * c := by obtain ⟨x, rfl⟩ := h; exact ⟨x * c, by grind⟩
theorem dvd_mul_left {a b : QP} (h : a ∣ b) (c : QP) : a ∣ c * b := by obtain ⟨x, rfl⟩ := h; exact ⟨x * c, by grind⟩
theorem dvd_add {a b c : QP} (h : a ∣ b) (h' : a ∣ c) : a ∣ b + c := by obtain ⟨x, rfl⟩ := h; obtain ⟨y, rfl⟩ := h'; exact ⟨x + y, by grind⟩
theorem dvd_sub {a b c : QP} (h : a ∣ b) (h' : a ∣ c) : a ∣ b - c := by obtain ⟨x, rfl⟩ := h; obtain ⟨y, rfl⟩ := h'; exact ⟨x - y, by grind⟩
theorem dvd_zero (a : QP) : a ∣ 0 := ⟨0, by grind⟩
theorem mul_dvd_mul {a b : QP} (h : a ∣ b) (c : QP) : c * a ∣ c * b := by obtain ⟨x, rfl⟩ := h; exact ⟨x, by grind⟩
theorem dvd_cancel {a b c : QP} (h : c * a ∣ c * b) (n : c ≠ 0) : a ∣ b := by
  obtain ⟨x, e⟩ := h
  exact ⟨x, mul_cancel (f := c) (by grind) n⟩
theorem zero_dvd {a : QP} (h : (0 : QP) ∣ a) : a = 0 := by obtain ⟨x, rfl⟩ := h; grind
theorem ln_dvd {a b : QP} {m n : Nat} (h : a ∣ b) (ha : ln a m) (hb : ln b n) : m ≤ n := by
  obtain ⟨c, rfl⟩ := h
  rcases ln_ex c with e | ⟨k, hc⟩
  · exact absurd (by rw [e]; grind) (ln_ne hb)
  · have := ln_uniq hb (ln_mul ha hc); omega
/-- a constant that is not 0 -/
def unit (f : QP) : Prop := ln f 0
theorem unit_cst {f : QP} (h : unit f) : ∃ a : Rat, a ≠ 0 ∧ f = cst a := ⟨f.s.c 0, h.2, extc fun k => by
  rw [cst_c]
  split
  · subst k; rfl
  · exact h.1 k (by omega)⟩
theorem cst_unit {a : Rat} (h : a ≠ 0) : unit (cst a) := ⟨PS.lt_cst a, h⟩
theorem cst_inv {a : Rat} (h : a ≠ 0) : (cst a : QP) * cst a⁻¹ = 1 := by
  rw [← cst_mul_cst, Rat.mul_inv_cancel a h]; rfl
theorem unit_dvd {f : QP} (h : unit f) (g : QP) : f ∣ g := by
  obtain ⟨a, n, rfl⟩ := unit_cst h
  have := cst_inv n
  exact ⟨cst a⁻¹ * g, by grind⟩
theorem one_unit : unit (1 : QP) := cst_unit (by decide)
theorem dvd_unit {f g : QP} (h : f ∣ g) (u : unit g) : unit f := by
  rcases ln_ex f with a | ⟨m, a⟩
  · subst a; exact absurd (zero_dvd h) (ln_ne u)
  · have := ln_dvd h a u
    have : m = 0 := by omega
    subst this; exact a
theorem dvd_antisymm {f g : QP} (h : f ∣ g) (h' : g ∣ f) : ∃ a : Rat, a ≠ 0 ∧ g = cst a * f := by
  obtain ⟨x, e⟩ := h
  obtain ⟨y, e'⟩ := h'
  by_cases n : f = 0
  · exact ⟨1, by decide, by rw [e, n]; grind⟩
  · have : f * (x * y) = f * 1 := by grind
    have := mul_cancel this n
    have ux : unit x := dvd_unit ⟨y, this.symm⟩ one_unit
    obtain ⟨a, ha, rfl⟩ := unit_cst ux
    exact ⟨a, ha, by grind⟩
/-- division -/
theorem div_ex {b : QP} {n : Nat} (hb : ln b n) : ∀ (k : Nat) (a : QP), a.lt k → ∃ q r : QP, a = q * b + r ∧ r.lt n
  | 0, a, h => ⟨0, a, by grind, fun k _ => h k (Nat.zero_le _)⟩
  | k + 1, a, h => by
    by_cases l : k + 1 ≤ n
    · exact ⟨0, a, by grind, fun j hj => h j (by omega)⟩
    · have key : ∃ m : QP, (m * b).lt (k + 1) ∧ (m * b).s.c k = a.s.c k := by
        have sh : ∀ (j : Nat), ∃ x : QP, x.lt (j + 1) ∧ x.s.c j = 1 := by
          intro j
          induction j with
          | zero => exact ⟨1, PS.lt_cst 1, rfl⟩
          | succ j ih =>
            obtain ⟨x, h1, h2⟩ := ih
            refine ⟨X * x, fun i hi => ?_, by rw [X_mul]; exact h2⟩
            cases i with
            | zero => omega
            | succ i => rw [X_mul]; exact h1 i (by omega)
        obtain ⟨x, h1, h2⟩ := sh (k - n)
        have e1 : (x * b).lt (k - n + n + 1) := PS.lt_mul hb.1 h1
        have e2 : (x * b).s.c (k - n + n) = x.s.c (k - n) * b.s.c n := PS.lead_mul hb.1 h1
        have en : k - n + n = k := by omega
        rw [en] at e1 e2
        refine ⟨cst (a.s.c k / b.s.c n) * x, fun i hi => ?_, ?_⟩
        · have : cst (a.s.c k / b.s.c n) * x * b = cst (a.s.c k / b.s.c n) * (x * b) := by grind
          rw [this, cst_mul, e1 i hi]; grind
        · have : cst (a.s.c k / b.s.c n) * x * b = cst (a.s.c k / b.s.c n) * (x * b) := by grind
          rw [this, cst_mul, e2, h2]
          have := hb.2
          grind
      obtain ⟨m, m1, m2⟩ := key
      have hl : (a - m * b).lt k := fun i hi => by
        rw [sub_c]
        by_cases e : i = k
        · subst e; rw [m2]; grind
        · rw [h i (by omega), m1 i (by omega)]; grind
      obtain ⟨q, r, e, hr⟩ := div_ex hb k (a - m * b) hl
      exact ⟨q + m, r, by grind, hr⟩
/-- g is a greatest common divisor -/
def G (g a b : QP) : Prop := g ∣ a ∧ g ∣ b ∧ ∃ u v : QP, g = u * a + v * b
theorem G.great {g a b d : QP} (h : G g a b) (ha : d ∣ a) (hb : d ∣ b) : d ∣ g := by
  obtain ⟨_, _, u, v, rfl⟩ := h
  exact dvd_add (dvd_mul_left ha u) (dvd_mul_left hb v)
theorem G.comm {g a b : QP} (h : G g a b) : G g b a := by
  obtain ⟨h1, h2, u, v, e⟩ := h
  exact ⟨h2, h1, v, u, by grind⟩
theorem G.zero (a : QP) : G a a 0 := ⟨dvd_rfl a, dvd_zero a, 1, 0, by grind⟩
theorem G.mul {g a b : QP} (h : G g a b) (c : QP) : G (c * g) (c * a) (c * b) := by
  obtain ⟨h1, h2, u, v, e⟩ := h
  exact ⟨mul_dvd_mul h1 c, mul_dvd_mul h2 c, u, v, by grind⟩
theorem G.step {g a b q r : QP} (h : G g b r) (e : a = q * b + r) : G g a b := by
  obtain ⟨h1, h2, u, v, e'⟩ := h
  exact ⟨by rw [e]; exact dvd_add (dvd_mul_left h1 q) h2, h1, v, u - v * q, by grind⟩
theorem G.uniq {g g' a b : QP} (h : G g a b) (h' : G g' a b) : ∃ x : Rat, x ≠ 0 ∧ g' = cst x * g := dvd_antisymm (h'.great h.1 h.2.1) (h.great h'.1 h'.2.1)
theorem dvd_scale {a b : QP} {x : Rat} (n : x ≠ 0) : cst x * a ∣ b ↔ a ∣ b := by
  have i := cst_inv n
  constructor
  · rintro ⟨c, rfl⟩; exact ⟨cst x * c, by grind⟩
  · rintro ⟨c, rfl⟩; exact ⟨cst x⁻¹ * c, by grind⟩
theorem dvd_scale' {a b : QP} {x : Rat} (n : x ≠ 0) : a ∣ cst x * b ↔ a ∣ b := by
  have i := cst_inv n
  constructor
  · rintro ⟨c, e⟩; exact ⟨cst x⁻¹ * c, by grind⟩
  · rintro ⟨c, rfl⟩; exact ⟨cst x * c, by grind⟩
theorem G.scale {g a b : QP} {x y z : Rat} (h : G g a b) (hx : x ≠ 0) (hy : y ≠ 0) (hz : z ≠ 0) : G (cst x * g) (cst y * a) (cst z * b) := by
  obtain ⟨h1, h2, u, v, e⟩ := h
  have i := cst_inv hy
  have j := cst_inv hz
  exact ⟨(dvd_scale hx).mpr ((dvd_scale' hy).mpr h1), (dvd_scale hx).mpr ((dvd_scale' hz).mpr h2), cst x * u * cst y⁻¹, cst x * v * cst z⁻¹, by grind⟩
theorem G_ex : ∀ (n : Nat) (a b : QP), b.lt n → ∃ g, G g a b
  | 0, a, b, h => ⟨a, by rw [show b = 0 from Pol.ext (PS.lt0 h)]; exact G.zero a⟩
  | n + 1, a, b, h => by
    rcases ln_ex b with e | ⟨m, hm⟩
    · exact ⟨a, by rw [e]; exact G.zero a⟩
    · obtain ⟨k, hk⟩ := a.p
      obtain ⟨q, r, e, hr⟩ := div_ex hm k a hk
      have := ln_le h hm
      obtain ⟨g, hg⟩ := G_ex n b r (hr.mono (by omega))
      exact ⟨g, hg.step e⟩
theorem gcd_ex (a b : QP) : ∃ g, G g a b := let ⟨n, h⟩ := b.p; G_ex n a b h
/-- irreducible -/
def Irr (p : QP) : Prop := p ≠ 0 ∧ ¬ unit p ∧ ∀ d : QP, d ∣ p → unit d ∨ p ∣ d
theorem Irr.euclid {p a b : QP} (h : Irr p) (e : p ∣ a * b) : p ∣ a ∨ p ∣ b := by
  obtain ⟨g, g1, g2, u, v, hg⟩ := gcd_ex p a
  rcases h.2.2 g g1 with k | k
  · right
    have : g ∣ 1 := unit_dvd k 1
    obtain ⟨x, hx⟩ := this
    have : b = p * (x * u * b) + x * v * (a * b) := by grind
    rw [this]
    exact dvd_add ⟨_, rfl⟩ (dvd_mul_left e _)
  · exact .inl (dvd_trans k g2)
theorem Irr.ln {p : QP} (h : Irr p) : ∃ n, QP.ln p (n + 1) := by
  rcases ln_ex p with e | ⟨n, e⟩
  · exact absurd e h.1
  · cases n with
    | zero => exact absurd e h.2.1
    | succ n => exact ⟨n, e⟩
theorem irr_ex : ∀ (n : Nat) (f : QP), ln f (n + 1) → ∃ p, Irr p ∧ p ∣ f := by
  intro n
  induction n using Nat.strongRecOn with
  | _ n ih =>
    intro f hf
    by_cases h : Irr f
    · exact ⟨f, h, dvd_rfl f⟩
    · have nu : ¬ unit f := fun u => by have := ln_uniq u hf; omega
      have : ∃ d : QP, d ∣ f ∧ ¬ unit d ∧ ¬ f ∣ d := by
        apply Classical.byContradiction
        intro c
        refine h ⟨ln_ne hf, nu, fun d hd => ?_⟩
        by_cases u : unit d
        · exact .inl u
        · exact .inr (Classical.byContradiction fun k => c ⟨d, hd, u, k⟩)
      obtain ⟨d, hd, ud, fd⟩ := this
      obtain ⟨c, hc⟩ := hd
      rcases ln_ex d with e | ⟨m, hm⟩
      · subst e; exact absurd (by rw [hc]; grind) (ln_ne hf)
      · rcases ln_ex c with e | ⟨k, hk⟩
        · subst e; exact absurd (by rw [hc]; grind) (ln_ne hf)
        · have := ln_uniq hf (hc ▸ ln_mul hm hk)
          cases m with
          | zero => exact absurd hm ud
          | succ m =>
            cases k with
            | zero =>
              refine absurd ?_ fd
              obtain ⟨x, hx, rfl⟩ := unit_cst hk
              rw [hc]
              have : d * cst x = cst x * d := by grind
              rw [this, dvd_scale hx]
              exact dvd_rfl d
            | succ k =>
              obtain ⟨p, hp, hpd⟩ := ih m (by omega) d hm
              exact ⟨p, hp, by rw [hc]; exact dvd_mul_right hpd c⟩
theorem not_unit_irr {f : QP} (h0 : f ≠ 0) (h : ¬ unit f) : ∃ p, Irr p ∧ p ∣ f := by
  rcases ln_ex f with e | ⟨n, e⟩
  · exact absurd e h0
  · cases n with
    | zero => exact absurd e h
    | succ n => exact irr_ex n f e
theorem ln_pow {p : QP} {n : Nat} (h : ln p n) : ∀ e, ln (p ^ e) (e * n)
  | 0 => by rw [Nat.zero_mul, Semiring.pow_zero]; exact one_unit
  | e + 1 => by rw [Semiring.pow_succ, Nat.succ_mul]; exact ln_mul (ln_pow h e) h
/-- how often it divides -/
theorem mult_ex {p f : QP} (h : Irr p) (h0 : f ≠ 0) : ∃ (e : Nat) (s : QP), f = p ^ e * s ∧ ¬ p ∣ s := by
  obtain ⟨n, hn⟩ := h.ln
  rcases ln_ex f with e | ⟨m, hm⟩
  · exact absurd e h0
  have : ∀ (m : Nat) (f : QP), ln f m → ∃ (e : Nat) (s : QP), f = p ^ e * s ∧ ¬ p ∣ s := by
    intro m
    induction m using Nat.strongRecOn with
    | _ m ih =>
      intro f hm
      by_cases d : p ∣ f
      · obtain ⟨c, hc⟩ := d
        rcases ln_ex c with e | ⟨k, hk⟩
        · subst e; exact absurd (by rw [hc]; grind) (ln_ne hm)
        · have := ln_uniq hm (hc ▸ ln_mul hn hk)
          obtain ⟨e, s, h1, h2⟩ := ih k (by omega) c hk
          exact ⟨e + 1, s, by rw [hc, h1, Semiring.pow_succ]; grind, h2⟩
      · exact ⟨0, f, by rw [Semiring.pow_zero]; grind, d⟩
  exact this m f hm
theorem D_pow (p : QP) : ∀ e : Nat, Pol.D (p ^ (e + 1)) = cst ((e + 1 : Nat) : Rat) * (p ^ e * Pol.D p)
  | 0 => by
    have : p ^ (0 + 1) = p := by rw [Semiring.pow_succ, Semiring.pow_zero]; grind
    rw [this, Semiring.pow_zero, show cst ((0 + 1 : Nat) : Rat) = (1 : QP) from rfl]; grind
  | e + 1 => by
    rw [Semiring.pow_succ p (e + 1), D_mul, D_pow p e]
    have : cst ((e + 1 + 1 : Nat) : Rat) = (cst ((e + 1 : Nat) : Rat) + 1 : QP) := by
      rw [← cst_one, ← cst_add, Rat.natCast_add]; rfl
    rw [this, Semiring.pow_succ p e]; grind
theorem D_ln {p : QP} {n : Nat} (h : ln p (n + 1)) : ln (Pol.D p) n := by
  refine ⟨PS.D_lt h.1, ?_⟩
  show ((n + 1 : Nat) : Rat) * p.s.c (n + 1) ≠ 0
  have a := h.2
  have b : ((n + 1 : Nat) : Rat) ≠ 0 := by
    intro e
    have : ((n + 1 : Nat) : Rat) = ((0 : Nat) : Rat) := e
    have := Rat.natCast_inj.mp this
    omega
  grind
theorem Irr.not_D {p : QP} (h : Irr p) : ¬ p ∣ Pol.D p := fun e => by
  obtain ⟨n, hn⟩ := h.ln
  have := ln_dvd e hn (D_ln hn)
  omega
theorem Irr.pow_dvd {p a b : QP} (h : Irr p) (hb : ¬ p ∣ b) : ∀ {e : Nat}, p ^ e ∣ a * b → p ^ e ∣ a
  | 0, _ => ⟨a, by rw [Semiring.pow_zero]; grind⟩
  | e + 1, d => by
    obtain ⟨c, hc⟩ := h.pow_dvd hb (e := e) (dvd_trans ⟨p, by rw [Semiring.pow_succ]⟩ d)
    obtain ⟨x, hx⟩ := d
    have n : p ^ e ≠ 0 := let ⟨m, hm⟩ := h.ln; ln_ne (ln_pow hm e)
    have : c * b = p * x := mul_cancel (f := p ^ e) (by rw [Semiring.pow_succ] at hx; grind) n
    rcases h.euclid ⟨x, this⟩ with k | k
    · obtain ⟨y, rfl⟩ := k
      exact ⟨y, by rw [hc, Semiring.pow_succ]; grind⟩
    · exact absurd k hb
/-- r has each irreducible divisor of f, once -/
def Rad (f r : QP) : Prop := r ≠ 0 ∧ (∀ p, Irr p → (p ∣ r ↔ p ∣ f)) ∧ ∀ p, Irr p → ¬ p * p ∣ r
theorem Rad.dvd {f f' r r' : QP} (h : Rad f r) (h' : Rad f' r') (e : ∀ p, Irr p → (p ∣ f → p ∣ f')) : r ∣ r' := by
  obtain ⟨d, d1, d2, u, v, hd⟩ := gcd_ex r r'
  obtain ⟨c, hc⟩ := d1
  have c0 : c ≠ 0 := fun z => h.1 (by rw [hc, z]; grind)
  by_cases uc : unit c
  · obtain ⟨x, hx, rfl⟩ := unit_cst uc
    rw [hc, show d * cst x = cst x * d by grind, dvd_scale hx]
    exact d2
  · obtain ⟨p, hp, hpc⟩ := not_unit_irr c0 uc
    have hr : p ∣ r := by rw [hc]; exact dvd_mul_left hpc d
    have hr' : p ∣ r' := (h'.2.1 p hp).mpr (e p hp ((h.2.1 p hp).mp hr))
    have hpd : p ∣ d := by rw [hd]; exact dvd_add (dvd_mul_left hr u) (dvd_mul_left hr' v)
    obtain ⟨y, hy⟩ := hpd
    obtain ⟨w, hw⟩ := hpc
    exact absurd ⟨y * w, by rw [hc, hy, hw]; grind⟩ (h.2.2 p hp)
theorem Rad.uniq {f f' r r' : QP} (h : Rad f r) (h' : Rad f' r') (e : ∀ p, Irr p → (p ∣ f ↔ p ∣ f')) : ∃ x : Rat, x ≠ 0 ∧ r' = cst x * r :=
  dvd_antisymm (h.dvd h' fun p hp => (e p hp).mp) (h'.dvd h fun p hp => (e p hp).mpr)
theorem rad_of {f g r : QP} (h0 : f ≠ 0) (hg : G g f (Pol.D f)) (hr : f = g * r) : Rad f r := by
  have g0 : g ≠ 0 := fun e => h0 (by rw [hr, e]; grind)
  have r0 : r ≠ 0 := fun e => h0 (by rw [hr, e]; grind)
  refine ⟨r0, fun p hp => ⟨fun d => by rw [hr]; exact dvd_mul_left d g, fun d => ?_⟩, fun p hp d => ?_⟩
  · apply Classical.byContradiction
    intro nr
    obtain ⟨e, s, he, hs⟩ := mult_ex hp h0
    cases e with
    | zero => exact hs (by rw [he, Semiring.pow_zero] at d; rwa [show (1 : QP) * s = s by grind] at d)
    | succ e =>
      have pg : p ^ (e + 1) ∣ g := hp.pow_dvd nr ⟨s, by rw [← hr, he]⟩
      have pd : p ^ (e + 1) ∣ Pol.D f := dvd_trans pg hg.2.1
      rw [he, D_mul, D_pow] at pd
      obtain ⟨x, hx⟩ := pd
      have n : p ^ e ≠ 0 := let ⟨m, hm⟩ := hp.ln; ln_ne (ln_pow hm e)
      have c := cst_inv (a := ((e + 1 : Nat) : Rat)) (by
        intro e'
        have : ((e + 1 : Nat) : Rat) = ((0 : Nat) : Rat) := e'
        have := Rat.natCast_inj.mp this
        omega)
      have : cst ((e + 1 : Nat) : Rat) * (Pol.D p * s) = p * (x - Pol.D s) := mul_cancel (f := p ^ e) (by rw [Semiring.pow_succ] at hx; grind) n
      have : Pol.D p * s = p * (cst ((e + 1 : Nat) : Rat)⁻¹ * (x - Pol.D s)) := by grind
      rcases hp.euclid ⟨_, this⟩ with k | k
      · exact hp.not_D k
      · exact hs k
  · obtain ⟨a, t, ha, ht⟩ := mult_ex hp g0
    obtain ⟨w, hw⟩ := d
    have e1 : f = p ^ (a + 1 + 1) * (t * w) := by rw [hr, ha, hw, Semiring.pow_succ, Semiring.pow_succ]; grind
    have d1 : p ^ (a + 1) ∣ f := ⟨p * (t * w), by rw [e1, Semiring.pow_succ p (a + 1)]; grind⟩
    have d2 : p ^ (a + 1) ∣ Pol.D f := by
      rw [e1, D_mul, D_pow]
      exact ⟨cst ((a + 1 + 1 : Nat) : Rat) * Pol.D p * (t * w) + p * Pol.D (t * w), by rw [Semiring.pow_succ p (a + 1)]; grind⟩
    have := hg.great d1 d2
    rw [ha] at this
    obtain ⟨x, hx⟩ := this
    have n : p ^ a ≠ 0 := let ⟨m, hm⟩ := hp.ln; ln_ne (ln_pow hm a)
    exact ht ⟨x, mul_cancel (f := p ^ a) (by rw [Semiring.pow_succ] at hx; grind) n⟩
end QP
end Mn

namespace Mn.k21
open PySem PySem.Spec PyProof.Rows L2
def st (j : Nat) : Stmt := PySem.Challenge.pw_roothold_k21_sums_of_powers_of_products.main.body.getD j (.Pass ⟨0, 0, 0, 0⟩)
def d0 : De := ⟨"common_divisor", "common_divisor", st 4, ["one", "two"], ["one", "two"]⟩
def d1 : De := ⟨"ratio", "ratio", st 5, ["numerator", "denominator", "divisor"], ["numerator", "denominator"]⟩
def d2 : De := ⟨"plus", "plus", st 6, ["one", "two"], ["one", "two"]⟩
def d3 : De := ⟨"times_ratios", "times", st 7, ["one", "two"], ["one", "two"]⟩
def d4 : De := ⟨"over", "over", st 9, ["one", "two"], ["one", "two"]⟩
def d5 : De := ⟨"trimmed", "trimmed", st 11, ["numbers", "found"], ["numbers"]⟩
def d6 : De := ⟨"scaled", "scaled", st 12, ["one", "number", "entry"], ["one", "number"]⟩
def d7 : De := ⟨"times", "times", st 13, ["one", "two", "found", "place", "number", "other", "entry"], ["one", "two"]⟩
def d8 : De := ⟨"times_single", "times", st 13, ["one", "two", "found", "place", "number", "other", "entry"], ["one", "two"]⟩
def d9 : De := ⟨"content", "content", st 15, ["one", "found", "number"], ["one"]⟩
def d10 : De := ⟨"lowered", "lowered", st 16, ["one", "divisor", "number"], ["one"]⟩
def d11 : De := ⟨"primitive", "primitive", st 17, ["one", "found"], ["one"]⟩
def d12 : De := ⟨"turned", "turned", st 18, ["one", "place", "number"], ["one"]⟩
def d13 : De := ⟨"power_sums", "power_sums", st 20, ["one", "count", "degree", "found", "size", "whole", "place"], ["one", "count"]⟩
def d14 : De := ⟨"weighed_sums", "weighed_sums", st 21, ["one", "two", "count", "sums", "found", "size", "whole", "place", "number"], ["one", "two", "count"]⟩
def d15 : De := ⟨"from_sums", "from_sums", st 22, ["sums", "values", "size", "bottom", "value", "found", "whole", "place"], ["sums"]⟩
def d16 : De := ⟨"_law_cell", "_law_cell", st 24, ["script", "k", "cell"], ["script", "k"]⟩
def d17 : De := ⟨"_law_big", "_law_big", st 25, ["script", "at", "count", "found", "k"], ["script", "at", "count"]⟩
def d18 : De := ⟨"_law_take", "_law_take", st 26, ["state", "m", "x"], ["state", "m"]⟩
def d19 : De := ⟨"_law_short", "_law_short", st 27, ["pair", "a", "b", "turn"], ["pair"]⟩
def d20 : De := ⟨"_law_add", "_law_add", st 28, ["one", "two", "found", "k", "turn"], ["one", "two"]⟩
def d21 : De := ⟨"_law_minus", "_law_minus", st 29, ["at"], ["at"]⟩
def d22 : De := ⟨"_law_plus", "_law_plus", st 30, ["one", "two"], ["one", "two"]⟩
def d23 : De := ⟨"_law_by", "_law_by", st 31, ["one", "two"], ["one", "two"]⟩
def d24 : De := ⟨"_law_p", "_law_p", st 32, ["state", "degree", "size", "k"], ["state", "degree", "size"]⟩
def d25 : De := ⟨"_law_some", "_law_some", st 33, ["state", "degree", "size", "found"], ["state", "degree", "size"]⟩
def dL : De := ⟨"law", "law", st 34, ["script", "state", "by", "k", "one", "two", "third", "count", "first", "second", "wide", "factor", "top", "sizes", "left", "right", "number"], ["script"]⟩
def defs : List De := [d0, d1, d2, d3, d4, d5, d6, d7, d8, d9, d10, d11, d12, d13, d14, d15, d16, d17, d18, d19, d20, d21, d22, d23, d24, d25]
def PP : List Fn := pOf 60 defs
def lawB : MSs := compB 60 (ccOf (gOf 0 defs) (some "state") dL) (defBody dL.st)
end Mn.k21

namespace Mn
open PySem L2
/-- common_divisor -/
def B.common_divisor : Fn := ⟨2, 2, (.cons (.par [] [0, 1] (.cons (.bi .abs (.cons (.nvar 0) .nil)) (.cons (.bi .abs (.cons (.nvar 1) .nil)) .nil))) (.cons (.whl [] (.cmp .gt (.nvar 1) (.lit (.int (0)))) (.cons (.par [1] [0, 1] (.cons (.var 1) (.cons (.bin .mod (.nvar 0) (.nvar 1)) .nil))) .nil)) (.cons (.retv 0) .nil)))⟩
/-- ratio: calls common_divisor -/
def B.ratio (i0 : Nat) : Fn := ⟨2, 3, (.cons (.ite [] (.cmp .eq (.nvar 1) (.lit (.int (0)))) (.cons .never .nil) .nil) (.cons (.asg [0, 1] 2 (.call i0 (.cons (.var 0) (.cons (.var 1) .nil)))) (.cons (.ite [] (.cmp .lt (.nvar 1) (.lit (.int (0)))) (.cons (.asg [2] 2 (.neg (.var 2))) .nil) .nil) (.cons (.ret [] (.tup (.cons (.bin .fdiv (.nvar 0) (.nvar 2)) (.cons (.bin .fdiv (.nvar 1) (.nvar 2)) .nil)))) .nil))))⟩
/-- is_ratio: calls common_divisor -/
def B.is_ratio (i0 : Nat) : Fn := ⟨1, 1, (.cons (.ret [] (.and (.cmp .gt (.sub (.nvar 0) (.lit (.int (1)))) (.lit (.int (0)))) (.cmp .eq (.call i0 (.cons (.sub (.nvar 0) (.lit (.int (0)))) (.cons (.sub (.nvar 0) (.lit (.int (1)))) .nil))) (.lit (.int (1)))))) .nil)⟩
/-- plus: calls ratio -/
def B.plus (i0 : Nat) : Fn := ⟨2, 2, (.cons (.ret [] (.call i0 (.cons (.bin .add (.bin .mul (.sub (.nvar 0) (.lit (.int (0)))) (.sub (.nvar 1) (.lit (.int (1))))) (.bin .mul (.sub (.nvar 1) (.lit (.int (0)))) (.sub (.nvar 0) (.lit (.int (1)))))) (.cons (.bin .mul (.sub (.nvar 0) (.lit (.int (1)))) (.sub (.nvar 1) (.lit (.int (1))))) .nil)))) .nil)⟩
/-- minus: calls ratio -/
def B.minus (i0 : Nat) : Fn := ⟨2, 2, (.cons (.ret [] (.call i0 (.cons (.bin .sub (.bin .mul (.sub (.nvar 0) (.lit (.int (0)))) (.sub (.nvar 1) (.lit (.int (1))))) (.bin .mul (.sub (.nvar 1) (.lit (.int (0)))) (.sub (.nvar 0) (.lit (.int (1)))))) (.cons (.bin .mul (.sub (.nvar 0) (.lit (.int (1)))) (.sub (.nvar 1) (.lit (.int (1))))) .nil)))) .nil)⟩
/-- times_ratios: calls ratio -/
def B.times_ratios (i0 : Nat) : Fn := ⟨2, 2, (.cons (.ret [] (.call i0 (.cons (.bin .mul (.sub (.nvar 0) (.lit (.int (0)))) (.sub (.nvar 1) (.lit (.int (0))))) (.cons (.bin .mul (.sub (.nvar 0) (.lit (.int (1)))) (.sub (.nvar 1) (.lit (.int (1))))) .nil)))) .nil)⟩
/-- over: calls ratio -/
def B.over (i0 : Nat) : Fn := ⟨2, 2, (.cons (.ret [] (.call i0 (.cons (.bin .mul (.sub (.nvar 0) (.lit (.int (0)))) (.sub (.nvar 1) (.lit (.int (1))))) (.cons (.bin .mul (.sub (.nvar 0) (.lit (.int (1)))) (.sub (.nvar 1) (.lit (.int (0))))) .nil)))) .nil)⟩
/-- sign -/
def B.sign : Fn := ⟨1, 1, (.cons (.ite [] (.cmp .gt (.nvar 0) (.lit (.int (0)))) (.cons (.ret [] (.lit (.int (1)))) .nil) .nil) (.cons (.ret [] (.ite (.cmp .lt (.nvar 0) (.lit (.int (0)))) (.neg (.lit (.int (1)))) (.lit (.int (0))))) .nil))⟩
/-- compare: calls sign -/
def B.compare (i0 : Nat) : Fn := ⟨2, 2, (.cons (.ret [] (.call i0 (.cons (.bin .sub (.bin .mul (.sub (.nvar 0) (.lit (.int (0)))) (.sub (.nvar 1) (.lit (.int (1))))) (.bin .mul (.sub (.nvar 1) (.lit (.int (0)))) (.sub (.nvar 0) (.lit (.int (1)))))) .nil))) .nil)⟩
/-- middle: calls over, plus -/
def B.middle (i0 i1 : Nat) : Fn := ⟨2, 2, (.cons (.ret [0, 1] (.call i0 (.cons (.call i1 (.cons (.var 0) (.cons (.var 1) .nil))) (.cons (.tup (.cons (.lit (.int (2))) (.cons (.lit (.int (1))) .nil))) .nil)))) .nil)⟩
/-- floor_of -/
def B.floor_of : Fn := ⟨1, 1, (.cons (.ret [] (.bin .fdiv (.sub (.nvar 0) (.lit (.int (0)))) (.sub (.nvar 0) (.lit (.int (1)))))) .nil)⟩
/-- ceiling_of -/
def B.ceiling_of : Fn := ⟨1, 1, (.cons (.ret [] (.neg (.bin .fdiv (.neg (.sub (.nvar 0) (.lit (.int (0))))) (.sub (.nvar 0) (.lit (.int (1))))))) .nil)⟩
/-- integer_between: calls floor_of, compare, ceiling_of -/
def B.integer_between (i0 i1 i2 : Nat) : Fn := ⟨2, 3, (.cons (.asg [0] 2 (.call i0 (.cons (.var 0) .nil))) (.cons (.ite [1] (.cmp .ge (.call i1 (.cons (.tup (.cons (.bin .add (.nvar 2) (.lit (.int (1)))) (.cons (.lit (.int (1))) .nil))) (.cons (.var 1) .nil))) (.lit (.int (0)))) (.cons (.ret [] (.lit .non)) .nil) .nil) (.cons (.ite [] (.chain .lt .lt (.sub (.nvar 0) (.lit (.int (0)))) (.lit (.int (0))) (.sub (.nvar 1) (.lit (.int (0))))) (.cons (.ret [] (.lit (.int (0)))) .nil) .nil) (.cons (.ite [] (.cmp .le (.sub (.nvar 1) (.lit (.int (0)))) (.lit (.int (0)))) (.cons (.ret [1] (.bin .sub (.call i2 (.cons (.var 1) .nil)) (.lit (.int (1))))) .nil) .nil) (.cons (.ret [] (.bin .add (.nvar 2) (.lit (.int (1))))) .nil)))))⟩
/-- simplest_between: calls integer_between, floor_of, minus, over, built -/
def B.simplest_between (i0 i1 i2 i3 i4 : Nat) : Fn := ⟨2, 7, (.cons (.asg [] 2 (.lst .nil)) (.cons (.whl [0, 1] (.cmp .isn (.call i0 (.cons (.var 0) (.cons (.var 1) .nil))) (.lit .non)) (.cons (.asg [0] 3 (.call i1 (.cons (.var 0) .nil))) (.cons (.asg [0, 3] 4 (.call i2 (.cons (.var 0) (.cons (.tup (.cons (.var 3) (.cons (.lit (.int (1))) .nil))) .nil)))) (.cons (.asg [1, 3] 5 (.call i2 (.cons (.var 1) (.cons (.tup (.cons (.var 3) (.cons (.lit (.int (1))) .nil))) .nil)))) (.cons (.app [3] 2 (.var 3)) (.cons (.ite [] (.cmp .eq (.sub (.nvar 4) (.lit (.int (0)))) (.lit (.int (0)))) (.cons (.asg [5] 6 (.tup (.cons (.bin .add (.call i1 (.cons (.call i3 (.cons (.tup (.cons (.lit (.int (1))) (.cons (.lit (.int (1))) .nil))) (.cons (.var 5) .nil))) .nil)) (.lit (.int (1)))) (.cons (.lit (.int (1))) .nil)))) (.cons (.ret [2, 6] (.call i4 (.cons (.var 2) (.cons (.var 6) .nil)))) .nil)) .nil) (.cons (.par [5, 4] [0, 1] (.cons (.call i3 (.cons (.tup (.cons (.lit (.int (1))) (.cons (.lit (.int (1))) .nil))) (.cons (.var 5) .nil))) (.cons (.call i3 (.cons (.tup (.cons (.lit (.int (1))) (.cons (.lit (.int (1))) .nil))) (.cons (.var 4) .nil))) .nil))) .nil))))))) (.cons (.ret [2, 0, 1] (.call i4 (.cons (.var 2) (.cons (.tup (.cons (.call i0 (.cons (.var 0) (.cons (.var 1) .nil))) (.cons (.lit (.int (1))) .nil))) .nil)))) .nil)))⟩
/-- built: calls plus, over -/
def B.built (i0 i1 : Nat) : Fn := ⟨2, 4, (.cons (.asg [1] 2 (.var 1)) (.cons (.loop [0] (.nm 3) (.rv (.var 0)) (.cons (.asg [3, 2] 2 (.call i0 (.cons (.tup (.cons (.var 3) (.cons (.lit (.int (1))) .nil))) (.cons (.call i1 (.cons (.tup (.cons (.lit (.int (1))) (.cons (.lit (.int (1))) .nil))) (.cons (.var 2) .nil))) .nil)))) .nil)) (.cons (.retv 2) .nil)))⟩
/-- _law_cell -/
def B._law_cell : Fn := ⟨2, 3, (.cons (.ite [] (.and (.cmp .lt (.nvar 1) (.bi .len (.cons (.nvar 0) .nil))) (.cmp .ge (.sub (.nvar 0) (.nvar 1)) (.bin .pow (.lit (.int (10))) (.lit (.int (9)))))) (.cons (.ret [] (.sub (.nvar 0) (.nvar 1))) .nil) .nil) (.cons (.asg [] 2 (.bin .add (.bin .mul (.lit (.int (7))) (.nvar 1)) (.lit (.int (1))))) (.cons (.ite [] (.cmp .gt (.bi .len (.cons (.nvar 0) .nil)) (.lit (.int (0)))) (.cons (.asg [] 2 (.bin .add (.nvar 2) (.bin .mul (.lit (.int (31))) (.sub (.nvar 0) (.bin .mod (.bi .int (.cons (.nvar 1) .nil)) (.bi .len (.cons (.nvar 0) .nil))))))) .nil) .nil) (.cons (.asg [] 2 (.bin .mod (.bi .int (.cons (.bin .add (.bin .mul (.nvar 2) (.lit (.int (48271)))) (.bin .mul (.lit (.int (69621))) (.nvar 1))) .nil)) (.lit (.int (2147483647))))) (.cons (.ret [] (.bin .mod (.bi .int (.cons (.bin .add (.bin .mul (.nvar 2) (.nvar 2)) (.bin .mul (.lit (.int (48271))) (.bin .fdiv (.nvar 2) (.lit (.int (1000)))))) .nil)) (.lit (.int (2147483629))))) .nil)))))⟩
/-- _law_big: calls _law_cell -/
def B._law_big (i0 : Nat) : Fn := ⟨3, 5, (.cons (.asg [] 3 (.lit (.int (0)))) (.cons (.loop [] (.nm 4) (.rg1 (.nvar 2)) (.cons (.asg [0] 3 (.bin .add (.bin .mul (.nvar 3) (.lit (.int (2147483648)))) (.call i0 (.cons (.var 0) (.cons (.bin .add (.nvar 1) (.nvar 4)) .nil))))) .nil)) (.cons (.ret [3] (.lst (.cons (.var 3) .nil))) .nil)))⟩
/-- _law_take -/
def B._law_take : Fn := ⟨2, 3, (.cons (.asg [] 2 (.bin .mod (.bi .int (.cons (.sub (.nvar 0) (.lit (.int (0)))) .nil)) (.nvar 1))) (.cons (.set [] 0 (.lit (.int (0))) (.bi .int (.cons (.bin .fdiv (.sub (.nvar 0) (.lit (.int (0)))) (.nvar 1)) .nil))) (.cons (.retv 2) .nil)))⟩
/-- _law_short -/
def B._law_short : Fn := ⟨1, 4, (.cons (.asg [] 1 (.bi .abs (.cons (.sub (.nvar 0) (.lit (.int (0)))) .nil))) (.cons (.asg [] 2 (.sub (.nvar 0) (.lit (.int (1))))) (.cons (.loop [] (.nm 3) (.rg1 (.lit (.int (40000)))) (.cons (.ite [] (.cmp .eq (.nvar 2) (.lit (.int (0)))) (.cons .brk .nil) .nil) (.cons (.par [2] [1, 2] (.cons (.var 2) (.cons (.bin .mod (.bi .int (.cons (.nvar 1) .nil)) (.nvar 2)) .nil))) .nil))) (.cons (.ret [] (.tup (.cons (.bin .fdiv (.sub (.nvar 0) (.lit (.int (0)))) (.nvar 1)) (.cons (.bin .fdiv (.sub (.nvar 0) (.lit (.int (1)))) (.nvar 1)) .nil)))) .nil))))⟩
/-- _law_f: calls _law_short, _law_take -/
def B._law_f (i0 i1 : Nat) : Fn := ⟨2, 2, (.cons (.ret [0, 0] (.call i0 (.cons (.tup (.cons (.bin .sub (.call i1 (.cons (.var 0) (.cons (.bin .add (.bin .mul (.lit (.int (2))) (.nvar 1)) (.lit (.int (1)))) .nil))) (.nvar 1)) (.cons (.bin .add (.lit (.int (1))) (.call i1 (.cons (.var 0) (.cons (.lit (.int (3))) .nil)))) .nil))) .nil))) .nil)⟩
/-- _law_minus -/
def B._law_minus : Fn := ⟨1, 1, (.cons (.ret [] (.tup (.cons (.neg (.sub (.nvar 0) (.lit (.int (0))))) (.cons (.sub (.nvar 0) (.lit (.int (1)))) .nil)))) .nil)⟩
/-- trimmed -/
def B.trimmed : Fn := ⟨1, 2, (.cons (.asg [] 1 (.bi .list (.cons (.nvar 0) .nil))) (.cons (.whl [] (.and (.cmp .ne (.nvar 1) (.lst .nil)) (.cmp .eq (.sub (.nvar 1) (.neg (.lit (.int (1))))) (.lit (.int (0))))) (.cons (.popx 1) .nil)) (.cons (.retv 1) .nil)))⟩
/-- added: calls trimmed -/
def B.added (i0 : Nat) : Fn := ⟨2, 5, (.cons (.asg [] 2 (.bin .mul (.lst (.cons (.lit (.int (0))) .nil)) (.bi .max2 (.cons (.bi .len (.cons (.nvar 0) .nil)) (.cons (.bi .len (.cons (.nvar 1) .nil)) .nil))))) (.cons (.loop [0] (.tp [3, 4]) (.en (.var 0)) (.cons (.augS [4] .add 2 (.nvar 3) (.var 4)) .nil)) (.cons (.loop [1] (.tp [3, 4]) (.en (.var 1)) (.cons (.augS [4] .add 2 (.nvar 3) (.var 4)) .nil)) (.cons (.ret [2] (.call i0 (.cons (.var 2) .nil))) .nil))))⟩
/-- scaled: calls trimmed -/
def B.scaled (i0 : Nat) : Fn := ⟨2, 3, (.cons (.ret [] (.call i0 (.cons (.comp (.bin .mul (.nvar 1) (.nvar 2)) (.nm 2) (.ls (.nvar 0)) .none [2]) .nil))) .nil)⟩
/-- taken: calls added, scaled -/
def B.taken (i0 i1 : Nat) : Fn := ⟨2, 2, (.cons (.ret [0, 1] (.call i0 (.cons (.var 0) (.cons (.call i1 (.cons (.var 1) (.cons (.neg (.lit (.int (1)))) .nil))) .nil)))) .nil)⟩
/-- times: calls trimmed -/
def B.times (i0 : Nat) : Fn := ⟨2, 7, (.cons (.asg [] 2 (.bin .mul (.lst (.cons (.lit (.int (0))) .nil)) (.bi .max2 (.cons (.lit (.int (0))) (.cons (.bin .sub (.bin .add (.bi .len (.cons (.nvar 0) .nil)) (.bi .len (.cons (.nvar 1) .nil))) (.lit (.int (1)))) .nil))))) (.cons (.loop [0] (.tp [3, 4]) (.en (.var 0)) (.cons (.loop [1] (.tp [5, 6]) (.en (.var 1)) (.cons (.augS [] .add 2 (.bin .add (.nvar 3) (.nvar 5)) (.bin .mul (.nvar 4) (.nvar 6))) .nil)) .nil)) (.cons (.ret [2] (.call i0 (.cons (.var 2) .nil))) .nil)))⟩
/-- power: calls times -/
def B.power (i0 : Nat) : Fn := ⟨2, 4, (.cons (.asg [] 2 (.lst (.cons (.lit (.int (1))) .nil))) (.cons (.loop [] (.nm 3) (.rg1 (.nvar 1)) (.cons (.asg [2, 0] 2 (.call i0 (.cons (.var 2) (.cons (.var 0) .nil)))) .nil)) (.cons (.retv 2) .nil)))⟩
/-- slope: calls trimmed -/
def B.slope (i0 : Nat) : Fn := ⟨1, 3, (.cons (.ret [] (.call i0 (.cons (.slice (.comp (.bin .mul (.nvar 1) (.nvar 2)) (.tp [1, 2]) (.en (.nvar 0)) .none [1, 2]) (.some (.lit (.int (1)))) .none) .nil))) .nil)⟩
/-- divided: calls trimmed -/
def B.divided (i0 : Nat) : Fn := ⟨2, 8, (.cons (.ite [] (.cmp .eq (.nvar 1) (.lst .nil)) (.cons .never .nil) .nil) (.cons (.asg [] 2 (.bi .list (.cons (.nvar 0) .nil))) (.cons (.asg [] 3 (.bin .mul (.lst (.cons (.lit (.int (0))) .nil)) (.bi .max2 (.cons (.lit (.int (0))) (.cons (.bin .add (.bin .sub (.bi .len (.cons (.nvar 0) .nil)) (.bi .len (.cons (.nvar 1) .nil))) (.lit (.int (1)))) .nil))))) (.cons (.whl [] (.cmp .ge (.bi .len (.cons (.nvar 2) .nil)) (.bi .len (.cons (.nvar 1) .nil))) (.cons (.ite [] (.cmp .ne (.bin .mod (.sub (.nvar 2) (.neg (.lit (.int (1))))) (.sub (.nvar 1) (.neg (.lit (.int (1)))))) (.lit (.int (0)))) (.cons (.ret [] (.lit .non)) .nil) .nil) (.cons (.asg [] 4 (.bin .fdiv (.sub (.nvar 2) (.neg (.lit (.int (1))))) (.sub (.nvar 1) (.neg (.lit (.int (1))))))) (.cons (.asg [] 5 (.bin .sub (.bi .len (.cons (.nvar 2) .nil)) (.bi .len (.cons (.nvar 1) .nil)))) (.cons (.set [4] 3 (.nvar 5) (.var 4)) (.cons (.loop [1] (.tp [6, 7]) (.en (.var 1)) (.cons (.augS [] .sub 2 (.bin .add (.nvar 5) (.nvar 6)) (.bin .mul (.nvar 4) (.nvar 7))) .nil)) (.cons (.asg [2] 2 (.call i0 (.cons (.var 2) .nil))) .nil))))))) (.cons (.ite [] (.cmp .ne (.nvar 2) (.lst .nil)) (.cons (.ret [] (.lit .non)) .nil) .nil) (.cons (.ret [3] (.call i0 (.cons (.var 3) .nil))) .nil))))))⟩
/-- put_in: calls added, times, trimmed -/
def B.put_in (i0 i1 i2 : Nat) : Fn := ⟨2, 4, (.cons (.asg [] 2 (.lst .nil)) (.cons (.loop [0] (.nm 3) (.rv (.var 0)) (.cons (.asg [2, 1, 3] 2 (.call i0 (.cons (.call i1 (.cons (.var 2) (.cons (.var 1) .nil))) (.cons (.call i2 (.cons (.lst (.cons (.var 3) .nil)) .nil)) .nil)))) .nil)) (.cons (.retv 2) .nil)))⟩
/-- unity -/
def B.unity : Fn := ⟨1, 1, (.cons (.ret [] (.bin .add (.bin .add (.lst (.cons (.neg (.lit (.int (1)))) .nil)) (.bin .mul (.lst (.cons (.lit (.int (0))) .nil)) (.bin .sub (.nvar 0) (.lit (.int (1)))))) (.lst (.cons (.lit (.int (1))) .nil)))) .nil)⟩
/-- cyclotomic: calls unity, divided, cyclotomic -/
def B.cyclotomic (i0 i1 i2 : Nat) : Fn := ⟨1, 3, (.cons (.asg [0] 1 (.call i0 (.cons (.var 0) .nil))) (.cons (.loop [] (.nm 2) (.rg2 (.lit (.int (1))) (.nvar 0)) (.cons (.ite [] (.cmp .eq (.bin .mod (.nvar 0) (.nvar 2)) (.lit (.int (0)))) (.cons (.asg [1, 2] 1 (.call i1 (.cons (.var 1) (.cons (.call i2 (.cons (.var 2) .nil)) .nil)))) .nil) .nil) .nil)) (.cons (.retv 1) .nil)))⟩
/-- coprime_count: calls cyclotomic -/
def B.coprime_count (i0 : Nat) : Fn := ⟨1, 1, (.cons (.ret [0] (.bin .sub (.bi .len (.cons (.call i0 (.cons (.var 0) .nil)) .nil)) (.lit (.int (1))))) .nil)⟩
/-- chebyshev: calls taken, times -/
def B.chebyshev (i0 i1 : Nat) : Fn := ⟨1, 4, (.cons (.par [] [2, 3] (.cons (.lst (.cons (.lit (.int (1))) .nil)) (.cons (.lst (.cons (.lit (.int (0))) (.cons (.lit (.int (1))) .nil))) .nil))) (.cons (.loop [] (.nm 1) (.rg1 (.nvar 0)) (.cons (.par [3, 3, 2] [2, 3] (.cons (.var 3) (.cons (.call i0 (.cons (.call i1 (.cons (.lst (.cons (.lit (.int (0))) (.cons (.lit (.int (2))) .nil))) (.cons (.var 3) .nil))) (.cons (.var 2) .nil))) .nil))) .nil)) (.cons (.retv 2) .nil)))⟩
/-- chebyshev_two: calls taken, times -/
def B.chebyshev_two (i0 i1 : Nat) : Fn := ⟨1, 4, (.cons (.par [] [2, 3] (.cons (.lst (.cons (.lit (.int (1))) .nil)) (.cons (.lst (.cons (.lit (.int (0))) (.cons (.lit (.int (2))) .nil))) .nil))) (.cons (.loop [] (.nm 1) (.rg1 (.nvar 0)) (.cons (.par [3, 3, 2] [2, 3] (.cons (.var 3) (.cons (.call i0 (.cons (.call i1 (.cons (.lst (.cons (.lit (.int (0))) (.cons (.lit (.int (2))) .nil))) (.cons (.var 3) .nil))) (.cons (.var 2) .nil))) .nil))) .nil)) (.cons (.retv 2) .nil)))⟩
/-- double_cosine: calls taken, times -/
def B.double_cosine (i0 i1 : Nat) : Fn := ⟨1, 4, (.cons (.par [] [2, 3] (.cons (.lst (.cons (.lit (.int (2))) .nil)) (.cons (.lst (.cons (.lit (.int (0))) (.cons (.lit (.int (1))) .nil))) .nil))) (.cons (.loop [] (.nm 1) (.rg1 (.nvar 0)) (.cons (.par [3, 3, 2] [2, 3] (.cons (.var 3) (.cons (.call i0 (.cons (.call i1 (.cons (.lst (.cons (.lit (.int (0))) (.cons (.lit (.int (1))) .nil))) (.cons (.var 3) .nil))) (.cons (.var 2) .nil))) .nil))) .nil)) (.cons (.retv 2) .nil)))⟩
/-- cosine_poly: calls cyclotomic, double_cosine, taken, scaled -/
def B.cosine_poly (i0 i1 i2 i3 : Nat) : Fn := ⟨1, 6, (.cons (.asg [0] 1 (.call i0 (.cons (.var 0) .nil))) (.cons (.asg [] 2 (.bin .fdiv (.bin .sub (.bi .len (.cons (.nvar 1) .nil)) (.lit (.int (1)))) (.lit (.int (2))))) (.cons (.asg [] 3 (.lst .nil)) (.cons (.loop [] (.nm 4) (.rg1 (.bin .add (.nvar 2) (.lit (.int (1))))) (.cons (.asg [4] 5 (.ite (.cmp .gt (.nvar 4) (.lit (.int (0)))) (.call i1 (.cons (.var 4) .nil)) (.lst (.cons (.lit (.int (1))) .nil)))) (.cons (.asg [3, 5] 3 (.call i2 (.cons (.var 3) (.cons (.call i3 (.cons (.var 5) (.cons (.neg (.sub (.nvar 1) (.bin .add (.nvar 2) (.nvar 4)))) .nil))) .nil)))) .nil))) (.cons (.retv 3) .nil)))))⟩
/-- multiple_of: calls put_in, chebyshev -/
def B.multiple_of (i0 i1 : Nat) : Fn := ⟨2, 2, (.cons (.ret [0, 1] (.call i0 (.cons (.var 0) (.cons (.call i1 (.cons (.var 1) .nil)) .nil)))) .nil)⟩
/-- next_row: calls taken, times, scaled -/
def B.next_row (i0 i1 i2 : Nat) : Fn := ⟨3, 6, (.cons (.asgT [2] [3, 4, 5] (.var 2)) (.cons (.ret [3, 4, 0, 1, 5] (.call i0 (.cons (.call i1 (.cons (.lst (.cons (.var 3) (.cons (.var 4) .nil))) (.cons (.var 0) .nil))) (.cons (.call i2 (.cons (.var 1) (.cons (.var 5) .nil))) .nil)))) .nil))⟩
/-- hermite_row: calls next_row -/
def B.hermite_row (i0 : Nat) : Fn := ⟨1, 3, (.cons (.asg [] 1 (.lst (.cons (.lst (.cons (.lit (.int (1))) .nil)) (.cons (.lst (.cons (.lit (.int (0))) (.cons (.lit (.int (2))) .nil))) .nil)))) (.cons (.loop [] (.nm 2) (.rg2 (.lit (.int (1))) (.nvar 0)) (.cons (.app [] 1 (.call i0 (.cons (.sub (.nvar 1) (.neg (.lit (.int (1))))) (.cons (.sub (.nvar 1) (.neg (.lit (.int (2))))) (.cons (.tup (.cons (.lit (.int (0))) (.cons (.lit (.int (2))) (.cons (.bin .mul (.lit (.int (2))) (.nvar 2)) .nil)))) .nil))))) .nil)) (.cons (.ret [] (.slice (.nvar 1) .none (.some (.bin .add (.nvar 0) (.lit (.int (1))))))) .nil)))⟩
/-- _law_add -/
def B._law_add : Fn := ⟨2, 5, (.cons (.asg [] 2 (.bin .mul (.lst (.cons (.lit (.int (0))) .nil)) (.bi .max2 (.cons (.bi .len (.cons (.nvar 0) .nil)) (.cons (.bi .len (.cons (.nvar 1) .nil)) .nil))))) (.cons (.loop [] (.nm 3) (.rg1 (.bi .len (.cons (.nvar 0) .nil))) (.cons (.set [] 2 (.nvar 3) (.bin .add (.sub (.nvar 2) (.nvar 3)) (.sub (.nvar 0) (.nvar 3)))) .nil)) (.cons (.loop [] (.nm 3) (.rg1 (.bi .len (.cons (.nvar 1) .nil))) (.cons (.set [] 2 (.nvar 3) (.bin .add (.sub (.nvar 2) (.nvar 3)) (.sub (.nvar 1) (.nvar 3)))) .nil)) (.cons (.loop [] (.nm 4) (.rg1 (.bi .len (.cons (.nvar 2) .nil))) (.cons (.ite [] (.or (.cmp .eq (.nvar 2) (.lst .nil)) (.cmp .ne (.sub (.nvar 2) (.neg (.lit (.int (1))))) (.lit (.int (0))))) (.cons .brk .nil) .nil) (.cons (.popx 2) .nil))) (.cons (.retv 2) .nil)))))⟩
/-- _law_p: calls _law_add, _law_take -/
def B._law_p (i0 i1 : Nat) : Fn := ⟨3, 4, (.cons (.ret [0, 0] (.call i0 (.cons (.comp (.bin .sub (.call i1 (.cons (.var 0) (.cons (.bin .add (.bin .mul (.lit (.int (2))) (.nvar 2)) (.lit (.int (1)))) .nil))) (.nvar 2)) (.nm 3) (.rg1 (.bin .add (.lit (.int (1))) (.call i1 (.cons (.var 0) (.cons (.bin .add (.nvar 1) (.lit (.int (1)))) .nil))))) .none [3]) (.cons (.lst .nil) .nil)))) .nil)⟩
/-- determinant -/
def B.determinant : Fn := ⟨1, 10, (.cons (.asg [] 0 (.comp (.bi .list (.cons (.nvar 7) .nil)) (.nm 7) (.ls (.nvar 0)) .none [7])) (.cons (.asg [] 1 (.bi .len (.cons (.nvar 0) .nil))) (.cons (.asg [] 2 (.lit (.int (1)))) (.cons (.asg [] 3 (.lit (.int (1)))) (.cons (.loop [] (.nm 4) (.rg1 (.bin .sub (.nvar 1) (.lit (.int (1))))) (.cons (.asg [] 5 (.comp (.var 6) (.nm 6) (.rg2 (.nvar 4) (.nvar 1)) (.some (.cmp .ne (.sub (.sub (.nvar 0) (.nvar 6)) (.nvar 4)) (.lit (.int (0))))) [6])) (.cons (.ite [] (.cmp .eq (.nvar 5) (.lst .nil)) (.cons (.ret [] (.lit (.int (0)))) .nil) .nil) (.cons (.ite [] (.cmp .ne (.sub (.nvar 5) (.lit (.int (0)))) (.nvar 4)) (.cons (.tgs [] [(.sb 0 (.var 4)), (.sb 0 (.sub (.nvar 5) (.lit (.int (0)))))] (.cons (.sub (.nvar 0) (.sub (.nvar 5) (.lit (.int (0))))) (.cons (.sub (.nvar 0) (.nvar 4)) .nil))) (.cons (.asg [3] 3 (.neg (.var 3))) .nil)) .nil) (.cons (.loop [] (.nm 6) (.rg2 (.bin .add (.nvar 4) (.lit (.int (1)))) (.nvar 1)) (.cons (.loop [] (.nm 8) (.rg2 (.bin .add (.nvar 4) (.lit (.int (1)))) (.nvar 1)) (.cons (.asg [] 9 (.bin .sub (.bin .mul (.sub (.sub (.nvar 0) (.nvar 6)) (.nvar 8)) (.sub (.sub (.nvar 0) (.nvar 4)) (.nvar 4))) (.bin .mul (.sub (.sub (.nvar 0) (.nvar 6)) (.nvar 4)) (.sub (.sub (.nvar 0) (.nvar 4)) (.nvar 8))))) (.cons .never .nil))) .nil)) (.cons (.asg [] 2 (.sub (.sub (.nvar 0) (.nvar 4)) (.nvar 4))) .nil)))))) (.cons (.ret [] (.ite (.cmp .gt (.nvar 1) (.lit (.int (0)))) (.bin .mul (.nvar 3) (.sub (.sub (.nvar 0) (.neg (.lit (.int (1))))) (.neg (.lit (.int (1)))))) (.lit (.int (1))))) .nil))))))⟩
/-- shifted_rows -/
def B.shifted_rows : Fn := ⟨2, 6, (.cons (.asg [] 2 (.bin .sub (.bi .len (.cons (.nvar 0) .nil)) (.lit (.int (1))))) (.cons (.asg [] 3 (.bin .sub (.bi .len (.cons (.nvar 1) .nil)) (.lit (.int (1))))) (.cons (.asg [] 4 (.lst .nil)) (.cons (.loop [] (.nm 5) (.rg1 (.nvar 3)) (.cons (.app [] 4 (.bin .add (.bin .add (.bin .mul (.lst (.cons (.lit (.int (0))) .nil)) (.nvar 5)) (.rev (.nvar 0))) (.bin .mul (.lst (.cons (.lit (.int (0))) .nil)) (.bin .sub (.bin .sub (.nvar 3) (.lit (.int (1)))) (.nvar 5))))) .nil)) (.cons (.loop [] (.nm 5) (.rg1 (.nvar 2)) (.cons (.app [] 4 (.bin .add (.bin .add (.bin .mul (.lst (.cons (.lit (.int (0))) .nil)) (.nvar 5)) (.rev (.nvar 1))) (.bin .mul (.lst (.cons (.lit (.int (0))) .nil)) (.bin .sub (.bin .sub (.nvar 2) (.lit (.int (1)))) (.nvar 5))))) .nil)) (.cons (.retv 4) .nil))))))⟩
/-- resultant: calls determinant, shifted_rows -/
def B.resultant (i0 i1 : Nat) : Fn := ⟨2, 2, (.cons (.ite [] (.or (.cmp .eq (.nvar 0) (.lst .nil)) (.cmp .eq (.nvar 1) (.lst .nil))) (.cons (.ret [] (.lit (.int (0)))) .nil) .nil) (.cons (.ret [0, 1] (.call i0 (.cons (.call i1 (.cons (.var 0) (.cons (.var 1) .nil))) .nil))) .nil))⟩
/-- discriminant: calls resultant, slope -/
def B.discriminant (i0 i1 : Nat) : Fn := ⟨1, 3, (.cons (.asg [] 1 (.bin .sub (.bi .len (.cons (.nvar 0) .nil)) (.lit (.int (1))))) (.cons (.asg [0, 0] 2 (.bin .fdiv (.call i0 (.cons (.var 0) (.cons (.call i1 (.cons (.var 0) .nil)) .nil))) (.sub (.nvar 0) (.neg (.lit (.int (1))))))) (.cons (.ret [2, 2] (.ite (.cmp .eq (.bin .band (.bin .fdiv (.bin .mul (.nvar 1) (.bin .sub (.nvar 1) (.lit (.int (1))))) (.lit (.int (2)))) (.lit (.int (1)))) (.lit (.int (1)))) (.neg (.var 2)) (.var 2))) .nil)))⟩
/-- _law_some: calls _law_p -/
def B._law_some (i0 : Nat) : Fn := ⟨3, 4, (.cons (.asg [0, 1, 2] 3 (.call i0 (.cons (.var 0) (.cons (.var 1) (.cons (.var 2) .nil))))) (.cons (.ret [3] (.ite (.cmp .ne (.nvar 3) (.lst .nil)) (.var 3) (.lst (.cons (.lit (.int (1))) (.cons (.lit (.int (1))) .nil))))) .nil))⟩
/-- _law_constant: calls _law_some -/
def B._law_constant (i0 : Nat) : Fn := ⟨2, 3, (.cons (.asg [0, 1] 2 (.call i0 (.cons (.var 0) (.cons (.var 1) (.cons (.lit (.int (2))) .nil))))) (.cons (.ret [2] (.ite (.cmp .gt (.bi .len (.cons (.nvar 2) .nil)) (.lit (.int (1)))) (.var 2) (.bin .add (.nvar 2) (.lst (.cons (.lit (.int (1))) .nil))))) .nil))⟩
/-- _law_pow -/
def B._law_pow : Fn := ⟨2, 4, (.cons (.asg [] 2 (.lit (.int (1)))) (.cons (.loop [] (.nm 3) (.rg1 (.nvar 1)) (.cons (.asg [] 2 (.bin .mul (.nvar 2) (.nvar 0))) .nil)) (.cons (.retv 2) .nil)))⟩
/-- content: calls common_divisor -/
def B.content (i0 : Nat) : Fn := ⟨1, 3, (.cons (.asg [] 1 (.lit (.int (0)))) (.cons (.loop [0] (.nm 2) (.ls (.var 0)) (.cons (.asg [1, 2] 1 (.call i0 (.cons (.var 1) (.cons (.var 2) .nil)))) .nil)) (.cons (.retv 1) .nil)))⟩
/-- lowered: calls content -/
def B.lowered (i0 : Nat) : Fn := ⟨1, 3, (.cons (.asg [0] 1 (.call i0 (.cons (.var 0) .nil))) (.cons (.ite [] (.cmp .lt (.nvar 1) (.lit (.int (2)))) (.cons (.ret [] (.bi .list (.cons (.nvar 0) .nil))) .nil) .nil) (.cons (.ret [] (.comp (.bin .fdiv (.nvar 2) (.nvar 1)) (.nm 2) (.ls (.nvar 0)) .none [2])) .nil)))⟩
/-- primitive: calls lowered, scaled -/
def B.primitive (i0 i1 : Nat) : Fn := ⟨1, 2, (.cons (.asg [0] 1 (.call i0 (.cons (.var 0) .nil))) (.cons (.ite [] (.and (.cmp .ne (.nvar 1) (.lst .nil)) (.cmp .lt (.sub (.nvar 1) (.neg (.lit (.int (1))))) (.lit (.int (0))))) (.cons (.ret [1] (.call i1 (.cons (.var 1) (.cons (.neg (.lit (.int (1)))) .nil)))) .nil) .nil) (.cons (.retv 1) .nil)))⟩
/-- rest_of: calls sign, trimmed, lowered -/
def B.rest_of (i0 i1 i2 : Nat) : Fn := ⟨2, 8, (.cons (.ite [] (.cmp .eq (.nvar 1) (.lst .nil)) (.cons .never .nil) .nil) (.cons (.asg [] 2 (.bi .list (.cons (.nvar 0) .nil))) (.cons (.asg [] 3 (.sub (.nvar 1) (.neg (.lit (.int (1)))))) (.cons (.whl [] (.cmp .ge (.bi .len (.cons (.nvar 2) .nil)) (.bi .len (.cons (.nvar 1) .nil))) (.cons (.asg [3] 4 (.bin .mul (.sub (.nvar 2) (.neg (.lit (.int (1))))) (.call i0 (.cons (.var 3) .nil)))) (.cons (.asg [] 5 (.bin .sub (.bi .len (.cons (.nvar 2) .nil)) (.bi .len (.cons (.nvar 1) .nil)))) (.cons (.asg [] 2 (.comp (.bin .mul (.nvar 7) (.bi .abs (.cons (.nvar 3) .nil))) (.nm 7) (.ls (.nvar 2)) .none [7])) (.cons (.loop [1] (.tp [6, 7]) (.en (.var 1)) (.cons (.augS [] .sub 2 (.bin .add (.nvar 5) (.nvar 6)) (.bin .mul (.nvar 4) (.nvar 7))) .nil)) (.cons (.asg [2] 2 (.call i1 (.cons (.var 2) .nil))) .nil)))))) (.cons (.ret [2] (.call i2 (.cons (.var 2) .nil))) .nil)))))⟩
/-- common: calls primitive, rest_of -/
def B.common (i0 i1 : Nat) : Fn := ⟨2, 2, (.cons (.par [0, 1] [0, 1] (.cons (.call i0 (.cons (.var 0) .nil)) (.cons (.call i0 (.cons (.var 1) .nil)) .nil))) (.cons (.whl [] (.cmp .ne (.nvar 1) (.lst .nil)) (.cons (.par [1, 0, 1] [0, 1] (.cons (.var 1) (.cons (.call i0 (.cons (.call i1 (.cons (.var 0) (.cons (.var 1) .nil))) .nil)) .nil))) .nil)) (.cons (.retv 0) .nil)))⟩
/-- square_free: calls primitive, divided, common, slope -/
def B.square_free (i0 i1 i2 i3 : Nat) : Fn := ⟨1, 2, (.cons (.asg [0] 1 (.call i0 (.cons (.var 0) .nil))) (.cons (.ite [] (.cmp .lt (.bi .len (.cons (.nvar 1) .nil)) (.lit (.int (2)))) (.cons (.retv 1) .nil) .nil) (.cons (.ret [1, 1, 1] (.call i0 (.cons (.call i1 (.cons (.var 1) (.cons (.call i2 (.cons (.var 1) (.cons (.call i3 (.cons (.var 1) .nil)) .nil))) .nil))) .nil))) .nil)))⟩
/-- turned -/
def B.turned : Fn := ⟨1, 3, (.cons (.ret [] (.comp (.ite (.cmp .eq (.bin .band (.nvar 1) (.lit (.int (1)))) (.lit (.int (0)))) (.var 2) (.neg (.var 2))) (.tp [1, 2]) (.en (.nvar 0)) .none [1, 2])) .nil)⟩
/-- backward: calls trimmed -/
def B.backward (i0 : Nat) : Fn := ⟨1, 1, (.cons (.ret [] (.call i0 (.cons (.rev (.nvar 0)) .nil))) .nil)⟩
/-- of_power: calls trimmed -/
def B.of_power (i0 : Nat) : Fn := ⟨2, 5, (.cons (.asg [] 2 (.bin .mul (.lst (.cons (.lit (.int (0))) .nil)) (.bi .max2 (.cons (.lit (.int (0))) (.cons (.bin .add (.bin .mul (.bin .sub (.bi .len (.cons (.nvar 0) .nil)) (.lit (.int (1)))) (.nvar 1)) (.lit (.int (1)))) .nil))))) (.cons (.loop [0] (.tp [3, 4]) (.en (.var 0)) (.cons (.set [4] 2 (.bin .mul (.nvar 3) (.nvar 1)) (.var 4)) .nil)) (.cons (.ret [2] (.call i0 (.cons (.var 2) .nil))) .nil)))⟩
/-- power_sums: calls plus, times_ratios, over -/
def B.power_sums (i0 i1 i2 : Nat) : Fn := ⟨2, 7, (.cons (.asg [] 2 (.bin .sub (.bi .len (.cons (.nvar 0) .nil)) (.lit (.int (1))))) (.cons (.asg [2] 3 (.lst (.cons (.tup (.cons (.var 2) (.cons (.lit (.int (1))) .nil))) .nil))) (.cons (.loop [] (.nm 4) (.rg2 (.lit (.int (1))) (.nvar 1)) (.cons (.asg [] 5 (.tup (.cons (.lit (.int (0))) (.cons (.lit (.int (1))) .nil)))) (.cons (.loop [] (.nm 6) (.rg2 (.lit (.int (1))) (.bin .add (.bi .min2 (.cons (.bin .sub (.nvar 4) (.lit (.int (1)))) (.cons (.nvar 2) .nil))) (.lit (.int (1))))) (.cons (.asg [5] 5 (.call i0 (.cons (.var 5) (.cons (.call i1 (.cons (.tup (.cons (.sub (.nvar 0) (.bin .sub (.nvar 2) (.nvar 6))) (.cons (.lit (.int (1))) .nil))) (.cons (.sub (.nvar 3) (.bin .sub (.nvar 4) (.nvar 6))) .nil))) .nil)))) .nil)) (.cons (.ite [] (.cmp .le (.nvar 4) (.nvar 2)) (.cons (.asg [5] 5 (.call i0 (.cons (.var 5) (.cons (.tup (.cons (.bin .mul (.nvar 4) (.sub (.nvar 0) (.bin .sub (.nvar 2) (.nvar 4)))) (.cons (.lit (.int (1))) .nil))) .nil)))) .nil) .nil) (.cons (.app [] 3 (.call i2 (.cons (.tup (.cons (.neg (.sub (.nvar 5) (.lit (.int (0))))) (.cons (.sub (.nvar 5) (.lit (.int (1)))) .nil))) (.cons (.tup (.cons (.sub (.nvar 0) (.neg (.lit (.int (1))))) (.cons (.lit (.int (1))) .nil))) .nil)))) .nil))))) (.cons (.ret [1] (.slice (.nvar 3) .none (.some (.var 1)))) .nil))))⟩
/-- weighed_sums: calls power_sums, plus, times_ratios -/
def B.weighed_sums (i0 i1 i2 : Nat) : Fn := ⟨3, 9, (.cons (.asg [0] 3 (.call i0 (.cons (.var 0) (.cons (.bin .add (.nvar 2) (.bi .len (.cons (.nvar 1) .nil))) .nil)))) (.cons (.asg [] 4 (.lst .nil)) (.cons (.loop [] (.nm 5) (.rg1 (.nvar 2)) (.cons (.asg [] 6 (.tup (.cons (.lit (.int (0))) (.cons (.lit (.int (1))) .nil)))) (.cons (.loop [1] (.tp [7, 8]) (.en (.var 1)) (.cons (.asg [6, 8] 6 (.call i1 (.cons (.var 6) (.cons (.call i2 (.cons (.tup (.cons (.var 8) (.cons (.lit (.int (1))) .nil))) (.cons (.sub (.nvar 3) (.bin .add (.nvar 5) (.nvar 7))) .nil))) .nil)))) .nil)) (.cons (.app [6] 4 (.var 6)) .nil)))) (.cons (.retv 4) .nil))))⟩
/-- from_sums: calls plus, times_ratios, over, primitive, trimmed -/
def B.from_sums (i0 i1 i2 i3 i4 : Nat) : Fn := ⟨1, 8, (.cons (.asg [] 1 (.lst (.cons (.tup (.cons (.lit (.int (1))) (.cons (.lit (.int (1))) .nil))) .nil))) (.cons (.loop [] (.nm 2) (.rg2 (.lit (.int (1))) (.bin .add (.bi .len (.cons (.nvar 0) .nil)) (.lit (.int (1))))) (.cons (.asg [] 6 (.tup (.cons (.lit (.int (0))) (.cons (.lit (.int (1))) .nil)))) (.cons (.loop [] (.nm 7) (.rg1 (.nvar 2)) (.cons (.asg [6] 6 (.call i0 (.cons (.var 6) (.cons (.call i1 (.cons (.sub (.nvar 1) (.nvar 7)) (.cons (.sub (.nvar 0) (.bin .sub (.bin .sub (.nvar 2) (.lit (.int (1)))) (.nvar 7))) .nil))) .nil)))) .nil)) (.cons (.app [2] 1 (.call i2 (.cons (.tup (.cons (.neg (.sub (.nvar 6) (.lit (.int (0))))) (.cons (.sub (.nvar 6) (.lit (.int (1)))) .nil))) (.cons (.tup (.cons (.var 2) (.cons (.lit (.int (1))) .nil))) .nil)))) .nil)))) (.cons (.asg [] 3 (.lit (.int (1)))) (.cons (.loop [1] (.nm 4) (.ls (.var 1)) (.cons (.asg [] 3 (.bin .mul (.nvar 3) (.sub (.nvar 4) (.lit (.int (1)))))) .nil)) (.cons (.asg [] 5 (.comp (.bin .fdiv (.bin .mul (.sub (.nvar 4) (.lit (.int (0)))) (.nvar 3)) (.sub (.nvar 4) (.lit (.int (1))))) (.nm 4) (.rv (.nvar 1)) .none [4])) (.cons (.ret [5] (.call i3 (.cons (.call i4 (.cons (.var 5) .nil)) .nil))) .nil))))))⟩
/-- _law_plus: calls _law_short -/
def B._law_plus (i0 : Nat) : Fn := ⟨2, 2, (.cons (.ret [] (.call i0 (.cons (.tup (.cons (.bin .add (.bin .mul (.sub (.nvar 0) (.lit (.int (0)))) (.sub (.nvar 1) (.lit (.int (1))))) (.bin .mul (.sub (.nvar 1) (.lit (.int (0)))) (.sub (.nvar 0) (.lit (.int (1)))))) (.cons (.bin .mul (.sub (.nvar 0) (.lit (.int (1)))) (.sub (.nvar 1) (.lit (.int (1))))) .nil))) .nil))) .nil)⟩
/-- _law_by: calls _law_short -/
def B._law_by (i0 : Nat) : Fn := ⟨2, 2, (.cons (.ret [] (.call i0 (.cons (.tup (.cons (.bin .mul (.sub (.nvar 0) (.lit (.int (0)))) (.sub (.nvar 1) (.lit (.int (0))))) (.cons (.bin .mul (.sub (.nvar 0) (.lit (.int (1)))) (.sub (.nvar 1) (.lit (.int (1))))) .nil))) .nil))) .nil)⟩
/-- lowered_three: calls common_divisor, content -/
def B.lowered_three (i0 i1 : Nat) : Fn := ⟨3, 6, (.cons (.asg [0, 1, 2] 3 (.call i0 (.cons (.call i0 (.cons (.call i1 (.cons (.var 0) .nil)) (.cons (.call i1 (.cons (.var 1) .nil)) .nil))) (.cons (.call i1 (.cons (.var 2) .nil)) .nil)))) (.cons (.ite [] (.cmp .lt (.nvar 3) (.lit (.int (2)))) (.cons (.ret [0, 1, 2] (.tup (.cons (.var 0) (.cons (.var 1) (.cons (.var 2) .nil))))) .nil) .nil) (.cons (.ret [0, 1, 2] (.bi .tuple (.cons (.comp (.comp (.bin .fdiv (.nvar 5) (.nvar 3)) (.nm 5) (.ls (.nvar 4)) .none [5]) (.nm 4) (.ls (.tup (.cons (.var 0) (.cons (.var 1) (.cons (.var 2) .nil))))) .none [4]) .nil))) .nil)))⟩
/-- combination: calls taken, scaled, times, lowered_three, common -/
def B.combination (i0 i1 i2 i3 i4 : Nat) : Fn := ⟨2, 12, (.cons (.par [] [3, 4, 5] (.cons (.bi .list (.cons (.nvar 0) .nil)) (.cons (.lst (.cons (.lit (.int (1))) .nil)) (.cons (.lst .nil) .nil)))) (.cons (.par [] [6, 7, 8] (.cons (.bi .list (.cons (.nvar 1) .nil)) (.cons (.lst .nil) (.cons (.lst (.cons (.lit (.int (1))) .nil)) .nil)))) (.cons (.whl [] (.cmp .ne (.nvar 6) (.lst .nil)) (.cons (.whl [] (.cmp .ge (.bi .len (.cons (.nvar 3) .nil)) (.bi .len (.cons (.nvar 6) .nil))) (.cons (.par [] [10, 11] (.cons (.sub (.nvar 6) (.neg (.lit (.int (1))))) (.cons (.sub (.nvar 3) (.neg (.lit (.int (1))))) .nil))) (.cons (.asg [11] 9 (.bin .add (.bin .mul (.lst (.cons (.lit (.int (0))) .nil)) (.bin .sub (.bi .len (.cons (.nvar 3) .nil)) (.bi .len (.cons (.nvar 6) .nil)))) (.lst (.cons (.var 11) .nil)))) (.cons (.asg [3, 10, 9, 6] 3 (.call i0 (.cons (.call i1 (.cons (.var 3) (.cons (.var 10) .nil))) (.cons (.call i2 (.cons (.var 9) (.cons (.var 6) .nil))) .nil)))) (.cons (.asg [4, 10, 9, 7] 4 (.call i0 (.cons (.call i1 (.cons (.var 4) (.cons (.var 10) .nil))) (.cons (.call i2 (.cons (.var 9) (.cons (.var 7) .nil))) .nil)))) (.cons (.asg [5, 10, 9, 8] 5 (.call i0 (.cons (.call i1 (.cons (.var 5) (.cons (.var 10) .nil))) (.cons (.call i2 (.cons (.var 9) (.cons (.var 8) .nil))) .nil)))) (.cons (.asgT [3, 4, 5] [3, 4, 5] (.call i3 (.cons (.var 3) (.cons (.var 4) (.cons (.var 5) .nil))))) .nil))))))) (.cons (.tgs [6, 7, 8, 3, 4, 5] [(.nm 3), (.nm 4), (.nm 5), (.nm 6), (.nm 7), (.nm 8)] (.cons (.var 6) (.cons (.var 7) (.cons (.var 8) (.cons (.var 3) (.cons (.var 4) (.cons (.var 5) .nil))))))) .nil))) (.cons (.ite [] (.cmp .eq (.nvar 3) (.lst .nil)) (.cons (.ret [] (.tup (.cons (.lst .nil) (.cons (.lst .nil) (.cons (.lit (.int (1))) .nil))))) .nil) .nil) (.cons (.asg [0, 1] 2 (.bin .fdiv (.sub (.nvar 3) (.neg (.lit (.int (1))))) (.sub (.call i4 (.cons (.var 0) (.cons (.var 1) .nil))) (.neg (.lit (.int (1))))))) (.cons (.ite [] (.cmp .lt (.nvar 2) (.lit (.int (0)))) (.cons (.ret [4, 5, 2] (.tup (.cons (.call i1 (.cons (.var 4) (.cons (.neg (.lit (.int (1)))) .nil))) (.cons (.call i1 (.cons (.var 5) (.cons (.neg (.lit (.int (1)))) .nil))) (.cons (.neg (.var 2)) .nil))))) .nil) .nil) (.cons (.ret [4, 5, 2] (.tup (.cons (.var 4) (.cons (.var 5) (.cons (.var 2) .nil))))) .nil)))))))⟩
/-- inverse_modulo: calls combination, common -/
def B.inverse_modulo (i0 i1 : Nat) : Fn := ⟨2, 5, (.cons (.asgT [0, 1] [2, 3, 4] (.call i0 (.cons (.var 0) (.cons (.var 1) .nil)))) (.cons (.ite [0, 1] (.or (.cmp .eq (.nvar 0) (.lst .nil)) (.cmp .gt (.bi .len (.cons (.call i1 (.cons (.var 0) (.cons (.var 1) .nil))) .nil)) (.lit (.int (1))))) (.cons .never .nil) .nil) (.cons (.ret [2, 4] (.tup (.cons (.var 2) (.cons (.var 4) .nil)))) .nil)))⟩
/-- minor_rows -/
def B.minor_rows : Fn := ⟨3, 8, (.cons (.asg [] 3 (.bin .sub (.bi .len (.cons (.nvar 0) .nil)) (.lit (.int (1))))) (.cons (.asg [] 4 (.bin .sub (.bi .len (.cons (.nvar 1) .nil)) (.lit (.int (1))))) (.cons (.asg [] 5 (.bin .sub (.bin .add (.nvar 3) (.nvar 4)) (.nvar 2))) (.cons (.asg [] 6 (.lst .nil)) (.cons (.loop [] (.nm 7) (.rg1 (.bin .sub (.nvar 4) (.nvar 2))) (.cons (.app [5] 6 (.slice (.bin .add (.bin .add (.bin .mul (.lst (.cons (.lit (.int (0))) .nil)) (.nvar 7)) (.rev (.nvar 0))) (.bin .mul (.lst (.cons (.lit (.int (0))) .nil)) (.nvar 5))) .none (.some (.var 5)))) .nil)) (.cons (.loop [] (.nm 7) (.rg1 (.bin .sub (.nvar 3) (.nvar 2))) (.cons (.app [5] 6 (.slice (.bin .add (.bin .add (.bin .mul (.lst (.cons (.lit (.int (0))) .nil)) (.nvar 7)) (.rev (.nvar 1))) (.bin .mul (.lst (.cons (.lit (.int (0))) .nil)) (.nvar 5))) .none (.some (.var 5)))) .nil)) (.cons (.retv 6) .nil)))))))⟩
/-- principal: calls minor_rows, determinant -/
def B.principal (i0 i1 : Nat) : Fn := ⟨3, 5, (.cons (.asg [0, 1, 2] 3 (.call i0 (.cons (.var 0) (.cons (.var 1) (.cons (.var 2) .nil))))) (.cons (.ret [] (.call i1 (.cons (.comp (.slice (.nvar 4) .none (.some (.bi .len (.cons (.nvar 3) .nil)))) (.nm 4) (.ls (.nvar 3)) .none [4]) .nil))) .nil))⟩
/-- degree_of_common: calls principal -/
def B.degree_of_common (i0 : Nat) : Fn := ⟨2, 3, (.cons (.asg [] 2 (.lit (.int (0)))) (.cons (.whl [0, 1, 2] (.cmp .eq (.call i0 (.cons (.var 0) (.cons (.var 1) (.cons (.var 2) .nil)))) (.lit (.int (0)))) (.cons (.augN [] .add 2 (.lit (.int (1)))) .nil)) (.cons (.retv 2) .nil)))⟩
/-- _law_mul -/
def B._law_mul : Fn := ⟨2, 5, (.cons (.asg [] 2 (.bin .mul (.lst (.cons (.lit (.int (0))) .nil)) (.bi .max2 (.cons (.lit (.int (0))) (.cons (.bin .sub (.bin .add (.bi .len (.cons (.nvar 0) .nil)) (.bi .len (.cons (.nvar 1) .nil))) (.lit (.int (1)))) .nil))))) (.cons (.loop [] (.nm 3) (.rg1 (.bi .len (.cons (.nvar 0) .nil))) (.cons (.loop [] (.nm 4) (.rg1 (.bi .len (.cons (.nvar 1) .nil))) (.cons (.set [] 2 (.bin .add (.nvar 3) (.nvar 4)) (.bin .add (.sub (.nvar 2) (.bin .add (.nvar 3) (.nvar 4))) (.bin .mul (.sub (.nvar 0) (.nvar 3)) (.sub (.nvar 1) (.nvar 4))))) .nil)) .nil)) (.cons (.retv 2) .nil)))⟩
/-- _law_inverted -/
def B._law_inverted : Fn := ⟨2, 2, (.cons .never .nil)⟩
/-- scaled_value -/
def B.scaled_value : Fn := ⟨2, 5, (.cons (.asg [] 2 (.lit (.int (0)))) (.cons (.asg [] 3 (.lit (.int (1)))) (.cons (.loop [0] (.nm 4) (.rv (.var 0)) (.cons (.asg [] 2 (.bin .add (.bin .mul (.nvar 2) (.sub (.nvar 1) (.lit (.int (0))))) (.bin .mul (.nvar 4) (.nvar 3)))) (.cons (.augN [] .mul 3 (.sub (.nvar 1) (.lit (.int (1))))) .nil))) (.cons (.retv 2) .nil))))⟩
/-- value: calls ratio, scaled_value -/
def B.value (i0 i1 : Nat) : Fn := ⟨2, 4, (.cons (.asg [] 2 (.lit (.int (1)))) (.cons (.loop [] (.nm 3) (.rg1 (.bin .sub (.bi .len (.cons (.nvar 0) .nil)) (.lit (.int (1))))) (.cons (.augN [] .mul 2 (.sub (.nvar 1) (.lit (.int (1))))) .nil)) (.cons (.ret [0, 1, 2] (.call i0 (.cons (.call i1 (.cons (.var 0) (.cons (.var 1) .nil))) (.cons (.var 2) .nil)))) .nil)))⟩
/-- common_bottom: calls common_divisor -/
def B.common_bottom (i0 : Nat) : Fn := ⟨1, 3, (.cons (.asg [] 1 (.lit (.int (1)))) (.cons (.loop [0] (.nm 2) (.ls (.var 0)) (.cons (.asg [1] 1 (.bin .fdiv (.bin .mul (.nvar 1) (.sub (.nvar 2) (.lit (.int (1))))) (.call i0 (.cons (.var 1) (.cons (.sub (.nvar 2) (.lit (.int (1)))) .nil))))) .nil)) (.cons (.retv 1) .nil)))⟩
/-- as_quotient: calls common_bottom, trimmed, common_divisor, content -/
def B.as_quotient (i0 i1 i2 i3 : Nat) : Fn := ⟨1, 5, (.cons (.asg [0] 1 (.call i0 (.cons (.var 0) .nil))) (.cons (.asg [] 2 (.call i1 (.cons (.comp (.bin .mul (.sub (.nvar 4) (.lit (.int (0)))) (.bin .fdiv (.nvar 1) (.sub (.nvar 4) (.lit (.int (1)))))) (.nm 4) (.ls (.nvar 0)) .none [4]) .nil))) (.cons (.asg [2, 1] 3 (.call i2 (.cons (.call i3 (.cons (.var 2) .nil)) (.cons (.var 1) .nil)))) (.cons (.ret [] (.tup (.cons (.comp (.bin .fdiv (.nvar 4) (.nvar 3)) (.nm 4) (.ls (.nvar 2)) .none [4]) (.cons (.bin .fdiv (.nvar 1) (.nvar 3)) .nil)))) .nil))))⟩
/-- row_product: calls minus, times_ratios -/
def B.row_product (i0 i1 : Nat) : Fn := ⟨2, 5, (.cons (.asg [] 2 (.bin .add (.lst (.cons (.tup (.cons (.lit (.int (0))) (.cons (.lit (.int (1))) .nil))) .nil)) (.bi .list (.cons (.nvar 0) .nil)))) (.cons (.loop [0] (.tp [3, 4]) (.en (.var 0)) (.cons (.set [4, 1] 2 (.nvar 3) (.call i0 (.cons (.sub (.nvar 2) (.nvar 3)) (.cons (.call i1 (.cons (.var 4) (.cons (.var 1) .nil))) .nil)))) .nil)) (.cons (.retv 2) .nil)))⟩
/-- row_sum: calls plus, times_ratios -/
def B.row_sum (i0 i1 : Nat) : Fn := ⟨3, 6, (.cons (.asg [] 3 (.bin .add (.bi .list (.cons (.nvar 0) .nil)) (.bin .mul (.lst (.cons (.tup (.cons (.lit (.int (0))) (.cons (.lit (.int (1))) .nil))) .nil)) (.bi .max2 (.cons (.lit (.int (0))) (.cons (.bin .sub (.bi .len (.cons (.nvar 1) .nil)) (.bi .len (.cons (.nvar 0) .nil))) .nil)))))) (.cons (.loop [1] (.tp [4, 5]) (.en (.var 1)) (.cons (.set [5, 2] 3 (.nvar 4) (.call i0 (.cons (.sub (.nvar 3) (.nvar 4)) (.cons (.call i1 (.cons (.var 5) (.cons (.var 2) .nil))) .nil)))) .nil)) (.cons (.retv 3) .nil)))⟩
/-- through: calls row_sum, row_product, minus, over, as_quotient -/
def B.through (i0 i1 i2 i3 i4 : Nat) : Fn := ⟨1, 11, (.cons (.asg [] 1 (.lst .nil)) (.cons (.asg [] 2 (.lst (.cons (.tup (.cons (.lit (.int (1))) (.cons (.lit (.int (1))) .nil))) .nil))) (.cons (.asg [] 3 (.comp (.var 10) (.tp [9, 10]) (.ls (.nvar 0)) .none [9, 10])) (.cons (.loop [0] (.tp [4, 5]) (.en (.var 0)) (.cons (.asg [1, 2] 1 (.call i0 (.cons (.var 1) (.cons (.var 2) (.cons (.sub (.nvar 3) (.lit (.int (0)))) .nil))))) (.cons (.asg [2] 2 (.call i1 (.cons (.var 2) (.cons (.sub (.nvar 5) (.lit (.int (0)))) .nil)))) (.cons (.asg [] 6 (.lst .nil)) (.cons (.loop [] (.nm 7) (.rg2 (.lit (.int (1))) (.bi .len (.cons (.nvar 3) .nil))) (.cons (.asg [] 8 (.call i2 (.cons (.sub (.sub (.nvar 0) (.bin .add (.nvar 4) (.nvar 7))) (.lit (.int (0)))) (.cons (.sub (.nvar 5) (.lit (.int (0)))) .nil)))) (.cons (.app [8] 6 (.call i3 (.cons (.call i2 (.cons (.sub (.nvar 3) (.nvar 7)) (.cons (.sub (.nvar 3) (.lit (.int (0)))) .nil))) (.cons (.var 8) .nil)))) .nil))) (.cons (.asg [6] 3 (.var 6)) .nil)))))) (.cons (.ret [1] (.call i4 (.cons (.var 1) .nil))) .nil)))))⟩
/-- differences -/
def B.differences : Fn := ⟨1, 2, (.cons (.ret [] (.comp (.bin .sub (.sub (.nvar 0) (.nvar 1)) (.sub (.nvar 0) (.bin .sub (.nvar 1) (.lit (.int (1)))))) (.nm 1) (.rg2 (.lit (.int (1))) (.bi .len (.cons (.nvar 0) .nil))) .none [1])) .nil)⟩
/-- value_at_integer -/
def B.value_at_integer : Fn := ⟨2, 4, (.cons (.asg [] 2 (.lit (.int (0)))) (.cons (.loop [0] (.nm 3) (.rv (.var 0)) (.cons (.asg [] 2 (.bin .add (.bin .mul (.nvar 2) (.nvar 1)) (.nvar 3))) .nil)) (.cons (.retv 2) .nil)))⟩
/-- by_choices: calls value_at_integer, differences, trimmed -/
def B.by_choices (i0 i1 i2 : Nat) : Fn := ⟨1, 4, (.cons (.asg [0] 1 (.comp (.call i0 (.cons (.var 0) (.cons (.var 3) .nil))) (.nm 3) (.rg1 (.bi .len (.cons (.nvar 0) .nil))) .none [3])) (.cons (.asg [] 2 (.lst .nil)) (.cons (.whl [] (.cmp .ne (.nvar 1) (.lst .nil)) (.cons (.app [] 2 (.sub (.nvar 1) (.lit (.int (0))))) (.cons (.asg [1] 1 (.call i1 (.cons (.var 1) .nil))) .nil))) (.cons (.ret [2] (.call i2 (.cons (.var 2) .nil))) .nil))))⟩
/-- choices_poly: calls times_single -/
def B.choices_poly (i0 : Nat) : Fn := ⟨1, 4, (.cons (.asg [] 1 (.lst (.cons (.lit (.int (1))) .nil))) (.cons (.asg [] 2 (.lit (.int (1)))) (.cons (.loop [] (.nm 3) (.rg1 (.nvar 0)) (.cons (.asg [1, 3] 1 (.call i0 (.cons (.var 1) (.cons (.lst (.cons (.neg (.var 3)) (.cons (.lit (.int (1))) .nil))) .nil)))) (.cons (.asg [] 2 (.bin .mul (.nvar 2) (.bin .add (.nvar 3) (.lit (.int (1)))))) .nil))) (.cons (.ret [1, 2] (.tup (.cons (.var 1) (.cons (.var 2) .nil)))) .nil))))⟩
/-- from_choices: calls choices_poly, row_sum, over, as_quotient -/
def B.from_choices (i0 i1 i2 i3 : Nat) : Fn := ⟨1, 7, (.cons (.asg [] 1 (.lst .nil)) (.cons (.loop [0] (.tp [2, 3]) (.en (.var 0)) (.cons (.asgT [2] [4, 5] (.call i0 (.cons (.var 2) .nil))) (.cons (.asg [1, 3, 5] 1 (.call i1 (.cons (.var 1) (.cons (.comp (.tup (.cons (.var 6) (.cons (.lit (.int (1))) .nil))) (.nm 6) (.ls (.nvar 4)) .none [6]) (.cons (.call i2 (.cons (.tup (.cons (.var 3) (.cons (.lit (.int (1))) .nil))) (.cons (.tup (.cons (.var 5) (.cons (.lit (.int (1))) .nil))) .nil))) .nil))))) .nil))) (.cons (.ret [1] (.call i3 (.cons (.var 1) .nil))) .nil)))⟩
/-- sum_poly: calls from_choices, by_choices -/
def B.sum_poly (i0 i1 : Nat) : Fn := ⟨1, 1, (.cons (.ret [0] (.call i0 (.cons (.bin .add (.lst (.cons (.lit (.int (0))) .nil)) (.call i1 (.cons (.var 0) .nil))) .nil))) .nil)⟩
/-- _law_same -/
def B._law_same : Fn := ⟨2, 3, (.cons .never (.cons (.ite [] (.cmp .isn (.nvar 1) (.lit .non)) (.cons (.ret [] (.cmp .isn (.nvar 0) (.lit .non))) .nil) .nil) (.cons .never (.cons .never (.cons .never .nil)))))⟩
/-- sign_at: calls sign, scaled_value -/
def B.sign_at (i0 i1 : Nat) : Fn := ⟨2, 2, (.cons (.ret [0, 1] (.call i0 (.cons (.call i1 (.cons (.var 0) (.cons (.var 1) .nil))) .nil))) .nil)⟩
/-- trimmed_pair -/
def B.trimmed_pair : Fn := ⟨1, 3, (.cons (.asg [] 1 (.comp (.bi .list (.cons (.nvar 2) .nil)) (.nm 2) (.ls (.nvar 0)) .none [2])) (.cons (.whl [] (.and (.cmp .ne (.nvar 1) (.lst .nil)) (.cmp .eq (.sub (.nvar 1) (.neg (.lit (.int (1))))) (.lst .nil))) (.cons (.popx 1) .nil)) (.cons (.retv 1) .nil)))⟩
/-- from_x: calls trimmed_pair -/
def B.from_x (i0 : Nat) : Fn := ⟨1, 1, (.cons (.ret [0] (.call i0 (.cons (.lst (.cons (.var 0) .nil)) .nil))) .nil)⟩
/-- from_y: calls trimmed_pair, trimmed -/
def B.from_y (i0 i1 : Nat) : Fn := ⟨1, 2, (.cons (.ret [] (.call i0 (.cons (.comp (.call i1 (.cons (.lst (.cons (.var 1) .nil)) .nil)) (.nm 1) (.ls (.nvar 0)) .none [1]) .nil))) .nil)⟩
/-- pair_added: calls added, trimmed_pair -/
def B.pair_added (i0 i1 : Nat) : Fn := ⟨2, 6, (.cons (.asg [] 2 (.lst .nil)) (.cons (.loop [] (.nm 3) (.rg1 (.bi .max2 (.cons (.bi .len (.cons (.nvar 0) .nil)) (.cons (.bi .len (.cons (.nvar 1) .nil)) .nil)))) (.cons (.asg [] 4 (.ite (.cmp .lt (.nvar 3) (.bi .len (.cons (.nvar 0) .nil))) (.sub (.nvar 0) (.nvar 3)) (.lst .nil))) (.cons (.asg [] 5 (.ite (.cmp .lt (.nvar 3) (.bi .len (.cons (.nvar 1) .nil))) (.sub (.nvar 1) (.nvar 3)) (.lst .nil))) (.cons (.app [4, 5] 2 (.call i0 (.cons (.var 4) (.cons (.var 5) .nil)))) .nil)))) (.cons (.ret [2] (.call i1 (.cons (.var 2) .nil))) .nil)))⟩
/-- pair_scaled: calls trimmed_pair, scaled -/
def B.pair_scaled (i0 i1 : Nat) : Fn := ⟨2, 3, (.cons (.ret [1] (.call i0 (.cons (.comp (.call i1 (.cons (.var 2) (.cons (.var 1) .nil))) (.nm 2) (.ls (.nvar 0)) .none [2]) .nil))) .nil)⟩
/-- pair_times: calls added, times, trimmed_pair -/
def B.pair_times (i0 i1 i2 : Nat) : Fn := ⟨2, 8, (.cons (.asg [] 2 (.comp (.lst .nil) (.nm 5) (.rg1 (.bi .max2 (.cons (.lit (.int (0))) (.cons (.bin .sub (.bin .add (.bi .len (.cons (.nvar 0) .nil)) (.bi .len (.cons (.nvar 1) .nil))) (.lit (.int (1)))) .nil)))) .none [5])) (.cons (.loop [0] (.tp [3, 4]) (.en (.var 0)) (.cons (.loop [1] (.tp [6, 7]) (.en (.var 1)) (.cons (.set [4, 7] 2 (.bin .add (.nvar 3) (.nvar 6)) (.call i0 (.cons (.sub (.nvar 2) (.bin .add (.nvar 3) (.nvar 6))) (.cons (.call i1 (.cons (.var 4) (.cons (.var 7) .nil))) .nil)))) .nil)) .nil)) (.cons (.ret [2] (.call i2 (.cons (.var 2) .nil))) .nil)))⟩
/-- pair_power: calls pair_times -/
def B.pair_power (i0 : Nat) : Fn := ⟨2, 4, (.cons (.asg [] 2 (.lst (.cons (.lst (.cons (.lit (.int (1))) .nil)) .nil))) (.cons (.loop [] (.nm 3) (.rg1 (.nvar 1)) (.cons (.asg [2, 0] 2 (.call i0 (.cons (.var 2) (.cons (.var 0) .nil)))) .nil)) (.cons (.retv 2) .nil)))⟩
/-- exchanged: calls trimmed, trimmed_pair -/
def B.exchanged (i0 i1 : Nat) : Fn := ⟨1, 5, (.cons (.asg [] 1 (.bi .maxl (.cons (.bin .add (.lst (.cons (.lit (.int (0))) .nil)) (.comp (.bi .len (.cons (.nvar 4) .nil)) (.nm 4) (.ls (.nvar 0)) .none [4])) .nil))) (.cons (.asg [] 2 (.lst .nil)) (.cons (.loop [] (.nm 3) (.rg1 (.nvar 1)) (.cons (.app [] 2 (.call i0 (.cons (.comp (.ite (.cmp .lt (.nvar 3) (.bi .len (.cons (.nvar 4) .nil))) (.sub (.nvar 4) (.nvar 3)) (.lit (.int (0)))) (.nm 4) (.ls (.nvar 0)) .none [4]) .nil))) .nil)) (.cons (.ret [2] (.call i1 (.cons (.var 2) .nil))) .nil))))⟩
/-- slope_by_y: calls trimmed_pair, scaled -/
def B.slope_by_y (i0 i1 : Nat) : Fn := ⟨1, 3, (.cons (.ret [] (.call i0 (.cons (.slice (.comp (.call i1 (.cons (.var 2) (.cons (.var 1) .nil))) (.tp [1, 2]) (.en (.nvar 0)) .none [1, 2]) (.some (.lit (.int (1)))) .none) .nil))) .nil)⟩
/-- slope_by_x: calls trimmed_pair, slope -/
def B.slope_by_x (i0 i1 : Nat) : Fn := ⟨1, 2, (.cons (.ret [] (.call i0 (.cons (.comp (.call i1 (.cons (.var 1) .nil)) (.nm 1) (.ls (.nvar 0)) .none [1]) .nil))) .nil)⟩
/-- at_x: calls scaled_value, lowered, trimmed -/
def B.at_x (i0 i1 i2 : Nat) : Fn := ⟨2, 7, (.cons (.asg [] 2 (.bi .maxl (.cons (.bin .add (.lst (.cons (.lit (.int (0))) .nil)) (.comp (.bin .sub (.bi .len (.cons (.nvar 4) .nil)) (.lit (.int (1)))) (.nm 4) (.ls (.nvar 0)) .none [4])) .nil))) (.cons (.asg [] 3 (.lst .nil)) (.cons (.loop [0] (.nm 4) (.ls (.var 0)) (.cons (.asg [] 5 (.lit (.int (1)))) (.cons (.loop [] (.nm 6) (.rg1 (.bin .sub (.bin .add (.nvar 2) (.lit (.int (1)))) (.bi .len (.cons (.nvar 4) .nil)))) (.cons (.augN [] .mul 5 (.sub (.nvar 1) (.lit (.int (1))))) .nil)) (.cons (.app [4, 1] 3 (.ite (.cmp .ne (.nvar 4) (.lst .nil)) (.bin .mul (.call i0 (.cons (.var 4) (.cons (.var 1) .nil))) (.nvar 5)) (.lit (.int (0))))) .nil)))) (.cons (.ret [3] (.call i1 (.cons (.call i2 (.cons (.var 3) .nil)) .nil))) .nil))))⟩
/-- at_y: calls at_x, exchanged -/
def B.at_y (i0 i1 : Nat) : Fn := ⟨2, 2, (.cons (.ret [0, 1] (.call i0 (.cons (.call i1 (.cons (.var 0) .nil)) (.cons (.var 1) .nil)))) .nil)⟩
/-- pair_sign_at: calls sign_at, at_x -/
def B.pair_sign_at (i0 i1 : Nat) : Fn := ⟨3, 3, (.cons (.ret [0, 1, 2] (.call i0 (.cons (.call i1 (.cons (.var 0) (.cons (.var 1) .nil))) (.cons (.var 2) .nil)))) .nil)⟩
/-- content_by_y: calls common -/
def B.content_by_y (i0 : Nat) : Fn := ⟨1, 3, (.cons (.asg [] 1 (.lst .nil)) (.cons (.loop [0] (.nm 2) (.ls (.var 0)) (.cons (.asg [1, 2] 1 (.call i0 (.cons (.var 1) (.cons (.var 2) .nil)))) .nil)) (.cons (.retv 1) .nil)))⟩
/-- whole_content: calls common_divisor, content -/
def B.whole_content (i0 i1 : Nat) : Fn := ⟨1, 3, (.cons (.asg [] 1 (.lit (.int (0)))) (.cons (.loop [0] (.nm 2) (.ls (.var 0)) (.cons (.asg [1, 2] 1 (.call i0 (.cons (.var 1) (.cons (.call i1 (.cons (.var 2) .nil)) .nil)))) .nil)) (.cons (.retv 1) .nil)))⟩
/-- _law_pair_add: calls _law_add -/
def B._law_pair_add (i0 : Nat) : Fn := ⟨2, 5, (.cons (.asg [] 2 (.lst .nil)) (.cons (.loop [] (.nm 3) (.rg1 (.bi .max2 (.cons (.bi .len (.cons (.nvar 0) .nil)) (.cons (.bi .len (.cons (.nvar 1) .nil)) .nil)))) (.cons (.app [] 2 (.call i0 (.cons (.ite (.cmp .lt (.nvar 3) (.bi .len (.cons (.nvar 0) .nil))) (.sub (.nvar 0) (.nvar 3)) (.lst .nil)) (.cons (.ite (.cmp .lt (.nvar 3) (.bi .len (.cons (.nvar 1) .nil))) (.sub (.nvar 1) (.nvar 3)) (.lst .nil)) .nil)))) .nil)) (.cons (.loop [] (.nm 4) (.rg1 (.bi .len (.cons (.nvar 2) .nil))) (.cons (.ite [] (.or (.cmp .eq (.nvar 2) (.lst .nil)) (.cmp .ne (.sub (.nvar 2) (.neg (.lit (.int (1))))) (.lst .nil))) (.cons .brk .nil) .nil) (.cons (.popx 2) .nil))) (.cons (.retv 2) .nil))))⟩
/-- _law_pair: calls _law_p, _law_take, _law_pair_add -/
def B._law_pair (i0 i1 i2 : Nat) : Fn := ⟨4, 6, (.cons (.asg [0, 2, 3, 0] 4 (.comp (.call i0 (.cons (.var 0) (.cons (.var 2) (.cons (.var 3) .nil)))) (.nm 5) (.rg1 (.bin .add (.lit (.int (1))) (.call i1 (.cons (.var 0) (.cons (.bin .add (.nvar 1) (.lit (.int (1)))) .nil))))) .none [5])) (.cons (.ret [4] (.call i2 (.cons (.var 4) (.cons (.lst .nil) .nil)))) .nil))⟩
/-- fraction_rest -/
def B.fraction_rest : Fn := ⟨2, 8, (.cons (.asg [] 2 (.comp (.tup (.cons (.var 6) (.cons (.lit (.int (1))) .nil))) (.nm 6) (.ls (.nvar 0)) .none [6])) (.cons (.asg [] 3 (.bin .mul (.lst (.cons (.tup (.cons (.lit (.int (0))) (.cons (.lit (.int (1))) .nil))) .nil)) (.bi .max2 (.cons (.lit (.int (0))) (.cons (.bin .add (.bin .sub (.bi .len (.cons (.nvar 0) .nil)) (.bi .len (.cons (.nvar 1) .nil))) (.lit (.int (1)))) .nil))))) (.cons .never (.cons (.ret [3] (.tup (.cons (.var 3) (.cons (.slice (.nvar 2) .none (.some (.bin .sub (.bi .len (.cons (.nvar 1) .nil)) (.lit (.int (1)))))) .nil)))) .nil))))⟩
/-- over_integer: calls as_quotient, over -/
def B.over_integer (i0 i1 : Nat) : Fn := ⟨2, 3, (.cons (.ret [1] (.call i0 (.cons (.comp (.call i1 (.cons (.var 2) (.cons (.tup (.cons (.var 1) (.cons (.lit (.int (1))) .nil))) .nil))) (.nm 2) (.ls (.nvar 0)) .none [2]) .nil))) .nil)⟩
/-- partial: calls times_single, fraction_rest, over_integer, common, combination -/
def B.partial (i0 i1 i2 i3 i4 : Nat) : Fn := ⟨2, 17, (.cons (.asg [] 2 (.lst (.cons (.lit (.int (1))) .nil))) (.cons (.loop [1] (.nm 3) (.ls (.var 1)) (.cons (.asg [2, 3] 2 (.call i0 (.cons (.var 2) (.cons (.var 3) .nil)))) .nil)) (.cons (.asgT [0, 2] [5, 6] (.call i1 (.cons (.var 0) (.cons (.var 2) .nil)))) (.cons (.asg [] 4 (.lst .nil)) (.cons (.asgT [6] [7, 8] (.call i2 (.cons (.var 6) (.cons (.lit (.int (1))) .nil)))) (.cons (.loop [1] (.tp [9, 3]) (.en (.var 1)) (.cons (.asg [] 10 (.lst (.cons (.lit (.int (1))) .nil))) (.cons (.loop [1] (.tp [12, 13]) (.en (.var 1)) (.cons (.ite [] (.cmp .ne (.nvar 12) (.nvar 9)) (.cons (.asg [10, 13] 10 (.call i0 (.cons (.var 10) (.cons (.var 13) .nil)))) .nil) .nil) .nil)) (.cons (.ite [3, 10] (.cmp .gt (.bi .len (.cons (.call i3 (.cons (.var 3) (.cons (.var 10) .nil))) .nil)) (.lit (.int (1)))) (.cons .never .nil) .nil) (.cons (.asgT [10, 3] [14, 15, 16] (.call i4 (.cons (.var 10) (.cons (.var 3) .nil)))) (.cons (.asg [7, 14, 3] 11 (.sub (.call i1 (.cons (.call i0 (.cons (.var 7) (.cons (.var 14) .nil))) (.cons (.var 3) .nil))) (.lit (.int (1))))) (.cons (.app [11] 4 (.call i2 (.cons (.var 11) (.cons (.bin .mul (.nvar 8) (.nvar 16)) .nil)))) .nil))))))) (.cons (.ret [5, 4] (.tup (.cons (.call i2 (.cons (.var 5) (.cons (.lit (.int (1))) .nil))) (.cons (.var 4) .nil)))) .nil)))))))⟩
/-- equations: calls common, slope, divided, primitive, times_single, padded -/
def B.equations (i0 i1 i2 i3 i4 i5 : Nat) : Fn := ⟨1, 9, (.cons (.asg [0, 0] 1 (.call i0 (.cons (.var 0) (.cons (.call i1 (.cons (.var 0) .nil)) .nil)))) (.cons (.asg [0, 1] 2 (.call i2 (.cons (.call i3 (.cons (.var 0) .nil)) (.cons (.var 1) .nil)))) (.cons (.asg [0] 3 (.bin .sub (.bi .len (.cons (.call i3 (.cons (.var 0) .nil)) .nil)) (.lit (.int (1))))) (.cons (.asg [] 4 (.lst .nil)) (.cons (.loop [] (.nm 5) (.rg1 (.bin .sub (.bi .len (.cons (.nvar 1) .nil)) (.lit (.int (1))))) (.cons (.asg [] 6 (.bin .add (.bin .mul (.lst (.cons (.lit (.int (0))) .nil)) (.nvar 5)) (.lst (.cons (.lit (.int (1))) .nil)))) (.cons (.asg [6, 2] 7 (.call i4 (.cons (.call i1 (.cons (.var 6) .nil)) (.cons (.var 2) .nil)))) (.cons (.asg [6, 1, 2, 1] 8 (.call i2 (.cons (.call i4 (.cons (.call i4 (.cons (.var 6) (.cons (.call i1 (.cons (.var 1) .nil)) .nil))) (.cons (.var 2) .nil))) (.cons (.var 1) .nil)))) (.cons (.app [7, 3, 8] 4 (.call i5 (.cons (.var 7) (.cons (.var 3) (.cons (.var 8) .nil))))) .nil))))) (.cons (.loop [] (.nm 5) (.rg1 (.bin .sub (.bi .len (.cons (.nvar 2) .nil)) (.lit (.int (1))))) (.cons (.app [1, 3] 4 (.call i5 (.cons (.call i4 (.cons (.bin .add (.bin .mul (.lst (.cons (.lit (.int (0))) .nil)) (.nvar 5)) (.lst (.cons (.lit (.int (1))) .nil))) (.cons (.var 1) .nil))) (.cons (.var 3) (.cons (.lst .nil) .nil))))) .nil)) (.cons (.ret [1, 2, 4] (.tup (.cons (.var 1) (.cons (.var 2) (.cons (.var 4) .nil))))) .nil)))))))⟩
/-- padded -/
def B.padded : Fn := ⟨3, 6, (.cons (.asg [] 3 (.bin .mul (.lst (.cons (.lit (.int (0))) .nil)) (.nvar 1))) (.cons (.loop [0] (.tp [4, 5]) (.en (.var 0)) (.cons (.augS [5] .add 3 (.nvar 4) (.var 5)) .nil)) (.cons (.loop [2] (.tp [4, 5]) (.en (.var 2)) (.cons (.augS [5] .sub 3 (.nvar 4) (.var 5)) .nil)) (.cons (.retv 3) .nil))))⟩
/-- solved_columns: calls over, minus, times_ratios -/
def B.solved_columns (i0 i1 i2 : Nat) : Fn := ⟨2, 13, (.cons (.asg [] 2 (.lst .nil)) (.cons (.loop [1] (.tp [3, 4]) (.en (.var 1)) (.cons (.app [4] 2 (.bin .add (.comp (.tup (.cons (.sub (.nvar 11) (.nvar 3)) (.cons (.lit (.int (1))) .nil))) (.nm 11) (.ls (.nvar 0)) .none [11]) (.lst (.cons (.var 4) .nil)))) .nil)) (.cons (.loop [] (.nm 3) (.rg1 (.bi .len (.cons (.nvar 0) .nil))) (.cons (.asg [] 5 (.comp (.var 7) (.nm 7) (.rg2 (.nvar 3) (.bi .len (.cons (.nvar 2) .nil))) (.some (.cmp .ne (.sub (.sub (.sub (.nvar 2) (.nvar 7)) (.nvar 3)) (.lit (.int (0)))) (.lit (.int (0))))) [7])) (.cons (.tgs [] [(.sb 2 (.var 3)), (.sb 2 (.sub (.nvar 5) (.lit (.int (0)))))] (.cons (.sub (.nvar 2) (.sub (.nvar 5) (.lit (.int (0))))) (.cons (.sub (.nvar 2) (.nvar 3)) .nil))) (.cons (.asg [] 6 (.sub (.sub (.nvar 2) (.nvar 3)) (.nvar 3))) (.cons (.set [6] 2 (.nvar 3) (.comp (.call i0 (.cons (.var 10) (.cons (.var 6) .nil))) (.nm 10) (.ls (.sub (.nvar 2) (.nvar 3))) .none [10])) (.cons (.loop [] (.nm 7) (.rg1 (.bi .len (.cons (.nvar 2) .nil))) (.cons (.asg [] 8 (.sub (.sub (.nvar 2) (.nvar 7)) (.nvar 3))) (.cons (.ite [] (.and (.cmp .ne (.nvar 7) (.nvar 3)) (.cmp .ne (.sub (.nvar 8) (.lit (.int (0)))) (.lit (.int (0))))) (.cons (.asg [] 9 (.sub (.nvar 2) (.nvar 7))) (.cons (.set [8] 2 (.nvar 7) (.comp (.call i1 (.cons (.sub (.nvar 9) (.nvar 12)) (.cons (.call i2 (.cons (.var 8) (.cons (.var 10) .nil))) .nil))) (.tp [12, 10]) (.en (.sub (.nvar 2) (.nvar 3))) .none [12, 10])) .nil)) .nil) .nil))) .nil)))))) (.cons (.ret [] (.comp (.sub (.nvar 9) (.neg (.lit (.int (1))))) (.nm 9) (.ls (.nvar 2)) .none [9])) .nil))))⟩
/-- reduced_poles: calls primitive, fraction_rest, equations, solved_columns, over_integer -/
def B.reduced_poles (i0 i1 i2 i3 i4 : Nat) : Fn := ⟨2, 12, (.cons (.ite [] (.cmp .eq (.nvar 1) (.lst .nil)) (.cons .never .nil) .nil) (.cons (.asg [1] 2 (.call i0 (.cons (.var 1) .nil))) (.cons (.asg [] 3 (.bin .fdiv (.sub (.nvar 1) (.neg (.lit (.int (1))))) (.sub (.nvar 2) (.neg (.lit (.int (1))))))) (.cons (.asgT [0, 2] [8, 4] (.call i1 (.cons (.var 0) (.cons (.var 2) .nil)))) (.cons (.asg [] 4 (.bin .add (.nvar 4) (.bin .mul (.lst (.cons (.tup (.cons (.lit (.int (0))) (.cons (.lit (.int (1))) .nil))) .nil)) (.bin .sub (.bin .sub (.bi .len (.cons (.nvar 2) .nil)) (.lit (.int (1)))) (.bi .len (.cons (.nvar 4) .nil)))))) (.cons (.asgT [2] [9, 10, 11] (.call i2 (.cons (.var 2) .nil))) (.cons (.asg [11, 4] 5 (.call i3 (.cons (.var 11) (.cons (.var 4) .nil)))) (.cons (.asg [] 6 (.bin .sub (.bi .len (.cons (.nvar 9) .nil)) (.lit (.int (1))))) (.cons (.asg [8, 3] 7 (.call i4 (.cons (.var 8) (.cons (.var 3) .nil)))) (.cons (.ret [7, 6, 3, 9, 6, 3, 10] (.tup (.cons (.var 7) (.cons (.call i4 (.cons (.slice (.nvar 5) .none (.some (.var 6))) (.cons (.var 3) .nil))) (.cons (.var 9) (.cons (.call i4 (.cons (.slice (.nvar 5) (.some (.var 6)) .none) (.cons (.var 3) .nil))) (.cons (.var 10) .nil))))))) .nil))))))))))⟩
/-- lowest: calls common, divided, lowered -/
def B.lowest (i0 i1 i2 : Nat) : Fn := ⟨2, 7, (.cons (.ite [] (.cmp .eq (.nvar 1) (.lst .nil)) (.cons .never .nil) .nil) (.cons (.asg [0, 1] 2 (.call i0 (.cons (.var 0) (.cons (.var 1) .nil)))) (.cons (.par [0, 2, 1, 2] [4, 5] (.cons (.call i1 (.cons (.var 0) (.cons (.var 2) .nil))) (.cons (.call i1 (.cons (.var 1) (.cons (.var 2) .nil))) .nil))) (.cons (.asg [] 3 (.ite (.cmp .gt (.sub (.nvar 5) (.neg (.lit (.int (1))))) (.lit (.int (0)))) (.call i2 (.cons (.bin .add (.nvar 4) (.nvar 5)) .nil)) (.call i2 (.cons (.comp (.neg (.var 6)) (.nm 6) (.ls (.bin .add (.nvar 4) (.nvar 5))) .none [6]) .nil)))) (.cons (.ret [] (.tup (.cons (.slice (.nvar 3) .none (.some (.bi .len (.cons (.nvar 4) .nil)))) (.cons (.slice (.nvar 3) (.some (.bi .len (.cons (.nvar 4) .nil))) .none) .nil)))) .nil)))))⟩
/-- _law_derived: calls _law_add, times_single, slope -/
def B._law_derived (i0 i1 i2 : Nat) : Fn := ⟨2, 4, (.cons (.asg [0, 1, 0, 1] 2 (.call i0 (.cons (.call i1 (.cons (.call i2 (.cons (.var 0) .nil)) (.cons (.var 1) .nil))) (.cons (.comp (.neg (.var 3)) (.nm 3) (.ls (.call i1 (.cons (.var 0) (.cons (.call i2 (.cons (.var 1) .nil)) .nil)))) .none [3]) .nil)))) (.cons (.ret [2, 1, 1] (.lst (.cons (.var 2) (.cons (.call i1 (.cons (.var 1) (.cons (.var 1) .nil))) .nil)))) .nil))⟩
/-- write_power -/
def B.write_power : Fn := ⟨2, 2, (.cons (.ite [] (.cmp .lt (.nvar 1) (.lit (.int (2)))) (.cons (.ret [] (.bin .mul (.nvar 0) (.nvar 1))) .nil) .nil) (.cons .never .nil))⟩
/-- write_term -/
def B.write_term : Fn := ⟨4, 8, (.cons .never (.cons .never (.cons (.ite [] (.cmp .eq (.nvar 4) (.lit (.str ({ cps := #[] })))) (.cons (.asg [5] 6 (.var 5)) .nil) (.cons (.ite [] (.cmp .eq (.bi .abs (.cons (.nvar 0) .nil)) (.lit (.int (1)))) (.cons (.asg [4] 6 (.var 4)) .nil) (.cons (.asg [] 6 (.bin .add (.bin .add (.nvar 5) (.lit (.str ({ cps := #[42] })))) (.nvar 4))) .nil)) .nil)) (.cons (.ite [3] (.var 3) (.cons (.ret [6] (.ite (.cmp .lt (.nvar 0) (.lit (.int (0)))) (.bin .add (.lit (.str ({ cps := #[45] }))) (.nvar 6)) (.var 6))) .nil) .nil) (.cons (.ret [] (.bin .add (.ite (.cmp .lt (.nvar 0) (.lit (.int (0)))) (.lit (.str ({ cps := #[32, 45, 32] }))) (.lit (.str ({ cps := #[32, 43, 32] })))) (.nvar 6))) .nil)))))⟩
/-- write_pair -/
def B.write_pair : Fn := ⟨1, 4, (.cons (.asg [] 1 (.lit (.str ({ cps := #[] })))) (.cons .never (.cons (.ret [1] (.ite (.cmp .ne (.nvar 1) (.lit (.str ({ cps := #[] })))) (.var 1) (.lit (.str ({ cps := #[48] }))))) .nil)))⟩
/-- write_single: calls write_pair, from_x -/
def B.write_single (i0 i1 : Nat) : Fn := ⟨1, 1, (.cons (.ret [0] (.call i0 (.cons (.call i1 (.cons (.var 0) .nil)) .nil))) .nil)⟩
/-- read_terms -/
def B.read_terms : Fn := ⟨2, 10, (.cons .never (.cons .never (.cons (.asg [] 4 (.lit (.int (1)))) (.cons .never (.cons .never .nil)))))⟩
/-- read_pair: calls trimmed_pair, trimmed, read_terms -/
def B.read_pair (i0 i1 i2 : Nat) : Fn := ⟨1, 2, (.cons (.ret [0] (.call i0 (.cons (.comp (.call i1 (.cons (.var 1) .nil)) (.nm 1) (.ls (.call i2 (.cons (.var 0) (.cons (.lit (.str ({ cps := #[120, 121] }))) .nil)))) .none [1]) .nil))) .nil)⟩
/-- read_single: calls trimmed, read_terms -/
def B.read_single (i0 i1 : Nat) : Fn := ⟨1, 1, (.cons (.ret [0] (.call i0 (.cons (.sub (.call i1 (.cons (.var 0) (.cons (.lit (.str ({ cps := #[120] }))) .nil))) (.lit (.int (0)))) .nil))) .nil)⟩
/-- write_ratio -/
def B.write_ratio : Fn := ⟨1, 1, (.cons .never .nil)⟩
/-- _law_term: calls _law_take -/
def B._law_term (i0 : Nat) : Fn := ⟨1, 10, (.cons (.tgs [] [(.nm 3), (.nm 4), (.nm 5), (.nm 6)] (.cons (.lst .nil) (.cons (.lit (.int (1))) (.cons (.lit (.int (0))) (.cons (.lit (.int (0))) .nil))))) (.cons (.loop [0] (.nm 1) (.rg1 (.bin .add (.lit (.int (1))) (.call i0 (.cons (.var 0) (.cons (.lit (.int (5))) .nil))))) (.cons (.par [0, 0] [7, 8] (.cons (.call i0 (.cons (.var 0) (.cons (.lit (.int (3))) .nil))) (.cons (.bin .add (.lit (.int (1))) (.call i0 (.cons (.var 0) (.cons (.lit (.int (4))) .nil)))) .nil))) (.cons (.ite [] (.cmp .eq (.nvar 7) (.lit (.int (0)))) (.cons (.asg [] 4 (.bin .mul (.nvar 4) (.bin .add (.nvar 8) (.lit (.int (1)))))) (.cons .never .nil)) (.cons (.par [] [5, 6] (.cons (.bin .add (.nvar 5) (.bin .mul (.nvar 8) (.bi .int (.cons (.cmp .eq (.nvar 7) (.lit (.int (1)))) .nil)))) (.cons (.bin .add (.nvar 6) (.bin .mul (.nvar 8) (.bi .int (.cons (.cmp .eq (.nvar 7) (.lit (.int (2)))) .nil)))) .nil))) (.cons .never .nil))) .nil))) (.cons .never (.cons (.ret [2, 4] (.lst (.cons (.var 2) (.cons (.bin .add (.comp (.lst .nil) (.nm 9) (.rg1 (.nvar 6)) .none [9]) (.lst (.cons (.bin .add (.bin .mul (.lst (.cons (.lit (.int (0))) .nil)) (.nvar 5)) (.lst (.cons (.var 4) .nil))) .nil))) .nil)))) .nil))))⟩
/-- pair_determinant: calls times, scaled -/
def B.pair_determinant (i0 i1 : Nat) : Fn := ⟨1, 12, (.cons (.asg [] 0 (.comp (.comp (.bi .list (.cons (.nvar 9) .nil)) (.nm 9) (.ls (.nvar 7)) .none [9]) (.nm 7) (.ls (.nvar 0)) .none [7])) (.cons (.asg [] 1 (.bi .len (.cons (.nvar 0) .nil))) (.cons (.asg [] 2 (.lst (.cons (.lit (.int (1))) .nil))) (.cons (.asg [] 3 (.lit (.int (1)))) (.cons (.loop [] (.nm 4) (.rg1 (.bin .sub (.nvar 1) (.lit (.int (1))))) (.cons (.asg [] 5 (.comp (.var 6) (.nm 6) (.rg2 (.nvar 4) (.nvar 1)) (.some (.cmp .ne (.sub (.sub (.nvar 0) (.nvar 6)) (.nvar 4)) (.lst .nil))) [6])) (.cons (.ite [] (.cmp .eq (.nvar 5) (.lst .nil)) (.cons (.ret [] (.lst .nil)) .nil) .nil) (.cons (.ite [] (.cmp .ne (.sub (.nvar 5) (.lit (.int (0)))) (.nvar 4)) (.cons (.tgs [] [(.sb 0 (.var 4)), (.sb 0 (.sub (.nvar 5) (.lit (.int (0)))))] (.cons (.sub (.nvar 0) (.sub (.nvar 5) (.lit (.int (0))))) (.cons (.sub (.nvar 0) (.nvar 4)) .nil))) (.cons (.asg [3] 3 (.neg (.var 3))) .nil)) .nil) (.cons (.loop [] (.nm 6) (.rg2 (.bin .add (.nvar 4) (.lit (.int (1)))) (.nvar 1)) (.cons (.loop [] (.nm 8) (.rg2 (.bin .add (.nvar 4) (.lit (.int (1)))) (.nvar 1)) (.cons (.asg [] 10 (.call i0 (.cons (.sub (.sub (.nvar 0) (.nvar 6)) (.nvar 8)) (.cons (.sub (.sub (.nvar 0) (.nvar 4)) (.nvar 4)) .nil)))) (.cons (.asg [] 11 (.call i0 (.cons (.sub (.sub (.nvar 0) (.nvar 6)) (.nvar 4)) (.cons (.sub (.sub (.nvar 0) (.nvar 4)) (.nvar 8)) .nil)))) (.cons .never .nil)))) .nil)) (.cons (.asg [] 2 (.sub (.sub (.nvar 0) (.nvar 4)) (.nvar 4))) .nil)))))) (.cons (.ret [3] (.ite (.cmp .gt (.nvar 1) (.lit (.int (0)))) (.call i1 (.cons (.sub (.sub (.nvar 0) (.neg (.lit (.int (1))))) (.neg (.lit (.int (1))))) (.cons (.var 3) .nil))) (.lst (.cons (.lit (.int (1))) .nil)))) .nil))))))⟩
/-- resultant_by_y: calls pair_determinant -/
def B.resultant_by_y (i0 : Nat) : Fn := ⟨2, 6, (.cons (.ite [] (.or (.cmp .eq (.nvar 0) (.lst .nil)) (.cmp .eq (.nvar 1) (.lst .nil))) (.cons (.ret [] (.lst .nil)) .nil) .nil) (.cons (.asg [] 2 (.bin .sub (.bi .len (.cons (.nvar 0) .nil)) (.lit (.int (1))))) (.cons (.asg [] 3 (.bin .sub (.bi .len (.cons (.nvar 1) .nil)) (.lit (.int (1))))) (.cons (.asg [] 4 (.lst .nil)) (.cons (.loop [] (.nm 5) (.rg1 (.nvar 3)) (.cons (.app [] 4 (.bin .add (.bin .add (.bin .mul (.lst (.cons (.lst .nil) .nil)) (.nvar 5)) (.rev (.nvar 0))) (.bin .mul (.lst (.cons (.lst .nil) .nil)) (.bin .sub (.bin .sub (.nvar 3) (.lit (.int (1)))) (.nvar 5))))) .nil)) (.cons (.loop [] (.nm 5) (.rg1 (.nvar 2)) (.cons (.app [] 4 (.bin .add (.bin .add (.bin .mul (.lst (.cons (.lst .nil) .nil)) (.nvar 5)) (.rev (.nvar 1))) (.bin .mul (.lst (.cons (.lst .nil) .nil)) (.bin .sub (.bin .sub (.nvar 2) (.lit (.int (1)))) (.nvar 5))))) .nil)) (.cons (.ret [4] (.call i0 (.cons (.var 4) .nil))) .nil)))))))⟩
/-- discriminant_by_y: calls divided, resultant_by_y, slope_by_y, scaled -/
def B.discriminant_by_y (i0 i1 i2 i3 : Nat) : Fn := ⟨1, 3, (.cons (.asg [] 1 (.bin .sub (.bi .len (.cons (.nvar 0) .nil)) (.lit (.int (1))))) (.cons (.asg [0, 0] 2 (.call i0 (.cons (.call i1 (.cons (.var 0) (.cons (.call i2 (.cons (.var 0) .nil)) .nil))) (.cons (.sub (.nvar 0) (.neg (.lit (.int (1))))) .nil)))) (.cons (.ret [2, 2] (.ite (.cmp .eq (.bin .band (.bin .fdiv (.bin .mul (.nvar 1) (.bin .sub (.nvar 1) (.lit (.int (1))))) (.lit (.int (2)))) (.lit (.int (1)))) (.lit (.int (1)))) (.call i3 (.cons (.var 2) (.cons (.neg (.lit (.int (1)))) .nil))) (.var 2))) .nil)))⟩
/-- primitive_pair: calls content_by_y, divided, whole_content -/
def B.primitive_pair (i0 i1 i2 : Nat) : Fn := ⟨1, 6, (.cons (.ite [] (.cmp .eq (.nvar 0) (.lst .nil)) (.cons (.ret [] (.lst .nil)) .nil) .nil) (.cons (.asg [0] 1 (.call i0 (.cons (.var 0) .nil))) (.cons (.asg [1] 2 (.comp (.call i1 (.cons (.var 4) (.cons (.var 1) .nil))) (.nm 4) (.ls (.nvar 0)) .none [4])) (.cons (.asg [2] 3 (.call i2 (.cons (.var 2) .nil))) (.cons (.ite [] (.cmp .lt (.sub (.sub (.nvar 2) (.neg (.lit (.int (1))))) (.neg (.lit (.int (1))))) (.lit (.int (0)))) (.cons (.asg [3] 3 (.neg (.var 3))) .nil) .nil) (.cons (.ret [] (.comp (.comp (.bin .fdiv (.nvar 5) (.nvar 3)) (.nm 5) (.ls (.nvar 4)) .none [5]) (.nm 4) (.ls (.nvar 2)) .none [4])) .nil))))))⟩
/-- moved_up: calls trimmed_pair -/
def B.moved_up (i0 : Nat) : Fn := ⟨2, 3, (.cons (.ret [0] (.call i0 (.cons (.bin .add (.comp (.lst .nil) (.nm 2) (.rg1 (.nvar 1)) .none [2]) (.lst (.cons (.var 0) .nil))) .nil))) .nil)⟩
/-- rest_of_pairs: calls pair_times, moved_up, pair_taken -/
def B.rest_of_pairs (i0 i1 i2 : Nat) : Fn := ⟨2, 3, (.cons (.whl [] (.cmp .ge (.bi .len (.cons (.nvar 0) .nil)) (.bi .len (.cons (.nvar 1) .nil))) (.cons (.asg [1] 2 (.call i0 (.cons (.var 1) (.cons (.call i1 (.cons (.sub (.nvar 0) (.neg (.lit (.int (1))))) (.cons (.bin .sub (.bi .len (.cons (.nvar 0) .nil)) (.bi .len (.cons (.nvar 1) .nil))) .nil))) .nil)))) (.cons (.asg [0, 2] 0 (.call i2 (.cons (.call i0 (.cons (.var 0) (.cons (.lst (.cons (.sub (.nvar 1) (.neg (.lit (.int (1))))) .nil)) .nil))) (.cons (.var 2) .nil)))) .nil))) (.cons (.retv 0) .nil))⟩
/-- common_pair: calls primitive_pair, rest_of_pairs -/
def B.common_pair (i0 i1 : Nat) : Fn := ⟨2, 2, (.cons (.par [0, 1] [0, 1] (.cons (.call i0 (.cons (.var 0) .nil)) (.cons (.call i0 (.cons (.var 1) .nil)) .nil))) (.cons (.ite [] (.cmp .lt (.bi .len (.cons (.nvar 0) .nil)) (.bi .len (.cons (.nvar 1) .nil))) (.cons (.par [1, 0] [0, 1] (.cons (.var 1) (.cons (.var 0) .nil))) .nil) .nil) (.cons (.whl [] (.cmp .ne (.nvar 1) (.lst .nil)) (.cons (.par [1, 0, 1] [0, 1] (.cons (.var 1) (.cons (.call i0 (.cons (.call i1 (.cons (.var 0) (.cons (.var 1) .nil))) .nil)) .nil))) .nil)) (.cons (.retv 0) .nil))))⟩
/-- _law_pair_mul: calls _law_add, _law_mul, _law_pair_add -/
def B._law_pair_mul (i0 i1 i2 : Nat) : Fn := ⟨2, 5, (.cons (.asg [] 2 (.comp (.lst .nil) (.nm 3) (.rg1 (.bi .max2 (.cons (.lit (.int (0))) (.cons (.bin .sub (.bin .add (.bi .len (.cons (.nvar 0) .nil)) (.bi .len (.cons (.nvar 1) .nil))) (.lit (.int (1)))) .nil)))) .none [3])) (.cons (.loop [] (.nm 3) (.rg1 (.bi .len (.cons (.nvar 0) .nil))) (.cons (.loop [] (.nm 4) (.rg1 (.bi .len (.cons (.nvar 1) .nil))) (.cons (.set [] 2 (.bin .add (.nvar 3) (.nvar 4)) (.call i0 (.cons (.sub (.nvar 2) (.bin .add (.nvar 3) (.nvar 4))) (.cons (.call i1 (.cons (.sub (.nvar 0) (.nvar 3)) (.cons (.sub (.nvar 1) (.nvar 4)) .nil))) .nil)))) .nil)) .nil)) (.cons (.ret [2] (.call i2 (.cons (.var 2) (.cons (.lst .nil) .nil)))) .nil)))⟩
/-- _law_put: calls _law_pair_add, _law_mul, _law_pair_mul -/
def B._law_put (i0 i1 i2 : Nat) : Fn := ⟨3, 10, (.cons (.par [] [4, 5] (.cons (.lst .nil) (.cons (.lst (.cons (.lst (.cons (.lit (.int (1))) .nil)) .nil)) .nil))) (.cons (.loop [0] (.nm 3) (.ls (.var 0)) (.cons (.par [] [7, 8] (.cons (.lst .nil) (.cons (.lst (.cons (.lst (.cons (.lit (.int (1))) .nil)) .nil)) .nil))) (.cons (.loop [3] (.nm 6) (.ls (.var 3)) (.cons (.asg [7, 6] 7 (.call i0 (.cons (.var 7) (.cons (.comp (.ite (.cmp .ne (.nvar 6) (.lit (.int (0)))) (.call i1 (.cons (.var 9) (.cons (.lst (.cons (.var 6) .nil)) .nil))) (.lst .nil)) (.nm 9) (.ls (.nvar 8)) .none [9]) .nil)))) (.cons (.asg [8, 1] 8 (.call i2 (.cons (.var 8) (.cons (.var 1) .nil)))) .nil))) (.cons (.asg [4, 7, 5] 4 (.call i0 (.cons (.var 4) (.cons (.call i2 (.cons (.var 7) (.cons (.var 5) .nil))) .nil)))) (.cons (.asg [5, 2] 5 (.call i2 (.cons (.var 5) (.cons (.var 2) .nil)))) .nil))))) (.cons (.retv 4) .nil)))⟩
/-- _law_upper: calls _law_p, _law_take -/
def B._law_upper (i0 i1 : Nat) : Fn := ⟨1, 3, (.cons (.asg [0, 0] 1 (.comp (.call i0 (.cons (.var 0) (.cons (.lit (.int (1))) (.cons (.lit (.int (2))) .nil)))) (.nm 2) (.rg1 (.bin .add (.lit (.int (1))) (.call i1 (.cons (.var 0) (.cons (.lit (.int (2))) .nil))))) .none [2])) (.cons (.ret [0] (.bin .add (.nvar 1) (.lst (.cons (.lst (.cons (.sub (.lst (.cons (.lit (.int (1))) (.cons (.neg (.lit (.int (1)))) (.cons (.lit (.int (2))) .nil)))) (.call i1 (.cons (.var 0) (.cons (.lit (.int (3))) .nil)))) .nil)) .nil)))) .nil))⟩
end Mn

namespace Mn.k21
open PySem L2
def PL : List Fn := [B.common_divisor, (B.ratio 0), (B.plus 1), (B.times_ratios 1), (B.over 1), B.trimmed, (B.scaled 5), (B.times 5), (B.times 5), (B.content 0), (B.lowered 9), (B.primitive 10 6), B.turned, (B.power_sums 2 3 4), (B.weighed_sums 13 2 3), (B.from_sums 2 3 4 11 5), B._law_cell, (B._law_big 16), B._law_take, B._law_short, B._law_add, B._law_minus, (B._law_plus 19), (B._law_by 19), (B._law_p 20 18), (B._law_some 24)]
theorem PP_eq : PP = PL := by decide +kernel
def LB : MSs := (.cons (.mkst [0] 1 (.call 17 (.cons (.var 0) (.cons (.lit (.int (0))) (.cons (.lit (.int (20))) .nil))))) (.cons (.tgs [1, 1, 1, 1] [(.nm 4), (.nm 5), (.nm 6), (.nm 7)] (.cons (.call 25 (.cons (.var 1) (.cons (.lit (.int (3))) (.cons (.lit (.int (3))) .nil)))) (.cons (.call 25 (.cons (.var 1) (.cons (.lit (.int (2))) (.cons (.lit (.int (3))) .nil)))) (.cons (.call 24 (.cons (.var 1) (.cons (.lit (.int (2))) (.cons (.lit (.int (3))) .nil)))) (.cons (.bin .add (.lit (.int (1))) (.call 18 (.cons (.var 1) (.cons (.lit (.int (7))) .nil)))) .nil))))) (.cons (.tgs [4, 7, 5, 7] [(.nm 8), (.nm 9)] (.cons (.call 13 (.cons (.var 4) (.cons (.var 7) .nil))) (.cons (.call 13 (.cons (.var 5) (.cons (.var 7) .nil))) .nil))) (.cons (.ite [4, 5, 7] (.or (.cmp .ne (.bi .len (.cons (.nvar 8) .nil)) (.nvar 7)) (.cmp .ne (.call 13 (.cons (.call 8 (.cons (.var 4) (.cons (.var 5) .nil))) (.cons (.var 7) .nil))) (.comp (.call 22 (.cons (.sub (.nvar 8) (.nvar 3)) (.cons (.sub (.nvar 9) (.nvar 3)) .nil))) (.nm 3) (.rg1 (.nvar 7)) .none [3]))) (.cons (.ret [] (.lit (.bl false))) .nil) .nil) (.cons (.ite [4, 7] (.cmp .ne (.call 13 (.cons (.call 12 (.cons (.var 4) .nil)) (.cons (.var 7) .nil))) (.comp (.ite (.cmp .eq (.bin .sub (.nvar 3) (.bin .mul (.lit (.int (2))) (.bin .fdiv (.nvar 3) (.lit (.int (2)))))) (.lit (.int (0)))) (.sub (.nvar 8) (.nvar 3)) (.call 21 (.cons (.sub (.nvar 8) (.nvar 3)) .nil))) (.nm 3) (.rg1 (.nvar 7)) .none [3])) (.cons (.ret [] (.lit (.bl false))) .nil) .nil) (.cons (.asg [1] 2 (.sub (.lst (.cons (.lit (.int (2))) (.cons (.neg (.lit (.int (3)))) .nil))) (.call 18 (.cons (.var 1) (.cons (.lit (.int (2))) .nil))))) (.cons (.parO [] 10 [11, 12] (.cons (.lst .nil) (.cons (.lit (.int (1))) (.cons (.bin .sub (.bi .len (.cons (.nvar 4) .nil)) (.lit (.int (1)))) .nil)))) (.cons (.loop [] (.nm 3) (.rg1 (.bi .len (.cons (.nvar 4) .nil))) (.cons (.asg [] 10 (.bin .add (.lst (.cons (.bin .mul (.sub (.nvar 4) (.bin .sub (.nvar 12) (.nvar 3))) (.nvar 11)) .nil)) (.nvar 10))) (.cons (.asg [] 11 (.bin .mul (.nvar 11) (.nvar 2))) .nil))) (.cons (.parO [] 13 [11] (.cons (.lst .nil) (.cons (.lit (.int (1))) .nil))) (.cons (.loop [] (.nm 3) (.rg1 (.nvar 7)) (.cons (.app [11] 13 (.call 23 (.cons (.sub (.nvar 8) (.nvar 3)) (.cons (.tup (.cons (.var 11) (.cons (.lit (.int (1))) .nil))) .nil)))) (.cons (.asg [] 11 (.bin .mul (.nvar 11) (.nvar 2))) .nil))) (.cons (.ite [10, 7, 7] (.or (.cmp .ne (.call 13 (.cons (.var 10) (.cons (.var 7) .nil))) (.nvar 13)) (.cmp .ne (.call 13 (.cons (.comp (.bin .mul (.nvar 16) (.lit (.int (4)))) (.nm 16) (.ls (.nvar 4)) .none [16]) (.cons (.var 7) .nil))) (.nvar 8))) (.cons (.ret [] (.lit (.bl false))) .nil) .nil) (.cons (.tgs [4, 6, 7, 4, 5, 7] [(.nm 14), (.nm 15)] (.cons (.call 14 (.cons (.var 4) (.cons (.var 6) (.cons (.var 7) .nil)))) (.cons (.call 14 (.cons (.var 4) (.cons (.var 5) (.cons (.var 7) .nil)))) .nil))) (.cons (.ite [4, 6, 5, 7, 4, 7, 4] (.or (.cmp .ne (.call 14 (.cons (.var 4) (.cons (.call 20 (.cons (.var 6) (.cons (.var 5) .nil))) (.cons (.var 7) .nil)))) (.comp (.call 22 (.cons (.sub (.nvar 14) (.nvar 3)) (.cons (.sub (.nvar 15) (.nvar 3)) .nil))) (.nm 3) (.rg1 (.nvar 7)) .none [3])) (.cmp .ne (.call 14 (.cons (.var 4) (.cons (.lst (.cons (.lit (.int (0))) (.cons (.lit (.int (1))) .nil))) (.cons (.var 7) .nil)))) (.slice (.call 13 (.cons (.var 4) (.cons (.bin .add (.nvar 7) (.lit (.int (1)))) .nil))) (.some (.lit (.int (1)))) .none))) (.cons (.ret [] (.lit (.bl false))) .nil) .nil) (.cons (.ite [4, 6, 7, 4, 6] (.cmp .ne (.call 14 (.cons (.var 4) (.cons (.call 8 (.cons (.lst (.cons (.lit (.int (0))) (.cons (.lit (.int (1))) .nil))) (.cons (.var 6) .nil))) (.cons (.var 7) .nil)))) (.slice (.call 14 (.cons (.var 4) (.cons (.var 6) (.cons (.bin .add (.nvar 7) (.lit (.int (1)))) .nil)))) (.some (.lit (.int (1)))) .none)) (.cons (.ret [] (.lit (.bl false))) .nil) .nil) (.cons (.ret [4, 4] (.cmp .eq (.call 15 (.cons (.slice (.call 13 (.cons (.var 4) (.cons (.bi .len (.cons (.nvar 4) .nil)) .nil))) (.some (.lit (.int (1)))) .none) .nil)) (.call 11 (.cons (.var 4) .nil)))) .nil)))))))))))))))
theorem lawB_eq : lawB = LB := by decide +kernel
theorem dL_n : dL.N.length = 17 := rfl
-- 0:common_divisor 1:ratio 2:plus 3:times_ratios 4:over 5:trimmed 6:scaled 7:times 8:times_single 9:content 10:lowered 11:primitive 12:turned 13:power_sums 14:weighed_sums 15:from_sums 16:_law_cell 17:_law_big 18:_law_take 19:_law_short 20:_law_add 21:_law_minus 22:_law_plus 23:_law_by 24:_law_p 25:_law_some 26:law
end Mn.k21

/-! Mini: steps of the evaluator, for hand proofs. -/
namespace Mn
open PySem L2
theorem run_ret {P : List Fn} {k f : Nat} {ds : List D} {z z' : Zs} {fd : Fn} {r : R} (h : P[f]? = some fd) (hl : ds.length = fd.np) (e : exB (run P k) fd.body (startE fd.n ds) z = some (.ret r, z')) (hz : z.isSome = z'.isSome) :
    run P (k + 1) f ds z = some (r, z') := by
  simp only [run, h, if_pos hl, e, if_pos hz]
section
variable {i j : Int}
theorem b_add : binR .add (.sh (.int i)) (.sh (.int j)) = some (.sh (.int (i + j))) := rfl
theorem b_sub : binR .sub (.sh (.int i)) (.sh (.int j)) = some (.sh (.int (i - j))) := rfl
theorem b_mul (h : mulOk i j = true) : binR .mul (.sh (.int i)) (.sh (.int j)) = some (.sh (.int (i * j))) := by
  show ((if mulOk i j = true then some (i * j) else none).map fun o => R.sh (.int o)).or _ = _
  rw [if_pos h]; rfl
theorem b_fdiv (h : j ≠ 0 ∧ j.natAbs.log2 < 9000) : binR .fdiv (.sh (.int i)) (.sh (.int j)) = some (.sh (.int (i.fdiv j))) := by
  show ((if j ≠ 0 ∧ j.natAbs.log2 < 9000 then some (i.fdiv j) else none).map fun o => R.sh (.int o)) = _
  rw [if_pos h]; rfl
theorem b_mod (h : j ≠ 0) : binR .mod (.sh (.int i)) (.sh (.int j)) = some (.sh (.int (i.fmod j))) := by
  show ((if j ≠ 0 then some (i.fmod j) else none).map fun o => R.sh (.int o)) = _
  rw [if_pos h]; rfl
theorem b_band : binR .band (.sh (.int i)) (.sh (.int j)) = some (.sh (.int (Builtin.bitAnd i j))) := rfl
theorem c_lt : cmpR .lt (.sh (.int i)) (.sh (.int j)) = some (decide (i < j)) := rfl
theorem c_le : cmpR .le (.sh (.int i)) (.sh (.int j)) = some (decide (i ≤ j)) := rfl
theorem c_gt : cmpR .gt (.sh (.int i)) (.sh (.int j)) = some (decide (j < i)) := rfl
theorem c_ge : cmpR .ge (.sh (.int i)) (.sh (.int j)) = some (decide (j ≤ i)) := rfl
theorem c_isn {x : R} : cmpR .isn x (.sh .non) = some (isNoneR x) := rfl
theorem c_notn {x : R} : cmpR .notn x (.sh .non) = some (!isNoneR x) := rfl
theorem isn_int : isNoneR (.sh (.int i)) = false := rfl
theorem isn_non : isNoneR (.sh .non) = true := rfl
theorem bi_abs : biR .abs [.sh (.int i)] = some (.sh (.int (if i < 0 then -i else i))) := rfl
theorem bi_int : biR .int [.sh (.int i)] = some (.sh (.int i)) := rfl
theorem bi_intb {b : Bool} : biR .int [.sh (.bl b)] = some (.sh (.int (if b then 1 else 0))) := rfl
theorem bi_max2 : biR .max2 [.sh (.int i), .sh (.int j)] = some (.sh (.int (if j > i then j else i))) := rfl
theorem bi_min2 : biR .min2 [.sh (.int i), .sh (.int j)] = some (.sh (.int (if j < i then j else i))) := rfl
theorem toB_bl {b : Bool} : toB (.sh (.bl b)) = some b := rfl
theorem toDs_nil : toDs [] = some [] := rfl
theorem toDs_cons {r : R} {rs : List R} {d : D} {ds : List D} (h : r.toD = some d) (h' : toDs rs = some ds) : toDs (r :: rs) = some (d :: ds) := by
  simp only [toDs, h, h']
end
/-- ints, None, tuples and lists of such -/
def plain : Nat → D → Bool
  | _, .non => true
  | _, .int _ => true
  | n + 1, .tup xs => xs.all (plain n)
  | n + 1, .lst xs => xs.all (plain n)
  | _, _ => false
theorem pds_plain {n : Nat} (ih : ∀ d, plain n d = true → ∃ p, d.pd = some p ∧ p.canLay0 = true ∧ p.depth ≤ n) : ∀ xs : List D, xs.all (plain n) = true → ∃ ps, pds xs = some ps ∧ PyData.canLayAll0 ps = true ∧ PyData.depthAll ps ≤ n
  | [], _ => ⟨[], by simp only [pds], by simp only [PyData.canLayAll0], by simp only [PyData.depthAll]; omega⟩
  | x :: xs, h => by
    rw [List.all_cons, Bool.and_eq_true] at h
    obtain ⟨p, h1, h2, h3⟩ := ih x h.1
    obtain ⟨ps, h4, h5, h6⟩ := pds_plain ih xs h.2
    exact ⟨p :: ps, by simp only [pds, h1, h4], by simp only [PyData.canLayAll0, h2, h5]; rfl, by simp only [PyData.depthAll]; omega⟩
theorem pd_plain : ∀ (n : Nat) (d : D), plain n d = true → ∃ p, d.pd = some p ∧ p.canLay0 = true ∧ p.depth ≤ n
  | n, .non, _ => ⟨.none, by simp only [D.pd], by simp only [PyData.canLay0], by simp only [PyData.depth]; omega⟩
  | n, .int i, _ => ⟨.int i, by simp only [D.pd], by simp only [PyData.canLay0], by simp only [PyData.depth]; omega⟩
  | n + 1, .tup xs, h => by
    obtain ⟨ps, h1, h2, h3⟩ := pds_plain (pd_plain n) xs h
    exact ⟨.tuple ps, by simp only [D.pd, h1, Option.map_some], by simp only [PyData.canLay0, h2], by simp only [PyData.depth]; omega⟩
  | n + 1, .lst xs, h => by
    obtain ⟨ps, h1, h2, h3⟩ := pds_plain (pd_plain n) xs h
    exact ⟨.list ps, by simp only [D.pd, h1, Option.map_some], by simp only [PyData.canLay0, h2], by simp only [PyData.depth]; omega⟩
  | 0, .tup xs, h => by cases h
  | 0, .lst xs, h => by cases h
  | _, .bl _, h => by simp [plain] at h
  | _, .str _, h => by simp [plain] at h
  | _, .hd, h => by simp [plain] at h
  | _, .ext _, h => by simp [plain] at h
theorem eqv_all {n m : Nat} (ih : ∀ d e p q, plain n d = true → plain m e = true → d.pd = some p → e.pd = some q → PyData.eqv p q = D.beq d e) : ∀ (xs ys : List D) (ps qs : List PyData), xs.all (plain n) = true → ys.all (plain m) = true → pds xs = some ps → pds ys = some qs → PyData.eqvAll ps qs = beqs xs ys
  | [], [], ps, qs, _, _, h1, h2 => by simp only [pds] at h1 h2; cases h1; cases h2; simp only [PyData.eqvAll, beqs]
  | x :: xs, y :: ys, ps, qs, g1, g2, h1, h2 => by
    rw [List.all_cons, Bool.and_eq_true] at g1 g2
    simp only [pds] at h1 h2
    split at h1
    · split at h2
      · rename_i p ps e1 e2 _ _ q qs e3 e4
        cases h1; cases h2
        simp only [PyData.eqvAll, beqs, ih x y p q g1.1 g2.1 e1 e3, eqv_all ih xs ys ps qs g1.2 g2.2 e2 e4]
      · cases h2
    · cases h1
  | [], y :: ys, ps, qs, _, _, h1, h2 => by
    simp only [pds] at h1 h2
    split at h2
    · cases h1; cases h2; simp only [PyData.eqvAll, beqs]
    · cases h2
  | x :: xs, [], ps, qs, _, _, h1, h2 => by
    simp only [pds] at h1 h2
    split at h1
    · cases h1; cases h2; simp only [PyData.eqvAll, beqs]
    · cases h1
theorem eqv_plain : ∀ (n m : Nat) (d e : D) (p q : PyData), plain n d = true → plain m e = true → d.pd = some p → e.pd = some q → PyData.eqv p q = D.beq d e := by
  intro n
  induction n with
  | zero =>
    intro m d e p q g1 g2 h1 h2
    cases d <;> simp [plain] at g1 <;> cases m <;> cases e <;> simp [plain] at g2 <;> simp [D.pd] at h1 h2 <;> subst_vars <;> first | (simp [PyData.eqv, D.beq]; done) | (obtain ⟨_, _, rfl⟩ := h2; simp [PyData.eqv, D.beq])
  | succ n ih =>
    intro m d e p q g1 g2 h1 h2
    cases d with
    | tup xs =>
      simp only [plain] at g1
      simp only [D.pd] at h1
      obtain ⟨ps, e1, rfl⟩ := Option.map_eq_some_iff.mp h1
      cases e with
      | tup ys =>
        cases m with
        | zero => simp [plain] at g2
        | succ m =>
          simp only [plain] at g2
          simp only [D.pd] at h2
          obtain ⟨qs, e2, rfl⟩ := Option.map_eq_some_iff.mp h2
          simp only [PyData.eqv, D.beq]
          exact eqv_all (fun d e p q => ih m d e p q) xs ys ps qs g1 g2 e1 e2
      | lst ys => simp only [D.pd] at h2; obtain ⟨qs, e2, rfl⟩ := Option.map_eq_some_iff.mp h2; simp [PyData.eqv, D.beq]
      | _ => simp [plain] at g2 <;> simp [D.pd] at h2 <;> subst_vars <;> simp [PyData.eqv, D.beq]
    | lst xs =>
      simp only [plain] at g1
      simp only [D.pd] at h1
      obtain ⟨ps, e1, rfl⟩ := Option.map_eq_some_iff.mp h1
      cases e with
      | lst ys =>
        cases m with
        | zero => simp [plain] at g2
        | succ m =>
          simp only [plain] at g2
          simp only [D.pd] at h2
          obtain ⟨qs, e2, rfl⟩ := Option.map_eq_some_iff.mp h2
          simp only [PyData.eqv, D.beq]
          exact eqv_all (fun d e p q => ih m d e p q) xs ys ps qs g1 g2 e1 e2
      | tup ys => simp only [D.pd] at h2; obtain ⟨qs, e2, rfl⟩ := Option.map_eq_some_iff.mp h2; simp [PyData.eqv, D.beq]
      | _ => simp [plain] at g2 <;> simp [D.pd] at h2 <;> subst_vars <;> simp [PyData.eqv, D.beq]
    | non =>
      simp only [D.pd] at h1; cases h1
      cases e with
      | tup ys => simp only [D.pd] at h2; obtain ⟨qs, e2, rfl⟩ := Option.map_eq_some_iff.mp h2; simp [PyData.eqv, D.beq]
      | lst ys => simp only [D.pd] at h2; obtain ⟨qs, e2, rfl⟩ := Option.map_eq_some_iff.mp h2; simp [PyData.eqv, D.beq]
      | _ => simp [plain] at g2 <;> simp [D.pd] at h2 <;> subst_vars <;> simp [PyData.eqv, D.beq]
    | int i =>
      simp only [D.pd] at h1; cases h1
      cases e with
      | tup ys => simp only [D.pd] at h2; obtain ⟨qs, e2, rfl⟩ := Option.map_eq_some_iff.mp h2; simp [PyData.eqv, D.beq]
      | lst ys => simp only [D.pd] at h2; obtain ⟨qs, e2, rfl⟩ := Option.map_eq_some_iff.mp h2; simp [PyData.eqv, D.beq]
      | _ => simp [plain] at g2 <;> simp [D.pd] at h2 <;> subst_vars <;> simp [PyData.eqv, D.beq]
    | _ => simp [plain] at g1
/-- == of plain data -/
theorem eqD_plain {d e : D} (h1 : plain 9 d = true) (h2 : plain 9 e = true) : eqD d e = some (decide (d = e)) := by
  obtain ⟨p, e1, c1, l1⟩ := pd_plain 9 d h1
  obtain ⟨q, e2, c2, l2⟩ := pd_plain 9 e h2
  unfold eqD
  simp only [e1, e2]
  rw [if_pos ⟨by unfold SeqAt.shaped; rw [c1, decide_eq_true (by omega)]; rfl, by unfold SeqAt.shaped; rw [c2, decide_eq_true (by omega)]; rfl⟩, eqv_plain 9 9 d e p q h1 h2 e1 e2]
  congr 1
  cases hb : D.beq d e with
  | true => exact (decide_eq_true (D.beq_sound d e hb)).symm
  | false => exact (decide_eq_false fun x => by rw [x, D.beq_rfl] at hb; cases hb).symm
theorem c_eq {x y : R} (h1 : plain 9 x.view = true) (h2 : plain 9 y.view = true) : cmpR .eq x y = some (decide (x.view = y.view)) := eqD_plain h1 h2
theorem c_ne {x y : R} (h1 : plain 9 x.view = true) (h2 : plain 9 y.view = true) : cmpR .ne x y = some (!decide (x.view = y.view)) := by
  show (eqD x.view y.view).map (!·) = _
  rw [eqD_plain h1 h2]; rfl
theorem eq_int {i j : Int} : cmpR .eq (.sh (.int i)) (.sh (.int j)) = some (decide (i = j)) := (c_eq rfl rfl).trans (by simp [R.view])
theorem ne_int {i j : Int} : cmpR .ne (.sh (.int i)) (.sh (.int j)) = some (!decide (i = j)) := (c_ne rfl rfl).trans (by simp [R.view])
theorem exB_nx {C : CallF} {s : MS} {l : MSs} {ρ ρ' : Env} {z z' : Zs} (h : exS C s ρ z = some (.nx ρ', z')) : exB C (.cons s l) ρ z = exB C l ρ' z' := by
  rw [exB]; rw [h]
theorem exB_ret {C : CallF} {s : MS} {l : MSs} {ρ : Env} {r : R} {z z' : Zs} (h : exS C s ρ z = some (.ret r, z')) : exB C (.cons s l) ρ z = some (.ret r, z') := by
  rw [exB]; rw [h]
theorem ixN_nat {n k : Nat} (h : k < n) : ixN n (k : Int) = some k := by
  unfold ixN
  rw [if_pos (by omega), if_pos (by omega)]
  rfl
theorem atI_nat {α : Type} {xs : List α} {k : Nat} (h : k < xs.length) : atI xs (k : Int) = some xs[k] := by
  unfold atI
  rw [ixN_nat h]
  exact List.getElem?_eq_getElem h
theorem atI_map {α β : Type} {f : α → β} {xs : List α} {k : Int} : atI (xs.map f) k = (atI xs k).map f := by
  unfold atI
  rw [List.length_map]
  cases ixN xs.length k with
  | none => rfl
  | some j => simp
theorem loopS_fold {σ : Type} {z : Zs} {f : D → Env → Zs → Option (Out × Zs)} (E : σ → Env) (g : σ → D → σ) : ∀ (ds : List D) (s0 : σ), (∀ s d, d ∈ ds → f d (E s) z = some (.nx (E (g s d)), z)) → loopS f ds (E s0) z = some (.nx (E (ds.foldl g s0)), z)
  | [], s0, h => rfl
  | d :: ds, s0, h => by
    unfold loopS
    rw [h s0 d List.mem_cons_self]
    exact loopS_fold E g ds _ fun s d m => h s d (List.mem_cons_of_mem _ m)
theorem mulOk_l {i j : Int} (h1 : -18446744073709551616 < i) (h2 : i < 18446744073709551616) : mulOk i j = true := by simp [mulOk, h1, h2]
theorem mulOk_r {i j : Int} (h1 : -18446744073709551616 < j) (h2 : j < 18446744073709551616) : mulOk i j = true := by simp [mulOk, h1, h2]
theorem ml {i j : Int} (h1 : -18446744073709551616 < i := by decide) (h2 : i < 18446744073709551616 := by decide) : mulOk i j = true := mulOk_l h1 h2
theorem mr {i j : Int} (h1 : -18446744073709551616 < j := by decide) (h2 : j < 18446744073709551616 := by decide) : mulOk i j = true := mulOk_r h1 h2
theorem fmod_lt' (a : Int) {b : Int} (h : 0 < b) : 0 ≤ a.fmod b ∧ a.fmod b < b := ⟨Int.fmod_nonneg_of_pos a h, Int.fmod_lt_of_pos a h⟩
theorem sub_hd {n : Int} : subR (.sh .hd) (.sh (.int 0)) (some n) = some (.sh (.int n)) := rfl
theorem take_ok {P : List Fn} {k i : Nat} {m s : Int} (h : P[i]? = some B._law_take) (hm : m ≠ 0) (hb : m.natAbs.log2 < 9000) : run P (k + 1) i [.hd, .int m] (some s) = some (.sh (.int (s.fmod m)), some (s.fdiv m)) := by
  refine run_ret h rfl ?_ rfl
  have e1 := @b_mod s m hm
  have e2 := @b_fdiv s m ⟨hm, hb⟩
  show exB _ (.cons _ _) [.sh .hd, .sh (.int m), .un] _ = _
  rw [exB]; simp -implicitDefEqProofs only [exS, freeze, froz, evE.eq_1, evE.eq_2, evE.eq_3, evE.eq_4, evE.eq_5, evE.eq_6, evE.eq_7, evE.eq_8, evE.eq_9, evE.eq_10, evE.eq_11, evE.eq_12, evE.eq_13, evE.eq_14, evE.eq_15, evE.eq_16, evE.eq_17, evE.eq_18, evRs, evO, evC, bd_some, bd_none, List.getElem?_cons_succ, List.getElem?_cons_zero, List.set_cons_succ, List.set_cons_zero, putR, setTs, setT, b_add, b_sub, b_band, c_lt, c_le, c_gt, c_ge, c_isn, c_notn, isn_int, isn_non, bi_abs, bi_int, bi_intb, bi_max2, bi_min2, toB_bl, toDs_nil, toDs_cons, R.toD, Option.map_some, Option.map_none, List.getD_cons_zero, List.getD_cons_succ, if_true, eq_int, ne_int, sub_hd, e1, e2]
  rw [exB]; simp -implicitDefEqProofs only [exS, freeze, froz, evE.eq_1, evE.eq_2, evE.eq_3, evE.eq_4, evE.eq_5, evE.eq_6, evE.eq_7, evE.eq_8, evE.eq_9, evE.eq_10, evE.eq_11, evE.eq_12, evE.eq_13, evE.eq_14, evE.eq_15, evE.eq_16, evE.eq_17, evE.eq_18, evRs, evO, evC, bd_some, bd_none, List.getElem?_cons_succ, List.getElem?_cons_zero, List.set_cons_succ, List.set_cons_zero, putR, setTs, setT, b_add, b_sub, b_band, c_lt, c_le, c_gt, c_ge, c_isn, c_notn, isn_int, isn_non, bi_abs, bi_int, bi_intb, bi_max2, bi_min2, toB_bl, toDs_nil, toDs_cons, R.toD, Option.map_some, Option.map_none, List.getD_cons_zero, List.getD_cons_succ, if_true, eq_int, ne_int, sub_hd, e1, e2]
  rw [exB]; simp -implicitDefEqProofs only [exS, freeze, froz, evE.eq_1, evE.eq_2, evE.eq_3, evE.eq_4, evE.eq_5, evE.eq_6, evE.eq_7, evE.eq_8, evE.eq_9, evE.eq_10, evE.eq_11, evE.eq_12, evE.eq_13, evE.eq_14, evE.eq_15, evE.eq_16, evE.eq_17, evE.eq_18, evRs, evO, evC, bd_some, bd_none, List.getElem?_cons_succ, List.getElem?_cons_zero, List.set_cons_succ, List.set_cons_zero, putR, setTs, setT, b_add, b_sub, b_band, c_lt, c_le, c_gt, c_ge, c_isn, c_notn, isn_int, isn_non, bi_abs, bi_int, bi_intb, bi_max2, bi_min2, toB_bl, toDs_nil, toDs_cons, R.toD, Option.map_some, Option.map_none, List.getD_cons_zero, List.getD_cons_succ, if_true, eq_int, ne_int, sub_hd, e1, e2]
end Mn

namespace Mn
open PySem L2
theorem lg1000 : (1000 : Int).natAbs.log2 < 9000 := by decide
theorem len_ext {ns : List Int} : biR .len [.sh (.ext ns)] = some (.sh (.int ns.length)) := rfl
theorem sub_ext {ns : List Int} {k : Int} {v : Int} {z : Zs} (h : atI ns k = some v) : subR (.sh (.ext ns)) (.sh (.int k)) z = some (.sh (.int v)) := by
  show (atI ns k).map _ = _
  rw [h]; rfl
theorem pow9 : binR .pow (.sh (.int 10)) (.sh (.int 9)) = some (.sh (.int 1000000000)) := by
  show ((if (0 : Int) ≤ 9 ∧ (9 : Int) ≤ 1000000 ∧ (10 : Int).natAbs < 18446744073709551616 then some ((10 : Int) ^ (9 : Int).toNat) else none).map fun o => R.sh (.int o)) = _
  rw [if_pos (by decide)]; rfl
theorem nz1 : (2147483647 : Int) ≠ 0 := by decide
theorem nz2 : (2147483629 : Int) ≠ 0 := by decide
theorem cell_ok {P : List Fn} {K i : Nat} (h : P[i]? = some B._law_cell) (ns : List Int) (k : Nat) (z : Zs) : ∃ v : Int, run P (K + 1) i [.ext ns, .int k] z = some (.sh (.int v), z) := by
  -- the end
  have ends : ∀ c : Int, ∃ v : Int, exB (run P K) (.cons (.asg [] 2 (.bin .mod (.bi .int (.cons (.bin .add (.bin .mul (.nvar 2) (.lit (.int (48271)))) (.bin .mul (.lit (.int (69621))) (.nvar 1))) .nil)) (.lit (.int (2147483647))))) (.cons (.ret [] (.bin .mod (.bi .int (.cons (.bin .add (.bin .mul (.nvar 2) (.nvar 2)) (.bin .mul (.lit (.int (48271))) (.bin .fdiv (.nvar 2) (.lit (.int (1000)))))) .nil)) (.lit (.int (2147483629))))) .nil)) [.sh (.ext ns), .sh (.int k), .sh (.int c)] z = some (.ret (.sh (.int v)), z) := fun c => by
    have a1 : mulOk c 48271 = true := mr
    have a2 : ∀ x, mulOk 69621 x = true := fun x => ml
    have a3 : ∀ x, mulOk 48271 x = true := fun x => ml
    have a4 : ∀ x, binR .mod (.sh (.int x)) (.sh (.int 2147483647)) = some (.sh (.int (x.fmod 2147483647))) := fun x => b_mod nz1
    have a5 : ∀ x, binR .mod (.sh (.int x)) (.sh (.int 2147483629)) = some (.sh (.int (x.fmod 2147483629))) := fun x => b_mod nz2
    have a6 : ∀ x, binR .fdiv (.sh (.int x)) (.sh (.int 1000)) = some (.sh (.int (x.fdiv 1000))) := fun x => b_fdiv ⟨by decide, lg1000⟩
    rw [exB]; simp -implicitDefEqProofs only [exS, freeze, froz, evE.eq_1, evE.eq_2, evE.eq_3, evE.eq_4, evE.eq_5, evE.eq_6, evE.eq_7, evE.eq_8, evE.eq_9, evE.eq_10, evE.eq_11, evE.eq_12, evE.eq_13, evE.eq_14, evE.eq_15, evE.eq_16, evE.eq_17, evE.eq_18, evRs, evO, evC, bd_some, bd_none, List.getElem?_cons_succ, List.getElem?_cons_zero, List.set_cons_succ, List.set_cons_zero, putR, setTs, setT, b_add, b_sub, b_band, c_lt, c_le, c_gt, c_ge, c_isn, c_notn, isn_int, isn_non, bi_abs, bi_int, bi_intb, bi_max2, bi_min2, toB_bl, toDs_nil, toDs_cons, R.toD, Option.map_some, Option.map_none, List.getD_cons_zero, List.getD_cons_succ, if_true, eq_int, ne_int, b_mul a1, b_mul (a2 _), a4]
    obtain ⟨h1, h2⟩ := fmod_lt' (c * 48271 + 69621 * k) (b := 2147483647) (by decide)
    generalize (c * 48271 + 69621 * (k : Int)).fmod 2147483647 = d at h1 h2
    have a7 : mulOk d d = true := mulOk_l (by omega) (by omega)
    rw [exB]; simp -implicitDefEqProofs only [exS, freeze, froz, evE.eq_1, evE.eq_2, evE.eq_3, evE.eq_4, evE.eq_5, evE.eq_6, evE.eq_7, evE.eq_8, evE.eq_9, evE.eq_10, evE.eq_11, evE.eq_12, evE.eq_13, evE.eq_14, evE.eq_15, evE.eq_16, evE.eq_17, evE.eq_18, evRs, evO, evC, bd_some, bd_none, List.getElem?_cons_succ, List.getElem?_cons_zero, List.set_cons_succ, List.set_cons_zero, putR, setTs, setT, b_add, b_sub, b_band, c_lt, c_le, c_gt, c_ge, c_isn, c_notn, isn_int, isn_non, bi_abs, bi_int, bi_intb, bi_max2, bi_min2, toB_bl, toDs_nil, toDs_cons, R.toD, Option.map_some, Option.map_none, List.getD_cons_zero, List.getD_cons_succ, if_true, eq_int, ne_int, b_mul a7, a6, b_mul (a3 _), a5]
    exact ⟨_, rfl⟩
  have b31 : ∀ x, mulOk 31 x = true := fun x => ml
  have b7 : ∀ x, mulOk 7 x = true := fun x => ml
  have tl : ∃ v : Int, exB (run P K) (.cons (.asg [] 2 (.bin .add (.bin .mul (.lit (.int (7))) (.nvar 1)) (.lit (.int (1))))) (.cons (.ite [] (.cmp .gt (.bi .len (.cons (.nvar 0) .nil)) (.lit (.int (0)))) (.cons (.asg [] 2 (.bin .add (.nvar 2) (.bin .mul (.lit (.int (31))) (.sub (.nvar 0) (.bin .mod (.bi .int (.cons (.nvar 1) .nil)) (.bi .len (.cons (.nvar 0) .nil))))))) .nil) .nil) (.cons (.asg [] 2 (.bin .mod (.bi .int (.cons (.bin .add (.bin .mul (.nvar 2) (.lit (.int (48271)))) (.bin .mul (.lit (.int (69621))) (.nvar 1))) .nil)) (.lit (.int (2147483647))))) (.cons (.ret [] (.bin .mod (.bi .int (.cons (.bin .add (.bin .mul (.nvar 2) (.nvar 2)) (.bin .mul (.lit (.int (48271))) (.bin .fdiv (.nvar 2) (.lit (.int (1000)))))) .nil)) (.lit (.int (2147483629))))) .nil)))) [.sh (.ext ns), .sh (.int k), .un] z = some (.ret (.sh (.int v)), z) := by
    rw [exB]; simp -implicitDefEqProofs only [exS, freeze, froz, evE.eq_1, evE.eq_2, evE.eq_3, evE.eq_4, evE.eq_5, evE.eq_6, evE.eq_7, evE.eq_8, evE.eq_9, evE.eq_10, evE.eq_11, evE.eq_12, evE.eq_13, evE.eq_14, evE.eq_15, evE.eq_16, evE.eq_17, evE.eq_18, evRs, evO, evC, bd_some, bd_none, List.getElem?_cons_succ, List.getElem?_cons_zero, List.set_cons_succ, List.set_cons_zero, putR, setTs, setT, b_add, b_sub, b_band, c_lt, c_le, c_gt, c_ge, c_isn, c_notn, isn_int, isn_non, bi_abs, bi_int, bi_intb, bi_max2, bi_min2, toB_bl, toDs_nil, toDs_cons, R.toD, Option.map_some, Option.map_none, List.getD_cons_zero, List.getD_cons_succ, if_true, eq_int, ne_int, b_mul (b7 _)]
    rw [exB]; simp -implicitDefEqProofs only [exS, freeze, froz, evE.eq_1, evE.eq_2, evE.eq_3, evE.eq_4, evE.eq_5, evE.eq_6, evE.eq_7, evE.eq_8, evE.eq_9, evE.eq_10, evE.eq_11, evE.eq_12, evE.eq_13, evE.eq_14, evE.eq_15, evE.eq_16, evE.eq_17, evE.eq_18, evRs, evO, evC, bd_some, bd_none, List.getElem?_cons_succ, List.getElem?_cons_zero, List.set_cons_succ, List.set_cons_zero, putR, setTs, setT, b_add, b_sub, b_band, c_lt, c_le, c_gt, c_ge, c_isn, c_notn, isn_int, isn_non, bi_abs, bi_int, bi_intb, bi_max2, bi_min2, toB_bl, toDs_nil, toDs_cons, R.toD, Option.map_some, Option.map_none, List.getD_cons_zero, List.getD_cons_succ, if_true, eq_int, ne_int, len_ext]
    by_cases h0 : 0 < ns.length
    · have hk : k % ns.length < ns.length := Nat.mod_lt _ h0
      have e2 : atI ns ((k : Int).fmod (ns.length : Int)) = some (ns[k % ns.length]) := by
        have : (k : Int).fmod (ns.length : Int) = ((k % ns.length : Nat) : Int) := by rw [Int.fmod_eq_emod_of_nonneg _ (by omega)]; rfl
        rw [this]; exact atI_nat hk
      have nz : (ns.length : Int) ≠ 0 := by omega
      have d0 : decide ((0 : Int) < (ns.length : Int)) = true := decide_eq_true (by omega)
      rw [d0]
      simp only
      rw [exB]; simp -implicitDefEqProofs only [exS, freeze, froz, evE.eq_1, evE.eq_2, evE.eq_3, evE.eq_4, evE.eq_5, evE.eq_6, evE.eq_7, evE.eq_8, evE.eq_9, evE.eq_10, evE.eq_11, evE.eq_12, evE.eq_13, evE.eq_14, evE.eq_15, evE.eq_16, evE.eq_17, evE.eq_18, evRs, evO, evC, bd_some, bd_none, List.getElem?_cons_succ, List.getElem?_cons_zero, List.set_cons_succ, List.set_cons_zero, putR, setTs, setT, b_add, b_sub, b_band, c_lt, c_le, c_gt, c_ge, c_isn, c_notn, isn_int, isn_non, bi_abs, bi_int, bi_intb, bi_max2, bi_min2, toB_bl, toDs_nil, toDs_cons, R.toD, Option.map_some, Option.map_none, List.getD_cons_zero, List.getD_cons_succ, if_true, eq_int, ne_int, len_ext, b_mod nz, sub_ext e2, b_mul (b31 _)]
      rw [exB]
      exact ends _
    · have d0 : decide ((0 : Int) < (ns.length : Int)) = false := decide_eq_false (by omega)
      rw [d0]
      simp only
      rw [exB]
      exact ends _
  have fin : ∀ v : Int, exB (run P K) B._law_cell.body (startE B._law_cell.n [.ext ns, .int k]) z = some (.ret (.sh (.int v)), z) → run P (K + 1) i [.ext ns, .int k] z = some (.sh (.int v), z) := fun v e => run_ret h rfl e rfl
  have hs : startE B._law_cell.n [.ext ns, .int k] = [.sh (.ext ns), .sh (.int k), .un] := rfl
  rw [hs] at fin
  unfold B._law_cell at fin
  simp only at fin
  by_cases h1 : k < ns.length
  · have e1 : atI ns (k : Int) = some (ns[k]) := atI_nat h1
    have d1 : decide ((k : Int) < (ns.length : Int)) = true := decide_eq_true (by omega)
    cases hb : decide ((1000000000 : Int) ≤ ns[k]) with
    | true =>
      refine ⟨ns[k], fin _ ?_⟩
      rw [exB]; simp -implicitDefEqProofs only [exS, freeze, froz, evE.eq_1, evE.eq_2, evE.eq_3, evE.eq_4, evE.eq_5, evE.eq_6, evE.eq_7, evE.eq_8, evE.eq_9, evE.eq_10, evE.eq_11, evE.eq_12, evE.eq_13, evE.eq_14, evE.eq_15, evE.eq_16, evE.eq_17, evE.eq_18, evRs, evO, evC, bd_some, bd_none, List.getElem?_cons_succ, List.getElem?_cons_zero, List.set_cons_succ, List.set_cons_zero, putR, setTs, setT, b_add, b_sub, b_band, c_lt, c_le, c_gt, c_ge, c_isn, c_notn, isn_int, isn_non, bi_abs, bi_int, bi_intb, bi_max2, bi_min2, toB_bl, toDs_nil, toDs_cons, R.toD, Option.map_some, Option.map_none, List.getD_cons_zero, List.getD_cons_succ, if_true, eq_int, ne_int, len_ext, d1, sub_ext e1, pow9, hb]
      rw [exB]; simp -implicitDefEqProofs only [exS, freeze, froz, evE.eq_1, evE.eq_2, evE.eq_3, evE.eq_4, evE.eq_5, evE.eq_6, evE.eq_7, evE.eq_8, evE.eq_9, evE.eq_10, evE.eq_11, evE.eq_12, evE.eq_13, evE.eq_14, evE.eq_15, evE.eq_16, evE.eq_17, evE.eq_18, evRs, evO, evC, bd_some, bd_none, List.getElem?_cons_succ, List.getElem?_cons_zero, List.set_cons_succ, List.set_cons_zero, putR, setTs, setT, b_add, b_sub, b_band, c_lt, c_le, c_gt, c_ge, c_isn, c_notn, isn_int, isn_non, bi_abs, bi_int, bi_intb, bi_max2, bi_min2, toB_bl, toDs_nil, toDs_cons, R.toD, Option.map_some, Option.map_none, List.getD_cons_zero, List.getD_cons_succ, if_true, eq_int, ne_int, sub_ext e1]
    | false =>
      obtain ⟨v, tl⟩ := tl
      refine ⟨v, fin _ ?_⟩
      rw [exB]; simp -implicitDefEqProofs only [exS, freeze, froz, evE.eq_1, evE.eq_2, evE.eq_3, evE.eq_4, evE.eq_5, evE.eq_6, evE.eq_7, evE.eq_8, evE.eq_9, evE.eq_10, evE.eq_11, evE.eq_12, evE.eq_13, evE.eq_14, evE.eq_15, evE.eq_16, evE.eq_17, evE.eq_18, evRs, evO, evC, bd_some, bd_none, List.getElem?_cons_succ, List.getElem?_cons_zero, List.set_cons_succ, List.set_cons_zero, putR, setTs, setT, b_add, b_sub, b_band, c_lt, c_le, c_gt, c_ge, c_isn, c_notn, isn_int, isn_non, bi_abs, bi_int, bi_intb, bi_max2, bi_min2, toB_bl, toDs_nil, toDs_cons, R.toD, Option.map_some, Option.map_none, List.getD_cons_zero, List.getD_cons_succ, if_true, eq_int, ne_int, len_ext, d1, sub_ext e1, pow9, hb]
      rw [exB]
      exact tl
  · have d1 : decide ((k : Int) < (ns.length : Int)) = false := decide_eq_false (by omega)
    obtain ⟨v, tl⟩ := tl
    refine ⟨v, fin _ ?_⟩
    rw [exB]; simp -implicitDefEqProofs only [exS, freeze, froz, evE.eq_1, evE.eq_2, evE.eq_3, evE.eq_4, evE.eq_5, evE.eq_6, evE.eq_7, evE.eq_8, evE.eq_9, evE.eq_10, evE.eq_11, evE.eq_12, evE.eq_13, evE.eq_14, evE.eq_15, evE.eq_16, evE.eq_17, evE.eq_18, evRs, evO, evC, bd_some, bd_none, List.getElem?_cons_succ, List.getElem?_cons_zero, List.set_cons_succ, List.set_cons_zero, putR, setTs, setT, b_add, b_sub, b_band, c_lt, c_le, c_gt, c_ge, c_isn, c_notn, isn_int, isn_non, bi_abs, bi_int, bi_intb, bi_max2, bi_min2, toB_bl, toDs_nil, toDs_cons, R.toD, Option.map_some, Option.map_none, List.getD_cons_zero, List.getD_cons_succ, if_true, eq_int, ne_int, len_ext, d1]
    rw [exB]
    exact tl
/-- the fold of a loop over a range, where a turn's value is only known to be some -/
theorem loopS_ex {z : Zs} {f : D → Env → Zs → Option (Out × Zs)} (E : Int → Slot → Env) : ∀ (ds : List D) (s0 : Int) (l0 : Slot), (∀ s l d, d ∈ ds → ∃ s', f d (E s l) z = some (.nx (E s' (.sh d)), z)) → ∃ s l, loopS f ds (E s0 l0) z = some (.nx (E s l), z)
  | [], s0, l0, h => ⟨s0, l0, rfl⟩
  | d :: ds, s0, l0, h => by
    obtain ⟨s', e⟩ := h s0 l0 d List.mem_cons_self
    obtain ⟨s, l, e2⟩ := loopS_ex E ds s' (.sh d) fun s l d m => h s l d (List.mem_cons_of_mem _ m)
    refine ⟨s, l, ?_⟩
    unfold loopS
    rw [e]
    exact e2
theorem mem_range {n : Nat} {d : D} (h : d ∈ rangeD 0 n) : ∃ i : Nat, i < n ∧ d = .int i := by
  unfold rangeD at h
  obtain ⟨i, h1, h2⟩ := List.mem_map.mp h
  exact ⟨i, List.mem_range.mp h1, by rw [← h2]; congr 1; omega⟩
theorem small_of {n : Nat} (h : n ≤ 16777216) : small n = true := decide_eq_true h
theorem rgOk_of {i : Int} (h1 : -4611686018427387904 ≤ i) (h2 : i < 4611686018427387904) : rgOk i = true := by
  unfold rgOk
  rw [decide_eq_true h1, decide_eq_true h2]
  rfl
theorem rg1_ok' {C : CallF} {ρ : Env} {ow : Bool} {a : ME} {j : Int} {z z' : Zs} (h : evE C ρ a z = some (.sh (.int j), z')) (h1 : rgOk j = true) (h2 : small j.toNat = true) : evI C ρ ow (.rg1 a) z = some (rangeD 0 j.toNat, z') := by
  rw [evI, h, bd_some]
  exact if_pos ⟨h1, h2⟩
theorem rg1_ok {C : CallF} {ρ : Env} {ow : Bool} {a : ME} {n : Nat} {z z' : Zs} (h : evE C ρ a z = some (.sh (.int n), z')) (hn : n ≤ 16777216) : evI C ρ ow (.rg1 a) z = some (rangeD 0 n, z') :=
  rg1_ok' h (rgOk_of (by omega) (by omega)) (small_of hn)
theorem big_ok {P : List Fn} {K i jc : Nat} (h : P[i]? = some (B._law_big jc)) (hc : P[jc]? = some B._law_cell) (ns : List Int) (n : Nat) (hn : n ≤ 1000) (z : Zs) : ∃ v : Int, run P (K + 2) i [.ext ns, .int 0, .int n] z = some (.fr [.int v], z) := by
  have hs : startE (B._law_big jc).n [.ext ns, .int 0, .int n] = [.sh (.ext ns), .sh (.int 0), .sh (.int n), .un, .un] := rfl
  have lp : ∃ (s : Int) (l : Slot), exS (run P (K + 1)) (.loop [] (.nm 4) (.rg1 (.nvar 2)) (.cons (.asg [0] 3 (.bin .add (.bin .mul (.nvar 3) (.lit (.int (2147483648)))) (.call jc (.cons (.var 0) (.cons (.bin .add (.nvar 1) (.nvar 4)) .nil))))) .nil)) [.sh (.ext ns), .sh (.int 0), .sh (.int n), .sh (.int 0), .un] z = some (.nx [.sh (.ext ns), .sh (.int 0), .sh (.int n), .sh (.int s), l], z) := by
    rw [exS, rg1_ok (n := n) (z' := z) rfl (by omega), bd_some]
    refine loopS_ex (fun s l => [.sh (.ext ns), .sh (.int 0), .sh (.int n), .sh (.int s), l]) _ 0 .un fun s l d m => ?_
    obtain ⟨j, hj, rfl⟩ := mem_range m
    obtain ⟨v, e⟩ := cell_ok (K := K) hc ns j z
    have a1 : mulOk s 2147483648 = true := mr
    refine ⟨s * 2147483648 + v, ?_⟩
    simp only [setT, List.set_cons_succ, List.set_cons_zero]
    have e0 : (0 : Int) + (j : Int) = (j : Int) := by omega
    rw [exB]; simp -implicitDefEqProofs only [exS, freeze, froz, evE.eq_1, evE.eq_2, evE.eq_3, evE.eq_4, evE.eq_5, evE.eq_6, evE.eq_7, evE.eq_8, evE.eq_9, evE.eq_10, evE.eq_11, evE.eq_12, evE.eq_13, evE.eq_14, evE.eq_15, evE.eq_16, evE.eq_17, evE.eq_18, evRs, evO, evC, bd_some, bd_none, List.getElem?_cons_succ, List.getElem?_cons_zero, List.set_cons_succ, List.set_cons_zero, putR, setTs, setT, b_add, b_sub, b_band, c_lt, c_le, c_gt, c_ge, c_isn, c_notn, isn_int, isn_non, bi_abs, bi_int, bi_intb, bi_max2, bi_min2, toB_bl, toDs_nil, toDs_cons, R.toD, Option.map_some, Option.map_none, List.getD_cons_zero, List.getD_cons_succ, if_true, eq_int, ne_int, b_mul a1, toDs, e0, e]
    rw [exB]
  obtain ⟨s, l, lp⟩ := lp
  refine ⟨s, run_ret h rfl ?_ rfl⟩
  rw [hs]
  unfold B._law_big
  simp only
  rw [exB]; simp -implicitDefEqProofs only [exS, freeze, froz, evE.eq_1, evE.eq_2, evE.eq_3, evE.eq_4, evE.eq_5, evE.eq_6, evE.eq_7, evE.eq_8, evE.eq_9, evE.eq_10, evE.eq_11, evE.eq_12, evE.eq_13, evE.eq_14, evE.eq_15, evE.eq_16, evE.eq_17, evE.eq_18, evRs, evO, evC, bd_some, bd_none, List.getElem?_cons_succ, List.getElem?_cons_zero, List.set_cons_succ, List.set_cons_zero, putR, setTs, setT, b_add, b_sub, b_band, c_lt, c_le, c_gt, c_ge, c_isn, c_notn, isn_int, isn_non, bi_abs, bi_int, bi_intb, bi_max2, bi_min2, toB_bl, toDs_nil, toDs_cons, R.toD, Option.map_some, Option.map_none, List.getD_cons_zero, List.getD_cons_succ, if_true, eq_int, ne_int]
  rw [exB_nx lp]
  rw [exB]; simp -implicitDefEqProofs only [exS, freeze, froz, evE.eq_1, evE.eq_2, evE.eq_3, evE.eq_4, evE.eq_5, evE.eq_6, evE.eq_7, evE.eq_8, evE.eq_9, evE.eq_10, evE.eq_11, evE.eq_12, evE.eq_13, evE.eq_14, evE.eq_15, evE.eq_16, evE.eq_17, evE.eq_18, evRs, evO, evC, bd_some, bd_none, List.getElem?_cons_succ, List.getElem?_cons_zero, List.set_cons_succ, List.set_cons_zero, putR, setTs, setT, b_add, b_sub, b_band, c_lt, c_le, c_gt, c_ge, c_isn, c_notn, isn_int, isn_non, bi_abs, bi_int, bi_intb, bi_max2, bi_min2, toB_bl, toDs_nil, toDs_cons, R.toD, Option.map_some, Option.map_none, List.getD_cons_zero, List.getD_cons_succ, if_true, eq_int, ne_int, toDs]
end Mn

namespace Mn
open PySem L2
section
variable {C : CallF} {fz : List Nat} {c : ME} {b : MSs} {ρ ρ' : Env} {z z1 z2 : Zs}
theorem whl_true (hc : evE C (freeze ρ fz) c z = some (.sh (.bl true), z1)) (hb : exB C b (freeze ρ fz) z1 = some (.nx ρ', z2)) : exS C (.whl fz c b) ρ z = exS C (.whl fz c b) ρ' z2 := by
  rw [exS, whS_eq, hc, bd_some]
  simp only [toB_bl, Option.map_some, hb]
  rw [exS]
theorem whl_false (hc : evE C (freeze ρ fz) c z = some (.sh (.bl false), z1)) : exS C (.whl fz c b) ρ z = some (.nx (freeze ρ fz), z1) := by
  rw [exS, whS_eq, hc, bd_some]
  simp only [toB_bl, Option.map_some]
theorem whl_ret {r : R} (hc : evE C (freeze ρ fz) c z = some (.sh (.bl true), z1)) (hb : exB C b (freeze ρ fz) z1 = some (.ret r, z2)) : exS C (.whl fz c b) ρ z = some (.ret r, z2) := by
  rw [exS, whS_eq, hc, bd_some]
  simp only [toB_bl, Option.map_some, hb]
end
theorem gcd_loop {C : CallF} {z : Zs} : ∀ (b a : Nat), exS C (.whl [] (.cmp .gt (.nvar 1) (.lit (.int (0)))) (.cons (.par [1] [0, 1] (.cons (.var 1) (.cons (.bin .mod (.nvar 0) (.nvar 1)) .nil))) .nil)) [.sh (.int a), .sh (.int b)] z = some (.nx [.sh (.int (Nat.gcd a b)), .sh (.int 0)], z) := by
  intro b
  induction b using Nat.strongRecOn with
  | _ b ih =>
    intro a
    by_cases h0 : b = 0
    · subst h0
      have e := whl_false (C := C) (fz := []) (c := .cmp .gt (.nvar 1) (.lit (.int (0)))) (b := (.cons (.par [1] [0, 1] (.cons (.var 1) (.cons (.bin .mod (.nvar 0) (.nvar 1)) .nil))) .nil)) (ρ := [.sh (.int a), .sh (.int ((0 : Nat) : Int))]) (z := z) (z1 := z) (by simp -implicitDefEqProofs only [exS, freeze, froz, evE.eq_1, evE.eq_2, evE.eq_3, evE.eq_4, evE.eq_5, evE.eq_6, evE.eq_7, evE.eq_8, evE.eq_9, evE.eq_10, evE.eq_11, evE.eq_12, evE.eq_13, evE.eq_14, evE.eq_15, evE.eq_16, evE.eq_17, evE.eq_18, evRs, evO, evC, bd_some, bd_none, List.getElem?_cons_succ, List.getElem?_cons_zero, List.set_cons_succ, List.set_cons_zero, putR, setTs, setT, b_add, b_sub, b_band, c_lt, c_le, c_gt, c_ge, c_isn, c_notn, isn_int, isn_non, bi_abs, bi_int, bi_intb, bi_max2, bi_min2, toB_bl, toDs_nil, toDs_cons, R.toD, Option.map_some, Option.map_none, List.getD_cons_zero, List.getD_cons_succ, if_true, eq_int, ne_int]; rfl)
      rw [e, Nat.gcd_zero_right]
      rfl
    · have hb : (b : Int) ≠ 0 := by omega
      rw [whl_true (z1 := z) (z2 := z) (ρ' := [.sh (.int b), .sh (.int ((a % b : Nat) : Int))])]
      · rw [ih (a % b) (Nat.mod_lt _ (by omega)) b, Nat.gcd_comm a b, Nat.gcd_rec b a, Nat.gcd_comm]
      · simp -implicitDefEqProofs only [exS, freeze, froz, evE.eq_1, evE.eq_2, evE.eq_3, evE.eq_4, evE.eq_5, evE.eq_6, evE.eq_7, evE.eq_8, evE.eq_9, evE.eq_10, evE.eq_11, evE.eq_12, evE.eq_13, evE.eq_14, evE.eq_15, evE.eq_16, evE.eq_17, evE.eq_18, evRs, evO, evC, bd_some, bd_none, List.getElem?_cons_succ, List.getElem?_cons_zero, List.set_cons_succ, List.set_cons_zero, putR, setTs, setT, b_add, b_sub, b_band, c_lt, c_le, c_gt, c_ge, c_isn, c_notn, isn_int, isn_non, bi_abs, bi_int, bi_intb, bi_max2, bi_min2, toB_bl, toDs_nil, toDs_cons, R.toD, Option.map_some, Option.map_none, List.getD_cons_zero, List.getD_cons_succ, if_true, eq_int, ne_int]
        rw [decide_eq_true (by omega)]
      · rw [exB]; simp -implicitDefEqProofs only [exS, freeze, froz, evE.eq_1, evE.eq_2, evE.eq_3, evE.eq_4, evE.eq_5, evE.eq_6, evE.eq_7, evE.eq_8, evE.eq_9, evE.eq_10, evE.eq_11, evE.eq_12, evE.eq_13, evE.eq_14, evE.eq_15, evE.eq_16, evE.eq_17, evE.eq_18, evRs, evO, evC, bd_some, bd_none, List.getElem?_cons_succ, List.getElem?_cons_zero, List.set_cons_succ, List.set_cons_zero, putR, setTs, setT, b_add, b_sub, b_band, c_lt, c_le, c_gt, c_ge, c_isn, c_notn, isn_int, isn_non, bi_abs, bi_int, bi_intb, bi_max2, bi_min2, toB_bl, toDs_nil, toDs_cons, R.toD, Option.map_some, Option.map_none, List.getD_cons_zero, List.getD_cons_succ, if_true, eq_int, ne_int, b_mod hb, toDs]
        rw [exB, Int.fmod_eq_emod_of_nonneg _ (by omega)]
        rfl
theorem cd_ok {P : List Fn} {K i : Nat} (h : P[i]? = some B.common_divisor) (a b : Int) (z : Zs) : run P (K + 1) i [.int a, .int b] z = some (.sh (.int (Int.gcd a b)), z) := by
  refine run_ret h rfl ?_ rfl
  have ab : ∀ x : Int, (if x < 0 then -x else x) = (x.natAbs : Int) := fun x => by omega
  unfold B.common_divisor
  simp only
  show exB _ _ [.sh (.int a), .sh (.int b)] _ = _
  rw [exB]; simp -implicitDefEqProofs only [exS, freeze, froz, evE.eq_1, evE.eq_2, evE.eq_3, evE.eq_4, evE.eq_5, evE.eq_6, evE.eq_7, evE.eq_8, evE.eq_9, evE.eq_10, evE.eq_11, evE.eq_12, evE.eq_13, evE.eq_14, evE.eq_15, evE.eq_16, evE.eq_17, evE.eq_18, evRs, evO, evC, bd_some, bd_none, List.getElem?_cons_succ, List.getElem?_cons_zero, List.set_cons_succ, List.set_cons_zero, putR, setTs, setT, b_add, b_sub, b_band, c_lt, c_le, c_gt, c_ge, c_isn, c_notn, isn_int, isn_non, bi_abs, bi_int, bi_intb, bi_max2, bi_min2, toB_bl, toDs_nil, toDs_cons, R.toD, Option.map_some, Option.map_none, List.getD_cons_zero, List.getD_cons_succ, if_true, eq_int, ne_int, toDs, ab]
  rw [exB_nx (gcd_loop _ _)]
  rw [exB]; simp -implicitDefEqProofs only [exS, freeze, froz, evE.eq_1, evE.eq_2, evE.eq_3, evE.eq_4, evE.eq_5, evE.eq_6, evE.eq_7, evE.eq_8, evE.eq_9, evE.eq_10, evE.eq_11, evE.eq_12, evE.eq_13, evE.eq_14, evE.eq_15, evE.eq_16, evE.eq_17, evE.eq_18, evRs, evO, evC, bd_some, bd_none, List.getElem?_cons_succ, List.getElem?_cons_zero, List.set_cons_succ, List.set_cons_zero, putR, setTs, setT, b_add, b_sub, b_band, c_lt, c_le, c_gt, c_ge, c_isn, c_notn, isn_int, isn_non, bi_abs, bi_int, bi_intb, bi_max2, bi_min2, toB_bl, toDs_nil, toDs_cons, R.toD, Option.map_some, Option.map_none, List.getD_cons_zero, List.getD_cons_succ, if_true, eq_int, ne_int]
  rfl
/-- a fraction, in lowest terms -/
def qd (p : Rat) : D := .tup [.int p.num, .int p.den]
abbrev Q (p : Rat) : R := .sh (qd p)
theorem ratio_ok {P : List Fn} {K i j : Nat} (h : P[i]? = some (B.ratio j)) (hj : P[j]? = some B.common_divisor) (n d : Int) (hd : d ≠ 0) (hb : (Int.gcd n d).log2 < 9000) (z : Zs) : run P (K + 2) i [.int n, .int d] z = some (Q (Rat.divInt n d), z) := by
  refine run_ret h rfl ?_ rfl
  have hg : ((Int.gcd n d : Nat) : Int) ≠ 0 := by have := Int.gcd_pos_of_ne_zero_right n hd; omega
  unfold B.ratio
  simp only
  show exB _ _ [.sh (.int n), .sh (.int d), .un] _ = _
  rw [exB]; simp -implicitDefEqProofs only [exS, freeze, froz, evE.eq_1, evE.eq_2, evE.eq_3, evE.eq_4, evE.eq_5, evE.eq_6, evE.eq_7, evE.eq_8, evE.eq_9, evE.eq_10, evE.eq_11, evE.eq_12, evE.eq_13, evE.eq_14, evE.eq_15, evE.eq_16, evE.eq_17, evE.eq_18, evRs, evO, evC, bd_some, bd_none, List.getElem?_cons_succ, List.getElem?_cons_zero, List.set_cons_succ, List.set_cons_zero, putR, setTs, setT, b_add, b_sub, b_band, c_lt, c_le, c_gt, c_ge, c_isn, c_notn, isn_int, isn_non, bi_abs, bi_int, bi_intb, bi_max2, bi_min2, toB_bl, toDs_nil, toDs_cons, R.toD, Option.map_some, Option.map_none, List.getD_cons_zero, List.getD_cons_succ, if_true, eq_int, ne_int, decide_eq_false hd]
  rw [exB]
  simp only
  rw [exB]; simp -implicitDefEqProofs only [exS, freeze, froz, evE.eq_1, evE.eq_2, evE.eq_3, evE.eq_4, evE.eq_5, evE.eq_6, evE.eq_7, evE.eq_8, evE.eq_9, evE.eq_10, evE.eq_11, evE.eq_12, evE.eq_13, evE.eq_14, evE.eq_15, evE.eq_16, evE.eq_17, evE.eq_18, evRs, evO, evC, bd_some, bd_none, List.getElem?_cons_succ, List.getElem?_cons_zero, List.set_cons_succ, List.set_cons_zero, putR, setTs, setT, b_add, b_sub, b_band, c_lt, c_le, c_gt, c_ge, c_isn, c_notn, isn_int, isn_non, bi_abs, bi_int, bi_intb, bi_max2, bi_min2, toB_bl, toDs_nil, toDs_cons, R.toD, Option.map_some, Option.map_none, List.getD_cons_zero, List.getD_cons_succ, if_true, eq_int, ne_int, toDs, cd_ok hj]
  obtain ⟨u, hu⟩ := Int.gcd_dvd_left (a := n) (b := d)
  obtain ⟨v, hv⟩ := Int.gcd_dvd_right (a := n) (b := d)
  have hn' : (Rat.divInt n d).num = (d.sign * n) / (Int.gcd n d : Int) := by rw [Rat.num_divInt, Int.gcd_comm]
  have hd' : ((Rat.divInt n d).den : Int) = d.natAbs / (Int.gcd n d : Int) := by rw [Rat.den_divInt, if_neg hd, Int.gcd_comm]; rfl
  by_cases hs : d < 0
  · rw [exB]; simp -implicitDefEqProofs only [exS, freeze, froz, evE.eq_1, evE.eq_2, evE.eq_3, evE.eq_4, evE.eq_5, evE.eq_6, evE.eq_7, evE.eq_8, evE.eq_9, evE.eq_10, evE.eq_11, evE.eq_12, evE.eq_13, evE.eq_14, evE.eq_15, evE.eq_16, evE.eq_17, evE.eq_18, evRs, evO, evC, bd_some, bd_none, List.getElem?_cons_succ, List.getElem?_cons_zero, List.set_cons_succ, List.set_cons_zero, putR, setTs, setT, b_add, b_sub, b_band, c_lt, c_le, c_gt, c_ge, c_isn, c_notn, isn_int, isn_non, bi_abs, bi_int, bi_intb, bi_max2, bi_min2, toB_bl, toDs_nil, toDs_cons, R.toD, Option.map_some, Option.map_none, List.getD_cons_zero, List.getD_cons_succ, if_true, eq_int, ne_int, decide_eq_true hs]
    rw [exB]; simp -implicitDefEqProofs only [exS, freeze, froz, evE.eq_1, evE.eq_2, evE.eq_3, evE.eq_4, evE.eq_5, evE.eq_6, evE.eq_7, evE.eq_8, evE.eq_9, evE.eq_10, evE.eq_11, evE.eq_12, evE.eq_13, evE.eq_14, evE.eq_15, evE.eq_16, evE.eq_17, evE.eq_18, evRs, evO, evC, bd_some, bd_none, List.getElem?_cons_succ, List.getElem?_cons_zero, List.set_cons_succ, List.set_cons_zero, putR, setTs, setT, b_add, b_sub, b_band, c_lt, c_le, c_gt, c_ge, c_isn, c_notn, isn_int, isn_non, bi_abs, bi_int, bi_intb, bi_max2, bi_min2, toB_bl, toDs_nil, toDs_cons, R.toD, Option.map_some, Option.map_none, List.getD_cons_zero, List.getD_cons_succ, if_true, eq_int, ne_int]
    rw [exB]
    simp only
    have hg' : -((Int.gcd n d : Nat) : Int) ≠ 0 := by omega
    have hb' : (-((Int.gcd n d : Nat) : Int)).natAbs.log2 < 9000 := by rw [Int.natAbs_neg]; exact hb
    rw [exB]; simp -implicitDefEqProofs only [exS, freeze, froz, evE.eq_1, evE.eq_2, evE.eq_3, evE.eq_4, evE.eq_5, evE.eq_6, evE.eq_7, evE.eq_8, evE.eq_9, evE.eq_10, evE.eq_11, evE.eq_12, evE.eq_13, evE.eq_14, evE.eq_15, evE.eq_16, evE.eq_17, evE.eq_18, evRs, evO, evC, bd_some, bd_none, List.getElem?_cons_succ, List.getElem?_cons_zero, List.set_cons_succ, List.set_cons_zero, putR, setTs, setT, b_add, b_sub, b_band, c_lt, c_le, c_gt, c_ge, c_isn, c_notn, isn_int, isn_non, bi_abs, bi_int, bi_intb, bi_max2, bi_min2, toB_bl, toDs_nil, toDs_cons, R.toD, Option.map_some, Option.map_none, List.getD_cons_zero, List.getD_cons_succ, if_true, eq_int, ne_int, b_fdiv ⟨hg', hb'⟩, toDs]
    have e1 : n.fdiv (-(Int.gcd n d : Int)) = (Rat.divInt n d).num := by
      rw [hn', Int.sign_eq_neg_one_of_neg hs]
      generalize ((Int.gcd n d : Nat) : Int) = g at *
      rw [hu]
      rw [show g * u = -g * -u by rw [Int.neg_mul_neg], Int.mul_fdiv_cancel_left _ (by omega), show -1 * (-g * -u) = g * -u by rw [Int.neg_mul_neg, Int.mul_neg]; omega, Int.mul_ediv_cancel_left _ hg]
    have e2 : d.fdiv (-(Int.gcd n d : Int)) = (Rat.divInt n d).den := by
      rw [hd']
      have : (d.natAbs : Int) = -d := by omega
      rw [this]
      generalize ((Int.gcd n d : Nat) : Int) = g at *
      rw [hv]
      rw [show g * v = -g * -v by rw [Int.neg_mul_neg], Int.mul_fdiv_cancel_left _ (by omega), show -(-g * -v) = g * -v by rw [Int.neg_mul_neg, Int.mul_neg], Int.mul_ediv_cancel_left _ hg]
    rw [e1, e2]
    rfl
  · rw [exB]; simp -implicitDefEqProofs only [exS, freeze, froz, evE.eq_1, evE.eq_2, evE.eq_3, evE.eq_4, evE.eq_5, evE.eq_6, evE.eq_7, evE.eq_8, evE.eq_9, evE.eq_10, evE.eq_11, evE.eq_12, evE.eq_13, evE.eq_14, evE.eq_15, evE.eq_16, evE.eq_17, evE.eq_18, evRs, evO, evC, bd_some, bd_none, List.getElem?_cons_succ, List.getElem?_cons_zero, List.set_cons_succ, List.set_cons_zero, putR, setTs, setT, b_add, b_sub, b_band, c_lt, c_le, c_gt, c_ge, c_isn, c_notn, isn_int, isn_non, bi_abs, bi_int, bi_intb, bi_max2, bi_min2, toB_bl, toDs_nil, toDs_cons, R.toD, Option.map_some, Option.map_none, List.getD_cons_zero, List.getD_cons_succ, if_true, eq_int, ne_int, decide_eq_false hs]
    rw [exB]
    simp only
    rw [exB]; simp -implicitDefEqProofs only [exS, freeze, froz, evE.eq_1, evE.eq_2, evE.eq_3, evE.eq_4, evE.eq_5, evE.eq_6, evE.eq_7, evE.eq_8, evE.eq_9, evE.eq_10, evE.eq_11, evE.eq_12, evE.eq_13, evE.eq_14, evE.eq_15, evE.eq_16, evE.eq_17, evE.eq_18, evRs, evO, evC, bd_some, bd_none, List.getElem?_cons_succ, List.getElem?_cons_zero, List.set_cons_succ, List.set_cons_zero, putR, setTs, setT, b_add, b_sub, b_band, c_lt, c_le, c_gt, c_ge, c_isn, c_notn, isn_int, isn_non, bi_abs, bi_int, bi_intb, bi_max2, bi_min2, toB_bl, toDs_nil, toDs_cons, R.toD, Option.map_some, Option.map_none, List.getD_cons_zero, List.getD_cons_succ, if_true, eq_int, ne_int, b_fdiv ⟨hg, hb⟩, toDs]
    have e1 : n.fdiv (Int.gcd n d : Int) = (Rat.divInt n d).num := by
      rw [hn', Int.sign_eq_one_of_pos (by omega), Int.one_mul]
      exact Int.fdiv_eq_ediv_of_nonneg _ (by omega)
    have e2 : d.fdiv (Int.gcd n d : Int) = (Rat.divInt n d).den := by
      rw [hd']
      have : (d.natAbs : Int) = d := by omega
      rw [this]
      exact Int.fdiv_eq_ediv_of_nonneg _ (by omega)
    rw [e1, e2]
    rfl
end Mn

namespace Mn
open PySem L2
theorem log2_lt {n a : Nat} (h : n < 2 ^ a) : n.log2 ≤ a := by
  by_cases h0 : n = 0
  · subst h0; rw [show Nat.log2 0 = 0 by decide]; omega
  · have := (Nat.log2_lt h0).mpr h; omega
theorem mulOk_lg {i j : Int} {a b : Nat} (h1 : i.natAbs < 2 ^ a) (h2 : j.natAbs < 2 ^ b) (h : a + b < 1000000) : mulOk i j = true := by
  have e1 := log2_lt h1
  have e2 := log2_lt h2
  unfold mulOk
  rw [decide_eq_true (p := i.natAbs.log2 + j.natAbs.log2 < 1000000) (by omega), Bool.or_true]
/-- small numbers above and below -/
def Bd (b : Nat) (p : Rat) : Prop := p.num.natAbs < 2 ^ b ∧ p.den < 2 ^ b
theorem Bd.mono {a b : Nat} {p : Rat} (h : Bd a p) (l : a ≤ b) : Bd b p := ⟨Nat.lt_of_lt_of_le h.1 (Nat.pow_le_pow_right (by decide) l), Nat.lt_of_lt_of_le h.2 (Nat.pow_le_pow_right (by decide) l)⟩
theorem divInt_le (n d : Int) (hd : d ≠ 0) : (Rat.divInt n d).num.natAbs ≤ n.natAbs ∧ (Rat.divInt n d).den ≤ d.natAbs := by
  constructor
  · rw [Rat.num_divInt, Int.natAbs_ediv_of_dvd]
    · refine Nat.le_trans (Nat.div_le_self _ _) ?_
      rw [Int.natAbs_mul, Int.natAbs_sign_of_ne_zero hd, Nat.one_mul]
      exact Nat.le_refl _
    · exact Int.dvd_mul_of_dvd_right (Int.gcd_dvd_right _ _)
  · rw [Rat.den_divInt, if_neg hd]
    exact Nat.div_le_self _ _
theorem mul_lt2 {x y a b : Nat} (h1 : x < 2 ^ a) (h2 : y < 2 ^ b) : x * y < 2 ^ (a + b) := by
  rw [Nat.pow_add]
  exact Nat.mul_lt_mul'' h1 h2
theorem den_ne (p : Rat) : (p.den : Int) ≠ 0 := by have := p.den_nz; omega
theorem gcd_log {n d : Int} {b : Nat} (hd : d ≠ 0) (h : d.natAbs < 2 ^ b) (hb : b < 9000) : (Int.gcd n d).log2 < 9000 := by
  have h1 : Int.gcd n d ≤ d.natAbs := Nat.le_of_dvd (by omega) (Nat.gcd_dvd_right _ _)
  have := log2_lt (Nat.lt_of_le_of_lt h1 h)
  omega
section
variable {P : List Fn} {K i j jc : Nat} {p q : Rat} {a b : Nat} {z : Zs}
theorem sub0 {x : Rat} : subR (.sh (qd x)) (.sh (.int 0)) z = some (.sh (.int x.num)) := rfl
theorem sub1 {x : Rat} : subR (.sh (qd x)) (.sh (.int 1)) z = some (.sh (.int x.den)) := rfl
theorem add_divInt (p q : Rat) : Rat.divInt (p.num * q.den + q.num * p.den) (p.den * q.den) = p + q := by
  conv => rhs; rw [← Rat.num_divInt_den p, ← Rat.num_divInt_den q, Rat.divInt_add_divInt _ _ (den_ne p) (den_ne q)]
theorem sub_divInt (p q : Rat) : Rat.divInt (p.num * q.den - q.num * p.den) (p.den * q.den) = p - q := by
  conv => rhs; rw [← Rat.num_divInt_den p, ← Rat.num_divInt_den q, Rat.divInt_sub_divInt _ _ (den_ne p) (den_ne q)]
theorem mul_divInt (p q : Rat) : Rat.divInt (p.num * q.num) (p.den * q.den) = p * q := by
  conv => rhs; rw [← Rat.num_divInt_den p, ← Rat.num_divInt_den q, Rat.divInt_mul_divInt]
theorem div_divInt (p q : Rat) (h : q ≠ 0) : Rat.divInt (p.num * q.den) (p.den * q.num) = p / q := by
  have e : p / q = p * q⁻¹ := Rat.div_def p q
  rw [e]
  conv => rhs; rw [← Rat.num_divInt_den p, ← Rat.num_divInt_den q, Rat.inv_divInt, Rat.divInt_mul_divInt]
theorem num_ne {q : Rat} (h : q ≠ 0) : q.num ≠ 0 := fun e => h (Rat.num_eq_zero.mp e)
theorem den_mul (p q : Rat) : (p.den : Int) * (q.den : Int) ≠ 0 := Int.mul_ne_zero (den_ne p) (den_ne q)
theorem plus_ok (h : P[i]? = some (B.plus j)) (hj : P[j]? = some (B.ratio jc)) (hc : P[jc]? = some B.common_divisor) (hp : Bd a p) (hq : Bd b q) (hl : a + b < 9000) : run P (K + 3) i [qd p, qd q] z = some (Q (p + q), z) := by
  refine run_ret h rfl ?_ rfl
  have m1 := mulOk_lg (i := p.num) (j := q.den) hp.1 hq.2 (by omega)
  have m2 := mulOk_lg (i := q.num) (j := p.den) hq.1 hp.2 (by omega)
  have m3 := mulOk_lg (i := p.den) (j := q.den) hp.2 hq.2 (by omega)
  unfold B.plus
  simp only
  show exB _ _ [.sh (qd p), .sh (qd q)] _ = _
  have e := ratio_ok (K := K) hj hc (p.num * q.den + q.num * p.den) (p.den * q.den) (den_mul p q) (gcd_log (den_mul p q) (by rw [Int.natAbs_mul]; exact mul_lt2 hp.2 hq.2) hl) z
  rw [add_divInt] at e
  rw [exB]; simp -implicitDefEqProofs only [exS, freeze, froz, evE.eq_1, evE.eq_2, evE.eq_3, evE.eq_4, evE.eq_5, evE.eq_6, evE.eq_7, evE.eq_8, evE.eq_9, evE.eq_10, evE.eq_11, evE.eq_12, evE.eq_13, evE.eq_14, evE.eq_15, evE.eq_16, evE.eq_17, evE.eq_18, evRs, evO, evC, bd_some, bd_none, List.getElem?_cons_succ, List.getElem?_cons_zero, List.set_cons_succ, List.set_cons_zero, putR, setTs, setT, b_add, b_sub, b_band, c_lt, c_le, c_gt, c_ge, c_isn, c_notn, isn_int, isn_non, bi_abs, bi_int, bi_intb, bi_max2, bi_min2, toB_bl, toDs_nil, toDs_cons, R.toD, Option.map_some, Option.map_none, List.getD_cons_zero, List.getD_cons_succ, if_true, eq_int, ne_int, sub0, sub1, b_mul m1, b_mul m2, b_mul m3, toDs, e]
theorem minus_ok (h : P[i]? = some (B.minus j)) (hj : P[j]? = some (B.ratio jc)) (hc : P[jc]? = some B.common_divisor) (hp : Bd a p) (hq : Bd b q) (hl : a + b < 9000) : run P (K + 3) i [qd p, qd q] z = some (Q (p - q), z) := by
  refine run_ret h rfl ?_ rfl
  have m1 := mulOk_lg (i := p.num) (j := q.den) hp.1 hq.2 (by omega)
  have m2 := mulOk_lg (i := q.num) (j := p.den) hq.1 hp.2 (by omega)
  have m3 := mulOk_lg (i := p.den) (j := q.den) hp.2 hq.2 (by omega)
  unfold B.minus
  simp only
  show exB _ _ [.sh (qd p), .sh (qd q)] _ = _
  have e := ratio_ok (K := K) hj hc (p.num * q.den - q.num * p.den) (p.den * q.den) (den_mul p q) (gcd_log (den_mul p q) (by rw [Int.natAbs_mul]; exact mul_lt2 hp.2 hq.2) hl) z
  rw [sub_divInt] at e
  rw [exB]; simp -implicitDefEqProofs only [exS, freeze, froz, evE.eq_1, evE.eq_2, evE.eq_3, evE.eq_4, evE.eq_5, evE.eq_6, evE.eq_7, evE.eq_8, evE.eq_9, evE.eq_10, evE.eq_11, evE.eq_12, evE.eq_13, evE.eq_14, evE.eq_15, evE.eq_16, evE.eq_17, evE.eq_18, evRs, evO, evC, bd_some, bd_none, List.getElem?_cons_succ, List.getElem?_cons_zero, List.set_cons_succ, List.set_cons_zero, putR, setTs, setT, b_add, b_sub, b_band, c_lt, c_le, c_gt, c_ge, c_isn, c_notn, isn_int, isn_non, bi_abs, bi_int, bi_intb, bi_max2, bi_min2, toB_bl, toDs_nil, toDs_cons, R.toD, Option.map_some, Option.map_none, List.getD_cons_zero, List.getD_cons_succ, if_true, eq_int, ne_int, sub0, sub1, b_mul m1, b_mul m2, b_mul m3, toDs, e]
theorem timesR_ok (h : P[i]? = some (B.times_ratios j)) (hj : P[j]? = some (B.ratio jc)) (hc : P[jc]? = some B.common_divisor) (hp : Bd a p) (hq : Bd b q) (hl : a + b < 9000) : run P (K + 3) i [qd p, qd q] z = some (Q (p * q), z) := by
  refine run_ret h rfl ?_ rfl
  have m1 := mulOk_lg (i := p.num) (j := q.num) hp.1 hq.1 (by omega)
  have m3 := mulOk_lg (i := p.den) (j := q.den) hp.2 hq.2 (by omega)
  unfold B.times_ratios
  simp only
  show exB _ _ [.sh (qd p), .sh (qd q)] _ = _
  have e := ratio_ok (K := K) hj hc (p.num * q.num) (p.den * q.den) (den_mul p q) (gcd_log (den_mul p q) (by rw [Int.natAbs_mul]; exact mul_lt2 hp.2 hq.2) hl) z
  rw [mul_divInt] at e
  rw [exB]; simp -implicitDefEqProofs only [exS, freeze, froz, evE.eq_1, evE.eq_2, evE.eq_3, evE.eq_4, evE.eq_5, evE.eq_6, evE.eq_7, evE.eq_8, evE.eq_9, evE.eq_10, evE.eq_11, evE.eq_12, evE.eq_13, evE.eq_14, evE.eq_15, evE.eq_16, evE.eq_17, evE.eq_18, evRs, evO, evC, bd_some, bd_none, List.getElem?_cons_succ, List.getElem?_cons_zero, List.set_cons_succ, List.set_cons_zero, putR, setTs, setT, b_add, b_sub, b_band, c_lt, c_le, c_gt, c_ge, c_isn, c_notn, isn_int, isn_non, bi_abs, bi_int, bi_intb, bi_max2, bi_min2, toB_bl, toDs_nil, toDs_cons, R.toD, Option.map_some, Option.map_none, List.getD_cons_zero, List.getD_cons_succ, if_true, eq_int, ne_int, sub0, sub1, b_mul m1, b_mul m3, toDs, e]
theorem over_ok (h : P[i]? = some (B.over j)) (hj : P[j]? = some (B.ratio jc)) (hc : P[jc]? = some B.common_divisor) (hp : Bd a p) (hq : Bd b q) (hl : a + b < 9000) (h0 : q ≠ 0) : run P (K + 3) i [qd p, qd q] z = some (Q (p / q), z) := by
  refine run_ret h rfl ?_ rfl
  have m1 := mulOk_lg (i := p.num) (j := q.den) hp.1 hq.2 (by omega)
  have m3 := mulOk_lg (i := p.den) (j := q.num) hp.2 hq.1 (by omega)
  have hd : (p.den : Int) * q.num ≠ 0 := Int.mul_ne_zero (den_ne p) (num_ne h0)
  unfold B.over
  simp only
  show exB _ _ [.sh (qd p), .sh (qd q)] _ = _
  have e := ratio_ok (K := K) hj hc (p.num * q.den) (p.den * q.num) hd (gcd_log hd (by rw [Int.natAbs_mul]; exact mul_lt2 hp.2 hq.1) hl) z
  rw [div_divInt p q h0] at e
  rw [exB]; simp -implicitDefEqProofs only [exS, freeze, froz, evE.eq_1, evE.eq_2, evE.eq_3, evE.eq_4, evE.eq_5, evE.eq_6, evE.eq_7, evE.eq_8, evE.eq_9, evE.eq_10, evE.eq_11, evE.eq_12, evE.eq_13, evE.eq_14, evE.eq_15, evE.eq_16, evE.eq_17, evE.eq_18, evRs, evO, evC, bd_some, bd_none, List.getElem?_cons_succ, List.getElem?_cons_zero, List.set_cons_succ, List.set_cons_zero, putR, setTs, setT, b_add, b_sub, b_band, c_lt, c_le, c_gt, c_ge, c_isn, c_notn, isn_int, isn_non, bi_abs, bi_int, bi_intb, bi_max2, bi_min2, toB_bl, toDs_nil, toDs_cons, R.toD, Option.map_some, Option.map_none, List.getD_cons_zero, List.getD_cons_succ, if_true, eq_int, ne_int, sub0, sub1, b_mul m1, b_mul m3, toDs, e]
theorem sign_ok (h : P[i]? = some B.sign) (n : Int) : run P (K + 1) i [.int n] z = some (.sh (.int n.sign), z) := by
  refine run_ret h rfl ?_ rfl
  unfold B.sign
  simp only
  show exB _ _ [.sh (.int n)] _ = _
  by_cases h1 : 0 < n
  · rw [exB]; simp -implicitDefEqProofs only [exS, freeze, froz, evE.eq_1, evE.eq_2, evE.eq_3, evE.eq_4, evE.eq_5, evE.eq_6, evE.eq_7, evE.eq_8, evE.eq_9, evE.eq_10, evE.eq_11, evE.eq_12, evE.eq_13, evE.eq_14, evE.eq_15, evE.eq_16, evE.eq_17, evE.eq_18, evRs, evO, evC, bd_some, bd_none, List.getElem?_cons_succ, List.getElem?_cons_zero, List.set_cons_succ, List.set_cons_zero, putR, setTs, setT, b_add, b_sub, b_band, c_lt, c_le, c_gt, c_ge, c_isn, c_notn, isn_int, isn_non, bi_abs, bi_int, bi_intb, bi_max2, bi_min2, toB_bl, toDs_nil, toDs_cons, R.toD, Option.map_some, Option.map_none, List.getD_cons_zero, List.getD_cons_succ, if_true, eq_int, ne_int, decide_eq_true h1]
    rw [exB]; simp -implicitDefEqProofs only [exS, freeze, froz, evE.eq_1, evE.eq_2, evE.eq_3, evE.eq_4, evE.eq_5, evE.eq_6, evE.eq_7, evE.eq_8, evE.eq_9, evE.eq_10, evE.eq_11, evE.eq_12, evE.eq_13, evE.eq_14, evE.eq_15, evE.eq_16, evE.eq_17, evE.eq_18, evRs, evO, evC, bd_some, bd_none, List.getElem?_cons_succ, List.getElem?_cons_zero, List.set_cons_succ, List.set_cons_zero, putR, setTs, setT, b_add, b_sub, b_band, c_lt, c_le, c_gt, c_ge, c_isn, c_notn, isn_int, isn_non, bi_abs, bi_int, bi_intb, bi_max2, bi_min2, toB_bl, toDs_nil, toDs_cons, R.toD, Option.map_some, Option.map_none, List.getD_cons_zero, List.getD_cons_succ, if_true, eq_int, ne_int, Int.sign_eq_one_of_pos h1]
  · rw [exB]; simp -implicitDefEqProofs only [exS, freeze, froz, evE.eq_1, evE.eq_2, evE.eq_3, evE.eq_4, evE.eq_5, evE.eq_6, evE.eq_7, evE.eq_8, evE.eq_9, evE.eq_10, evE.eq_11, evE.eq_12, evE.eq_13, evE.eq_14, evE.eq_15, evE.eq_16, evE.eq_17, evE.eq_18, evRs, evO, evC, bd_some, bd_none, List.getElem?_cons_succ, List.getElem?_cons_zero, List.set_cons_succ, List.set_cons_zero, putR, setTs, setT, b_add, b_sub, b_band, c_lt, c_le, c_gt, c_ge, c_isn, c_notn, isn_int, isn_non, bi_abs, bi_int, bi_intb, bi_max2, bi_min2, toB_bl, toDs_nil, toDs_cons, R.toD, Option.map_some, Option.map_none, List.getD_cons_zero, List.getD_cons_succ, if_true, eq_int, ne_int, decide_eq_false h1]
    rw [exB]
    simp only
    by_cases h2 : n < 0
    · rw [exB]; simp -implicitDefEqProofs only [exS, freeze, froz, evE.eq_1, evE.eq_2, evE.eq_3, evE.eq_4, evE.eq_5, evE.eq_6, evE.eq_7, evE.eq_8, evE.eq_9, evE.eq_10, evE.eq_11, evE.eq_12, evE.eq_13, evE.eq_14, evE.eq_15, evE.eq_16, evE.eq_17, evE.eq_18, evRs, evO, evC, bd_some, bd_none, List.getElem?_cons_succ, List.getElem?_cons_zero, List.set_cons_succ, List.set_cons_zero, putR, setTs, setT, b_add, b_sub, b_band, c_lt, c_le, c_gt, c_ge, c_isn, c_notn, isn_int, isn_non, bi_abs, bi_int, bi_intb, bi_max2, bi_min2, toB_bl, toDs_nil, toDs_cons, R.toD, Option.map_some, Option.map_none, List.getD_cons_zero, List.getD_cons_succ, if_true, eq_int, ne_int, decide_eq_true h2, Int.sign_eq_neg_one_of_neg h2]
    · rw [exB]; simp -implicitDefEqProofs only [exS, freeze, froz, evE.eq_1, evE.eq_2, evE.eq_3, evE.eq_4, evE.eq_5, evE.eq_6, evE.eq_7, evE.eq_8, evE.eq_9, evE.eq_10, evE.eq_11, evE.eq_12, evE.eq_13, evE.eq_14, evE.eq_15, evE.eq_16, evE.eq_17, evE.eq_18, evRs, evO, evC, bd_some, bd_none, List.getElem?_cons_succ, List.getElem?_cons_zero, List.set_cons_succ, List.set_cons_zero, putR, setTs, setT, b_add, b_sub, b_band, c_lt, c_le, c_gt, c_ge, c_isn, c_notn, isn_int, isn_non, bi_abs, bi_int, bi_intb, bi_max2, bi_min2, toB_bl, toDs_nil, toDs_cons, R.toD, Option.map_some, Option.map_none, List.getD_cons_zero, List.getD_cons_succ, if_true, eq_int, ne_int, decide_eq_false h2]
      have : n = 0 := by omega
      subst this
      rfl
/-- which is more -/
def cmpI (p q : Rat) : Int := if p < q then -1 else if q < p then 1 else 0
theorem cmp_sign (p q : Rat) : (p.num * q.den - q.num * p.den).sign = cmpI p q := by
  unfold cmpI
  simp only [Rat.lt_iff]
  generalize p.num * (q.den : Int) = x
  generalize q.num * (p.den : Int) = y
  by_cases h1 : x < y
  · rw [if_pos h1]; exact Int.sign_eq_neg_one_of_neg (by omega)
  · rw [if_neg h1]
    by_cases h2 : y < x
    · rw [if_pos h2]; exact Int.sign_eq_one_of_pos (by omega)
    · rw [if_neg h2, show x - y = 0 by omega]; rfl
theorem compare_ok (h : P[i]? = some (B.compare j)) (hj : P[j]? = some B.sign) (hp : Bd a p) (hq : Bd b q) (hl : a + b < 9000) : run P (K + 2) i [qd p, qd q] z = some (.sh (.int (cmpI p q)), z) := by
  refine run_ret h rfl ?_ rfl
  have m1 := mulOk_lg (i := p.num) (j := q.den) hp.1 hq.2 (by omega)
  have m2 := mulOk_lg (i := q.num) (j := p.den) hq.1 hp.2 (by omega)
  unfold B.compare
  simp only
  show exB _ _ [.sh (qd p), .sh (qd q)] _ = _
  rw [exB]; simp -implicitDefEqProofs only [exS, freeze, froz, evE.eq_1, evE.eq_2, evE.eq_3, evE.eq_4, evE.eq_5, evE.eq_6, evE.eq_7, evE.eq_8, evE.eq_9, evE.eq_10, evE.eq_11, evE.eq_12, evE.eq_13, evE.eq_14, evE.eq_15, evE.eq_16, evE.eq_17, evE.eq_18, evRs, evO, evC, bd_some, bd_none, List.getElem?_cons_succ, List.getElem?_cons_zero, List.set_cons_succ, List.set_cons_zero, putR, setTs, setT, b_add, b_sub, b_band, c_lt, c_le, c_gt, c_ge, c_isn, c_notn, isn_int, isn_non, bi_abs, bi_int, bi_intb, bi_max2, bi_min2, toB_bl, toDs_nil, toDs_cons, R.toD, Option.map_some, Option.map_none, List.getD_cons_zero, List.getD_cons_succ, if_true, eq_int, ne_int, sub0, sub1, b_mul m1, b_mul m2, toDs, sign_ok hj, cmp_sign]
theorem floor_ok (h : P[i]? = some B.floor_of) (hp : Bd a p) (hl : a < 9000) : run P (K + 1) i [qd p] z = some (.sh (.int p.floor), z) := by
  refine run_ret h rfl ?_ rfl
  unfold B.floor_of
  simp only
  show exB _ _ [.sh (qd p)] _ = _
  have e : p.num.fdiv p.den = p.floor := by rw [Rat.floor_def, Int.fdiv_eq_ediv_of_nonneg _ (by omega)]
  have lg : (p.den : Int).natAbs.log2 < 9000 := by have := log2_lt hp.2; show p.den.log2 < 9000; omega
  rw [exB]; simp -implicitDefEqProofs only [exS, freeze, froz, evE.eq_1, evE.eq_2, evE.eq_3, evE.eq_4, evE.eq_5, evE.eq_6, evE.eq_7, evE.eq_8, evE.eq_9, evE.eq_10, evE.eq_11, evE.eq_12, evE.eq_13, evE.eq_14, evE.eq_15, evE.eq_16, evE.eq_17, evE.eq_18, evRs, evO, evC, bd_some, bd_none, List.getElem?_cons_succ, List.getElem?_cons_zero, List.set_cons_succ, List.set_cons_zero, putR, setTs, setT, b_add, b_sub, b_band, c_lt, c_le, c_gt, c_ge, c_isn, c_notn, isn_int, isn_non, bi_abs, bi_int, bi_intb, bi_max2, bi_min2, toB_bl, toDs_nil, toDs_cons, R.toD, Option.map_some, Option.map_none, List.getD_cons_zero, List.getD_cons_succ, if_true, eq_int, ne_int, sub0, sub1, b_fdiv ⟨den_ne p, lg⟩, e]
theorem ceiling_ok (h : P[i]? = some B.ceiling_of) (hp : Bd a p) (hl : a < 9000) : run P (K + 1) i [qd p] z = some (.sh (.int (-(-p).floor)), z) := by
  refine run_ret h rfl ?_ rfl
  unfold B.ceiling_of
  simp only
  show exB _ _ [.sh (qd p)] _ = _
  have e : (-p.num).fdiv p.den = (-p).floor := by rw [Rat.floor_def, Int.fdiv_eq_ediv_of_nonneg _ (by omega)]; rfl
  have lg : (p.den : Int).natAbs.log2 < 9000 := by have := log2_lt hp.2; show p.den.log2 < 9000; omega
  rw [exB]; simp -implicitDefEqProofs only [exS, freeze, froz, evE.eq_1, evE.eq_2, evE.eq_3, evE.eq_4, evE.eq_5, evE.eq_6, evE.eq_7, evE.eq_8, evE.eq_9, evE.eq_10, evE.eq_11, evE.eq_12, evE.eq_13, evE.eq_14, evE.eq_15, evE.eq_16, evE.eq_17, evE.eq_18, evRs, evO, evC, bd_some, bd_none, List.getElem?_cons_succ, List.getElem?_cons_zero, List.set_cons_succ, List.set_cons_zero, putR, setTs, setT, b_add, b_sub, b_band, c_lt, c_le, c_gt, c_ge, c_isn, c_notn, isn_int, isn_non, bi_abs, bi_int, bi_intb, bi_max2, bi_min2, toB_bl, toDs_nil, toDs_cons, R.toD, Option.map_some, Option.map_none, List.getD_cons_zero, List.getD_cons_succ, if_true, eq_int, ne_int, sub0, sub1, b_fdiv ⟨den_ne p, lg⟩, e]
theorem bd_divInt {n d : Int} {a : Nat} (hd : d ≠ 0) (h1 : n.natAbs < 2 ^ a) (h2 : d.natAbs < 2 ^ a) : Bd a (Rat.divInt n d) := by
  obtain ⟨e1, e2⟩ := divInt_le n d hd
  exact ⟨by omega, by omega⟩
theorem bd_sum {p q : Rat} (hp : Bd a p) (hq : Bd b q) : (p.num * (q.den : Int)).natAbs + (q.num * (p.den : Int)).natAbs < 2 ^ (a + b + 1) ∧ ((p.den : Int) * (q.den : Int)).natAbs < 2 ^ (a + b + 1) := by
  have h1 : (p.num * (q.den : Int)).natAbs < 2 ^ (a + b) := by rw [Int.natAbs_mul]; exact mul_lt2 hp.1 hq.2
  have h2 : (q.num * (p.den : Int)).natAbs < 2 ^ (a + b) := by rw [Int.natAbs_mul, Nat.add_comm]; exact mul_lt2 hq.1 hp.2
  have h3 : ((p.den : Int) * (q.den : Int)).natAbs < 2 ^ (a + b) := by rw [Int.natAbs_mul]; exact mul_lt2 hp.2 hq.2
  rw [Nat.pow_succ]
  exact ⟨by omega, by omega⟩
theorem bd_add (hp : Bd a p) (hq : Bd b q) : Bd (a + b + 1) (p + q) := by
  obtain ⟨h1, h2⟩ := bd_sum hp hq
  rw [← add_divInt]
  exact bd_divInt (den_mul p q) (by omega) h2
theorem bd_sub (hp : Bd a p) (hq : Bd b q) : Bd (a + b + 1) (p - q) := by
  obtain ⟨h1, h2⟩ := bd_sum hp hq
  rw [← sub_divInt]
  exact bd_divInt (den_mul p q) (by omega) h2
theorem bd_mul (hp : Bd a p) (hq : Bd b q) : Bd (a + b) (p * q) := by
  rw [← mul_divInt]
  exact bd_divInt (den_mul p q) (by rw [Int.natAbs_mul]; exact mul_lt2 hp.1 hq.1) (by rw [Int.natAbs_mul]; exact mul_lt2 hp.2 hq.2)
theorem bd_div (hp : Bd a p) (hq : Bd b q) (h0 : q ≠ 0) : Bd (a + b) (p / q) := by
  rw [← div_divInt p q h0]
  exact bd_divInt (Int.mul_ne_zero (den_ne p) (num_ne h0)) (by rw [Int.natAbs_mul]; exact mul_lt2 hp.1 hq.2) (by rw [Int.natAbs_mul]; exact mul_lt2 hp.2 hq.1)
theorem bd_neg (hp : Bd a p) : Bd a (-p) := ⟨by rw [Rat.neg_num, Int.natAbs_neg]; exact hp.1, by rw [Rat.neg_den]; exact hp.2⟩
end
end Mn

namespace Mn
open PySem L2
section
variable {P : List Fn} {K i j jc jm jt : Nat} {p q : Rat} {a b : Nat} {z : Zs}
theorem pos_divInt {n d : Int} (hd : 0 < d) : n.fdiv (Int.gcd n d : Int) = (Rat.divInt n d).num ∧ d.fdiv (Int.gcd n d : Int) = (Rat.divInt n d).den := by
  have hn' : (Rat.divInt n d).num = (d.sign * n) / (Int.gcd n d : Int) := by rw [Rat.num_divInt, Int.gcd_comm]
  have hd' : ((Rat.divInt n d).den : Int) = d.natAbs / (Int.gcd n d : Int) := by rw [Rat.den_divInt, if_neg (by omega), Int.gcd_comm]; rfl
  constructor
  · rw [hn', Int.sign_eq_one_of_pos hd, Int.one_mul]
    exact Int.fdiv_eq_ediv_of_nonneg _ (by omega)
  · rw [hd']
    have : (d.natAbs : Int) = d := by omega
    rw [this]
    exact Int.fdiv_eq_ediv_of_nonneg _ (by omega)
theorem short_loop {C : CallF} {s0 : Slot} : ∀ (b a : Nat) (ds : List D) (l0 : Slot), b < ds.length → ∃ l, loopS (fun d ρ z => match setT ρ (.nm 3) d with
    | some ρ1 => exB C (.cons (.ite [] (.cmp .eq (.nvar 2) (.lit (.int (0)))) (.cons .brk .nil) .nil) (.cons (.par [2] [1, 2] (.cons (.var 2) (.cons (.bin .mod (.bi .int (.cons (.nvar 1) .nil)) (.nvar 2)) .nil))) .nil)) ρ1 z
    | none => none) ds [s0, .sh (.int a), .sh (.int b), l0] z = some (.nx [s0, .sh (.int (Nat.gcd a b)), .sh (.int 0), l], z) := by
  intro b
  induction b using Nat.strongRecOn with
  | _ b ih =>
    intro a ds l0 hl
    cases ds with
    | nil => cases hl
    | cons d ds =>
      unfold loopS
      simp only [setT, List.set_cons_succ, List.set_cons_zero]
      by_cases h0 : b = 0
      · subst h0
        refine ⟨.sh d, ?_⟩
        rw [exB]; simp -implicitDefEqProofs only [exS, freeze, froz, evE.eq_1, evE.eq_2, evE.eq_3, evE.eq_4, evE.eq_5, evE.eq_6, evE.eq_7, evE.eq_8, evE.eq_9, evE.eq_10, evE.eq_11, evE.eq_12, evE.eq_13, evE.eq_14, evE.eq_15, evE.eq_16, evE.eq_17, evE.eq_18, evRs, evO, evC, bd_some, bd_none, List.getElem?_cons_succ, List.getElem?_cons_zero, List.set_cons_succ, List.set_cons_zero, putR, setTs, setT, b_add, b_sub, b_band, c_lt, c_le, c_gt, c_ge, c_isn, c_notn, isn_int, isn_non, bi_abs, bi_int, bi_intb, bi_max2, bi_min2, toB_bl, toDs_nil, toDs_cons, R.toD, Option.map_some, Option.map_none, List.getD_cons_zero, List.getD_cons_succ, if_true, eq_int, ne_int, decide_eq_true (show ((0 : Nat) : Int) = 0 from rfl)]
        rw [exB]; simp -implicitDefEqProofs only [exS]
        rw [Nat.gcd_zero_right]
        rfl
      · have hb : (b : Int) ≠ 0 := by omega
        rw [exB]; simp -implicitDefEqProofs only [exS, freeze, froz, evE.eq_1, evE.eq_2, evE.eq_3, evE.eq_4, evE.eq_5, evE.eq_6, evE.eq_7, evE.eq_8, evE.eq_9, evE.eq_10, evE.eq_11, evE.eq_12, evE.eq_13, evE.eq_14, evE.eq_15, evE.eq_16, evE.eq_17, evE.eq_18, evRs, evO, evC, bd_some, bd_none, List.getElem?_cons_succ, List.getElem?_cons_zero, List.set_cons_succ, List.set_cons_zero, putR, setTs, setT, b_add, b_sub, b_band, c_lt, c_le, c_gt, c_ge, c_isn, c_notn, isn_int, isn_non, bi_abs, bi_int, bi_intb, bi_max2, bi_min2, toB_bl, toDs_nil, toDs_cons, R.toD, Option.map_some, Option.map_none, List.getD_cons_zero, List.getD_cons_succ, if_true, eq_int, ne_int, decide_eq_false hb]
        rw [exB]
        simp only
        rw [exB]; simp -implicitDefEqProofs only [exS, freeze, froz, evE.eq_1, evE.eq_2, evE.eq_3, evE.eq_4, evE.eq_5, evE.eq_6, evE.eq_7, evE.eq_8, evE.eq_9, evE.eq_10, evE.eq_11, evE.eq_12, evE.eq_13, evE.eq_14, evE.eq_15, evE.eq_16, evE.eq_17, evE.eq_18, evRs, evO, evC, bd_some, bd_none, List.getElem?_cons_succ, List.getElem?_cons_zero, List.set_cons_succ, List.set_cons_zero, putR, setTs, setT, b_add, b_sub, b_band, c_lt, c_le, c_gt, c_ge, c_isn, c_notn, isn_int, isn_non, bi_abs, bi_int, bi_intb, bi_max2, bi_min2, toB_bl, toDs_nil, toDs_cons, R.toD, Option.map_some, Option.map_none, List.getD_cons_zero, List.getD_cons_succ, if_true, eq_int, ne_int, b_mod hb, toDs]
        rw [exB, Int.fmod_eq_emod_of_nonneg _ (by omega)]
        simp only
        have hm : a % b < b := Nat.mod_lt _ (by omega)
        obtain ⟨l, e⟩ := ih (a % b) hm b ds (.sh d) (by simp only [List.length_cons] at hl; omega)
        refine ⟨l, ?_⟩
        have hg : Nat.gcd a b = Nat.gcd b (a % b) := by rw [Nat.gcd_comm a b, Nat.gcd_rec b a, Nat.gcd_comm]
        rw [hg]
        exact e
theorem short_ok (h : P[i]? = some B._law_short) (n d : Int) (hd : 0 < d) (hl : d < 8000) : run P (K + 1) i [.tup [.int n, .int d]] z = some (Q (Rat.divInt n d), z) := by
  refine run_ret h rfl ?_ rfl
  have ab : ∀ x : Int, (if x < 0 then -x else x) = (x.natAbs : Int) := fun x => by omega
  have s0 : subR (.sh (.tup [.int n, .int d])) (.sh (.int 0)) z = some (.sh (.int n)) := rfl
  have s1 : subR (.sh (.tup [.int n, .int d])) (.sh (.int 1)) z = some (.sh (.int d)) := rfl
  have hg : ((Int.gcd n d : Nat) : Int) ≠ 0 := by have := Int.gcd_pos_of_ne_zero_right n (show d ≠ 0 by omega); omega
  have p13 : (2 : Nat) ^ 13 = 8192 := by decide
  have d13 : d.natAbs < 2 ^ 13 := by omega
  have hb : ((Int.gcd n d : Nat) : Int).natAbs.log2 < 9000 := gcd_log (b := 13) (show d ≠ 0 by omega) d13 (by omega)
  obtain ⟨e1, e2⟩ := pos_divInt (n := n) hd
  unfold B._law_short
  simp only
  show exB _ _ [.sh (.tup [.int n, .int d]), .un, .un, .un] _ = _
  rw [exB]; simp -implicitDefEqProofs only [exS, freeze, froz, evE.eq_1, evE.eq_2, evE.eq_3, evE.eq_4, evE.eq_5, evE.eq_6, evE.eq_7, evE.eq_8, evE.eq_9, evE.eq_10, evE.eq_11, evE.eq_12, evE.eq_13, evE.eq_14, evE.eq_15, evE.eq_16, evE.eq_17, evE.eq_18, evRs, evO, evC, bd_some, bd_none, List.getElem?_cons_succ, List.getElem?_cons_zero, List.set_cons_succ, List.set_cons_zero, putR, setTs, setT, b_add, b_sub, b_band, c_lt, c_le, c_gt, c_ge, c_isn, c_notn, isn_int, isn_non, bi_abs, bi_int, bi_intb, bi_max2, bi_min2, toB_bl, toDs_nil, toDs_cons, R.toD, Option.map_some, Option.map_none, List.getD_cons_zero, List.getD_cons_succ, if_true, eq_int, ne_int, s0, ab]
  rw [exB]; simp -implicitDefEqProofs only [exS, freeze, froz, evE.eq_1, evE.eq_2, evE.eq_3, evE.eq_4, evE.eq_5, evE.eq_6, evE.eq_7, evE.eq_8, evE.eq_9, evE.eq_10, evE.eq_11, evE.eq_12, evE.eq_13, evE.eq_14, evE.eq_15, evE.eq_16, evE.eq_17, evE.eq_18, evRs, evO, evC, bd_some, bd_none, List.getElem?_cons_succ, List.getElem?_cons_zero, List.set_cons_succ, List.set_cons_zero, putR, setTs, setT, b_add, b_sub, b_band, c_lt, c_le, c_gt, c_ge, c_isn, c_notn, isn_int, isn_non, bi_abs, bi_int, bi_intb, bi_max2, bi_min2, toB_bl, toDs_nil, toDs_cons, R.toD, Option.map_some, Option.map_none, List.getD_cons_zero, List.getD_cons_succ, if_true, eq_int, ne_int, s1]
  obtain ⟨l, lp⟩ := short_loop (C := run P K) (s0 := .sh (.tup [.int n, .int d])) (z := z) d.natAbs n.natAbs (rangeD 0 40000) .un (by rw [rangeD_len]; omega)
  have ed : (d.natAbs : Int) = d := by omega
  rw [ed] at lp
  rw [exB_nx (ρ' := [.sh (.tup [.int n, .int d]), .sh (.int (Nat.gcd n.natAbs d.natAbs)), .sh (.int 0), l]) (z' := z)]
  · show exB _ _ [.sh (.tup [.int n, .int d]), .sh (.int (Int.gcd n d : Nat)), .sh (.int 0), l] _ = _
    rw [exB]; simp -implicitDefEqProofs only [exS, freeze, froz, evE.eq_1, evE.eq_2, evE.eq_3, evE.eq_4, evE.eq_5, evE.eq_6, evE.eq_7, evE.eq_8, evE.eq_9, evE.eq_10, evE.eq_11, evE.eq_12, evE.eq_13, evE.eq_14, evE.eq_15, evE.eq_16, evE.eq_17, evE.eq_18, evRs, evO, evC, bd_some, bd_none, List.getElem?_cons_succ, List.getElem?_cons_zero, List.set_cons_succ, List.set_cons_zero, putR, setTs, setT, b_add, b_sub, b_band, c_lt, c_le, c_gt, c_ge, c_isn, c_notn, isn_int, isn_non, bi_abs, bi_int, bi_intb, bi_max2, bi_min2, toB_bl, toDs_nil, toDs_cons, R.toD, Option.map_some, Option.map_none, List.getD_cons_zero, List.getD_cons_succ, if_true, eq_int, ne_int, s0, s1, b_fdiv ⟨hg, hb⟩, toDs, e1, e2]
    rfl
  · rw [exS, rg1_ok (n := 40000) (z' := z) rfl (by decide), bd_some]
    exact lp
/-- a drawn fraction -/
def Dr (most : Int) (p : Rat) : Prop := ∃ x y : Int, 0 ≤ x ∧ x < 2 * most + 1 ∧ 0 ≤ y ∧ y < 3 ∧ p = Rat.divInt (x - most) (1 + y)
theorem lf_ok (h : P[i]? = some (B._law_f j jt)) (hj : P[j]? = some B._law_short) (ht : P[jt]? = some B._law_take) (most s : Int) (h0 : 0 ≤ most) (h1 : most < 1000) : ∃ p s', run P (K + 2) i [.hd, .int most] (some s) = some (Q p, some s') ∧ Dr most p := by
  have p12 : (2 : Nat) ^ 12 = 4096 := by decide
  have d12 : (2 * most + 1).natAbs < 2 ^ 12 := by omega
  have t1 := take_ok (k := K) ht (m := 2 * most + 1) (s := s) (by omega) (by have := log2_lt d12; omega)
  have t2 := take_ok (k := K) ht (m := 3) (s := s.fdiv (2 * most + 1)) (by decide) (by decide)
  obtain ⟨x0, x1⟩ := fmod_lt' s (b := 2 * most + 1) (by omega)
  obtain ⟨y0, y1⟩ := fmod_lt' (s.fdiv (2 * most + 1)) (b := 3) (by omega)
  have sh := short_ok (K := K) (z := some ((s.fdiv (2 * most + 1)).fdiv 3)) hj (s.fmod (2 * most + 1) - most) (1 + (s.fdiv (2 * most + 1)).fmod 3) (by omega) (by omega)
  refine ⟨_, (s.fdiv (2 * most + 1)).fdiv 3, run_ret h rfl ?_ ?_, s.fmod (2 * most + 1), (s.fdiv (2 * most + 1)).fmod 3, x0, x1, y0, y1, rfl⟩
  · have m1 : mulOk 2 most = true := ml
    unfold B._law_f
    simp only
    show exB _ _ [.sh .hd, .sh (.int most)] _ = _
    rw [exB]; simp -implicitDefEqProofs only [exS, freeze, froz, evE.eq_1, evE.eq_2, evE.eq_3, evE.eq_4, evE.eq_5, evE.eq_6, evE.eq_7, evE.eq_8, evE.eq_9, evE.eq_10, evE.eq_11, evE.eq_12, evE.eq_13, evE.eq_14, evE.eq_15, evE.eq_16, evE.eq_17, evE.eq_18, evRs, evO, evC, bd_some, bd_none, List.getElem?_cons_succ, List.getElem?_cons_zero, List.set_cons_succ, List.set_cons_zero, putR, setTs, setT, b_add, b_sub, b_band, c_lt, c_le, c_gt, c_ge, c_isn, c_notn, isn_int, isn_non, bi_abs, bi_int, bi_intb, bi_max2, bi_min2, toB_bl, toDs_nil, toDs_cons, R.toD, Option.map_some, Option.map_none, List.getD_cons_zero, List.getD_cons_succ, if_true, eq_int, ne_int, b_mul m1, toDs, t1, t2, sh]
  · rfl
theorem minusL_ok (h : P[i]? = some B._law_minus) (p : Rat) : run P (K + 1) i [qd p] z = some (Q (-p), z) := by
  refine run_ret h rfl ?_ rfl
  unfold B._law_minus
  simp only
  show exB _ _ [.sh (qd p)] _ = _
  rw [exB]; simp -implicitDefEqProofs only [exS, freeze, froz, evE.eq_1, evE.eq_2, evE.eq_3, evE.eq_4, evE.eq_5, evE.eq_6, evE.eq_7, evE.eq_8, evE.eq_9, evE.eq_10, evE.eq_11, evE.eq_12, evE.eq_13, evE.eq_14, evE.eq_15, evE.eq_16, evE.eq_17, evE.eq_18, evRs, evO, evC, bd_some, bd_none, List.getElem?_cons_succ, List.getElem?_cons_zero, List.set_cons_succ, List.set_cons_zero, putR, setTs, setT, b_add, b_sub, b_band, c_lt, c_le, c_gt, c_ge, c_isn, c_notn, isn_int, isn_non, bi_abs, bi_int, bi_intb, bi_max2, bi_min2, toB_bl, toDs_nil, toDs_cons, R.toD, Option.map_some, Option.map_none, List.getD_cons_zero, List.getD_cons_succ, if_true, eq_int, ne_int, sub0, sub1, toDs]
  rfl
theorem qd_int (n : Int) : D.tup [.int n, .int 1] = qd (n : Rat) := rfl
theorem qd_inj {p q : Rat} : qd p = qd q ↔ p = q := by
  constructor
  · intro h
    unfold qd at h
    simp only [D.tup.injEq, List.cons.injEq, D.int.injEq, and_true] at h
    exact Rat.ext h.1 (by have := h.2; omega)
  · rintro rfl; rfl
theorem eq_qd {p q : Rat} : cmpR .eq (Q p) (Q q) = some (decide (p = q)) := (c_eq rfl rfl).trans (by
  congr 1
  exact decide_eq_decide.mpr qd_inj)
theorem ne_qd {p q : Rat} : cmpR .ne (Q p) (Q q) = some (!decide (p = q)) := (c_ne rfl rfl).trans (by
  congr 2
  exact decide_eq_decide.mpr qd_inj)
theorem bd_int {n : Int} {b : Nat} (h : n.natAbs < 2 ^ b) (hb : 0 < b) : Bd b (n : Rat) := ⟨by rw [Rat.num_intCast]; exact h, by rw [Rat.den_intCast]; exact Nat.one_lt_two_pow (by omega)⟩
theorem middle_ok (h : P[i]? = some (B.middle j jm)) (ho : P[j]? = some (B.over jt)) (hp' : P[jm]? = some (B.plus jt)) (hr : P[jt]? = some (B.ratio jc)) (hc : P[jc]? = some B.common_divisor) (hp : Bd a p) (hq : Bd b q) (hl : a + b < 5000) : run P (K + 4) i [qd p, qd q] z = some (Q ((p + q) / 2), z) := by
  refine run_ret h rfl ?_ rfl
  have e1 := plus_ok (K := K) (z := z) hp' hr hc hp hq (by omega)
  have e2 := over_ok (K := K) (z := z) ho hr hc (bd_add hp hq) (bd_int (n := 2) (b := 2) (by decide) (by decide)) (by omega) (by decide)
  have e3 : D.tup [.int 2, .int 1] = qd ((2 : Int) : Rat) := qd_int 2
  unfold B.middle
  simp only
  show exB _ _ [.sh (qd p), .sh (qd q)] _ = _
  rw [exB]; simp -implicitDefEqProofs only [exS, freeze, froz, evE.eq_1, evE.eq_2, evE.eq_3, evE.eq_4, evE.eq_5, evE.eq_6, evE.eq_7, evE.eq_8, evE.eq_9, evE.eq_10, evE.eq_11, evE.eq_12, evE.eq_13, evE.eq_14, evE.eq_15, evE.eq_16, evE.eq_17, evE.eq_18, evRs, evO, evC, bd_some, bd_none, List.getElem?_cons_succ, List.getElem?_cons_zero, List.set_cons_succ, List.set_cons_zero, putR, setTs, setT, b_add, b_sub, b_band, c_lt, c_le, c_gt, c_ge, c_isn, c_notn, isn_int, isn_non, bi_abs, bi_int, bi_intb, bi_max2, bi_min2, toB_bl, toDs_nil, toDs_cons, R.toD, Option.map_some, Option.map_none, List.getD_cons_zero, List.getD_cons_succ, if_true, eq_int, ne_int, toDs, e1, e3, e2]
  rfl
end
end Mn

/-! Mini: lists of ints as polynomials. -/
namespace Mn
open PySem L2
def il (l : List Int) : List D := l.map D.int
abbrev pl (l : List Int) : D := .lst (il l)
theorem il_len (l : List Int) : (il l).length = l.length := List.length_map ..
theorem il_inj {a b : List Int} : il a = il b ↔ a = b := by
  unfold il
  constructor
  · intro h
    exact (List.map_inj_right (fun x y e => by injection e)).mp h
  · rintro rfl; rfl
theorem il_plain (l : List Int) (n : Nat) : (il l).all (plain n) = true := by
  unfold il
  rw [List.all_map, List.all_eq_true]
  intro x _
  show plain n (.int x) = true
  cases n <;> rfl
theorem pl_plain (l : List Int) : plain 9 (pl l) = true := il_plain l 8
theorem pl_inj {a b : List Int} : pl a = pl b ↔ a = b := by
  constructor
  · intro h; injection h with h; exact il_inj.mp h
  · rintro rfl; rfl
theorem eq_il {x y : R} {a b : List Int} (hx : x.view = pl a) (hy : y.view = pl b) : cmpR .eq x y = some (decide (a = b)) := by
  rw [c_eq (by rw [hx]; exact pl_plain a) (by rw [hy]; exact pl_plain b), hx, hy]
  congr 1
  exact decide_eq_decide.mpr pl_inj
theorem ne_il {x y : R} {a b : List Int} (hx : x.view = pl a) (hy : y.view = pl b) : cmpR .ne x y = some (!decide (a = b)) := by
  rw [c_ne (by rw [hx]; exact pl_plain a) (by rw [hy]; exact pl_plain b), hx, hy]
  congr 2
  exact decide_eq_decide.mpr pl_inj
theorem il_nil : il [] = [] := rfl
theorem il_cons (x : Int) (l : List Int) : il (x :: l) = .int x :: il l := rfl
theorem il_append (a b : List Int) : il (a ++ b) = il a ++ il b := List.map_append ..
theorem at_il {l : List Int} {k : Nat} (h : k < l.length) : atI (il l) (k : Int) = some (.int l[k]) := by
  unfold il
  rw [atI_map, atI_nat h]; rfl
theorem ixN_last {n : Nat} (h : 0 < n) : ixN n (-1) = some (n - 1) := by
  unfold ixN
  rw [if_neg (by omega), if_pos (by omega)]
  congr 1
  omega
theorem at_last {l : List Int} {x : Int} : atI (il (l ++ [x])) (-1) = some (.int x) := by
  unfold atI
  rw [il_len, List.length_append, List.length_singleton, ixN_last (by omega)]
  unfold il
  simp
theorem setD_il {l : List Int} {k : Nat} {w : Int} (h : k < l.length) : setD (il l) (k : Int) (.int w) = some (il (l.set k w)) := by
  unfold setD
  rw [il_len, ixN_nat h]
  unfold il
  simp [List.map_set]
/-- without the zeros at the end -/
def trimL (a : List Int) : List Int := (a.reverse.dropWhile (· == 0)).reverse
theorem trimL_nil : trimL [] = [] := rfl
theorem trimL_zero (a : List Int) : trimL (a ++ [0]) = trimL a := by
  unfold trimL
  simp
theorem trimL_ne (a : List Int) {x : Int} (h : x ≠ 0) : trimL (a ++ [x]) = a ++ [x] := by
  unfold trimL
  rw [List.reverse_append, List.reverse_singleton, List.singleton_append, List.dropWhile_cons_of_neg (by simpa using h)]
  simp
theorem rev_ind {P : List Int → Prop} (h0 : P []) (h1 : ∀ a x, P a → P (a ++ [x])) (a : List Int) : P a := by
  have : ∀ b : List Int, P b.reverse := fun b => by
    induction b with
    | nil => exact h0
    | cons x b ih => rw [List.reverse_cons]; exact h1 _ _ ih
  have := this a.reverse
  rwa [List.reverse_reverse] at this
section
variable {P : List Fn} {K i j jc : Nat} {z : Zs}
theorem trim_loop {C : CallF} {s0 : Slot} : ∀ a : List Int, exS C (.whl [] (.and (.cmp .ne (.nvar 1) (.lst .nil)) (.cmp .eq (.sub (.nvar 1) (.neg (.lit (.int (1))))) (.lit (.int (0))))) (.cons (.popx 1) .nil)) [s0, .ow (il a)] z = some (.nx [s0, .ow (il (trimL a))], z) := by
  refine rev_ind ?_ fun a x ih => ?_
  · rw [whl_false (z1 := z)]
    · rfl
    · simp -implicitDefEqProofs only [exS, freeze, froz, evE.eq_1, evE.eq_2, evE.eq_3, evE.eq_4, evE.eq_5, evE.eq_6, evE.eq_7, evE.eq_8, evE.eq_9, evE.eq_10, evE.eq_11, evE.eq_12, evE.eq_13, evE.eq_14, evE.eq_15, evE.eq_16, evE.eq_17, evE.eq_18, evRs, evO, evC, bd_some, bd_none, List.getElem?_cons_succ, List.getElem?_cons_zero, List.set_cons_succ, List.set_cons_zero, putR, setTs, setT, b_add, b_sub, b_band, c_lt, c_le, c_gt, c_ge, c_isn, c_notn, isn_int, isn_non, bi_abs, bi_int, bi_intb, bi_max2, bi_min2, toB_bl, toDs_nil, toDs_cons, R.toD, Option.map_some, Option.map_none, List.getD_cons_zero, List.getD_cons_succ, if_true, eq_int, ne_int, toDs, ne_il (x := .vw (il [])) (y := .fr []) (a := []) (b := []) rfl rfl, decide_true, Bool.not_true]
  · have hne : decide (a ++ [x] = ([] : List Int)) = false := decide_eq_false (by simp)
    have sl : subR (.vw (il (a ++ [x]))) (.sh (.int (-1))) z = some (.sh (.int x)) := by
      show ((R.vw (il (a ++ [x]))).items.bind fun ds => (atI ds (-1)).map R.sh) = _
      simp only [R.items, Option.bind_some, at_last, Option.map_some]
    have sl' : subR (.vw (il (a ++ [x]))) (.sh (.int (-(1 : Int)))) z = some (.sh (.int x)) := sl
    by_cases hx : x = 0
    · subst hx
      rw [whl_true (z1 := z) (z2 := z) (ρ' := [s0, .ow (il a)]), ih, trimL_zero]
      · simp -implicitDefEqProofs only [exS, freeze, froz, evE.eq_1, evE.eq_2, evE.eq_3, evE.eq_4, evE.eq_5, evE.eq_6, evE.eq_7, evE.eq_8, evE.eq_9, evE.eq_10, evE.eq_11, evE.eq_12, evE.eq_13, evE.eq_14, evE.eq_15, evE.eq_16, evE.eq_17, evE.eq_18, evRs, evO, evC, bd_some, bd_none, List.getElem?_cons_succ, List.getElem?_cons_zero, List.set_cons_succ, List.set_cons_zero, putR, setTs, setT, b_add, b_sub, b_band, c_lt, c_le, c_gt, c_ge, c_isn, c_notn, isn_int, isn_non, bi_abs, bi_int, bi_intb, bi_max2, bi_min2, toB_bl, toDs_nil, toDs_cons, R.toD, Option.map_some, Option.map_none, List.getD_cons_zero, List.getD_cons_succ, if_true, eq_int, ne_int, toDs, ne_il (x := .vw (il (a ++ [0]))) (y := .fr []) (a := a ++ [0]) (b := []) rfl rfl, hne, Bool.not_false, sl', decide_true]
      · rw [exB]; simp -implicitDefEqProofs only [exS, freeze, List.getElem?_cons_succ, List.getElem?_cons_zero]
        have e1 : (il (a ++ [0]))[(il (a ++ [0])).length - 1]? = some (.int 0) := by rw [il_len]; unfold il; simp
        have e2 : (il (a ++ [0])).dropLast = il a := by rw [il_append]; simp [il]
        rw [e1, e2]
        simp only
        rw [exB]; rfl
    · rw [whl_false (z1 := z), trimL_ne a hx]
      · rfl
      · simp -implicitDefEqProofs only [exS, freeze, froz, evE.eq_1, evE.eq_2, evE.eq_3, evE.eq_4, evE.eq_5, evE.eq_6, evE.eq_7, evE.eq_8, evE.eq_9, evE.eq_10, evE.eq_11, evE.eq_12, evE.eq_13, evE.eq_14, evE.eq_15, evE.eq_16, evE.eq_17, evE.eq_18, evRs, evO, evC, bd_some, bd_none, List.getElem?_cons_succ, List.getElem?_cons_zero, List.set_cons_succ, List.set_cons_zero, putR, setTs, setT, b_add, b_sub, b_band, c_lt, c_le, c_gt, c_ge, c_isn, c_notn, isn_int, isn_non, bi_abs, bi_int, bi_intb, bi_max2, bi_min2, toB_bl, toDs_nil, toDs_cons, R.toD, Option.map_some, Option.map_none, List.getD_cons_zero, List.getD_cons_succ, if_true, eq_int, ne_int, toDs, ne_il (x := .vw (il (a ++ [x]))) (y := .fr []) (a := a ++ [x]) (b := []) rfl rfl, hne, Bool.not_false, sl', decide_eq_false hx]
theorem trim_ok (h : P[i]? = some B.trimmed) (a : List Int) : run P (K + 1) i [pl a] z = some (.fr (il (trimL a)), z) := by
  refine run_ret h rfl ?_ rfl
  unfold B.trimmed
  simp only
  show exB _ _ [.sh (pl a), .un] _ = _
  have e : biR .list [.sh (pl a)] = some (.fr (il a)) := rfl
  rw [exB]; simp -implicitDefEqProofs only [exS, freeze, froz, evE.eq_1, evE.eq_2, evE.eq_3, evE.eq_4, evE.eq_5, evE.eq_6, evE.eq_7, evE.eq_8, evE.eq_9, evE.eq_10, evE.eq_11, evE.eq_12, evE.eq_13, evE.eq_14, evE.eq_15, evE.eq_16, evE.eq_17, evE.eq_18, evRs, evO, evC, bd_some, bd_none, List.getElem?_cons_succ, List.getElem?_cons_zero, List.set_cons_succ, List.set_cons_zero, putR, setTs, setT, b_add, b_sub, b_band, c_lt, c_le, c_gt, c_ge, c_isn, c_notn, isn_int, isn_non, bi_abs, bi_int, bi_intb, bi_max2, bi_min2, toB_bl, toDs_nil, toDs_cons, R.toD, Option.map_some, Option.map_none, List.getD_cons_zero, List.getD_cons_succ, if_true, eq_int, ne_int, toDs, e]
  rw [exB_nx (trim_loop a)]
  rw [exB]; simp -implicitDefEqProofs only [exS, freeze, froz, evE.eq_1, evE.eq_2, evE.eq_3, evE.eq_4, evE.eq_5, evE.eq_6, evE.eq_7, evE.eq_8, evE.eq_9, evE.eq_10, evE.eq_11, evE.eq_12, evE.eq_13, evE.eq_14, evE.eq_15, evE.eq_16, evE.eq_17, evE.eq_18, evRs, evO, evC, bd_some, bd_none, List.getElem?_cons_succ, List.getElem?_cons_zero, List.set_cons_succ, List.set_cons_zero, putR, setTs, setT, b_add, b_sub, b_band, c_lt, c_le, c_gt, c_ge, c_isn, c_notn, isn_int, isn_non, bi_abs, bi_int, bi_intb, bi_max2, bi_min2, toB_bl, toDs_nil, toDs_cons, R.toD, Option.map_some, Option.map_none, List.getD_cons_zero, List.getD_cons_succ, if_true, eq_int, ne_int]
end
end Mn

/-! Mini: sums and products of polynomials. -/
namespace Mn
open PySem L2
/-- what enumerate hands out -/
def enI : Nat → List Int → List D
  | _, [] => []
  | k, v :: b => .tup [.int k, .int v] :: enI (k + 1) b
theorem enumD_il (b : List Int) : enumD (il b) = enI 0 b := by
  have : ∀ (b : List Int) (k : Nat), ((il b).zipIdx k).map (fun p => D.tup [.int p.2, p.1]) = enI k b := fun b => by
    induction b with
    | nil => intro k; rfl
    | cons v b ih =>
      intro k
      rw [il_cons, List.zipIdx_cons, List.map_cons, ih (k + 1)]
      rfl
  exact this b 0
def foldE {σ : Type} (g : σ → Nat → Int → σ) : σ → Nat → List Int → σ
  | s, _, [] => s
  | s, k, v :: b => foldE g (g s k v) (k + 1) b
theorem enum_loop {σ : Type} {z : Zs} {f : D → Env → Zs → Option (Out × Zs)} (E : σ → Slot → Slot → Env) (g : σ → Nat → Int → σ) (I : σ → Prop) : ∀ (b : List Int) (k : Nat) (s : σ) (x y : Slot), I s →
    (∀ s j v x y, I s → k ≤ j → j < k + b.length → v ∈ b → f (.tup [.int j, .int v]) (E s x y) z = some (.nx (E (g s j v) (.sh (.int j)) (.sh (.int v))), z) ∧ I (g s j v)) →
    ∃ x' y', loopS f (enI k b) (E s x y) z = some (.nx (E (foldE g s k b) x' y'), z) ∧ I (foldE g s k b)
  | [], k, s, x, y, hi, h => ⟨x, y, rfl, hi⟩
  | v :: b, k, s, x, y, hi, h => by
    obtain ⟨e, hi'⟩ := h s k v x y hi (Nat.le_refl _) (by simp) List.mem_cons_self
    obtain ⟨x', y', e2, hi2⟩ := enum_loop E g I b (k + 1) (g s k v) (.sh (.int k)) (.sh (.int v)) hi' fun s j u x y hs h1 h2 h3 => h s j u x y hs (by omega) (by simp only [List.length_cons]; omega) (List.mem_cons_of_mem _ h3)
    refine ⟨x', y', ?_, hi2⟩
    show loopS f (_ :: enI (k + 1) b) _ _ = _
    unfold loopS
    rw [e]
    exact e2
/-- a loop's turn -/
noncomputable def lpF (C : CallF) (tg : MT) (b : MSs) : D → Env → Zs → Option (Out × Zs) := fun d ρ z => match setT ρ tg d with
  | some ρ1 => exB C b ρ1 z
  | none => none
theorem exS_loop {C : CallF} {fz : List Nat} {tg : MT} {it : MI} {b : MSs} {ρ ρ1 : Env} {ds : List D} {z z1 : Zs} {o : Option (Out × Zs)} (hf : freeze ρ fz = ρ1) (hi : evI C ρ1 false it z = some (ds, z1)) (hl : loopS (lpF C tg b) ds ρ1 z1 = o) : exS C (.loop fz tg it b) ρ z = o := by
  rw [exS, hf, hi, bd_some]
  exact hl
/-- s[k] += v -/
def bump (s : List Int) (k : Nat) (v : Int) : List Int := s.set k (s.getD k 0 + v)
theorem bump_len (s : List Int) (k : Nat) (v : Int) : (bump s k v).length = s.length := List.length_set ..
theorem getD_lt {s : List Int} {k : Nat} (h : k < s.length) : s.getD k 0 = s[k] := by simp [List.getD, List.getElem?_eq_getElem h]
theorem ib_add {i j : Int} : ibinR .add (.sh (.int i)) (.sh (.int j)) = some (.sh (.int (i + j))) := rfl
theorem ib_sub {i j : Int} : ibinR .sub (.sh (.int i)) (.sh (.int j)) = some (.sh (.int (i - j))) := rfl
/-- [0] * n -/
theorem rep_ok {n : Nat} (h : n ≤ 16777216) : binR .mul (.fr [.int 0]) (.sh (.int n)) = some (.fr (il (List.replicate n 0))) := by
  show Option.or none (repR (.fr [.int 0]) (.sh (.int n))) = _
  rw [Option.none_or]
  unfold repR
  simp only [R.items]
  rw [if_pos ⟨small_of (by rw [Int.toNat_natCast]; simpa using h), by omega, by omega⟩, Int.toNat_natCast]
  congr 2
  unfold il
  rw [List.map_replicate]
  simp [List.flatten_replicate_singleton]
theorem len_il {x : R} {l : List Int} (h : x = .sh (pl l) ∨ x = .vw (il l) ∨ x = .fr (il l)) : biR .len [x] = some (.sh (.int l.length)) := by
  rcases h with rfl | rfl | rfl <;> (show some (R.sh (.int ((il l).length : Nat))) = _; rw [il_len])
theorem len_sh {l : List Int} : biR .len [.sh (pl l)] = some (.sh (.int l.length)) := len_il (.inl rfl)
theorem len_vw {l : List Int} : biR .len [.vw (il l)] = some (.sh (.int l.length)) := len_il (.inr (.inl rfl))
theorem len_fr {l : List Int} : biR .len [.fr (il l)] = some (.sh (.int l.length)) := len_il (.inr (.inr rfl))
def addRaw (a b : List Int) : List Int := foldE bump (foldE bump (List.replicate (max a.length b.length) 0) 0 a) 0 b
def addL (a b : List Int) : List Int := trimL (addRaw a b)
def mulRaw (a b : List Int) : List Int := foldE (fun s p x => foldE (fun s o y => bump s (p + o) (x * y)) s 0 b) (List.replicate (a.length + b.length - 1) 0) 0 a
def mulL (a b : List Int) : List Int := trimL (mulRaw a b)
def scL (a : List Int) (c : Int) : List Int := trimL (a.map fun x => c * x)
section
variable {P : List Fn} {K i j jc jt : Nat} {z : Zs}
theorem en_sh {C : CallF} {ρ : Env} {ow : Bool} {l : List Int} {k : Nat} (h : ρ[k]? = some (.sh (pl l))) : evI C ρ ow (.en (.var k)) z = some (enI 0 l, z) := by
  have e : evE C ρ (.var k) z = some (.sh (pl l), z) := by simp only [evE, h]
  rw [evI, e, bd_some, ← enumD_il]
  rfl
theorem max_nat (a b : Nat) : (if (b : Int) > (a : Int) then (b : Int) else (a : Int)) = ((max a b : Nat) : Int) := by
  by_cases h : (b : Int) > (a : Int)
  · rw [if_pos h]; congr 1; omega
  · rw [if_neg h]; congr 1; omega
theorem max_sub (a b : Nat) : (if (a : Int) + (b : Int) - 1 > 0 then (a : Int) + (b : Int) - 1 else 0) = ((a + b - 1 : Nat) : Int) := by
  split <;> omega
theorem add_body {C : CallF} {s0 s1 : Slot} {n : Nat} : ∀ (s : List Int) (j : Nat) (v : Int) (x y : Slot), s.length = n → 0 ≤ j → j < n →
    lpF C (.tp [3, 4]) (.cons (.augS [4] .add 2 (.nvar 3) (.var 4)) .nil) (.tup [.int j, .int v]) [s0, s1, .ow (il s), x, y] z = some (.nx [s0, s1, .ow (il (bump s j v)), .sh (.int j), .sh (.int v)], z) ∧ (bump s j v).length = n := by
  intro s j v x y hs _ hj
  refine ⟨?_, by rw [bump_len, hs]⟩
  simp -implicitDefEqProofs only [lpF, setT, setTs, List.set_cons_succ, List.set_cons_zero]
  have h1 : j < s.length := by omega
  rw [exB]; simp -implicitDefEqProofs only [exS, freeze, froz, evE.eq_1, evE.eq_2, evE.eq_3, evE.eq_4, evE.eq_5, evE.eq_6, evE.eq_7, evE.eq_8, evE.eq_9, evE.eq_10, evE.eq_11, evE.eq_12, evE.eq_13, evE.eq_14, evE.eq_15, evE.eq_16, evE.eq_17, evE.eq_18, evRs, evO, evC, bd_some, bd_none, List.getElem?_cons_succ, List.getElem?_cons_zero, List.set_cons_succ, List.set_cons_zero, putR, setTs, setT, b_add, b_sub, b_band, c_lt, c_le, c_gt, c_ge, c_isn, c_notn, isn_int, isn_non, bi_abs, bi_int, bi_intb, bi_max2, bi_min2, toB_bl, toDs_nil, toDs_cons, R.toD, Option.map_some, Option.map_none, List.getD_cons_zero, List.getD_cons_succ, if_true, eq_int, ne_int, at_il h1, ib_add, setD_il h1]
  rw [exB]
  unfold bump
  rw [getD_lt h1]
theorem add_ok (h : P[i]? = some (B.added j)) (hj : P[j]? = some B.trimmed) (a b : List Int) (ha : a.length ≤ 16777216) (hb : b.length ≤ 16777216) : run P (K + 2) i [pl a, pl b] z = some (.fr (il (addL a b)), z) := by
  refine run_ret h rfl ?_ rfl
  unfold B.added
  simp only
  show exB _ _ [.sh (pl a), .sh (pl b), .un, .un, .un] _ = _
  have rp := rep_ok (n := max a.length b.length) (by omega)
  rw [exB]; simp -implicitDefEqProofs only [exS, freeze, froz, evE.eq_1, evE.eq_2, evE.eq_3, evE.eq_4, evE.eq_5, evE.eq_6, evE.eq_7, evE.eq_8, evE.eq_9, evE.eq_10, evE.eq_11, evE.eq_12, evE.eq_13, evE.eq_14, evE.eq_15, evE.eq_16, evE.eq_17, evE.eq_18, evRs, evO, evC, bd_some, bd_none, List.getElem?_cons_succ, List.getElem?_cons_zero, List.set_cons_succ, List.set_cons_zero, putR, setTs, setT, b_add, b_sub, b_band, c_lt, c_le, c_gt, c_ge, c_isn, c_notn, isn_int, isn_non, bi_abs, bi_int, bi_intb, bi_max2, bi_min2, toB_bl, toDs_nil, toDs_cons, R.toD, Option.map_some, Option.map_none, List.getD_cons_zero, List.getD_cons_succ, if_true, eq_int, ne_int, toDs, len_sh, max_nat, rp]
  obtain ⟨x1, y1, l1, i1⟩ := enum_loop (z := z) (fun s x y => [.sh (pl a), .sh (pl b), .ow (il s), x, y]) bump (fun s => s.length = max a.length b.length) a 0 (List.replicate (max a.length b.length) 0) .un .un (by simp) (fun s j v x y hs h1 h2 _ => add_body (C := run P (K + 1)) (s0 := .sh (pl a)) (s1 := .sh (pl b)) (n := max a.length b.length) s j v x y hs h1 (by omega))
  rw [exB_nx (ρ' := [.sh (pl a), .sh (pl b), .ow (il (foldE bump (List.replicate (max a.length b.length) 0) 0 a)), x1, y1]) (z' := z) (exS_loop rfl (en_sh rfl) l1)]
  obtain ⟨x2, y2, l2, i2⟩ := enum_loop (z := z) (fun s x y => [.sh (pl a), .sh (pl b), .ow (il s), x, y]) bump (fun s => s.length = max a.length b.length) b 0 (foldE bump (List.replicate (max a.length b.length) 0) 0 a) x1 y1 i1 (fun s j v x y hs h1 h2 _ => add_body (C := run P (K + 1)) (s0 := .sh (pl a)) (s1 := .sh (pl b)) (n := max a.length b.length) s j v x y hs h1 (by omega))
  rw [exB_nx (ρ' := [.sh (pl a), .sh (pl b), .ow (il (addRaw a b)), x2, y2]) (z' := z) (exS_loop rfl (en_sh rfl) l2)]
  rw [exB]; simp -implicitDefEqProofs only [exS, freeze, froz, evE.eq_1, evE.eq_2, evE.eq_3, evE.eq_4, evE.eq_5, evE.eq_6, evE.eq_7, evE.eq_8, evE.eq_9, evE.eq_10, evE.eq_11, evE.eq_12, evE.eq_13, evE.eq_14, evE.eq_15, evE.eq_16, evE.eq_17, evE.eq_18, evRs, evO, evC, bd_some, bd_none, List.getElem?_cons_succ, List.getElem?_cons_zero, List.set_cons_succ, List.set_cons_zero, putR, setTs, setT, b_add, b_sub, b_band, c_lt, c_le, c_gt, c_ge, c_isn, c_notn, isn_int, isn_non, bi_abs, bi_int, bi_intb, bi_max2, bi_min2, toB_bl, toDs_nil, toDs_cons, R.toD, Option.map_some, Option.map_none, List.getD_cons_zero, List.getD_cons_succ, if_true, eq_int, ne_int, toDs, trim_ok (K := K) hj]
  rfl
end
end Mn

/-! Mini: more of polynomials. -/
namespace Mn
open PySem L2
theorem lcL_map {α : Type} {z : Zs} {f : D → Zs → Option (Option α × Zs)} (g : D → α) : ∀ ds : List D, (∀ d ∈ ds, f d z = some (some (g d), z)) → lcL f ds z = some (ds.map g, z)
  | [], _ => rfl
  | d :: ds, h => by
    unfold lcL
    rw [h d List.mem_cons_self, bd_some, lcL_map g ds fun d m => h d (List.mem_cons_of_mem _ m), bd_some]
    rfl
theorem comp_ev {C : CallF} {ρ : Env} {elt : ME} {tg : MT} {it : MI} {cs : MO} {own : List Nat} {ds : List D} {xs : List D} {z z1 z2 : Zs} (hc : compOk ρ own tg = true) (hi : evI C ρ true it z = some (ds, z1)) (hl : lcL (compF C ρ own tg cs elt) ds z1 = some (xs, z2)) :
    evE C ρ (.comp elt tg it cs own) z = some (.fr xs, z2) := by
  rw [evE, if_pos hc, hi, bd_some]
  show bd (lcL (compF C ρ own tg cs elt) ds z1) _ = _
  rw [hl, bd_some]
def okS (c : Int) (a : List Int) : Bool := a.all (mulOk c)
def okM (a b : List Int) : Bool := a.all (fun x => b.all (mulOk x)) && small a.length && small b.length && small (a.length + b.length - 1)
theorem okM_eq {a b : List Int} (h : okM a b = true) : (∀ x ∈ a, ∀ y ∈ b, mulOk x y = true) ∧ a.length ≤ 16777216 ∧ b.length ≤ 16777216 ∧ a.length + b.length - 1 ≤ 16777216 := by
  unfold okM at h
  simp only [Bool.and_eq_true, List.all_eq_true] at h
  exact ⟨fun x hx y hy => h.1.1.1 x hx y hy, of_decide_eq_true h.1.1.2, of_decide_eq_true h.1.2, of_decide_eq_true h.2⟩
theorem foldE_snoc {σ : Type} (g : σ → Nat → Int → σ) : ∀ (pre : List Int) (s : σ) (k : Nat) (v : Int), foldE g s k (pre ++ [v]) = g (foldE g s k pre) (k + pre.length) v
  | [], s, k, v => rfl
  | u :: pre, s, k, v => by
    show foldE g (g s k u) (k + 1) (pre ++ [v]) = g (foldE g (g s k u) (k + 1) pre) (k + (pre.length + 1)) v
    rw [foldE_snoc g pre, show k + 1 + pre.length = k + (pre.length + 1) by omega]
theorem enum_inv {σ : Type} {z : Zs} {f : D → Env → Zs → Option (Out × Zs)} (E : σ → Slot → Slot → Env) (I : List Int → σ → Prop) (whole : List Int)
    (h : ∀ pre v rest s x y, pre ++ v :: rest = whole → I pre s → ∃ s', f (.tup [.int pre.length, .int v]) (E s x y) z = some (.nx (E s' (.sh (.int pre.length)) (.sh (.int v))), z) ∧ I (pre ++ [v]) s') :
    ∀ (b pre : List Int) (s : σ) (x y : Slot), pre ++ b = whole → I pre s → ∃ s' x' y', loopS f (enI pre.length b) (E s x y) z = some (.nx (E s' x' y'), z) ∧ I whole s'
  | [], pre, s, x, y, hw, hi => ⟨s, x, y, rfl, by rw [← hw, List.append_nil]; exact hi⟩
  | v :: b, pre, s, x, y, hw, hi => by
    obtain ⟨s', e, hi'⟩ := h pre v b s x y hw hi
    obtain ⟨s2, x2, y2, e2, hi2⟩ := enum_inv E I whole h b (pre ++ [v]) s' (.sh (.int pre.length)) (.sh (.int v)) (by rw [List.append_assoc]; exact hw) hi'
    refine ⟨s2, x2, y2, ?_, hi2⟩
    show loopS f (_ :: enI (pre.length + 1) b) _ _ = _
    unfold loopS
    rw [e]
    rw [List.length_append, List.length_singleton] at e2
    exact e2
section
variable {P : List Fn} {K i j jc jt : Nat} {z : Zs}
theorem ls_sh {C : CallF} {ρ : Env} {ow : Bool} {l : List Int} {k : Nat} (h : ρ[k]? = some (.sh (pl l))) : evI C ρ ow (.ls (.nvar k)) z = some (il l, z) := by
  have e : evE C ρ (.nvar k) z = some (.sh (pl l), z) := by simp only [evE, h]
  rw [evI, e, bd_some]
  rfl
theorem scaled_ok (h : P[i]? = some (B.scaled j)) (hj : P[j]? = some B.trimmed) (a : List Int) (c : Int) (hc : okS c a = true) : run P (K + 2) i [pl a, .int c] z = some (.fr (il (scL a c)), z) := by
  refine run_ret h rfl ?_ rfl
  unfold B.scaled
  simp only
  show exB _ _ [.sh (pl a), .sh (.int c), .un] _ = _
  have e : evE (run P (K + 1)) [.sh (pl a), .sh (.int c), .un] (.comp (.bin .mul (.nvar 1) (.nvar 2)) (.nm 2) (.ls (.nvar 0)) .none [2]) z = some (.fr (il (a.map fun x => c * x)), z) := by
    refine comp_ev rfl (ls_sh rfl) ?_
    have : il (a.map fun x => c * x) = (il a).map fun d => match d with | .int x => .int (c * x) | d => d := by
      unfold il; rw [List.map_map, List.map_map]; rfl
    rw [this]
    refine lcL_map _ _ fun d hd => ?_
    obtain ⟨x, hx, rfl⟩ := List.mem_map.mp hd
    have m := List.all_eq_true.mp hc x hx
    unfold compF
    simp -implicitDefEqProofs only [wipeE, setT, List.set_cons_succ, List.set_cons_zero, evC, bd_some, if_true]
    simp -implicitDefEqProofs only [exS, freeze, froz, evE.eq_1, evE.eq_2, evE.eq_3, evE.eq_4, evE.eq_5, evE.eq_6, evE.eq_7, evE.eq_8, evE.eq_9, evE.eq_10, evE.eq_11, evE.eq_12, evE.eq_13, evE.eq_14, evE.eq_15, evE.eq_16, evE.eq_17, evE.eq_18, evRs, evO, evC, bd_some, bd_none, List.getElem?_cons_succ, List.getElem?_cons_zero, List.set_cons_succ, List.set_cons_zero, putR, setTs, setT, b_add, b_sub, b_band, c_lt, c_le, c_gt, c_ge, c_isn, c_notn, isn_int, isn_non, bi_abs, bi_int, bi_intb, bi_max2, bi_min2, toB_bl, toDs_nil, toDs_cons, R.toD, Option.map_some, Option.map_none, List.getD_cons_zero, List.getD_cons_succ, if_true, eq_int, ne_int, b_mul m]
  rw [exB]; simp -implicitDefEqProofs only [exS, freeze, froz, evE.eq_1, evE.eq_2, evE.eq_3, evE.eq_4, evE.eq_5, evE.eq_6, evE.eq_7, evE.eq_8, evE.eq_9, evE.eq_10, evE.eq_11, evE.eq_12, evE.eq_13, evE.eq_14, evE.eq_15, evE.eq_16, evE.eq_17, evE.eq_18, evRs, evO, evC, bd_some, bd_none, List.getElem?_cons_succ, List.getElem?_cons_zero, List.set_cons_succ, List.set_cons_zero, putR, setTs, setT, b_add, b_sub, b_band, c_lt, c_le, c_gt, c_ge, c_isn, c_notn, isn_int, isn_non, bi_abs, bi_int, bi_intb, bi_max2, bi_min2, toB_bl, toDs_nil, toDs_cons, R.toD, Option.map_some, Option.map_none, List.getD_cons_zero, List.getD_cons_succ, if_true, eq_int, ne_int, e, toDs, trim_ok (K := K) hj]
  rfl
theorem okS_neg {a : List Int} : okS (-1) a = true := List.all_eq_true.mpr fun x _ => ml
def tkL (a b : List Int) : List Int := addL a (scL b (-1))
theorem trimL_len (a : List Int) : (trimL a).length ≤ a.length := by
  unfold trimL
  rw [List.length_reverse]
  have := (List.dropWhile_sublist (l := a.reverse) (· == (0 : Int))).length_le
  rwa [List.length_reverse] at this
theorem scL_len (a : List Int) (c : Int) : (scL a c).length ≤ a.length := by
  have := trimL_len (a.map fun x => c * x)
  rwa [List.length_map] at this
theorem taken_ok (h : P[i]? = some (B.taken j jc)) (hj : P[j]? = some (B.added jt)) (hc : P[jc]? = some (B.scaled jt)) (ht : P[jt]? = some B.trimmed) (a b : List Int) (ha : a.length ≤ 16777216) (hb : b.length ≤ 16777216) : run P (K + 3) i [pl a, pl b] z = some (.fr (il (tkL a b)), z) := by
  refine run_ret h rfl ?_ rfl
  unfold B.taken
  simp only
  show exB _ _ [.sh (pl a), .sh (pl b)] _ = _
  have e1 := scaled_ok (K := K) (z := z) hc ht b (-1) okS_neg
  have e2 := add_ok (K := K) (z := z) hj ht a (scL b (-1)) ha (Nat.le_trans (scL_len _ _) hb)
  rw [exB]; simp -implicitDefEqProofs only [exS, freeze, froz, evE.eq_1, evE.eq_2, evE.eq_3, evE.eq_4, evE.eq_5, evE.eq_6, evE.eq_7, evE.eq_8, evE.eq_9, evE.eq_10, evE.eq_11, evE.eq_12, evE.eq_13, evE.eq_14, evE.eq_15, evE.eq_16, evE.eq_17, evE.eq_18, evRs, evO, evC, bd_some, bd_none, List.getElem?_cons_succ, List.getElem?_cons_zero, List.set_cons_succ, List.set_cons_zero, putR, setTs, setT, b_add, b_sub, b_band, c_lt, c_le, c_gt, c_ge, c_isn, c_notn, isn_int, isn_non, bi_abs, bi_int, bi_intb, bi_max2, bi_min2, toB_bl, toDs_nil, toDs_cons, R.toD, Option.map_some, Option.map_none, List.getD_cons_zero, List.getD_cons_succ, if_true, eq_int, ne_int, toDs, e1, e2]
  rfl
theorem times_inner {C : CallF} {s0 s1 : Slot} {n p : Nat} {x : Int} {b : List Int} (hb : ∀ y ∈ b, mulOk x y = true) (hp : p + b.length ≤ n) : ∀ (s : List Int) (j : Nat) (v : Int) (x' y' : Slot), s.length = n → 0 ≤ j → j < 0 + b.length → v ∈ b →
    lpF C (.tp [5, 6]) (.cons (.augS [] .add 2 (.bin .add (.nvar 3) (.nvar 5)) (.bin .mul (.nvar 4) (.nvar 6))) .nil) (.tup [.int j, .int v]) [s0, s1, .ow (il s), .sh (.int p), .sh (.int x), x', y'] z = some (.nx [s0, s1, .ow (il (bump s (p + j) (x * v))), .sh (.int p), .sh (.int x), .sh (.int j), .sh (.int v)], z) ∧ (bump s (p + j) (x * v)).length = n := by
  intro s j v x' y' hs _ hj hv
  refine ⟨?_, by rw [bump_len, hs]⟩
  simp -implicitDefEqProofs only [lpF, setT, setTs, List.set_cons_succ, List.set_cons_zero]
  have h1 : p + j < s.length := by omega
  have e : (p : Int) + (j : Int) = ((p + j : Nat) : Int) := by omega
  rw [exB]; simp -implicitDefEqProofs only [exS, freeze, froz, evE.eq_1, evE.eq_2, evE.eq_3, evE.eq_4, evE.eq_5, evE.eq_6, evE.eq_7, evE.eq_8, evE.eq_9, evE.eq_10, evE.eq_11, evE.eq_12, evE.eq_13, evE.eq_14, evE.eq_15, evE.eq_16, evE.eq_17, evE.eq_18, evRs, evO, evC, bd_some, bd_none, List.getElem?_cons_succ, List.getElem?_cons_zero, List.set_cons_succ, List.set_cons_zero, putR, setTs, setT, b_add, b_sub, b_band, c_lt, c_le, c_gt, c_ge, c_isn, c_notn, isn_int, isn_non, bi_abs, bi_int, bi_intb, bi_max2, bi_min2, toB_bl, toDs_nil, toDs_cons, R.toD, Option.map_some, Option.map_none, List.getD_cons_zero, List.getD_cons_succ, if_true, eq_int, ne_int, e, at_il h1, ib_add, b_mul (hb v hv), setD_il h1]
  rw [exB]
  unfold bump
  rw [getD_lt h1]
theorem len_inner {s : List Int} {p : Nat} {x : Int} : ∀ (b : List Int) (k : Nat), (foldE (fun s o y => bump s (p + o) (x * y)) s k b).length = s.length := by
  intro b
  induction b generalizing s with
  | nil => intro k; rfl
  | cons y b ih => intro k; unfold foldE; rw [ih, bump_len]
theorem times_ok (h : P[i]? = some (B.times j)) (hj : P[j]? = some B.trimmed) (a b : List Int) (hm : okM a b = true) : run P (K + 2) i [pl a, pl b] z = some (.fr (il (mulL a b)), z) := by
  obtain ⟨hm, h1, h2, h3⟩ := okM_eq hm
  refine run_ret h rfl ?_ rfl
  unfold B.times
  simp only
  show exB _ _ [.sh (pl a), .sh (pl b), .un, .un, .un, .un, .un] _ = _
  have rp := rep_ok (n := a.length + b.length - 1) h3
  rw [exB]; simp -implicitDefEqProofs only [exS, freeze, froz, evE.eq_1, evE.eq_2, evE.eq_3, evE.eq_4, evE.eq_5, evE.eq_6, evE.eq_7, evE.eq_8, evE.eq_9, evE.eq_10, evE.eq_11, evE.eq_12, evE.eq_13, evE.eq_14, evE.eq_15, evE.eq_16, evE.eq_17, evE.eq_18, evRs, evO, evC, bd_some, bd_none, List.getElem?_cons_succ, List.getElem?_cons_zero, List.set_cons_succ, List.set_cons_zero, putR, setTs, setT, b_add, b_sub, b_band, c_lt, c_le, c_gt, c_ge, c_isn, c_notn, isn_int, isn_non, bi_abs, bi_int, bi_intb, bi_max2, bi_min2, toB_bl, toDs_nil, toDs_cons, R.toD, Option.map_some, Option.map_none, List.getD_cons_zero, List.getD_cons_succ, if_true, eq_int, ne_int, toDs, len_sh, max_sub, rp]
  obtain ⟨⟨s', x2, y2⟩, x1, y1, l1, i1, _⟩ := enum_inv (z := z) (f := lpF (run P (K + 1)) (.tp [3, 4]) (.cons (.loop [1] (.tp [5, 6]) (.en (.var 1)) (.cons (.augS [] .add 2 (.bin .add (.nvar 3) (.nvar 5)) (.bin .mul (.nvar 4) (.nvar 6))) .nil)) .nil))
    (fun (w : List Int × Slot × Slot) x y => [.sh (pl a), .sh (pl b), .ow (il w.1), x, y, w.2.1, w.2.2]) (fun pre w => w.1 = foldE (fun s p x => foldE (fun s o y => bump s (p + o) (x * y)) s 0 b) (List.replicate (a.length + b.length - 1) 0) 0 pre ∧ w.1.length = a.length + b.length - 1) a
    (by
      rintro pre v rest ⟨s, x5, x6⟩ x y hw ⟨hs, hl⟩
      have hlen : pre.length + 1 ≤ a.length := by rw [← hw]; simp
      have hv : v ∈ a := by rw [← hw]; simp
      obtain ⟨x', y', e, hn⟩ := enum_loop (z := z) (f := lpF (run P (K + 1)) (.tp [5, 6]) (.cons (.augS [] .add 2 (.bin .add (.nvar 3) (.nvar 5)) (.bin .mul (.nvar 4) (.nvar 6))) .nil)) (fun s x y => [.sh (pl a), .sh (pl b), .ow (il s), .sh (.int pre.length), .sh (.int v), x, y]) (fun s o y => bump s (pre.length + o) (v * y)) (fun s => s.length = a.length + b.length - 1) b 0 s x5 x6 hl
        (times_inner (fun y hy => hm v hv y hy) (by omega))
      refine ⟨(foldE (fun s o y => bump s (pre.length + o) (v * y)) s 0 b, x', y'), ?_, ?_, hn⟩
      · unfold lpF
        simp -implicitDefEqProofs only [setT, setTs, List.set_cons_succ, List.set_cons_zero]
        rw [exB_nx (exS_loop (ρ1 := [.sh (pl a), .sh (pl b), .ow (il s), .sh (.int pre.length), .sh (.int v), x5, x6]) rfl (en_sh rfl) e)]
        rw [exB]
      · simp only at hs ⊢
        rw [foldE_snoc, ← hs, Nat.zero_add]) a [] (List.replicate (a.length + b.length - 1) 0, .un, .un) .un .un rfl ⟨rfl, by simp⟩
  simp only at i1
  rw [i1] at l1
  rw [exB_nx (ρ' := [.sh (pl a), .sh (pl b), .ow (il (mulRaw a b)), x1, y1, x2, y2]) (z' := z) (exS_loop rfl (en_sh rfl) l1)]
  rw [exB]; simp -implicitDefEqProofs only [exS, freeze, froz, evE.eq_1, evE.eq_2, evE.eq_3, evE.eq_4, evE.eq_5, evE.eq_6, evE.eq_7, evE.eq_8, evE.eq_9, evE.eq_10, evE.eq_11, evE.eq_12, evE.eq_13, evE.eq_14, evE.eq_15, evE.eq_16, evE.eq_17, evE.eq_18, evRs, evO, evC, bd_some, bd_none, List.getElem?_cons_succ, List.getElem?_cons_zero, List.set_cons_succ, List.set_cons_zero, putR, setTs, setT, b_add, b_sub, b_band, c_lt, c_le, c_gt, c_ge, c_isn, c_notn, isn_int, isn_non, bi_abs, bi_int, bi_intb, bi_max2, bi_min2, toB_bl, toDs_nil, toDs_cons, R.toD, Option.map_some, Option.map_none, List.getD_cons_zero, List.getD_cons_succ, if_true, eq_int, ne_int, toDs, trim_ok (K := K) hj]
  rfl
end
end Mn

/-! Mini: powers, slopes, one polynomial put into another. -/
namespace Mn
open PySem L2
def rgI : Nat → Nat → List D
  | _, 0 => []
  | k, n + 1 => .int k :: rgI (k + 1) n
theorem rangeD_rgI (n : Nat) : rangeD 0 n = rgI 0 n := by
  have : ∀ (n k : Nat), (List.range' k n).map (fun (i : Nat) => D.int (i : Int)) = rgI k n := fun n => by
    induction n with
    | zero => intro k; rfl
    | succ n ih => intro k; rw [List.range'_succ, List.map_cons, ih]; rfl
  rw [← this, ← List.range_eq_range']
  unfold rangeD
  apply List.map_congr_left
  intro i _
  rw [Int.zero_add]
theorem range_inv {σ : Type} {z : Zs} {f : D → Env → Zs → Option (Out × Zs)} (E : σ → Slot → Env) (I : Nat → σ → Prop) (N : Nat)
    (h : ∀ j s x, j < N → I j s → ∃ s', f (.int j) (E s x) z = some (.nx (E s' (.sh (.int j))), z) ∧ I (j + 1) s') :
    ∀ (n k : Nat) (s : σ) (x : Slot), k + n = N → I k s → ∃ s' x', loopS f (rgI k n) (E s x) z = some (.nx (E s' x'), z) ∧ I N s'
  | 0, k, s, x, hk, hi => ⟨s, x, rfl, by rw [← hk]; exact hi⟩
  | n + 1, k, s, x, hk, hi => by
    obtain ⟨s', e, hi'⟩ := h k s x (by omega) hi
    obtain ⟨s2, x2, e2, hi2⟩ := range_inv E I N h n (k + 1) s' (.sh (.int k)) (by omega) hi'
    refine ⟨s2, x2, ?_, hi2⟩
    show loopS f (_ :: rgI (k + 1) n) _ _ = _
    unfold loopS
    rw [e]
    exact e2
theorem list_inv {σ : Type} {z : Zs} {f : D → Env → Zs → Option (Out × Zs)} (E : σ → Slot → Env) (I : List Int → σ → Prop)
    (h : ∀ v rest s x, I (v :: rest) s → ∃ s', f (.int v) (E s x) z = some (.nx (E s' (.sh (.int v))), z) ∧ I rest s') :
    ∀ (b : List Int) (s : σ) (x : Slot), I b s → ∃ s' x', loopS f (il b) (E s x) z = some (.nx (E s' x'), z) ∧ I [] s'
  | [], s, x, hi => ⟨s, x, rfl, hi⟩
  | v :: b, s, x, hi => by
    obtain ⟨s', e, hi'⟩ := h v b s x hi
    obtain ⟨s2, x2, e2, hi2⟩ := list_inv E I h b s' (.sh (.int v)) hi'
    refine ⟨s2, x2, ?_, hi2⟩
    show loopS f (_ :: il b) _ _ = _
    unfold loopS
    rw [e]
    exact e2
def powL (a : List Int) : Nat → List Int
  | 0 => [1]
  | n + 1 => mulL (powL a n) a
def okPow (a : List Int) (n : Nat) : Bool := (List.range n).all fun k => okM (powL a k) a
def slRaw : Nat → List Int → List Int
  | _, [] => []
  | k, v :: b => (k : Int) * v :: slRaw (k + 1) b
def slopeL (a : List Int) : List Int := trimL ((slRaw 0 a).drop 1)
def putF (b f : List Int) (x : Int) : List Int := addL (mulL f b) (trimL [x])
def putL (a b : List Int) : List Int := a.reverse.foldl (putF b) []
def okPutF (b : List Int) : List Int → List Int → Bool
  | _, [] => true
  | f, x :: r => okM f b && small (mulL f b).length && okPutF b (putF b f x) r
def okPut (a b : List Int) : Bool := okPutF b [] a.reverse
section
variable {P : List Fn} {K i j jc jt : Nat} {z : Zs}
theorem power_ok (h : P[i]? = some (B.power j)) (hj : P[j]? = some (B.times jt)) (ht : P[jt]? = some B.trimmed) (a : List Int) (n : Nat) (hn : n ≤ 16777216) (ho : okPow a n = true) : run P (K + 3) i [pl a, .int n] z = some (.fr (il (powL a n)), z) := by
  refine run_ret h rfl ?_ rfl
  unfold B.power
  simp only
  show exB _ _ [.sh (pl a), .sh (.int n), .un, .un] _ = _
  rw [exB]; simp -implicitDefEqProofs only [exS, freeze, froz, evE.eq_1, evE.eq_2, evE.eq_3, evE.eq_4, evE.eq_5, evE.eq_6, evE.eq_7, evE.eq_8, evE.eq_9, evE.eq_10, evE.eq_11, evE.eq_12, evE.eq_13, evE.eq_14, evE.eq_15, evE.eq_16, evE.eq_17, evE.eq_18, evRs, evO, evC, bd_some, bd_none, List.getElem?_cons_succ, List.getElem?_cons_zero, List.set_cons_succ, List.set_cons_zero, putR, setTs, setT, b_add, b_sub, b_band, c_lt, c_le, c_gt, c_ge, c_isn, c_notn, isn_int, isn_non, bi_abs, bi_int, bi_intb, bi_max2, bi_min2, toB_bl, toDs_nil, toDs_cons, R.toD, Option.map_some, Option.map_none, List.getD_cons_zero, List.getD_cons_succ, if_true, eq_int, ne_int, toDs]
  obtain ⟨s', x', l, hs⟩ := range_inv (z := z) (f := lpF (run P (K + 2)) (.nm 3) (.cons (.asg [2, 0] 2 (.call j (.cons (.var 2) (.cons (.var 0) .nil)))) .nil)) (fun (s : List Int) x => [.sh (pl a), .sh (.int n), .ow (il s), x]) (fun k s => s = powL a k) n
    (by
      rintro k s x hk rfl
      have m := List.all_eq_true.mp ho k (List.mem_range.mpr hk)
      have e := times_ok (K := K) (z := z) hj ht (powL a k) a m
      refine ⟨powL a (k + 1), ?_, rfl⟩
      simp -implicitDefEqProofs only [lpF, setT, List.set_cons_succ, List.set_cons_zero]
      rw [exB]; simp -implicitDefEqProofs only [exS, freeze, froz, evE.eq_1, evE.eq_2, evE.eq_3, evE.eq_4, evE.eq_5, evE.eq_6, evE.eq_7, evE.eq_8, evE.eq_9, evE.eq_10, evE.eq_11, evE.eq_12, evE.eq_13, evE.eq_14, evE.eq_15, evE.eq_16, evE.eq_17, evE.eq_18, evRs, evO, evC, bd_some, bd_none, List.getElem?_cons_succ, List.getElem?_cons_zero, List.set_cons_succ, List.set_cons_zero, putR, setTs, setT, b_add, b_sub, b_band, c_lt, c_le, c_gt, c_ge, c_isn, c_notn, isn_int, isn_non, bi_abs, bi_int, bi_intb, bi_max2, bi_min2, toB_bl, toDs_nil, toDs_cons, R.toD, Option.map_some, Option.map_none, List.getD_cons_zero, List.getD_cons_succ, if_true, eq_int, ne_int, toDs, e]
      rw [exB]
      rfl) n 0 [1] .un (by omega) rfl
  subst hs
  rw [exB_nx (ρ' := [.sh (pl a), .sh (.int n), .ow (il (powL a n)), x']) (z' := z) (exS_loop rfl (rg1_ok (n := n) rfl hn) (by rw [rangeD_rgI]; exact l))]
  rw [exB]; simp -implicitDefEqProofs only [exS, freeze, froz, evE.eq_1, evE.eq_2, evE.eq_3, evE.eq_4, evE.eq_5, evE.eq_6, evE.eq_7, evE.eq_8, evE.eq_9, evE.eq_10, evE.eq_11, evE.eq_12, evE.eq_13, evE.eq_14, evE.eq_15, evE.eq_16, evE.eq_17, evE.eq_18, evRs, evO, evC, bd_some, bd_none, List.getElem?_cons_succ, List.getElem?_cons_zero, List.set_cons_succ, List.set_cons_zero, putR, setTs, setT, b_add, b_sub, b_band, c_lt, c_le, c_gt, c_ge, c_isn, c_notn, isn_int, isn_non, bi_abs, bi_int, bi_intb, bi_max2, bi_min2, toB_bl, toDs_nil, toDs_cons, R.toD, Option.map_some, Option.map_none, List.getD_cons_zero, List.getD_cons_succ, if_true, eq_int, ne_int]
theorem rv_sh {C : CallF} {ρ : Env} {ow : Bool} {l : List Int} {k : Nat} (h : ρ[k]? = some (.sh (pl l))) : evI C ρ ow (.rv (.var k)) z = some (il l.reverse, z) := by
  have e : evE C ρ (.var k) z = some (.sh (pl l), z) := by simp only [evE, h]
  rw [evI, e, bd_some]
  unfold il
  rw [List.map_reverse]
  rfl
theorem put_ok (h : P[i]? = some (B.put_in j jc jt)) (hj : P[j]? = some (B.added jt)) (hc : P[jc]? = some (B.times jt)) (ht : P[jt]? = some B.trimmed) (a b : List Int) (ho : okPut a b = true) : run P (K + 3) i [pl a, pl b] z = some (.fr (il (putL a b)), z) := by
  refine run_ret h rfl ?_ rfl
  unfold B.put_in
  simp only
  show exB _ _ [.sh (pl a), .sh (pl b), .un, .un] _ = _
  rw [exB]; simp -implicitDefEqProofs only [exS, freeze, froz, evE.eq_1, evE.eq_2, evE.eq_3, evE.eq_4, evE.eq_5, evE.eq_6, evE.eq_7, evE.eq_8, evE.eq_9, evE.eq_10, evE.eq_11, evE.eq_12, evE.eq_13, evE.eq_14, evE.eq_15, evE.eq_16, evE.eq_17, evE.eq_18, evRs, evO, evC, bd_some, bd_none, List.getElem?_cons_succ, List.getElem?_cons_zero, List.set_cons_succ, List.set_cons_zero, putR, setTs, setT, b_add, b_sub, b_band, c_lt, c_le, c_gt, c_ge, c_isn, c_notn, isn_int, isn_non, bi_abs, bi_int, bi_intb, bi_max2, bi_min2, toB_bl, toDs_nil, toDs_cons, R.toD, Option.map_some, Option.map_none, List.getD_cons_zero, List.getD_cons_succ, if_true, eq_int, ne_int, toDs]
  obtain ⟨s', x', l, hs, _⟩ := list_inv (z := z) (f := lpF (run P (K + 2)) (.nm 3) (.cons (.asg [2, 1, 3] 2 (.call j (.cons (.call jc (.cons (.var 2) (.cons (.var 1) .nil))) (.cons (.call jt (.cons (.lst (.cons (.var 3) .nil)) .nil)) .nil)))) .nil)) (fun (s : List Int) x => [.sh (pl a), .sh (pl b), .ow (il s), x]) (fun r s => r.foldl (putF b) s = putL a b ∧ okPutF b s r = true)
    (by
      rintro v rest s x ⟨hs, hk⟩
      unfold okPutF at hk
      simp only [Bool.and_eq_true] at hk
      obtain ⟨⟨k1, k2⟩, k3⟩ := hk
      have e1 := times_ok (K := K) (z := z) hc ht s b k1
      have e2 := trim_ok (K := K + 1) (z := z) ht [v]
      have e3 := add_ok (K := K) (z := z) hj ht (mulL s b) (trimL [v]) (of_decide_eq_true k2) (Nat.le_trans (trimL_len _) (by show 1 ≤ 16777216; omega))
      refine ⟨putF b s v, ?_, hs, k3⟩
      simp -implicitDefEqProofs only [lpF, setT, List.set_cons_succ, List.set_cons_zero]
      rw [exB]; simp -implicitDefEqProofs only [exS, freeze, froz, evE.eq_1, evE.eq_2, evE.eq_3, evE.eq_4, evE.eq_5, evE.eq_6, evE.eq_7, evE.eq_8, evE.eq_9, evE.eq_10, evE.eq_11, evE.eq_12, evE.eq_13, evE.eq_14, evE.eq_15, evE.eq_16, evE.eq_17, evE.eq_18, evRs, evO, evC, bd_some, bd_none, List.getElem?_cons_succ, List.getElem?_cons_zero, List.set_cons_succ, List.set_cons_zero, putR, setTs, setT, b_add, b_sub, b_band, c_lt, c_le, c_gt, c_ge, c_isn, c_notn, isn_int, isn_non, bi_abs, bi_int, bi_intb, bi_max2, bi_min2, toB_bl, toDs_nil, toDs_cons, R.toD, Option.map_some, Option.map_none, List.getD_cons_zero, List.getD_cons_succ, if_true, eq_int, ne_int, toDs, e1]
      have e2' : run P (K + 2) jt [.lst [.int v]] z = some (.fr (il (trimL [v])), z) := e2
      simp -implicitDefEqProofs only [exS, freeze, froz, evE.eq_1, evE.eq_2, evE.eq_3, evE.eq_4, evE.eq_5, evE.eq_6, evE.eq_7, evE.eq_8, evE.eq_9, evE.eq_10, evE.eq_11, evE.eq_12, evE.eq_13, evE.eq_14, evE.eq_15, evE.eq_16, evE.eq_17, evE.eq_18, evRs, evO, evC, bd_some, bd_none, List.getElem?_cons_succ, List.getElem?_cons_zero, List.set_cons_succ, List.set_cons_zero, putR, setTs, setT, b_add, b_sub, b_band, c_lt, c_le, c_gt, c_ge, c_isn, c_notn, isn_int, isn_non, bi_abs, bi_int, bi_intb, bi_max2, bi_min2, toB_bl, toDs_nil, toDs_cons, R.toD, Option.map_some, Option.map_none, List.getD_cons_zero, List.getD_cons_succ, if_true, eq_int, ne_int, toDs, e2', e3]
      rw [exB]
      rfl) a.reverse [] .un ⟨rfl, ho⟩
  simp only [List.foldl_nil] at hs
  subst hs
  rw [exB_nx (ρ' := [.sh (pl a), .sh (pl b), .ow (il (putL a b)), x']) (z' := z) (exS_loop rfl (rv_sh rfl) l)]
  rw [exB]; simp -implicitDefEqProofs only [exS, freeze, froz, evE.eq_1, evE.eq_2, evE.eq_3, evE.eq_4, evE.eq_5, evE.eq_6, evE.eq_7, evE.eq_8, evE.eq_9, evE.eq_10, evE.eq_11, evE.eq_12, evE.eq_13, evE.eq_14, evE.eq_15, evE.eq_16, evE.eq_17, evE.eq_18, evRs, evO, evC, bd_some, bd_none, List.getElem?_cons_succ, List.getElem?_cons_zero, List.set_cons_succ, List.set_cons_zero, putR, setTs, setT, b_add, b_sub, b_band, c_lt, c_le, c_gt, c_ge, c_isn, c_notn, isn_int, isn_non, bi_abs, bi_int, bi_intb, bi_max2, bi_min2, toB_bl, toDs_nil, toDs_cons, R.toD, Option.map_some, Option.map_none, List.getD_cons_zero, List.getD_cons_succ, if_true, eq_int, ne_int]
theorem cut1 (l : List Int) : cutL (il l) (some 1) none = il (l.drop 1) := by
  unfold cutL
  have e : HT.sIx (il l).length 0 (some 1) = min 1 (il l).length := HT.sIx_nat _ _ 1
  rw [e, HT.sIx_none]
  cases l with
  | nil => rfl
  | cons x l =>
    rw [il_cons, List.length_cons, show min 1 ((il l).length + 1) = 1 by omega]
    show (il l).take _ = il l
    rw [List.take_of_length_le (by omega)]
theorem lcL_en {z : Zs} {f : D → Zs → Option (Option D × Zs)} (g : Nat → Int → Int) : ∀ (b : List Int) (k : Nat), (∀ j v, k ≤ j → j < k + b.length → v ∈ b → f (.tup [.int j, .int v]) z = some (some (.int (g j v)), z)) →
    lcL f (enI k b) z = some (il ((b.zipIdx k).map fun p => g p.2 p.1), z)
  | [], k, _ => rfl
  | v :: b, k, h => by
    show lcL f (_ :: enI (k + 1) b) z = _
    unfold lcL
    rw [h k v (Nat.le_refl _) (by simp) List.mem_cons_self, bd_some, lcL_en g b (k + 1) fun j u h1 h2 h3 => h j u (by omega) (by simp only [List.length_cons]; omega) (List.mem_cons_of_mem _ h3), bd_some]
    rfl
theorem slRaw_zip : ∀ (b : List Int) (k : Nat), (b.zipIdx k).map (fun p => (p.2 : Int) * p.1) = slRaw k b
  | [], _ => rfl
  | v :: b, k => by
    rw [List.zipIdx_cons, List.map_cons, slRaw_zip b (k + 1)]
    rfl
theorem en_nv {C : CallF} {ρ : Env} {ow : Bool} {l : List Int} {k : Nat} (h : ρ[k]? = some (.sh (pl l))) : evI C ρ ow (.en (.nvar k)) z = some (enI 0 l, z) := by
  have e : evE C ρ (.nvar k) z = some (.sh (pl l), z) := by simp only [evE, h]
  rw [evI, e, bd_some, ← enumD_il]
  rfl
theorem slope_ok (h : P[i]? = some (B.slope j)) (hj : P[j]? = some B.trimmed) (a : List Int) (ha : a.length ≤ 16777216) : run P (K + 2) i [pl a] z = some (.fr (il (slopeL a)), z) := by
  refine run_ret h rfl ?_ rfl
  unfold B.slope
  simp only
  show exB _ _ [.sh (pl a), .un, .un] _ = _
  have e : evE (run P (K + 1)) [.sh (pl a), .un, .un] (.comp (.bin .mul (.nvar 1) (.nvar 2)) (.tp [1, 2]) (.en (.nvar 0)) .none [1, 2]) z = some (.fr (il (slRaw 0 a)), z) := by
    refine comp_ev rfl (en_nv rfl) ?_
    rw [← slRaw_zip]
    refine lcL_en (fun j v => (j : Int) * v) a 0 fun j v _ hj _ => ?_
    have m : mulOk (j : Int) v = true := mulOk_l (by omega) (by omega)
    unfold compF
    simp -implicitDefEqProofs only [wipeE, setT, setTs, List.set_cons_succ, List.set_cons_zero, evC, bd_some, if_true]
    simp -implicitDefEqProofs only [exS, freeze, froz, evE.eq_1, evE.eq_2, evE.eq_3, evE.eq_4, evE.eq_5, evE.eq_6, evE.eq_7, evE.eq_8, evE.eq_9, evE.eq_10, evE.eq_11, evE.eq_12, evE.eq_13, evE.eq_14, evE.eq_15, evE.eq_16, evE.eq_17, evE.eq_18, evRs, evO, evC, bd_some, bd_none, List.getElem?_cons_succ, List.getElem?_cons_zero, List.set_cons_succ, List.set_cons_zero, putR, setTs, setT, b_add, b_sub, b_band, c_lt, c_le, c_gt, c_ge, c_isn, c_notn, isn_int, isn_non, bi_abs, bi_int, bi_intb, bi_max2, bi_min2, toB_bl, toDs_nil, toDs_cons, R.toD, Option.map_some, Option.map_none, List.getD_cons_zero, List.getD_cons_succ, if_true, eq_int, ne_int, b_mul m]
  rw [exB]; simp -implicitDefEqProofs only [exS, freeze, froz, evE.eq_1, evE.eq_2, evE.eq_3, evE.eq_4, evE.eq_5, evE.eq_6, evE.eq_7, evE.eq_8, evE.eq_9, evE.eq_10, evE.eq_11, evE.eq_12, evE.eq_13, evE.eq_14, evE.eq_15, evE.eq_16, evE.eq_17, evE.eq_18, evRs, evO, evC, bd_some, bd_none, List.getElem?_cons_succ, List.getElem?_cons_zero, List.set_cons_succ, List.set_cons_zero, putR, setTs, setT, b_add, b_sub, b_band, c_lt, c_le, c_gt, c_ge, c_isn, c_notn, isn_int, isn_non, bi_abs, bi_int, bi_intb, bi_max2, bi_min2, toB_bl, toDs_nil, toDs_cons, R.toD, Option.map_some, Option.map_none, List.getD_cons_zero, List.getD_cons_succ, if_true, eq_int, ne_int, e, R.items, cut1, toDs, trim_ok (K := K) hj]
  rfl
end
end Mn

/-! Mini: division of polynomials. -/
namespace Mn
open PySem L2
/-- s[k] -= v -/
def dent (s : List Int) (k : Nat) (v : Int) : List Int := s.set k (s.getD k 0 - v)
theorem dent_len (s : List Int) (k : Nat) (v : Int) : (dent s k v).length = s.length := List.length_set ..
def subAt (b left : List Int) (p : Nat) (q : Int) : List Int := foldE (fun s o y => dent s (p + o) (q * y)) left 0 b
def lastD (l : List Int) : Int := l.getLastD 0
/-- some none: no quotient; some (some q): the quotient; none: not told -/
def divGo (b : List Int) : Nat → List Int → List Int → Option (Option (List Int))
  | 0, _, _ => none
  | n + 1, left, found => if b.length ≤ left.length then
      if lastD b ≠ 0 ∧ (lastD b).natAbs.log2 < 9000 ∧ left ≠ [] ∧ b ≠ [] then
        if (lastD left).fmod (lastD b) ≠ 0 then some none
        else if okS ((lastD left).fdiv (lastD b)) b = true ∧ left.length - b.length < found.length then
          divGo b n (trimL (subAt b left (left.length - b.length) ((lastD left).fdiv (lastD b)))) (found.set (left.length - b.length) ((lastD left).fdiv (lastD b)))
        else none
      else none
    else if left ≠ [] then some none else some (some (trimL found))
def divL (n : Nat) (a b : List Int) : Option (Option (List Int)) := if b ≠ [] ∧ a.length ≤ 10000 ∧ b.length ≤ 10000 then divGo b n a (List.replicate (a.length + 1 - b.length) 0) else none
def oL : Option (List Int) → R
  | none => .sh .non
  | some l => .fr (il l)
theorem at_lastD {l : List Int} (h : l ≠ []) : atI (il l) (-1) = some (.int (lastD l)) := by
  obtain ⟨l', x, rfl⟩ : ∃ l' x, l = l' ++ [x] := ⟨l.dropLast, l.getLast h, (List.dropLast_concat_getLast h).symm⟩
  rw [at_last]
  unfold lastD
  simp
section
variable {P : List Fn} {K i j jc jt : Nat} {z : Zs}
theorem sub_last_sh {l : List Int} (h : l ≠ []) : subR (.sh (pl l)) (.sh (.int (-1))) z = some (.sh (.int (lastD l))) := by
  show ((R.sh (pl l)).items.bind fun ds => (atI ds (-1)).map R.sh) = _
  simp only [R.items, Option.bind_some, at_lastD h, Option.map_some]
theorem sub_last_vw {l : List Int} (h : l ≠ []) : subR (.vw (il l)) (.sh (.int (-1))) z = some (.sh (.int (lastD l))) := by
  show ((R.vw (il l)).items.bind fun ds => (atI ds (-1)).map R.sh) = _
  simp only [R.items, Option.bind_some, at_lastD h, Option.map_some]
theorem div_inner {C : CallF} {s0 s1 s3 : Slot} {n p : Nat} {x : Int} {b : List Int} (hb : ∀ y ∈ b, mulOk x y = true) (hp : p + b.length ≤ n) : ∀ (s : List Int) (j : Nat) (v : Int) (x' y' : Slot), s.length = n → 0 ≤ j → j < 0 + b.length → v ∈ b →
    lpF C (.tp [6, 7]) (.cons (.augS [] .sub 2 (.bin .add (.nvar 5) (.nvar 6)) (.bin .mul (.nvar 4) (.nvar 7))) .nil) (.tup [.int j, .int v]) [s0, s1, .ow (il s), s3, .sh (.int x), .sh (.int p), x', y'] z = some (.nx [s0, s1, .ow (il (dent s (p + j) (x * v))), s3, .sh (.int x), .sh (.int p), .sh (.int j), .sh (.int v)], z) ∧ (dent s (p + j) (x * v)).length = n := by
  intro s j v x' y' hs _ hj hv
  refine ⟨?_, by rw [dent_len, hs]⟩
  simp -implicitDefEqProofs only [lpF, setT, setTs, List.set_cons_succ, List.set_cons_zero]
  have h1 : p + j < s.length := by omega
  have e : (p : Int) + (j : Int) = ((p + j : Nat) : Int) := by omega
  rw [exB]; simp -implicitDefEqProofs only [exS, freeze, froz, evE.eq_1, evE.eq_2, evE.eq_3, evE.eq_4, evE.eq_5, evE.eq_6, evE.eq_7, evE.eq_8, evE.eq_9, evE.eq_10, evE.eq_11, evE.eq_12, evE.eq_13, evE.eq_14, evE.eq_15, evE.eq_16, evE.eq_17, evE.eq_18, evRs, evO, evC, bd_some, bd_none, List.getElem?_cons_succ, List.getElem?_cons_zero, List.set_cons_succ, List.set_cons_zero, putR, setTs, setT, b_add, b_sub, b_band, c_lt, c_le, c_gt, c_ge, c_isn, c_notn, isn_int, isn_non, bi_abs, bi_int, bi_intb, bi_max2, bi_min2, toB_bl, toDs_nil, toDs_cons, R.toD, Option.map_some, Option.map_none, List.getD_cons_zero, List.getD_cons_succ, if_true, eq_int, ne_int, e, at_il h1, ib_sub, b_mul (hb v hv), setD_il h1]
  rw [exB]
  unfold dent
  rw [getD_lt h1]
def dvC : ME := .cmp .ge (.bi .len (.cons (.nvar 2) .nil)) (.bi .len (.cons (.nvar 1) .nil))
def dvB (i0 : Nat) : MSs := (.cons (.ite [] (.cmp .ne (.bin .mod (.sub (.nvar 2) (.neg (.lit (.int (1))))) (.sub (.nvar 1) (.neg (.lit (.int (1)))))) (.lit (.int (0)))) (.cons (.ret [] (.lit .non)) .nil) .nil) (.cons (.asg [] 4 (.bin .fdiv (.sub (.nvar 2) (.neg (.lit (.int (1))))) (.sub (.nvar 1) (.neg (.lit (.int (1))))))) (.cons (.asg [] 5 (.bin .sub (.bi .len (.cons (.nvar 2) .nil)) (.bi .len (.cons (.nvar 1) .nil)))) (.cons (.set [4] 3 (.nvar 5) (.var 4)) (.cons (.loop [1] (.tp [6, 7]) (.en (.var 1)) (.cons (.augS [] .sub 2 (.bin .add (.nvar 5) (.nvar 6)) (.bin .mul (.nvar 4) (.nvar 7))) .nil)) (.cons (.asg [2] 2 (.call i0 (.cons (.var 2) .nil))) .nil))))))
def dvE (i0 : Nat) : MSs := (.cons (.ite [] (.cmp .ne (.nvar 2) (.lst .nil)) (.cons (.ret [] (.lit .non)) .nil) .nil) (.cons (.ret [3] (.call i0 (.cons (.var 3) .nil))) .nil))
theorem div_loop {a b : List Int} (hj : P[j]? = some B.trimmed) : ∀ (n : Nat) (left found : List Int) (o : Option (List Int)) (x4 x5 x6 x7 : Slot), divGo b n left found = some o →
    exB (run P (K + 1)) (.cons (.whl [] dvC (dvB j)) (dvE j)) [.sh (pl a), .sh (pl b), .ow (il left), .ow (il found), x4, x5, x6, x7] z = some (.ret (oL o), z)
  | 0, left, found, o, x4, x5, x6, x7, e => by cases e
  | n + 1, left, found, o, x4, x5, x6, x7, e => by
    unfold divGo at e
    have ce : evE (run P (K + 1)) [.sh (pl a), .sh (pl b), .ow (il left), .ow (il found), x4, x5, x6, x7] dvC z = some (.sh (.bl (decide (b.length ≤ left.length))), z) := by
      unfold dvC
      have hd : decide ((b.length : Int) ≤ (left.length : Int)) = decide (b.length ≤ left.length) := decide_eq_decide.mpr (by omega)
      simp -implicitDefEqProofs only [exS, freeze, froz, evE.eq_1, evE.eq_2, evE.eq_3, evE.eq_4, evE.eq_5, evE.eq_6, evE.eq_7, evE.eq_8, evE.eq_9, evE.eq_10, evE.eq_11, evE.eq_12, evE.eq_13, evE.eq_14, evE.eq_15, evE.eq_16, evE.eq_17, evE.eq_18, evRs, evO, evC, bd_some, bd_none, List.getElem?_cons_succ, List.getElem?_cons_zero, List.set_cons_succ, List.set_cons_zero, putR, setTs, setT, b_add, b_sub, b_band, c_lt, c_le, c_gt, c_ge, c_isn, c_notn, isn_int, isn_non, bi_abs, bi_int, bi_intb, bi_max2, bi_min2, toB_bl, toDs_nil, toDs_cons, R.toD, Option.map_some, Option.map_none, List.getD_cons_zero, List.getD_cons_succ, if_true, eq_int, ne_int, len_sh, len_vw, hd]
    split at e
    · rename_i hle
      rw [decide_eq_true hle] at ce
      split at e
      · rename_i hc
        obtain ⟨h0, hlg, hl0, hb0⟩ := hc
        have sv := sub_last_vw (z := z) hl0
        have ss := sub_last_sh (z := z) hb0
        have en : (-(1 : Int)) = -1 := rfl
        split at e
        · rename_i hm
          cases e
          rw [exB_ret (r := .sh .non) (z' := z)]
          · rfl
          refine whl_ret (z1 := z) ce ?_
          simp -implicitDefEqProofs only [freeze]
          unfold dvB
          rw [exB]; simp -implicitDefEqProofs only [exS, freeze, froz, evE.eq_1, evE.eq_2, evE.eq_3, evE.eq_4, evE.eq_5, evE.eq_6, evE.eq_7, evE.eq_8, evE.eq_9, evE.eq_10, evE.eq_11, evE.eq_12, evE.eq_13, evE.eq_14, evE.eq_15, evE.eq_16, evE.eq_17, evE.eq_18, evRs, evO, evC, bd_some, bd_none, List.getElem?_cons_succ, List.getElem?_cons_zero, List.set_cons_succ, List.set_cons_zero, putR, setTs, setT, b_add, b_sub, b_band, c_lt, c_le, c_gt, c_ge, c_isn, c_notn, isn_int, isn_non, bi_abs, bi_int, bi_intb, bi_max2, bi_min2, toB_bl, toDs_nil, toDs_cons, R.toD, Option.map_some, Option.map_none, List.getD_cons_zero, List.getD_cons_succ, if_true, eq_int, ne_int, sv, ss, b_mod h0, decide_eq_false hm, Bool.not_false]
          rw [exB]; simp -implicitDefEqProofs only [exS, freeze, froz, evE.eq_1, evE.eq_2, evE.eq_3, evE.eq_4, evE.eq_5, evE.eq_6, evE.eq_7, evE.eq_8, evE.eq_9, evE.eq_10, evE.eq_11, evE.eq_12, evE.eq_13, evE.eq_14, evE.eq_15, evE.eq_16, evE.eq_17, evE.eq_18, evRs, evO, evC, bd_some, bd_none, List.getElem?_cons_succ, List.getElem?_cons_zero, List.set_cons_succ, List.set_cons_zero, putR, setTs, setT, b_add, b_sub, b_band, c_lt, c_le, c_gt, c_ge, c_isn, c_notn, isn_int, isn_non, bi_abs, bi_int, bi_intb, bi_max2, bi_min2, toB_bl, toDs_nil, toDs_cons, R.toD, Option.map_some, Option.map_none, List.getD_cons_zero, List.getD_cons_succ, if_true, eq_int, ne_int]
        · rename_i hm
          have hm : (lastD left).fmod (lastD b) = 0 := Classical.not_not.mp hm
          split at e
          · rename_i hk
            obtain ⟨hk1, hk2⟩ := hk
            have hbs : ∀ y ∈ b, mulOk ((lastD left).fdiv (lastD b)) y = true := fun y hy => List.all_eq_true.mp hk1 y hy
            have ep : (left.length : Int) - (b.length : Int) = ((left.length - b.length : Nat) : Int) := by omega
            obtain ⟨x', y', lp, _⟩ := enum_loop (z := z) (f := lpF (run P (K + 1)) (.tp [6, 7]) (.cons (.augS [] .sub 2 (.bin .add (.nvar 5) (.nvar 6)) (.bin .mul (.nvar 4) (.nvar 7))) .nil))
              (fun s x y => [.sh (pl a), .sh (pl b), .ow (il s), .ow (il (found.set (left.length - b.length) ((lastD left).fdiv (lastD b)))), .sh (.int ((lastD left).fdiv (lastD b))), .sh (.int ((left.length - b.length : Nat) : Int)), x, y]) (fun s o y => dent s (left.length - b.length + o) ((lastD left).fdiv (lastD b) * y)) (fun s => s.length = left.length) b 0 left x6 x7 rfl
              (div_inner hbs (by omega))
            have ih := div_loop (a := a) hj n _ _ o (.sh (.int ((lastD left).fdiv (lastD b)))) (.sh (.int ((left.length - b.length : Nat) : Int))) x' y' e
            rw [exB] at ih ⊢
            rw [whl_true (z1 := z) (z2 := z) (ρ' := [.sh (pl a), .sh (pl b), .ow (il (trimL (subAt b left (left.length - b.length) ((lastD left).fdiv (lastD b))))), .ow (il (found.set (left.length - b.length) ((lastD left).fdiv (lastD b)))), .sh (.int ((lastD left).fdiv (lastD b))), .sh (.int ((left.length - b.length : Nat) : Int)), x', y'])]
            · exact ih
            · exact ce
            · simp -implicitDefEqProofs only [freeze]
              unfold dvB
              rw [exB]; simp -implicitDefEqProofs only [exS, freeze, froz, evE.eq_1, evE.eq_2, evE.eq_3, evE.eq_4, evE.eq_5, evE.eq_6, evE.eq_7, evE.eq_8, evE.eq_9, evE.eq_10, evE.eq_11, evE.eq_12, evE.eq_13, evE.eq_14, evE.eq_15, evE.eq_16, evE.eq_17, evE.eq_18, evRs, evO, evC, bd_some, bd_none, List.getElem?_cons_succ, List.getElem?_cons_zero, List.set_cons_succ, List.set_cons_zero, putR, setTs, setT, b_add, b_sub, b_band, c_lt, c_le, c_gt, c_ge, c_isn, c_notn, isn_int, isn_non, bi_abs, bi_int, bi_intb, bi_max2, bi_min2, toB_bl, toDs_nil, toDs_cons, R.toD, Option.map_some, Option.map_none, List.getD_cons_zero, List.getD_cons_succ, if_true, eq_int, ne_int, sv, ss, b_mod h0, hm, decide_true, Bool.not_true]
              rw [exB]
              simp only
              rw [exB]; simp -implicitDefEqProofs only [exS, freeze, froz, evE.eq_1, evE.eq_2, evE.eq_3, evE.eq_4, evE.eq_5, evE.eq_6, evE.eq_7, evE.eq_8, evE.eq_9, evE.eq_10, evE.eq_11, evE.eq_12, evE.eq_13, evE.eq_14, evE.eq_15, evE.eq_16, evE.eq_17, evE.eq_18, evRs, evO, evC, bd_some, bd_none, List.getElem?_cons_succ, List.getElem?_cons_zero, List.set_cons_succ, List.set_cons_zero, putR, setTs, setT, b_add, b_sub, b_band, c_lt, c_le, c_gt, c_ge, c_isn, c_notn, isn_int, isn_non, bi_abs, bi_int, bi_intb, bi_max2, bi_min2, toB_bl, toDs_nil, toDs_cons, R.toD, Option.map_some, Option.map_none, List.getD_cons_zero, List.getD_cons_succ, if_true, eq_int, ne_int, sv, ss, b_fdiv ⟨h0, hlg⟩]
              rw [exB]; simp -implicitDefEqProofs only [exS, freeze, froz, evE.eq_1, evE.eq_2, evE.eq_3, evE.eq_4, evE.eq_5, evE.eq_6, evE.eq_7, evE.eq_8, evE.eq_9, evE.eq_10, evE.eq_11, evE.eq_12, evE.eq_13, evE.eq_14, evE.eq_15, evE.eq_16, evE.eq_17, evE.eq_18, evRs, evO, evC, bd_some, bd_none, List.getElem?_cons_succ, List.getElem?_cons_zero, List.set_cons_succ, List.set_cons_zero, putR, setTs, setT, b_add, b_sub, b_band, c_lt, c_le, c_gt, c_ge, c_isn, c_notn, isn_int, isn_non, bi_abs, bi_int, bi_intb, bi_max2, bi_min2, toB_bl, toDs_nil, toDs_cons, R.toD, Option.map_some, Option.map_none, List.getD_cons_zero, List.getD_cons_succ, if_true, eq_int, ne_int, len_sh, len_vw, ep]
              rw [exB]; simp -implicitDefEqProofs only [exS, freeze, froz, evE.eq_1, evE.eq_2, evE.eq_3, evE.eq_4, evE.eq_5, evE.eq_6, evE.eq_7, evE.eq_8, evE.eq_9, evE.eq_10, evE.eq_11, evE.eq_12, evE.eq_13, evE.eq_14, evE.eq_15, evE.eq_16, evE.eq_17, evE.eq_18, evRs, evO, evC, bd_some, bd_none, List.getElem?_cons_succ, List.getElem?_cons_zero, List.set_cons_succ, List.set_cons_zero, putR, setTs, setT, b_add, b_sub, b_band, c_lt, c_le, c_gt, c_ge, c_isn, c_notn, isn_int, isn_non, bi_abs, bi_int, bi_intb, bi_max2, bi_min2, toB_bl, toDs_nil, toDs_cons, R.toD, Option.map_some, Option.map_none, List.getD_cons_zero, List.getD_cons_succ, if_true, eq_int, ne_int, setD_il hk2]
              rw [exB_nx (exS_loop rfl (en_sh rfl) lp)]
              have te := trim_ok (K := K) (z := z) hj (subAt b left (left.length - b.length) ((lastD left).fdiv (lastD b)))
              have es : foldE (fun s o y => dent s (left.length - b.length + o) ((lastD left).fdiv (lastD b) * y)) left 0 b = subAt b left (left.length - b.length) ((lastD left).fdiv (lastD b)) := rfl
              rw [es]
              rw [exB]; simp -implicitDefEqProofs only [exS, freeze, froz, evE.eq_1, evE.eq_2, evE.eq_3, evE.eq_4, evE.eq_5, evE.eq_6, evE.eq_7, evE.eq_8, evE.eq_9, evE.eq_10, evE.eq_11, evE.eq_12, evE.eq_13, evE.eq_14, evE.eq_15, evE.eq_16, evE.eq_17, evE.eq_18, evRs, evO, evC, bd_some, bd_none, List.getElem?_cons_succ, List.getElem?_cons_zero, List.set_cons_succ, List.set_cons_zero, putR, setTs, setT, b_add, b_sub, b_band, c_lt, c_le, c_gt, c_ge, c_isn, c_notn, isn_int, isn_non, bi_abs, bi_int, bi_intb, bi_max2, bi_min2, toB_bl, toDs_nil, toDs_cons, R.toD, Option.map_some, Option.map_none, List.getD_cons_zero, List.getD_cons_succ, if_true, eq_int, ne_int, toDs, te]
              rw [exB]
          · cases e
      · cases e
    · rename_i hle
      rw [decide_eq_false hle] at ce
      rw [exB_nx (whl_false (z1 := z) ce)]
      simp -implicitDefEqProofs only [freeze]
      unfold dvE
      have nel := ne_il (x := .vw (il left)) (y := .fr []) (a := left) (b := []) rfl rfl
      split at e
      · rename_i hn
        cases e
        rw [exB]; simp -implicitDefEqProofs only [exS, freeze, froz, evE.eq_1, evE.eq_2, evE.eq_3, evE.eq_4, evE.eq_5, evE.eq_6, evE.eq_7, evE.eq_8, evE.eq_9, evE.eq_10, evE.eq_11, evE.eq_12, evE.eq_13, evE.eq_14, evE.eq_15, evE.eq_16, evE.eq_17, evE.eq_18, evRs, evO, evC, bd_some, bd_none, List.getElem?_cons_succ, List.getElem?_cons_zero, List.set_cons_succ, List.set_cons_zero, putR, setTs, setT, b_add, b_sub, b_band, c_lt, c_le, c_gt, c_ge, c_isn, c_notn, isn_int, isn_non, bi_abs, bi_int, bi_intb, bi_max2, bi_min2, toB_bl, toDs_nil, toDs_cons, R.toD, Option.map_some, Option.map_none, List.getD_cons_zero, List.getD_cons_succ, if_true, eq_int, ne_int, toDs, nel, decide_eq_false hn, Bool.not_false]
        rw [exB]; simp -implicitDefEqProofs only [exS, freeze, froz, evE.eq_1, evE.eq_2, evE.eq_3, evE.eq_4, evE.eq_5, evE.eq_6, evE.eq_7, evE.eq_8, evE.eq_9, evE.eq_10, evE.eq_11, evE.eq_12, evE.eq_13, evE.eq_14, evE.eq_15, evE.eq_16, evE.eq_17, evE.eq_18, evRs, evO, evC, bd_some, bd_none, List.getElem?_cons_succ, List.getElem?_cons_zero, List.set_cons_succ, List.set_cons_zero, putR, setTs, setT, b_add, b_sub, b_band, c_lt, c_le, c_gt, c_ge, c_isn, c_notn, isn_int, isn_non, bi_abs, bi_int, bi_intb, bi_max2, bi_min2, toB_bl, toDs_nil, toDs_cons, R.toD, Option.map_some, Option.map_none, List.getD_cons_zero, List.getD_cons_succ, if_true, eq_int, ne_int]
        rfl
      · rename_i hn
        have hn : left = [] := Classical.not_not.mp hn
        cases e
        rw [exB]; simp -implicitDefEqProofs only [exS, freeze, froz, evE.eq_1, evE.eq_2, evE.eq_3, evE.eq_4, evE.eq_5, evE.eq_6, evE.eq_7, evE.eq_8, evE.eq_9, evE.eq_10, evE.eq_11, evE.eq_12, evE.eq_13, evE.eq_14, evE.eq_15, evE.eq_16, evE.eq_17, evE.eq_18, evRs, evO, evC, bd_some, bd_none, List.getElem?_cons_succ, List.getElem?_cons_zero, List.set_cons_succ, List.set_cons_zero, putR, setTs, setT, b_add, b_sub, b_band, c_lt, c_le, c_gt, c_ge, c_isn, c_notn, isn_int, isn_non, bi_abs, bi_int, bi_intb, bi_max2, bi_min2, toB_bl, toDs_nil, toDs_cons, R.toD, Option.map_some, Option.map_none, List.getD_cons_zero, List.getD_cons_succ, if_true, eq_int, ne_int, toDs, nel, decide_eq_true hn, Bool.not_true]
        rw [exB]
        simp only
        rw [exB]; simp -implicitDefEqProofs only [exS, freeze, froz, evE.eq_1, evE.eq_2, evE.eq_3, evE.eq_4, evE.eq_5, evE.eq_6, evE.eq_7, evE.eq_8, evE.eq_9, evE.eq_10, evE.eq_11, evE.eq_12, evE.eq_13, evE.eq_14, evE.eq_15, evE.eq_16, evE.eq_17, evE.eq_18, evRs, evO, evC, bd_some, bd_none, List.getElem?_cons_succ, List.getElem?_cons_zero, List.set_cons_succ, List.set_cons_zero, putR, setTs, setT, b_add, b_sub, b_band, c_lt, c_le, c_gt, c_ge, c_isn, c_notn, isn_int, isn_non, bi_abs, bi_int, bi_intb, bi_max2, bi_min2, toB_bl, toDs_nil, toDs_cons, R.toD, Option.map_some, Option.map_none, List.getD_cons_zero, List.getD_cons_succ, if_true, eq_int, ne_int, toDs, trim_ok (K := K) hj]
        rfl
theorem divided_ok (h : P[i]? = some (B.divided j)) (hj : P[j]? = some B.trimmed) {n : Nat} (a b : List Int) {o : Option (List Int)} (e : divL n a b = some o) : run P (K + 2) i [pl a, pl b] z = some (oL o, z) := by
  unfold divL at e
  split at e
  · rename_i hb
    obtain ⟨hb, ha, hb2⟩ := hb
    have hz : o = none ∨ ∃ q, o = some q := by cases o <;> simp
    refine run_ret h rfl ?_ rfl
    show exB _ (.cons _ (.cons _ (.cons _ (.cons (.whl [] dvC (dvB j)) (dvE j))))) [.sh (pl a), .sh (pl b), .un, .un, .un, .un, .un, .un] _ = _
    have eqb := eq_il (x := .sh (pl b)) (y := .fr []) (a := b) (b := []) rfl rfl
    have lst : biR .list [.sh (pl a)] = some (.fr (il a)) := rfl
    have mx : (if (a.length : Int) - (b.length : Int) + 1 > 0 then (a.length : Int) - (b.length : Int) + 1 else 0) = ((a.length + 1 - b.length : Nat) : Int) := by split <;> omega
    have rp := rep_ok (n := a.length + 1 - b.length) (by omega)
    rw [exB]; simp -implicitDefEqProofs only [exS, freeze, froz, evE.eq_1, evE.eq_2, evE.eq_3, evE.eq_4, evE.eq_5, evE.eq_6, evE.eq_7, evE.eq_8, evE.eq_9, evE.eq_10, evE.eq_11, evE.eq_12, evE.eq_13, evE.eq_14, evE.eq_15, evE.eq_16, evE.eq_17, evE.eq_18, evRs, evO, evC, bd_some, bd_none, List.getElem?_cons_succ, List.getElem?_cons_zero, List.set_cons_succ, List.set_cons_zero, putR, setTs, setT, b_add, b_sub, b_band, c_lt, c_le, c_gt, c_ge, c_isn, c_notn, isn_int, isn_non, bi_abs, bi_int, bi_intb, bi_max2, bi_min2, toB_bl, toDs_nil, toDs_cons, R.toD, Option.map_some, Option.map_none, List.getD_cons_zero, List.getD_cons_succ, if_true, eq_int, ne_int, toDs, eqb, decide_eq_false hb]
    rw [exB]
    simp only
    rw [exB]; simp -implicitDefEqProofs only [exS, freeze, froz, evE.eq_1, evE.eq_2, evE.eq_3, evE.eq_4, evE.eq_5, evE.eq_6, evE.eq_7, evE.eq_8, evE.eq_9, evE.eq_10, evE.eq_11, evE.eq_12, evE.eq_13, evE.eq_14, evE.eq_15, evE.eq_16, evE.eq_17, evE.eq_18, evRs, evO, evC, bd_some, bd_none, List.getElem?_cons_succ, List.getElem?_cons_zero, List.set_cons_succ, List.set_cons_zero, putR, setTs, setT, b_add, b_sub, b_band, c_lt, c_le, c_gt, c_ge, c_isn, c_notn, isn_int, isn_non, bi_abs, bi_int, bi_intb, bi_max2, bi_min2, toB_bl, toDs_nil, toDs_cons, R.toD, Option.map_some, Option.map_none, List.getD_cons_zero, List.getD_cons_succ, if_true, eq_int, ne_int, lst]
    rw [exB]; simp -implicitDefEqProofs only [exS, freeze, froz, evE.eq_1, evE.eq_2, evE.eq_3, evE.eq_4, evE.eq_5, evE.eq_6, evE.eq_7, evE.eq_8, evE.eq_9, evE.eq_10, evE.eq_11, evE.eq_12, evE.eq_13, evE.eq_14, evE.eq_15, evE.eq_16, evE.eq_17, evE.eq_18, evRs, evO, evC, bd_some, bd_none, List.getElem?_cons_succ, List.getElem?_cons_zero, List.set_cons_succ, List.set_cons_zero, putR, setTs, setT, b_add, b_sub, b_band, c_lt, c_le, c_gt, c_ge, c_isn, c_notn, isn_int, isn_non, bi_abs, bi_int, bi_intb, bi_max2, bi_min2, toB_bl, toDs_nil, toDs_cons, R.toD, Option.map_some, Option.map_none, List.getD_cons_zero, List.getD_cons_succ, if_true, eq_int, ne_int, toDs, len_sh, mx, rp]
    exact div_loop hj n _ _ o _ _ _ _ e
  · cases e
end
end Mn

/-! Mini: the law's own sums and drawn polynomials. -/
namespace Mn
open PySem L2
section
variable {P : List Fn} {K i j jc jt : Nat} {z : Zs}
theorem sub_sh {l : List Int} {k : Nat} (h : k < l.length) : subR (.sh (pl l)) (.sh (.int k)) z = some (.sh (.int l[k])) := by
  show ((R.sh (pl l)).items.bind fun ds => (atI ds k).map R.sh) = _
  simp only [R.items, Option.bind_some, at_il h, Option.map_some]
theorem sub_vw {l : List Int} {k : Nat} (h : k < l.length) : subR (.vw (il l)) (.sh (.int k)) z = some (.sh (.int l[k])) := by
  show ((R.vw (il l)).items.bind fun ds => (atI ds k).map R.sh) = _
  simp only [R.items, Option.bind_some, at_il h, Option.map_some]
theorem foldE_bump_len : ∀ (b : List Int) (s : List Int) (k : Nat), (foldE bump s k b).length = s.length
  | [], s, k => rfl
  | v :: b, s, k => by
    show (foldE bump (bump s k v) (k + 1) b).length = _
    rw [foldE_bump_len b, bump_len]
theorem bump_lt {s : List Int} {k : Nat} {v : Int} (h : k < s.length) : s.set k (s[k] + v) = bump s k v := by
  unfold bump
  rw [getD_lt h]
theorem take_snoc {b : List Int} {j : Nat} (h : j < b.length) : b.take (j + 1) = b.take j ++ [b[j]] := by
  rw [List.take_succ, List.getElem?_eq_getElem h]; rfl
theorem lawtrim_loop {C : CallF} {s0 s1 s3 : Slot} : ∀ (a : List Int) (ds : List D) (l0 : Slot), a.length ≤ ds.length → ∃ l, loopS (lpF C (.nm 4) (.cons (.ite [] (.or (.cmp .eq (.nvar 2) (.lst .nil)) (.cmp .ne (.sub (.nvar 2) (.neg (.lit (.int (1))))) (.lit (.int (0))))) (.cons .brk .nil) .nil) (.cons (.popx 2) .nil))) ds [s0, s1, .ow (il a), s3, l0] z = some (.nx [s0, s1, .ow (il (trimL a)), s3, l], z) := by
  refine rev_ind ?_ fun a x ih => ?_
  · intro ds l0 _
    cases ds with
    | nil => exact ⟨l0, rfl⟩
    | cons d ds =>
      refine ⟨.sh d, ?_⟩
      unfold loopS
      simp -implicitDefEqProofs only [lpF, setT, List.set_cons_succ, List.set_cons_zero]
      rw [exB]; simp -implicitDefEqProofs only [exS, freeze, froz, evE.eq_1, evE.eq_2, evE.eq_3, evE.eq_4, evE.eq_5, evE.eq_6, evE.eq_7, evE.eq_8, evE.eq_9, evE.eq_10, evE.eq_11, evE.eq_12, evE.eq_13, evE.eq_14, evE.eq_15, evE.eq_16, evE.eq_17, evE.eq_18, evRs, evO, evC, bd_some, bd_none, List.getElem?_cons_succ, List.getElem?_cons_zero, List.set_cons_succ, List.set_cons_zero, putR, setTs, setT, b_add, b_sub, b_band, c_lt, c_le, c_gt, c_ge, c_isn, c_notn, isn_int, isn_non, bi_abs, bi_int, bi_intb, bi_max2, bi_min2, toB_bl, toDs_nil, toDs_cons, R.toD, Option.map_some, Option.map_none, List.getD_cons_zero, List.getD_cons_succ, if_true, eq_int, ne_int, toDs, eq_il (x := .vw (il [])) (y := .fr []) (a := []) (b := []) rfl rfl, decide_true]
      rw [exB]; simp -implicitDefEqProofs only [exS]
      rfl
  · intro ds l0 hl
    cases ds with
    | nil => simp at hl
    | cons d ds =>
      have hne : decide (a ++ [x] = ([] : List Int)) = false := decide_eq_false (by simp)
      have sl' : subR (.vw (il (a ++ [x]))) (.sh (.int (-(1 : Int)))) z = some (.sh (.int x)) := by
        show ((R.vw (il (a ++ [x]))).items.bind fun ds => (atI ds (-1)).map R.sh) = _
        simp only [R.items, Option.bind_some, at_last, Option.map_some]
      by_cases hx : x = 0
      · subst hx
        obtain ⟨l, e⟩ := ih ds (.sh d) (by simp at hl; omega)
        refine ⟨l, ?_⟩
        unfold loopS
        simp -implicitDefEqProofs only [lpF, setT, List.set_cons_succ, List.set_cons_zero]
        rw [exB]; simp -implicitDefEqProofs only [exS, freeze, froz, evE.eq_1, evE.eq_2, evE.eq_3, evE.eq_4, evE.eq_5, evE.eq_6, evE.eq_7, evE.eq_8, evE.eq_9, evE.eq_10, evE.eq_11, evE.eq_12, evE.eq_13, evE.eq_14, evE.eq_15, evE.eq_16, evE.eq_17, evE.eq_18, evRs, evO, evC, bd_some, bd_none, List.getElem?_cons_succ, List.getElem?_cons_zero, List.set_cons_succ, List.set_cons_zero, putR, setTs, setT, b_add, b_sub, b_band, c_lt, c_le, c_gt, c_ge, c_isn, c_notn, isn_int, isn_non, bi_abs, bi_int, bi_intb, bi_max2, bi_min2, toB_bl, toDs_nil, toDs_cons, R.toD, Option.map_some, Option.map_none, List.getD_cons_zero, List.getD_cons_succ, if_true, eq_int, ne_int, toDs, eq_il (x := .vw (il (a ++ [0]))) (y := .fr []) (a := a ++ [0]) (b := []) rfl rfl, hne, sl', decide_true, Bool.not_true]
        rw [exB]
        simp only
        rw [exB]; simp -implicitDefEqProofs only [exS, freeze, List.getElem?_cons_succ, List.getElem?_cons_zero]
        have e1 : (il (a ++ [0]))[(il (a ++ [0])).length - 1]? = some (.int 0) := by rw [il_len]; unfold il; simp
        have e2 : (il (a ++ [0])).dropLast = il a := by rw [il_append]; simp [il]
        rw [e1, e2]
        simp only
        rw [exB, trimL_zero]
        exact e
      · refine ⟨.sh d, ?_⟩
        unfold loopS
        simp -implicitDefEqProofs only [lpF, setT, List.set_cons_succ, List.set_cons_zero]
        rw [exB]; simp -implicitDefEqProofs only [exS, freeze, froz, evE.eq_1, evE.eq_2, evE.eq_3, evE.eq_4, evE.eq_5, evE.eq_6, evE.eq_7, evE.eq_8, evE.eq_9, evE.eq_10, evE.eq_11, evE.eq_12, evE.eq_13, evE.eq_14, evE.eq_15, evE.eq_16, evE.eq_17, evE.eq_18, evRs, evO, evC, bd_some, bd_none, List.getElem?_cons_succ, List.getElem?_cons_zero, List.set_cons_succ, List.set_cons_zero, putR, setTs, setT, b_add, b_sub, b_band, c_lt, c_le, c_gt, c_ge, c_isn, c_notn, isn_int, isn_non, bi_abs, bi_int, bi_intb, bi_max2, bi_min2, toB_bl, toDs_nil, toDs_cons, R.toD, Option.map_some, Option.map_none, List.getD_cons_zero, List.getD_cons_succ, if_true, eq_int, ne_int, toDs, eq_il (x := .vw (il (a ++ [x]))) (y := .fr []) (a := a ++ [x]) (b := []) rfl rfl, hne, sl', decide_eq_false hx, Bool.not_false]
        rw [exB]; simp -implicitDefEqProofs only [exS]
        rw [trimL_ne a hx]
theorem lawadd_ok (h : P[i]? = some B._law_add) (a b : List Int) (ha : a.length ≤ 16777216) (hb : b.length ≤ 16777216) : run P (K + 1) i [pl a, pl b] z = some (.fr (il (addL a b)), z) := by
  refine run_ret h rfl ?_ rfl
  unfold B._law_add
  simp only
  show exB _ _ [.sh (pl a), .sh (pl b), .un, .un, .un] _ = _
  have rp := rep_ok (n := max a.length b.length) (by omega)
  rw [exB]; simp -implicitDefEqProofs only [exS, freeze, froz, evE.eq_1, evE.eq_2, evE.eq_3, evE.eq_4, evE.eq_5, evE.eq_6, evE.eq_7, evE.eq_8, evE.eq_9, evE.eq_10, evE.eq_11, evE.eq_12, evE.eq_13, evE.eq_14, evE.eq_15, evE.eq_16, evE.eq_17, evE.eq_18, evRs, evO, evC, bd_some, bd_none, List.getElem?_cons_succ, List.getElem?_cons_zero, List.set_cons_succ, List.set_cons_zero, putR, setTs, setT, b_add, b_sub, b_band, c_lt, c_le, c_gt, c_ge, c_isn, c_notn, isn_int, isn_non, bi_abs, bi_int, bi_intb, bi_max2, bi_min2, toB_bl, toDs_nil, toDs_cons, R.toD, Option.map_some, Option.map_none, List.getD_cons_zero, List.getD_cons_succ, if_true, eq_int, ne_int, toDs, len_sh, max_nat, rp]
  obtain ⟨s1, x1, l1, h1⟩ := range_inv (z := z) (f := lpF (run P K) (.nm 3) (.cons (.set [] 2 (.nvar 3) (.bin .add (.sub (.nvar 2) (.nvar 3)) (.sub (.nvar 0) (.nvar 3)))) .nil)) (fun (s : List Int) x => [.sh (pl a), .sh (pl b), .ow (il s), x, .un]) (fun k s => s = foldE bump (List.replicate (max a.length b.length) 0) 0 (a.take k)) a.length
    (by
      rintro k s x hk rfl
      have hl : k < (foldE bump (List.replicate (max a.length b.length) 0) 0 (a.take k)).length := by rw [foldE_bump_len, List.length_replicate]; omega
      refine ⟨_, ?_, rfl⟩
      rw [take_snoc hk, foldE_snoc]
      simp -implicitDefEqProofs only [lpF, setT, List.set_cons_succ, List.set_cons_zero]
      rw [exB]; simp -implicitDefEqProofs only [exS, freeze, froz, evE.eq_1, evE.eq_2, evE.eq_3, evE.eq_4, evE.eq_5, evE.eq_6, evE.eq_7, evE.eq_8, evE.eq_9, evE.eq_10, evE.eq_11, evE.eq_12, evE.eq_13, evE.eq_14, evE.eq_15, evE.eq_16, evE.eq_17, evE.eq_18, evRs, evO, evC, bd_some, bd_none, List.getElem?_cons_succ, List.getElem?_cons_zero, List.set_cons_succ, List.set_cons_zero, putR, setTs, setT, b_add, b_sub, b_band, c_lt, c_le, c_gt, c_ge, c_isn, c_notn, isn_int, isn_non, bi_abs, bi_int, bi_intb, bi_max2, bi_min2, toB_bl, toDs_nil, toDs_cons, R.toD, Option.map_some, Option.map_none, List.getD_cons_zero, List.getD_cons_succ, if_true, eq_int, ne_int, sub_vw hl, sub_sh hk, setD_il hl]
      rw [exB, bump_lt hl, Nat.zero_add, List.length_take, Nat.min_eq_left (by omega)]) a.length 0 (List.replicate (max a.length b.length) 0) .un (by omega) rfl
  subst h1
  rw [List.take_length] at l1
  rw [exB_nx (ρ' := [.sh (pl a), .sh (pl b), .ow (il (foldE bump (List.replicate (max a.length b.length) 0) 0 a)), x1, .un]) (z' := z) (exS_loop rfl (rg1_ok (n := a.length) (z' := z) (by simp -implicitDefEqProofs only [exS, freeze, froz, evE.eq_1, evE.eq_2, evE.eq_3, evE.eq_4, evE.eq_5, evE.eq_6, evE.eq_7, evE.eq_8, evE.eq_9, evE.eq_10, evE.eq_11, evE.eq_12, evE.eq_13, evE.eq_14, evE.eq_15, evE.eq_16, evE.eq_17, evE.eq_18, evRs, evO, evC, bd_some, bd_none, List.getElem?_cons_succ, List.getElem?_cons_zero, List.set_cons_succ, List.set_cons_zero, putR, setTs, setT, b_add, b_sub, b_band, c_lt, c_le, c_gt, c_ge, c_isn, c_notn, isn_int, isn_non, bi_abs, bi_int, bi_intb, bi_max2, bi_min2, toB_bl, toDs_nil, toDs_cons, R.toD, Option.map_some, Option.map_none, List.getD_cons_zero, List.getD_cons_succ, if_true, eq_int, ne_int, len_sh]) ha) (by rw [rangeD_rgI]; exact l1))]
  obtain ⟨s2, x2, l2, h2⟩ := range_inv (z := z) (f := lpF (run P K) (.nm 3) (.cons (.set [] 2 (.nvar 3) (.bin .add (.sub (.nvar 2) (.nvar 3)) (.sub (.nvar 1) (.nvar 3)))) .nil)) (fun (s : List Int) x => [.sh (pl a), .sh (pl b), .ow (il s), x, .un]) (fun k s => s = foldE bump (foldE bump (List.replicate (max a.length b.length) 0) 0 a) 0 (b.take k)) b.length
    (by
      rintro k s x hk rfl
      have hl : k < (foldE bump (foldE bump (List.replicate (max a.length b.length) 0) 0 a) 0 (b.take k)).length := by rw [foldE_bump_len, foldE_bump_len, List.length_replicate]; omega
      refine ⟨_, ?_, rfl⟩
      rw [take_snoc hk, foldE_snoc]
      simp -implicitDefEqProofs only [lpF, setT, List.set_cons_succ, List.set_cons_zero]
      rw [exB]; simp -implicitDefEqProofs only [exS, freeze, froz, evE.eq_1, evE.eq_2, evE.eq_3, evE.eq_4, evE.eq_5, evE.eq_6, evE.eq_7, evE.eq_8, evE.eq_9, evE.eq_10, evE.eq_11, evE.eq_12, evE.eq_13, evE.eq_14, evE.eq_15, evE.eq_16, evE.eq_17, evE.eq_18, evRs, evO, evC, bd_some, bd_none, List.getElem?_cons_succ, List.getElem?_cons_zero, List.set_cons_succ, List.set_cons_zero, putR, setTs, setT, b_add, b_sub, b_band, c_lt, c_le, c_gt, c_ge, c_isn, c_notn, isn_int, isn_non, bi_abs, bi_int, bi_intb, bi_max2, bi_min2, toB_bl, toDs_nil, toDs_cons, R.toD, Option.map_some, Option.map_none, List.getD_cons_zero, List.getD_cons_succ, if_true, eq_int, ne_int, sub_vw hl, sub_sh hk, setD_il hl]
      rw [exB, bump_lt hl, Nat.zero_add, List.length_take, Nat.min_eq_left (by omega)]) b.length 0 (foldE bump (List.replicate (max a.length b.length) 0) 0 a) x1 (by omega) rfl
  subst h2
  rw [List.take_length] at l2
  rw [exB_nx (ρ' := [.sh (pl a), .sh (pl b), .ow (il (addRaw a b)), x2, .un]) (z' := z) (exS_loop rfl (rg1_ok (n := b.length) (z' := z) (by simp -implicitDefEqProofs only [exS, freeze, froz, evE.eq_1, evE.eq_2, evE.eq_3, evE.eq_4, evE.eq_5, evE.eq_6, evE.eq_7, evE.eq_8, evE.eq_9, evE.eq_10, evE.eq_11, evE.eq_12, evE.eq_13, evE.eq_14, evE.eq_15, evE.eq_16, evE.eq_17, evE.eq_18, evRs, evO, evC, bd_some, bd_none, List.getElem?_cons_succ, List.getElem?_cons_zero, List.set_cons_succ, List.set_cons_zero, putR, setTs, setT, b_add, b_sub, b_band, c_lt, c_le, c_gt, c_ge, c_isn, c_notn, isn_int, isn_non, bi_abs, bi_int, bi_intb, bi_max2, bi_min2, toB_bl, toDs_nil, toDs_cons, R.toD, Option.map_some, Option.map_none, List.getD_cons_zero, List.getD_cons_succ, if_true, eq_int, ne_int, len_sh]) hb) (by rw [rangeD_rgI]; exact l2))]
  have hlen : (addRaw a b).length ≤ 16777216 := by unfold addRaw; rw [foldE_bump_len, foldE_bump_len, List.length_replicate]; omega
  obtain ⟨l, e⟩ := lawtrim_loop (C := run P K) (z := z) (s0 := .sh (pl a)) (s1 := .sh (pl b)) (s3 := x2) (addRaw a b) (rangeD 0 (addRaw a b).length) .un (by unfold rangeD; simp)
  rw [exB_nx (ρ' := [.sh (pl a), .sh (pl b), .ow (il (addL a b)), x2, l]) (z' := z) (exS_loop rfl (rg1_ok (n := (addRaw a b).length) (z' := z) (by simp -implicitDefEqProofs only [exS, freeze, froz, evE.eq_1, evE.eq_2, evE.eq_3, evE.eq_4, evE.eq_5, evE.eq_6, evE.eq_7, evE.eq_8, evE.eq_9, evE.eq_10, evE.eq_11, evE.eq_12, evE.eq_13, evE.eq_14, evE.eq_15, evE.eq_16, evE.eq_17, evE.eq_18, evRs, evO, evC, bd_some, bd_none, List.getElem?_cons_succ, List.getElem?_cons_zero, List.set_cons_succ, List.set_cons_zero, putR, setTs, setT, b_add, b_sub, b_band, c_lt, c_le, c_gt, c_ge, c_isn, c_notn, isn_int, isn_non, bi_abs, bi_int, bi_intb, bi_max2, bi_min2, toB_bl, toDs_nil, toDs_cons, R.toD, Option.map_some, Option.map_none, List.getD_cons_zero, List.getD_cons_succ, if_true, eq_int, ne_int, len_vw]) hlen) e)]
  rw [exB]; simp -implicitDefEqProofs only [exS, freeze, froz, evE.eq_1, evE.eq_2, evE.eq_3, evE.eq_4, evE.eq_5, evE.eq_6, evE.eq_7, evE.eq_8, evE.eq_9, evE.eq_10, evE.eq_11, evE.eq_12, evE.eq_13, evE.eq_14, evE.eq_15, evE.eq_16, evE.eq_17, evE.eq_18, evRs, evO, evC, bd_some, bd_none, List.getElem?_cons_succ, List.getElem?_cons_zero, List.set_cons_succ, List.set_cons_zero, putR, setTs, setT, b_add, b_sub, b_band, c_lt, c_le, c_gt, c_ge, c_isn, c_notn, isn_int, isn_non, bi_abs, bi_int, bi_intb, bi_max2, bi_min2, toB_bl, toDs_nil, toDs_cons, R.toD, Option.map_some, Option.map_none, List.getD_cons_zero, List.getD_cons_succ, if_true, eq_int, ne_int]
theorem lcL_st {Pr : Int → Prop} {f : D → Zs → Option (Option D × Zs)} (hf : ∀ d (s : Int), ∃ x s', f d (some s) = some (some (.int x), some s') ∧ Pr x) : ∀ (ds : List D) (s : Int), ∃ l s', lcL f ds (some s) = some (il l, some s') ∧ l.length = ds.length ∧ ∀ x ∈ l, Pr x
  | [], s => ⟨[], s, rfl, rfl, fun x h => by cases h⟩
  | d :: ds, s => by
    obtain ⟨x, s1, e1, p⟩ := hf d s
    obtain ⟨l, s2, e2, h1, h2⟩ := lcL_st hf ds s1
    refine ⟨x :: l, s2, ?_, by simp [h1], fun y hy => ?_⟩
    · unfold lcL
      rw [e1, bd_some, e2, bd_some]
      rfl
    · rcases List.mem_cons.mp hy with rfl | hy
      · exact p
      · exact h2 y hy
theorem foldE_zero (n : Nat) : ∀ (b : List Int) (k : Nat) (pre : List Int), pre.length = k → foldE bump (pre ++ List.replicate (b.length + n) 0) k b = pre ++ b ++ List.replicate n 0
  | [], k, pre, h => by simp [foldE]
  | v :: b, k, pre, h => by
    show foldE bump (bump (pre ++ List.replicate (b.length + 1 + n) 0) k v) (k + 1) b = _
    have : bump (pre ++ List.replicate (b.length + 1 + n) 0) k v = (pre ++ [v]) ++ List.replicate (b.length + n) 0 := by
      unfold bump
      subst h
      rw [show b.length + 1 + n = (b.length + n) + 1 by omega, List.replicate_succ]
      simp
    rw [this, foldE_zero n b (k + 1) (pre ++ [v]) (by simp [h])]
    simp
theorem addL_nil (a : List Int) : addL a [] = trimL a := by
  unfold addL addRaw
  congr 1
  show foldE bump (List.replicate (max a.length 0) 0) 0 a = a
  have := foldE_zero 0 a 0 [] rfl
  simpa using this
/-- a drawn polynomial -/
def DrP (deg size : Nat) (l : List Int) : Prop := ∃ r : List Int, l = trimL r ∧ 1 ≤ r.length ∧ r.length ≤ deg + 1 ∧ ∀ x ∈ r, -(size : Int) ≤ x ∧ x ≤ size
theorem lawp_ok (h : P[i]? = some (B._law_p j jt)) (hj : P[j]? = some B._law_add) (ht : P[jt]? = some B._law_take) (deg size : Nat) (h1 : deg < 1000) (h2 : size < 1000) (s : Int) : ∃ l s', run P (K + 2) i [.hd, .int deg, .int size] (some s) = some (.fr (il l), some s') ∧ DrP deg size l := by
  have p12 : (2 : Nat) ^ 12 = 4096 := by decide
  have d12 : (2 * (size : Int) + 1).natAbs < 2 ^ 12 := by omega
  have e12 : ((deg : Int) + 1).natAbs < 2 ^ 12 := by omega
  have t0 := take_ok (k := K) ht (m := (deg : Int) + 1) (s := s) (by omega) (by have := log2_lt e12; omega)
  obtain ⟨x0, x1⟩ := fmod_lt' s (b := (deg : Int) + 1) (by omega)
  have m1 : mulOk 2 (size : Int) = true := ml
  have ev : ∀ (ρ : Env), ρ[0]? = some (.sh .hd) → ρ[2]? = some (.sh (.int size)) → ∀ s : Int, ∃ x s', evE (run P (K + 1)) ρ (.bin .sub (.call jt (.cons (.var 0) (.cons (.bin .add (.bin .mul (.lit (.int (2))) (.nvar 2)) (.lit (.int (1)))) .nil))) (.nvar 2)) (some s) = some (.sh (.int x), some s') ∧ (-(size : Int) ≤ x ∧ x ≤ size) := by
    intro ρ r0 r2 s
    have t1 := take_ok (k := K) ht (m := 2 * (size : Int) + 1) (s := s) (by omega) (by have := log2_lt d12; omega)
    obtain ⟨y0, y1⟩ := fmod_lt' s (b := 2 * (size : Int) + 1) (by omega)
    refine ⟨s.fmod (2 * (size : Int) + 1) - size, s.fdiv (2 * (size : Int) + 1), ?_, by omega, by omega⟩
    simp -implicitDefEqProofs only [exS, freeze, froz, evE.eq_1, evE.eq_2, evE.eq_3, evE.eq_4, evE.eq_5, evE.eq_6, evE.eq_7, evE.eq_8, evE.eq_9, evE.eq_10, evE.eq_11, evE.eq_12, evE.eq_13, evE.eq_14, evE.eq_15, evE.eq_16, evE.eq_17, evE.eq_18, evRs, evO, evC, bd_some, bd_none, List.getElem?_cons_succ, List.getElem?_cons_zero, List.set_cons_succ, List.set_cons_zero, putR, setTs, setT, b_add, b_sub, b_band, c_lt, c_le, c_gt, c_ge, c_isn, c_notn, isn_int, isn_non, bi_abs, bi_int, bi_intb, bi_max2, bi_min2, toB_bl, toDs_nil, toDs_cons, R.toD, Option.map_some, Option.map_none, List.getD_cons_zero, List.getD_cons_succ, if_true, eq_int, ne_int, r0, r2, b_mul m1, toDs, t1]
  obtain ⟨l, s', e1, hl, hp⟩ := lcL_st (Pr := fun x => -(size : Int) ≤ x ∧ x ≤ size) (f := compF (run P (K + 1)) [.sh .hd, .sh (.int deg), .sh (.int size), .un] [3] (.nm 3) .none (.bin .sub (.call jt (.cons (.var 0) (.cons (.bin .add (.bin .mul (.lit (.int (2))) (.nvar 2)) (.lit (.int (1)))) .nil))) (.nvar 2)))
    (by
      intro d s
      obtain ⟨x, s', e, p⟩ := ev [.sh .hd, .sh (.int deg), .sh (.int size), .sh d] rfl rfl s
      refine ⟨x, s', ?_, p⟩
      unfold compF
      simp -implicitDefEqProofs only [wipeE, setT, List.set_cons_succ, List.set_cons_zero, evC, bd_some, if_true]
      simp -implicitDefEqProofs only [e, bd_some, R.toD]) (rangeD 0 (1 + s.fmod ((deg : Int) + 1)).toNat) (s.fdiv ((deg : Int) + 1))
  have hlen : l.length = (1 + s.fmod ((deg : Int) + 1)).toNat := by rw [hl]; unfold rangeD; simp
  have ce : evE (run P (K + 1)) [.sh .hd, .sh (.int deg), .sh (.int size), .un] (.comp (.bin .sub (.call jt (.cons (.var 0) (.cons (.bin .add (.bin .mul (.lit (.int (2))) (.nvar 2)) (.lit (.int (1)))) .nil))) (.nvar 2)) (.nm 3) (.rg1 (.bin .add (.lit (.int (1))) (.call jt (.cons (.var 0) (.cons (.bin .add (.nvar 1) (.lit (.int (1)))) .nil))))) .none [3]) (some s) = some (.fr (il l), some s') := by
    refine comp_ev rfl (rg1_ok' (j := 1 + s.fmod ((deg : Int) + 1)) (z' := some (s.fdiv ((deg : Int) + 1))) ?_ (rgOk_of (by omega) (by omega)) (small_of (by omega))) e1
    simp -implicitDefEqProofs only [exS, freeze, froz, evE.eq_1, evE.eq_2, evE.eq_3, evE.eq_4, evE.eq_5, evE.eq_6, evE.eq_7, evE.eq_8, evE.eq_9, evE.eq_10, evE.eq_11, evE.eq_12, evE.eq_13, evE.eq_14, evE.eq_15, evE.eq_16, evE.eq_17, evE.eq_18, evRs, evO, evC, bd_some, bd_none, List.getElem?_cons_succ, List.getElem?_cons_zero, List.set_cons_succ, List.set_cons_zero, putR, setTs, setT, b_add, b_sub, b_band, c_lt, c_le, c_gt, c_ge, c_isn, c_notn, isn_int, isn_non, bi_abs, bi_int, bi_intb, bi_max2, bi_min2, toB_bl, toDs_nil, toDs_cons, R.toD, Option.map_some, Option.map_none, List.getD_cons_zero, List.getD_cons_succ, if_true, eq_int, ne_int, toDs, t0]
  have ad := lawadd_ok (K := K) (z := some s') hj l [] (by omega) (by simp)
  have ad' : run P (K + 1) j [pl l, .lst []] (some s') = some (.fr (il (addL l [])), some s') := ad
  refine ⟨addL l [], s', run_ret h rfl ?_ rfl, l, addL_nil l, by omega, by omega, hp⟩
  unfold B._law_p
  simp only
  show exB _ _ [.sh .hd, .sh (.int deg), .sh (.int size), .un] _ = _
  rw [exB]; simp -implicitDefEqProofs only [exS, freeze, froz, evE.eq_1, evE.eq_2, evE.eq_3, evE.eq_4, evE.eq_5, evE.eq_6, evE.eq_7, evE.eq_8, evE.eq_9, evE.eq_10, evE.eq_11, evE.eq_12, evE.eq_13, evE.eq_14, evE.eq_15, evE.eq_16, evE.eq_17, evE.eq_18, evRs, evO, evC, bd_some, bd_none, List.getElem?_cons_succ, List.getElem?_cons_zero, List.set_cons_succ, List.set_cons_zero, putR, setTs, setT, b_add, b_sub, b_band, c_lt, c_le, c_gt, c_ge, c_isn, c_notn, isn_int, isn_non, bi_abs, bi_int, bi_intb, bi_max2, bi_min2, toB_bl, toDs_nil, toDs_cons, R.toD, Option.map_some, Option.map_none, List.getD_cons_zero, List.getD_cons_succ, if_true, eq_int, ne_int, ce, toDs, ad']
end
end Mn

/-! Lists of ints as polynomials: what the plain functions mean. -/
namespace Mn
open Lean.Grind
abbrev ZP := Pol Int
namespace Z
open Pol
abbrev zp (l : List Int) : ZP := Pol.ofL l
theorem trimL_cons (x : Int) (l : List Int) : trimL (x :: l) = if trimL l = [] ∧ x = 0 then [] else x :: trimL l := by
  revert l
  refine rev_ind ?_ fun l y ih => ?_
  · by_cases h : x = 0
    · subst h; rfl
    · have := trimL_ne [] h
      rw [List.nil_append] at this
      rw [this, if_neg (fun c => h c.2)]; rfl
  · rw [← List.cons_append]
    by_cases h : y = 0
    · subst h; rw [trimL_zero, trimL_zero, ih]
    · rw [trimL_ne _ h, trimL_ne _ h, if_neg (fun c => by simp at c)]; rfl
theorem trimL_ext : ∀ {a b : List Int}, (∀ k, a.getD k 0 = b.getD k 0) → trimL a = trimL b
  | [], [], _ => rfl
  | [], y :: b, h => by
    have h0 : (0 : Int) = y := h 0
    have ih := trimL_ext (a := []) (b := b) fun k => h (k + 1)
    rw [trimL_cons, ← ih, if_pos ⟨rfl, h0.symm⟩]; rfl
  | x :: a, [], h => by
    have h0 : x = (0 : Int) := h 0
    have ih := trimL_ext (a := a) (b := []) fun k => h (k + 1)
    rw [trimL_cons, ih, if_pos ⟨rfl, h0⟩]; rfl
  | x :: a, y :: b, h => by
    have h0 : x = y := h 0
    have ih := trimL_ext (a := a) (b := b) fun k => h (k + 1)
    rw [trimL_cons, trimL_cons, ih, h0]
theorem zp_trim (a : List Int) : zp (trimL a) = zp a := by
  induction a with
  | nil => rfl
  | cons x a ih =>
    rw [trimL_cons]
    split
    · rename_i h
      rw [h.1] at ih
      have : zp (x :: a) = cst x + X * zp a := ofL_cons x a
      rw [this, ← ih, h.2, cst_zero]
      have : zp [] = 0 := ofL_nil
      rw [this]; grind
    · have e1 : zp (x :: a) = cst x + X * zp a := ofL_cons x a
      have e2 : zp (x :: trimL a) = cst x + X * zp (trimL a) := ofL_cons x _
      rw [e1, e2, ih]
def Tr (a : List Int) : Prop := trimL a = a
theorem tr_trim (a : List Int) : Tr (trimL a) := by
  show trimL (trimL a) = trimL a
  apply trimL_ext
  intro k
  have := congrArg (fun f : ZP => f.s.c k) (zp_trim a)
  exact this
theorem zp_trimL {a b : List Int} (h : zp a = zp b) : trimL a = trimL b := trimL_ext fun k => congrArg (fun f : ZP => f.s.c k) h
theorem zp_inj {a b : List Int} (ha : Tr a) (hb : Tr b) (h : zp a = zp b) : a = b := by
  have := zp_trimL h
  unfold Tr at ha hb
  rw [ha, hb] at this
  exact this
theorem tr_nil : Tr [] := rfl
theorem tr_last {a : List Int} {x : Int} (h : x ≠ 0) : Tr (a ++ [x]) := trimL_ne a h
theorem tr_cases {a : List Int} (h : Tr a) : a = [] ∨ ∃ b x, a = b ++ [x] ∧ x ≠ 0 := by
  revert h
  refine rev_ind (P := fun a => Tr a → a = [] ∨ ∃ b x, a = b ++ [x] ∧ x ≠ 0) (fun _ => .inl rfl) (fun b x _ h => .inr ⟨b, x, rfl, fun e => ?_⟩) a
  subst e
  have h : trimL (b ++ [0]) = b ++ [0] := h
  rw [trimL_zero] at h
  have := trimL_len b
  rw [h] at this
  simp at this
  omega
/-! powers of the letter -/
theorem Xp (k : Nat) : ∀ (f : ZP) (j : Nat), ((X : ZP) ^ k * f).s.c j = if j < k then 0 else f.s.c (j - k) := by
  induction k with
  | zero => intro f j; rw [Semiring.pow_zero, show (1 : ZP) * f = f by grind, if_neg (by omega)]; rfl
  | succ k ih =>
    intro f j
    rw [Semiring.pow_succ, show (X : ZP) ^ k * X * f = X * (X ^ k * f) by grind]
    cases j with
    | zero => rw [X_mul0, if_pos (by omega)]
    | succ j =>
      rw [X_mul, ih]
      by_cases h : j < k
      · rw [if_pos h, if_pos (by omega)]
      · rw [if_neg h, if_neg (by omega), show j + 1 - (k + 1) = j - k by omega]
theorem zp_bump {s : List Int} {k : Nat} {v : Int} (h : k < s.length) : zp (bump s k v) = zp s + X ^ k * cst v := extc fun j => by
  rw [add_c, Xp]
  show (s.set k (s.getD k 0 + v)).getD j 0 = s.getD j 0 + _
  rw [cst_c]
  by_cases e : k = j
  · subst e
    rw [if_neg (by omega), if_pos (by omega)]
    simp [List.getD, List.getElem?_set, h]
  · have : (s.set k (s.getD k 0 + v)).getD j 0 = s.getD j 0 := by simp [List.getD, List.getElem?_set, e]
    rw [this]
    by_cases l : j < k
    · rw [if_pos l]; omega
    · rw [if_neg l, if_neg (by omega)]; omega
theorem zp_bumps : ∀ (b : List Int) (s : List Int) (k : Nat), k + b.length ≤ s.length → zp (foldE bump s k b) = zp s + X ^ k * zp b
  | [], s, k, h => by
    show zp s = zp s + X ^ k * ofL []
    rw [ofL_nil]; grind
  | v :: b, s, k, h => by
    simp only [List.length_cons] at h
    show zp (foldE bump (bump s k v) (k + 1) b) = zp s + X ^ k * ofL (v :: b)
    rw [zp_bumps b _ _ (by rw [bump_len]; omega), zp_bump (by omega), ofL_cons, Semiring.pow_succ]
    grind
theorem zp_rep (n : Nat) : zp (List.replicate n 0) = 0 := extc fun j => by
  rw [zero_c]
  show (List.replicate n (0 : Int)).getD j 0 = 0
  simp [List.getD, List.getElem?_replicate]
  split <;> rfl
theorem zp_add (a b : List Int) : zp (addL a b) = zp a + zp b := by
  unfold addL addRaw
  rw [zp_trim, zp_bumps _ _ _ (by rw [foldE_bump_len, List.length_replicate]; omega), zp_bumps _ _ _ (by rw [List.length_replicate]; omega), zp_rep, Semiring.pow_zero]
  grind
theorem foldE_bump2_len (x : Int) (p : Nat) : ∀ (b s : List Int) (k : Nat), (foldE (fun s o y => bump s (p + o) (x * y)) s k b).length = s.length
  | [], s, k => rfl
  | v :: b, s, k => by
    show (foldE (fun s o y => bump s (p + o) (x * y)) (bump s (p + k) (x * v)) (k + 1) b).length = _
    rw [foldE_bump2_len x p b, bump_len]
theorem zp_bumps2 (x : Int) (p : Nat) : ∀ (b s : List Int) (k : Nat), p + k + b.length ≤ s.length → zp (foldE (fun s o y => bump s (p + o) (x * y)) s k b) = zp s + X ^ (p + k) * (cst x * zp b)
  | [], s, k, h => by
    show zp s = zp s + X ^ (p + k) * (cst x * ofL [])
    rw [ofL_nil]; grind
  | v :: b, s, k, h => by
    simp only [List.length_cons] at h
    show zp (foldE (fun s o y => bump s (p + o) (x * y)) (bump s (p + k) (x * v)) (k + 1) b) = zp s + X ^ (p + k) * (cst x * ofL (v :: b))
    rw [zp_bumps2 x p b _ _ (by rw [bump_len]; omega), zp_bump (by omega), ofL_cons, show p + (k + 1) = (p + k) + 1 by omega, Semiring.pow_succ, cst_mul_cst]
    grind
theorem zp_mulGo (b : List Int) (hb : b ≠ []) : ∀ (a s : List Int) (k : Nat), k + a.length + b.length ≤ s.length + 1 → zp (foldE (fun s p x => foldE (fun s o y => bump s (p + o) (x * y)) s 0 b) s k a) = zp s + X ^ k * (zp a * zp b)
  | [], s, k, h => by
    show zp s = zp s + X ^ k * (ofL [] * zp b)
    rw [ofL_nil]; grind
  | x :: a, s, k, h => by
    simp only [List.length_cons] at h
    have hl : 0 < b.length := List.length_pos_iff.mpr hb
    show zp (foldE (fun s p x => foldE (fun s o y => bump s (p + o) (x * y)) s 0 b) (foldE (fun s o y => bump s (k + o) (x * y)) s 0 b) (k + 1) a) = zp s + X ^ k * (ofL (x :: a) * zp b)
    rw [zp_mulGo b hb a _ _ (by rw [foldE_bump2_len]; omega), zp_bumps2 x k b s 0 (by omega), ofL_cons, Semiring.pow_succ, Nat.add_zero]
    grind
theorem foldE_id {σ : Type} {g : σ → Nat → Int → σ} (h : ∀ s k x, g s k x = s) : ∀ (a : List Int) (s : σ) (k : Nat), foldE g s k a = s
  | [], s, k => rfl
  | x :: a, s, k => by
    show foldE g (g s k x) (k + 1) a = s
    rw [h, foldE_id h a]
theorem zp_mul (a b : List Int) : zp (mulL a b) = zp a * zp b := by
  unfold mulL mulRaw
  rw [zp_trim]
  by_cases hb : b = []
  · subst hb
    rw [foldE_id (g := fun s p x => foldE (fun s o y => bump s (p + o) (x * y)) s 0 []) (fun s k x => rfl), zp_rep]
    show 0 = zp a * ofL []
    rw [ofL_nil]; grind
  · by_cases ha : a = []
    · subst ha
      show zp (List.replicate _ 0) = ofL [] * zp b
      rw [zp_rep, ofL_nil]; grind
    · have l1 : 0 < a.length := List.length_pos_iff.mpr ha
      have l2 : 0 < b.length := List.length_pos_iff.mpr hb
      rw [zp_mulGo b hb a _ 0 (by rw [List.length_replicate]; omega), zp_rep, Semiring.pow_zero]
      grind
theorem zp_map (c : Int) (a : List Int) : zp (a.map fun x => c * x) = cst c * zp a := extc fun k => by
  rw [cst_mul]
  show (a.map fun x => c * x).getD k 0 = c * a.getD k 0
  simp only [List.getD, List.getElem?_map]
  cases a[k]? with
  | none => show (0 : Int) = c * 0; omega
  | some x => rfl
theorem zp_sc (a : List Int) (c : Int) : zp (scL a c) = cst c * zp a := by
  unfold scL
  rw [zp_trim, zp_map]
theorem zp_tk (a b : List Int) : zp (tkL a b) = zp a - zp b := by
  unfold tkL
  rw [zp_add, zp_sc, cst_neg, cst_one]; grind
theorem zp_one : zp [1] = 1 := ofL_single 1
theorem zp_pow (a : List Int) : ∀ n, zp (powL a n) = zp a ^ n
  | 0 => by
    rw [Semiring.pow_zero]
    exact zp_one
  | n + 1 => by
    show zp (mulL (powL a n) a) = _
    rw [zp_mul, zp_pow a n, Semiring.pow_succ]
theorem zp_slope (a : List Int) : zp (slopeL a) = Pol.D (zp a) := by
  unfold slopeL
  rw [zp_trim]
  have sl : ∀ (a : List Int) (k j : Nat), (slRaw k a).getD j 0 = ((k + j : Nat) : Int) * a.getD j 0 := by
    intro a
    induction a with
    | nil => intro k j; show (0 : Int) = _ * 0; omega
    | cons x a ih =>
      intro k j
      cases j with
      | zero => rfl
      | succ j =>
        show (slRaw (k + 1) a).getD j 0 = ((k + (j + 1) : Nat) : Int) * a.getD j 0
        rw [ih, show k + 1 + j = k + (j + 1) by omega]
  exact extc fun k => by
    show ((slRaw 0 a).drop 1).getD k 0 = ((k + 1 : Nat) : Int) * a.getD (k + 1) 0
    have : ((slRaw 0 a).drop 1).getD k 0 = (slRaw 0 a).getD (k + 1) 0 := by simp [List.getD, Nat.add_comm]
    rw [this, sl, Nat.zero_add]
/-! every polynomial has a list -/
noncomputable def lst (f : ZP) : List Int := (List.range (Classical.choose f.p)).map f.s.c
theorem zp_lst (f : ZP) : zp (lst f) = f := extc fun k => by
  show ((List.range (Classical.choose f.p)).map f.s.c).getD k 0 = f.s.c k
  have h := Classical.choose_spec f.p
  simp only [List.getD, List.getElem?_map]
  by_cases l : k < Classical.choose f.p
  · rw [List.getElem?_range l]; rfl
  · rw [List.getElem?_eq_none (by rw [List.length_range]; omega)]
    exact (h k (by omega)).symm
theorem zp_ind {M : ZP → Prop} (h0 : M 0) (h1 : ∀ a f, M f → M (cst a + X * f)) (f : ZP) : M f := by
  have : ∀ l : List Int, M (zp l) := fun l => by
    induction l with
    | nil => show M (ofL []); rw [ofL_nil]; exact h0
    | cons a l ih => show M (ofL (a :: l)); rw [ofL_cons]; exact h1 a _ ih
  rw [← zp_lst f]
  exact this _
/-! a polynomial put into another one -/
def ev (l : List Int) (g : ZP) : ZP := l.foldr (fun c r => cst c + g * r) 0
theorem ev_cons (x : Int) (l : List Int) (g : ZP) : ev (x :: l) g = cst x + g * ev l g := rfl
theorem ev_trim (g : ZP) (l : List Int) : ev (trimL l) g = ev l g := by
  induction l with
  | nil => rfl
  | cons x l ih =>
    rw [trimL_cons, ev_cons, ← ih]
    split
    · rename_i h
      rw [h.1, h.2, cst_zero]
      show (0 : ZP) = 0 + g * 0
      grind
    · rfl
theorem ev_eq {a b : List Int} (h : zp a = zp b) (g : ZP) : ev a g = ev b g := by
  rw [← ev_trim g a, ← ev_trim g b, zp_trimL h]
noncomputable def evP (f g : ZP) : ZP := ev (lst f) g
theorem evP_zp (l : List Int) (g : ZP) : evP (zp l) g = ev l g := ev_eq (zp_lst _) g
theorem evP_zero (g : ZP) : evP 0 g = 0 := by rw [show (0 : ZP) = zp [] from ofL_nil.symm, evP_zp]; exact ofL_nil.symm
theorem evP_cons (a : Int) (f g : ZP) : evP (cst a + X * f) g = cst a + g * evP f g := by
  rw [← zp_lst f, ← ofL_cons]
  show evP (zp _) g = cst a + g * evP (zp _) g
  rw [evP_zp, evP_zp]; rfl
theorem evP_cst (a : Int) (g : ZP) : evP (cst a) g = cst a := by
  have := evP_cons a 0 g
  rw [evP_zero] at this
  rw [show cst a = cst a + X * (0 : ZP) by grind, this]; grind
theorem evP_X (g : ZP) : evP X g = g := by
  have := evP_cons 0 1 g
  rw [cst_zero, show (1 : ZP) = cst 1 from rfl, evP_cst] at this
  rw [show (X : ZP) = 0 + X * cst 1 by rw [cst_one]; grind, this, cst_one]; grind
theorem evP_add (f h g : ZP) : evP (f + h) g = evP f g + evP h g := by
  revert h
  refine zp_ind (M := fun f => ∀ h, evP (f + h) g = evP f g + evP h g) ?_ ?_ f
  · intro h; rw [evP_zero, show (0 : ZP) + h = h by grind]; grind
  · intro a f ih h
    refine zp_ind (M := fun h => evP (cst a + X * f + h) g = evP (cst a + X * f) g + evP h g) ?_ ?_ h
    · rw [evP_zero, show cst a + X * f + (0 : ZP) = cst a + X * f by grind]; grind
    · intro b h _
      rw [show cst a + X * f + (cst b + X * h) = cst (a + b) + X * (f + h) by rw [cst_add]; grind, evP_cons, evP_cons, evP_cons, ih, cst_add]
      grind
theorem evP_sc (a : Int) (f g : ZP) : evP (cst a * f) g = cst a * evP f g := by
  refine zp_ind (M := fun f => evP (cst a * f) g = cst a * evP f g) ?_ ?_ f
  · rw [show cst a * (0 : ZP) = 0 by grind, evP_zero]; grind
  · intro b f ih
    rw [show cst a * (cst b + X * f) = cst (a * b) + X * (cst a * f) by rw [cst_mul_cst]; grind, evP_cons, evP_cons, ih, cst_mul_cst]
    grind
theorem evP_Xmul (f g : ZP) : evP (X * f) g = g * evP f g := by
  have := evP_cons 0 f g
  rw [cst_zero, show (0 : ZP) + X * f = X * f by grind] at this
  rw [this]; grind
theorem evP_mul (f h g : ZP) : evP (f * h) g = evP f g * evP h g := by
  refine zp_ind (M := fun f => evP (f * h) g = evP f g * evP h g) ?_ ?_ f
  · rw [evP_zero, show (0 : ZP) * h = 0 by grind, evP_zero]; grind
  · intro a f ih
    rw [show (cst a + X * f) * h = cst a * h + X * (f * h) by grind, evP_add, evP_sc, evP_Xmul, ih, evP_cons]
    grind
theorem evP_comp (f g t : ZP) : evP (evP f g) t = evP f (evP g t) := by
  refine zp_ind (M := fun f => evP (evP f g) t = evP f (evP g t)) ?_ ?_ f
  · rw [evP_zero, evP_zero, evP_zero]
  · intro a f ih
    rw [evP_cons, evP_cons, evP_add, evP_cst, evP_mul, ih]
theorem D_ev (f g : ZP) : Pol.D (evP f g) = evP (Pol.D f) g * Pol.D g := by
  refine zp_ind (M := fun f => Pol.D (evP f g) = evP (Pol.D f) g * Pol.D g) ?_ ?_ f
  · rw [evP_zero, show Pol.D (0 : ZP) = 0 from D_cst 0, evP_zero]; grind
  · intro a f ih
    rw [evP_cons, D_add, D_cst, D_mul, ih, D_add, D_cst, D_mul, D_X, evP_add, evP_add, evP_zero, evP_mul, evP_mul, evP_X, show (1 : ZP) = cst 1 from rfl, evP_cst, cst_one]
    grind
theorem zp_putF (b f : List Int) (x : Int) : zp (putF b f x) = zp f * zp b + cst x := by
  unfold putF
  rw [zp_add, zp_mul, zp_trim, show zp [x] = cst x from ofL_single x]
theorem zp_put (a b : List Int) : zp (putL a b) = evP (zp a) (zp b) := by
  unfold putL
  rw [List.foldl_reverse]
  induction a with
  | nil =>
    show ofL [] = evP (ofL []) _
    rw [ofL_nil, evP_zero]
  | cons x a ih =>
    rw [List.foldr_cons, zp_putF, ih]
    show _ = evP (ofL (x :: a)) _
    rw [ofL_cons, evP_cons]
    grind
end Z
end Mn

/-! Contents and primitive polynomials. -/
namespace Mn.Z
open Lean.Grind Pol
theorem ncd {m : Nat} {x : Int} : (m : Int) ∣ x ↔ m ∣ x.natAbs := by
  rw [← Int.natAbs_dvd_natAbs, Int.natAbs_natCast]
/-! over the fractions -/
def q (f : ZP) : QP := ⟨⟨fun k => ((f.s.c k : Int) : Rat)⟩, let ⟨n, h⟩ := f.p; ⟨n, fun k hk => by show ((f.s.c k : Int) : Rat) = 0; rw [h k hk]; rfl⟩⟩
theorem q_c (f : ZP) (k : Nat) : (q f).s.c k = ((f.s.c k : Int) : Rat) := rfl
theorem q_add (f g : ZP) : q (f + g) = q f + q g := extc fun k => by rw [add_c, q_c, q_c, q_c, add_c, Rat.intCast_add]
theorem q_sub (f g : ZP) : q (f - g) = q f - q g := extc fun k => by rw [sub_c, q_c, q_c, q_c, sub_c, Rat.intCast_sub]
theorem q_muc : ∀ (k : Nat) (f g : PS Int), ((PS.muc k f g : Int) : Rat) = PS.muc k ⟨fun k => ((f.c k : Int) : Rat)⟩ ⟨fun k => ((g.c k : Int) : Rat)⟩
  | 0, f, g => Rat.intCast_mul ..
  | k + 1, f, g => by
    show ((f.c 0 * g.c (k + 1) + PS.muc k f.tl g : Int) : Rat) = (f.c 0 : Rat) * (g.c (k + 1) : Rat) + PS.muc k ⟨fun k => ((f.tl.c k : Int) : Rat)⟩ _
    rw [Rat.intCast_add, Rat.intCast_mul, q_muc k]
theorem q_mul (f g : ZP) : q (f * g) = q f * q g := extc fun k => q_muc k f.s g.s
theorem q_cst (a : Int) : q (cst a) = cst (a : Rat) := extc fun k => by rw [q_c, cst_c, cst_c]; split <;> rfl
theorem q_zero : q 0 = 0 := q_cst 0
theorem q_one : q 1 = 1 := q_cst 1
theorem q_inj {f g : ZP} (h : q f = q g) : f = g := extc fun k => Rat.intCast_inj.mp (congrArg (fun f : QP => f.s.c k) h)
theorem q_D (f : ZP) : q (Pol.D f) = Pol.D (q f) := extc fun k => by
  show (((k + 1 : Nat) : Int) * f.s.c (k + 1) : Int) = (((k + 1 : Nat) : Rat) * ((f.s.c (k + 1) : Int) : Rat))
  rw [Rat.intCast_mul]; rfl
theorem q_pow (f : ZP) : ∀ n : Nat, q (f ^ n) = q f ^ n
  | 0 => by rw [Semiring.pow_zero, Semiring.pow_zero, q_one]
  | n + 1 => by rw [Semiring.pow_succ, Semiring.pow_succ, q_mul, q_pow f n]
theorem q_ne {f : ZP} (h : f ≠ 0) : q f ≠ 0 := fun e => h (q_inj (e.trans q_zero.symm))
theorem no_zero {f g : ZP} (h : f * g = 0) : f = 0 ∨ g = 0 := by
  have : q f * q g = 0 := by rw [← q_mul, h, q_zero]
  rcases QP.no_zero_div this with e | e
  · exact .inl (q_inj (e.trans q_zero.symm))
  · exact .inr (q_inj (e.trans q_zero.symm))
theorem mul_cancel {f g h : ZP} (e : f * g = f * h) (n : f ≠ 0) : g = h := by
  have : f * (g - h) = 0 := by grind
  rcases no_zero this with a | a
  · exact absurd a n
  · grind
theorem cst_ne {a : Int} (h : a ≠ 0) : (cst a : ZP) ≠ 0 := fun e => h (congrArg (fun f : ZP => f.s.c 0) e)
theorem cst_cancel {a : Int} {g h : ZP} (e : cst a * g = cst a * h) (n : a ≠ 0) : g = h := mul_cancel e (cst_ne n)
theorem lead_mul {f g : ZP} {m n : Nat} (hf : f.lt (m + 1)) (hg : g.lt (n + 1)) : (f * g).s.c (m + n) = f.s.c m * g.s.c n := PS.lead_mul hg hf
theorem lt_mul {f g : ZP} {m n : Nat} (hf : f.lt (m + 1)) (hg : g.lt (n + 1)) : (f * g).lt (m + n + 1) := PS.lt_mul hg hf
/-- multiples of one another -/
theorem q_rel {f g : ZP} {r : Rat} (n : r ≠ 0) (h : q f = cst r * q g) : ∃ x y : Int, x ≠ 0 ∧ y ≠ 0 ∧ cst x * f = cst y * g := by
  refine ⟨r.den, r.num, by have := r.den_nz; omega, fun e => n (Rat.num_eq_zero.mp e), q_inj ?_⟩
  rw [q_mul, q_mul, q_cst, q_cst, h]
  have : (cst ((r.num : Int) : Rat) : QP) = cst ((r.den : Int) : Rat) * cst r := by
    rw [← cst_mul_cst]
    congr 1
    have e := Rat.num_divInt_den r
    rw [Rat.divInt_eq_div] at e
    have nz : ((r.den : Int) : Rat) ≠ 0 := fun k => by
      have := Rat.intCast_inj.mp (show ((r.den : Int) : Rat) = ((0 : Int) : Rat) from k)
      have := r.den_nz
      omega
    generalize ((r.den : Int) : Rat) = dd at *
    generalize ((r.num : Int) : Rat) = nn at *
    grind
  rw [this]; grind
/-! the last number -/
theorem lt_len (a : List Int) : (zp a).lt a.length := ofL_lt a
theorem lastD_c {a : List Int} (h : a ≠ []) : lastD a = (zp a).s.c (a.length - 1) := by
  show lastD a = a.getD (a.length - 1) 0
  have hl := List.length_pos_iff.mpr h
  have : lastD a = a.getLast h := by
    unfold lastD
    rw [List.getLastD_eq_getLast?, List.getLast?_eq_some_getLast h]; rfl
  rw [this, List.getLast_eq_getElem, getD_lt]
theorem tr_lastD {a : List Int} (h : Tr a) (n : a ≠ []) : lastD a ≠ 0 := by
  rcases tr_cases h with e | ⟨b, x, rfl, hx⟩
  · exact absurd e n
  · unfold lastD; simpa using hx
theorem tr_len {a : List Int} {n : Nat} (h : Tr a) (l : (zp a).lt n) : a.length ≤ n := by
  by_cases e : a = []
  · subst e; exact Nat.zero_le _
  · have h1 := tr_lastD h e
    rw [lastD_c e] at h1
    have hl := List.length_pos_iff.mpr e
    rcases Nat.lt_or_ge (a.length - 1) n with k | k
    · omega
    · exact absurd (l _ k) h1
theorem tr_ne {a : List Int} (h : Tr a) (n : a ≠ []) : zp a ≠ 0 := fun e => tr_lastD h n (by rw [lastD_c n, e]; exact zero_c _)
theorem tr_zero {a : List Int} (h : Tr a) (e : zp a = 0) : a = [] := Classical.byContradiction fun n => tr_ne h n e
theorem zp_nil : zp [] = 0 := ofL_nil
theorem lt_scale {f : ZP} {c : Int} {n : Nat} (hc : c ≠ 0) : (cst c * f).lt n ↔ f.lt n := by
  constructor
  · intro h k hk
    have : (cst c * f).s.c k = 0 := h k hk
    rw [cst_mul] at this
    rcases Int.mul_eq_zero.mp this with e | e
    · exact absurd e hc
    · exact e
  · intro h k hk
    show (cst c * f).s.c k = 0
    rw [cst_mul, h k hk, Int.mul_zero]
theorem len_scale {a b : List Int} {c : Int} (ha : Tr a) (hb : Tr b) (hc : c ≠ 0) (h : zp a = cst c * zp b) : a.length = b.length := by
  apply Nat.le_antisymm
  · exact tr_len ha (by rw [h]; exact (lt_scale hc).mpr (lt_len b))
  · exact tr_len hb ((lt_scale hc).mp (by rw [← h]; exact lt_len a))
/-- the length of a product -/
theorem len_mul {a b c : List Int} (ha : Tr a) (hb : Tr b) (hc : Tr c) (na : a ≠ []) (nb : b ≠ []) (h : zp c = zp a * zp b) : c.length + 1 = a.length + b.length ∧ lastD c = lastD a * lastD b := by
  have la := List.length_pos_iff.mpr na
  have lb := List.length_pos_iff.mpr nb
  have h1 : (zp a).lt (a.length - 1 + 1) := by rw [Nat.sub_add_cancel la]; exact lt_len a
  have h2 : (zp b).lt (b.length - 1 + 1) := by rw [Nat.sub_add_cancel lb]; exact lt_len b
  have e1 := lead_mul h1 h2
  have e2 := lt_mul h1 h2
  rw [← lastD_c na, ← lastD_c nb] at e1
  rw [← h] at e1 e2
  have ne : lastD a * lastD b ≠ 0 := Int.mul_ne_zero (tr_lastD ha na) (tr_lastD hb nb)
  have l1 := tr_len hc e2
  have l2 : a.length - 1 + (b.length - 1) < c.length := by
    rcases Nat.lt_or_ge (a.length - 1 + (b.length - 1)) c.length with k | k
    · exact k
    · exact absurd (lt_len c _ k) (by rw [e1]; exact ne)
  have nc : c ≠ [] := fun e => by subst e; simp at l2
  refine ⟨by omega, ?_⟩
  rw [lastD_c nc, show c.length - 1 = a.length - 1 + (b.length - 1) by omega, e1]
/-! contents -/
def conG (g : Nat) (a : List Int) : Nat := a.foldl (fun g x => Int.gcd (g : Int) x) g
def conL (a : List Int) : Nat := conG 0 a
theorem conG_dvd : ∀ (a : List Int) (g : Nat), conG g a ∣ g ∧ ∀ x ∈ a, ((conG g a : Nat) : Int) ∣ x
  | [], g => ⟨Nat.dvd_refl g, fun x h => by cases h⟩
  | y :: a, g => by
    obtain ⟨h1, h2⟩ := conG_dvd a (Int.gcd g y)
    refine ⟨Nat.dvd_trans h1 (Nat.gcd_dvd_left _ _), fun x hx => ?_⟩
    rcases List.mem_cons.mp hx with rfl | hx
    · exact Int.dvd_trans (Int.natCast_dvd_natCast.mpr h1) (Int.gcd_dvd_right _ _)
    · exact h2 x hx
theorem conG_great {e : Nat} : ∀ (a : List Int) (g : Nat), e ∣ g → (∀ x ∈ a, (e : Int) ∣ x) → e ∣ conG g a
  | [], g, h, _ => h
  | y :: a, g, h, ha => conG_great a _ (Nat.dvd_gcd h (ncd.mp (ha y List.mem_cons_self))) fun x hx => ha x (List.mem_cons_of_mem _ hx)
theorem c_mem {a : List Int} {k : Nat} : (zp a).s.c k = 0 ∨ (zp a).s.c k ∈ a := by
  show a.getD k 0 = 0 ∨ a.getD k 0 ∈ a
  rcases Nat.lt_or_ge k a.length with h | h
  · right
    rw [getD_lt h]
    exact List.getElem_mem h
  · left
    simp [List.getD, List.getElem?_eq_none h]
theorem mem_c {a : List Int} {x : Int} (h : x ∈ a) : ∃ k, k < a.length ∧ (zp a).s.c k = x := by
  obtain ⟨k, hk, e⟩ := List.getElem_of_mem h
  exact ⟨k, hk, by show a.getD k 0 = x; rw [getD_lt hk, e]⟩
theorem con_dvd (a : List Int) (k : Nat) : ((conL a : Nat) : Int) ∣ (zp a).s.c k := by
  rcases c_mem (a := a) (k := k) with h | h
  · rw [h]; exact Int.dvd_zero _
  · exact (conG_dvd a 0).2 _ h
theorem con_great {a : List Int} {e : Nat} (h : ∀ k, (e : Int) ∣ (zp a).s.c k) : e ∣ conL a :=
  conG_great a 0 (Nat.dvd_zero e) fun x hx => by obtain ⟨k, _, rfl⟩ := mem_c hx; exact h k
theorem con_congr {a b : List Int} (h : zp a = zp b) : conL a = conL b :=
  Nat.dvd_antisymm (con_great fun k => by rw [← h]; exact con_dvd a k) (con_great fun k => by rw [h]; exact con_dvd b k)
theorem conG_map (x : Int) : ∀ (a : List Int) (g : Nat), conG (x.natAbs * g) (a.map fun y => x * y) = x.natAbs * conG g a
  | [], g => rfl
  | y :: a, g => by
    show conG (Int.gcd ((x.natAbs * g : Nat) : Int) (x * y)) (a.map fun y => x * y) = x.natAbs * conG (Int.gcd g y) a
    rw [← conG_map x a]
    congr 1
    show Nat.gcd ((x.natAbs * g : Nat) : Int).natAbs (x * y).natAbs = x.natAbs * Nat.gcd (g : Int).natAbs y.natAbs
    rw [Int.natAbs_natCast, Int.natAbs_natCast, Int.natAbs_mul, Nat.gcd_mul_left]
theorem con_scale {a b : List Int} {x : Int} (h : zp b = cst x * zp a) : conL b = x.natAbs * conL a := by
  rw [con_congr (b := a.map fun y => x * y) (by rw [h, zp_map])]
  have := conG_map x a 0
  rw [Nat.mul_zero] at this
  exact this
theorem con_pos {a : List Int} (h : zp a ≠ 0) : 0 < conL a := by
  rcases Nat.eq_zero_or_pos (conL a) with e | e
  · refine absurd (extc fun k => ?_) h
    have := con_dvd a k
    rw [e] at this
    rw [zero_c]
    exact Int.zero_dvd.mp this
  · exact e
theorem con_nil : conL [] = 0 := rfl
def lowL (a : List Int) : List Int := if (conL a : Int) < 2 then a else a.map fun x => x.fdiv (conL a)
theorem low_len (a : List Int) : (lowL a).length = a.length := by
  unfold lowL
  split
  · rfl
  · exact List.length_map ..
theorem low_eq {a : List Int} (h : zp a ≠ 0) : zp a = cst (conL a : Int) * zp (lowL a) := by
  have p := con_pos h
  unfold lowL
  split
  · have : (conL a : Int) = 1 := by omega
    rw [this, cst_one]; grind
  · refine extc fun k => ?_
    rw [cst_mul]
    obtain ⟨y, hy⟩ := con_dvd a k
    show (zp a).s.c k = _ * (a.map fun x => x.fdiv (conL a)).getD k 0
    have e : (a.map fun x => x.fdiv (conL a : Int)).getD k 0 = ((zp a).s.c k).fdiv (conL a) := by
      show _ = (a.getD k 0).fdiv _
      simp only [List.getD, List.getElem?_map]
      cases a[k]? with
      | none => show (0 : Int) = Int.fdiv 0 _; rw [Int.zero_fdiv]
      | some x => rfl
    rw [e, hy, Int.mul_fdiv_cancel_left _ (by omega)]
theorem low_nil : lowL [] = [] := rfl
theorem tr_of_scale {a b : List Int} {c : Int} (ha : Tr a) (hc : c ≠ 0) (h : zp a = cst c * zp b) (l : b.length = a.length) : Tr b := by
  by_cases e : b = []
  · subst e; rfl
  · have na : a ≠ [] := fun k => by subst k; rw [List.length_nil] at l; exact e (List.length_eq_zero_iff.mp l)
    have h1 := tr_lastD ha na
    rw [lastD_c na, h, cst_mul] at h1
    have h2 : lastD b ≠ 0 := fun k => h1 (by rw [← l, ← lastD_c e, k, Int.mul_zero])
    obtain ⟨b', x, rfl⟩ : ∃ b' x, b = b' ++ [x] := ⟨b.dropLast, b.getLast e, (List.dropLast_concat_getLast e).symm⟩
    exact tr_last (by unfold lastD at h2; simpa using h2)
theorem low_tr {a : List Int} (h : Tr a) : Tr (lowL a) := by
  by_cases e : a = []
  · subst e; rfl
  · have n := tr_ne h e
    have p := con_pos n
    exact tr_of_scale h (by omega) (low_eq n) (low_len a)
theorem con_low {a : List Int} (h : zp a ≠ 0) : conL (lowL a) = 1 := by
  have p := con_pos h
  have e := con_scale (low_eq h)
  rw [Int.natAbs_natCast] at e
  exact (Nat.eq_of_mul_eq_mul_left p (by omega)).symm
/-- primitive, or 0 -/
def PP (a : List Int) : Prop := Tr a ∧ (a = [] ∨ conL a = 1 ∧ 0 < lastD a)
def primL (a : List Int) : List Int := if lowL a ≠ [] ∧ lastD (lowL a) < 0 then scL (lowL a) (-1) else lowL a
theorem prim_nil : primL [] = [] := rfl
theorem prim_spec {a : List Int} (h : Tr a) : PP (primL a) ∧ ∃ c : Int, c ≠ 0 ∧ zp a = cst c * zp (primL a) := by
  by_cases e : a = []
  · subst e
    refine ⟨⟨rfl, .inl rfl⟩, 1, by decide, ?_⟩
    rw [cst_one]; show zp [] = 1 * zp []; grind
  · have n := tr_ne h e
    have p := con_pos n
    have le := low_eq n
    have lt := low_tr h
    have ln : lowL a ≠ [] := fun k => by have := low_len a; rw [k] at this; exact e (List.length_eq_zero_iff.mp this.symm)
    unfold primL
    by_cases c : lowL a ≠ [] ∧ lastD (lowL a) < 0
    · rw [if_pos c]
      have ts : Tr (scL (lowL a) (-1)) := tr_trim _
      have e1 : zp (scL (lowL a) (-1)) = cst (-1) * zp (lowL a) := zp_sc _ _
      have l1 := len_scale ts lt (by decide) e1
      have ns : scL (lowL a) (-1) ≠ [] := fun k => by rw [k] at l1; exact ln (List.length_eq_zero_iff.mp l1.symm)
      refine ⟨⟨ts, .inr ⟨?_, ?_⟩⟩, -(conL a : Int), by omega, ?_⟩
      · rw [con_scale e1, con_low n]; rfl
      · rw [lastD_c ns, e1, cst_mul, l1, ← lastD_c ln]; omega
      · rw [e1, le, cst_neg, cst_neg, cst_one, ← le]
        rw [show -cst (conL a : Int) * (-1 * zp (lowL a)) = cst (conL a : Int) * zp (lowL a) by grind, ← le]
    · rw [if_neg c]
      have hn := tr_lastD lt ln
      refine ⟨⟨lt, .inr ⟨con_low n, ?_⟩⟩, conL a, by omega, le⟩
      have : ¬ lastD (lowL a) < 0 := fun k => c ⟨ln, k⟩
      omega
theorem PP.uniq {a b : List Int} (ha : PP a) (hb : PP b) {x y : Int} (hx : x ≠ 0) (hy : y ≠ 0) (h : cst x * zp a = cst y * zp b) : a = b := by
  by_cases ea : a = []
  · subst ea
    rw [zp_nil, show cst x * (0 : ZP) = 0 by grind] at h
    rcases no_zero h.symm with k | k
    · exact absurd k (cst_ne hy)
    · exact (tr_zero hb.1 k).symm
  · by_cases eb : b = []
    · subst eb
      rw [zp_nil, show cst y * (0 : ZP) = 0 by grind] at h
      rcases no_zero h with k | k
      · exact absurd k (cst_ne hx)
      · exact tr_zero ha.1 k
    · obtain ⟨ca, la⟩ := ha.2.resolve_left ea
      obtain ⟨cb, lb⟩ := hb.2.resolve_left eb
      have k1 := con_scale (a := a) (b := a.map fun z => x * z) (zp_map x a)
      have k2 := con_scale (a := b) (b := b.map fun z => y * z) (zp_map y b)
      have k3 := con_congr (a := a.map fun z => x * z) (b := b.map fun z => y * z) (by rw [zp_map, zp_map, h])
      rw [k1, k2, ca, cb] at k3
      have hl : a.length = b.length := by
        have t1 : Tr (scL a x) := tr_trim _
        have t2 : Tr (scL b y) := tr_trim _
        rw [← len_scale t1 ha.1 hx (zp_sc a x), ← len_scale t2 hb.1 hy (zp_sc b y)]
        have := zp_inj t1 t2 (by rw [zp_sc, zp_sc, h])
        rw [this]
      have hlast : x * lastD a = y * lastD b := by
        have := congrArg (fun f : ZP => f.s.c (a.length - 1)) h
        simp only [cst_mul] at this
        rw [← lastD_c ea, hl, ← lastD_c eb] at this
        exact this
      have exy : x = y := by
        rcases Int.natAbs_eq_natAbs_iff.mp (show x.natAbs = y.natAbs by omega) with e | e
        · exact e
        · exfalso
          subst e
          have h0 : y * (lastD a + lastD b) = 0 := by rw [Int.mul_add]; have : -y * lastD a = -(y * lastD a) := Int.neg_mul y _; omega
          rcases Int.mul_eq_zero.mp h0 with k | k
          · exact hy k
          · omega
      subst exy
      exact zp_inj ha.1 hb.1 (cst_cancel h hx)
theorem prim_uniq {a b : List Int} (ha : Tr a) (hb : Tr b) {x y : Int} (hx : x ≠ 0) (hy : y ≠ 0) (h : cst x * zp a = cst y * zp b) : primL a = primL b := by
  obtain ⟨p1, c1, n1, e1⟩ := prim_spec ha
  obtain ⟨p2, c2, n2, e2⟩ := prim_spec hb
  refine p1.uniq p2 (x := x * c1) (y := y * c2) (Int.mul_ne_zero hx n1) (Int.mul_ne_zero hy n2) ?_
  rw [cst_mul_cst, cst_mul_cst]
  rw [e1, e2] at h
  grind
theorem prim_self {a : List Int} (h : PP a) : primL a = a := by
  obtain ⟨p1, c1, n1, e1⟩ := prim_spec h.1
  exact p1.uniq h (x := c1) (y := 1) n1 (by decide) (by rw [cst_one, ← e1]; grind)
theorem prim_len {a : List Int} (h : Tr a) : (primL a).length = a.length := by
  obtain ⟨p1, c1, n1, e1⟩ := prim_spec h
  exact (len_scale h p1.1 n1 e1).symm
/-! Gauss -/
theorem pr_ex : ∀ (n : Nat), 2 ≤ n → ∃ p, 2 ≤ p ∧ p ∣ n ∧ ∀ m, 2 ≤ m → m ∣ n → p ≤ m := by
  intro n hn
  have : ∀ k : Nat, (∃ p, 2 ≤ p ∧ p ∣ n ∧ ∀ m, 2 ≤ m → m ∣ n → p ≤ m) ∨ ∀ m, 2 ≤ m → m ∣ n → k ≤ m := by
    intro k
    induction k with
    | zero => exact .inr fun m _ _ => Nat.zero_le m
    | succ k ih =>
      rcases ih with h | h
      · exact .inl h
      · by_cases c : 2 ≤ k ∧ k ∣ n
        · exact .inl ⟨k, c.1, c.2, h⟩
        · refine .inr fun m h1 h2 => ?_
          have := h m h1 h2
          by_cases e : m = k
          · subst e; exact absurd ⟨h1, h2⟩ c
          · omega
  rcases this (n + 1) with h | h
  · exact h
  · have := h n hn (Nat.dvd_refl n); omega
theorem pr_mul {p n : Nat} (h2 : 2 ≤ p) (hn : p ∣ n) (hm : ∀ m, 2 ≤ m → m ∣ n → p ≤ m) {x y : Int} (h : (p : Int) ∣ x * y) : (p : Int) ∣ x ∨ (p : Int) ∣ y := by
  have h' : p ∣ x.natAbs * y.natAbs := by
    rw [← Int.natAbs_mul]; exact ncd.mp h
  have hp : 0 < p := by omega
  have gp : 0 < Nat.gcd p x.natAbs := Nat.gcd_pos_of_pos_left _ hp
  by_cases g1 : Nat.gcd p x.natAbs = 1
  · right
    exact ncd.mpr (Nat.Coprime.dvd_of_dvd_mul_left g1 h')
  · left
    have := hm (Nat.gcd p x.natAbs) (by omega) (Nat.dvd_trans (Nat.gcd_dvd_left _ _) hn)
    have e : Nat.gcd p x.natAbs = p := Nat.le_antisymm (Nat.le_of_dvd hp (Nat.gcd_dvd_left _ _)) this
    rw [← e]
    exact ncd.mpr (Nat.gcd_dvd_right p x.natAbs)
theorem dvd_low {p : Int} {g : PS Int} : ∀ (k : Nat) (f : PS Int), (∀ j, j ≤ k → p ∣ g.c j) → p ∣ (f * g).c k
  | 0, f, h => by
    rw [PS.mul_c0]; exact Int.dvd_mul_of_dvd_right (h 0 (Nat.le_refl _))
  | k + 1, f, h => by
    rw [PS.mul_cs]
    exact Int.dvd_add (Int.dvd_mul_of_dvd_right (h (k + 1) (Nat.le_refl _))) (dvd_low k f.tl fun j hj => h j (by omega))
theorem dvd_mid {p : Int} {g : PS Int} {j : Nat} (hg : ∀ i, i < j → p ∣ g.c i) : ∀ (i : Nat) (f : PS Int), (∀ k, k < i → p ∣ f.c k) → p ∣ (f * g).c (i + j) - f.c i * g.c j
  | 0, f, _ => by
    rw [Nat.zero_add]
    cases j with
    | zero => rw [PS.mul_c0]; exact ⟨0, by omega⟩
    | succ j =>
      rw [PS.mul_cs]
      have := dvd_low j f.tl (g := g) (p := p) fun i hi => hg i (by omega)
      rw [show f.c 0 * g.c (j + 1) + (f.tl * g).c j - f.c 0 * g.c (j + 1) = (f.tl * g).c j by omega]
      exact this
  | i + 1, f, hf => by
    rw [show i + 1 + j = (i + j) + 1 by omega, PS.mul_cs]
    have h1 := dvd_mid hg i f.tl fun k hk => hf (k + 1) (by omega)
    have h2 : p ∣ f.c 0 * g.c (i + j + 1) := Int.dvd_mul_of_dvd_left (hf 0 (by omega))
    have := Int.dvd_add h2 h1
    rw [show f.c 0 * g.c (i + j + 1) + ((f.tl * g).c (i + j) - f.tl.c i * g.c j) = f.c 0 * g.c (i + j + 1) + (f.tl * g).c (i + j) - f.tl.c i * g.c j by omega] at this
    exact this
theorem least {M : Nat → Prop} {n : Nat} (h : M n) : ∃ m, M m ∧ ∀ k, k < m → ¬ M k := by
  induction n using Nat.strongRecOn with
  | _ n ih =>
    by_cases c : ∃ k, k < n ∧ M k
    · obtain ⟨k, h1, h2⟩ := c
      exact ih k h1 h2
    · exact ⟨n, h, fun k hk hm => c ⟨k, hk, hm⟩⟩
theorem gauss_pr {p n : Nat} (h2 : 2 ≤ p) (hn : p ∣ n) (hm : ∀ m, 2 ≤ m → m ∣ n → p ≤ m) {f g : ZP} (h : ∀ k, (p : Int) ∣ (f * g).s.c k) : (∀ k, (p : Int) ∣ f.s.c k) ∨ ∀ k, (p : Int) ∣ g.s.c k := by
  by_cases cf : ∀ k, (p : Int) ∣ f.s.c k
  · exact .inl cf
  · by_cases cg : ∀ k, (p : Int) ∣ g.s.c k
    · exact .inr cg
    · exfalso
      obtain ⟨i0, hi0⟩ := Classical.not_forall.mp cf
      obtain ⟨j0, hj0⟩ := Classical.not_forall.mp cg
      obtain ⟨i, hi, mi⟩ := least (M := fun k => ¬ (p : Int) ∣ f.s.c k) hi0
      obtain ⟨j, hj, mj⟩ := least (M := fun k => ¬ (p : Int) ∣ g.s.c k) hj0
      have := dvd_mid (p := p) (g := g.s) (j := j) (fun k hk => Classical.not_not.mp (mj k hk)) i f.s fun k hk => Classical.not_not.mp (mi k hk)
      have hk : (p : Int) ∣ f.s.c i * g.s.c j := by
        have h1 : (p : Int) ∣ (f.s * g.s).c (i + j) := h (i + j)
        have h3 := Int.dvd_sub h1 this
        rwa [show (f.s * g.s).c (i + j) - ((f.s * g.s).c (i + j) - f.s.c i * g.s.c j) = f.s.c i * g.s.c j by omega] at h3
      rcases pr_mul h2 hn hm hk with e | e
      · exact hi e
      · exact hj e
theorem con_mul1 {a b c : List Int} (ha : conL a = 1) (hb : conL b = 1) (h : zp c = zp a * zp b) : conL c = 1 := by
  have nz : ∀ {a : List Int}, conL a = 1 → zp a ≠ 0 := fun {a} h e => by
    rw [con_congr (b := []) (e.trans zp_nil.symm)] at h; cases h
  have nc : zp c ≠ 0 := fun e => by
    rw [h] at e
    rcases no_zero e with k | k
    · exact nz ha k
    · exact nz hb k
  have p := con_pos nc
  rcases Nat.lt_or_ge (conL c) 2 with l | l
  · omega
  · exfalso
    obtain ⟨p, p2, pn, pm⟩ := pr_ex _ l
    rcases gauss_pr p2 pn pm (f := zp a) (g := zp b) (fun k => by rw [← h]; exact Int.dvd_trans (Int.natCast_dvd_natCast.mpr pn) (con_dvd c k)) with e | e
    · have := con_great e
      rw [ha] at this
      have := Nat.le_of_dvd (by decide) this
      omega
    · have := con_great e
      rw [hb] at this
      have := Nat.le_of_dvd (by decide) this
      omega
theorem con_mul {a b c : List Int} (h : zp c = zp a * zp b) : conL c = conL a * conL b := by
  by_cases ea : zp a = 0
  · rw [ea, show (0 : ZP) * zp b = 0 by grind] at h
    rw [con_congr (b := []) (h.trans zp_nil.symm), con_congr (a := a) (b := []) (ea.trans zp_nil.symm), con_nil, Nat.zero_mul]
  · by_cases eb : zp b = 0
    · rw [eb, show zp a * (0 : ZP) = 0 by grind] at h
      rw [con_congr (b := []) (h.trans zp_nil.symm), con_congr (a := b) (b := []) (eb.trans zp_nil.symm), con_nil, Nat.mul_zero]
    · have e1 := low_eq ea
      have e2 := low_eq eb
      have e3 : zp c = cst ((conL a : Int) * (conL b : Int)) * zp (mulL (lowL a) (lowL b)) := by
        rw [h, zp_mul, cst_mul_cst]
        rw [e1, e2]
        rw [← e1, ← e2]
        grind
      rw [con_scale e3, con_mul1 (con_low ea) (con_low eb) (zp_mul _ _), Int.natAbs_mul, Int.natAbs_natCast, Int.natAbs_natCast]
      omega
theorem prim_mul {a b c : List Int} (ha : Tr a) (hb : Tr b) (hc : Tr c) (h : zp c = zp a * zp b) : primL c = mulL (primL a) (primL b) := by
  obtain ⟨p1, c1, n1, e1⟩ := prim_spec ha
  obtain ⟨p2, c2, n2, e2⟩ := prim_spec hb
  obtain ⟨p3, c3, n3, e3⟩ := prim_spec hc
  have tm : Tr (mulL (primL a) (primL b)) := tr_trim _
  have pm : PP (mulL (primL a) (primL b)) := by
    refine ⟨tm, ?_⟩
    rcases p1.2 with k | ⟨k1, k2⟩
    · left
      exact tr_zero tm (by rw [zp_mul, k, zp_nil]; grind)
    · rcases p2.2 with l | ⟨l1, l2⟩
      · left
        exact tr_zero tm (by rw [zp_mul, l, zp_nil]; grind)
      · right
        have na : primL a ≠ [] := fun e => by rw [e] at k1; cases k1
        have nb : primL b ≠ [] := fun e => by rw [e] at l1; cases l1
        refine ⟨con_mul1 k1 l1 (zp_mul _ _), ?_⟩
        rw [(len_mul p1.1 p2.1 tm na nb (zp_mul _ _)).2]
        exact Int.mul_pos k2 l2
  refine p3.uniq pm (x := c3) (y := c1 * c2) n3 (Int.mul_ne_zero n1 n2) ?_
  rw [← e3, h, zp_mul, cst_mul_cst, e1, e2]
  rw [← e1, ← e2]
  grind
end Mn.Z

/-! Rests, common divisors, quotients, square-free parts: the plain functions, and what they mean. -/
namespace Mn.Z
open Lean.Grind Pol
def absI (x : Int) : Int := if x < 0 then -x else x
theorem absI_eq (x : Int) : absI x = x.natAbs := by unfold absI; split <;> omega
def rstep (b f : List Int) : List Int := trimL (subAt b (f.map fun x => x * absI (lastD b)) (f.length - b.length) (lastD f * (lastD b).sign))
def okR (b f : List Int) : Bool := f.all (fun x => mulOk x (absI (lastD b))) && okS (lastD f * (lastD b).sign) b
def restGo (b : List Int) : Nat → List Int → Option (List Int)
  | 0, _ => none
  | n + 1, f => if b.length ≤ f.length then (if okR b f = true then restGo b n (rstep b f) else none) else some f
def okC (r : List Int) : Bool := decide ((conL r).log2 < 9000)
def commonGo : Nat → List Int → List Int → Option (List Int)
  | 0, _, _ => none
  | n + 1, a, b => if b = [] then some a else match restGo b (a.length + 1) a with
    | some r => if okC r = true then commonGo n b (primL (lowL r)) else none
    | none => none
def comL (a b : List Int) : Option (List Int) := if okC a = true ∧ okC b = true then commonGo (b.length + 2) (primL a) (primL b) else none
def sfL (a : List Int) : Option (List Int) :=
  if okC a = true then
    if (primL a).length < 2 then some (primL a) else match comL (primL a) (slopeL (primL a)) with
      | some g => match divL ((primL a).length + 1) (primL a) g with
        | some (some d) => if okC d = true then some (primL d) else none
        | _ => none
      | none => none
  else none
/-! one turn -/
theorem dent_bump (s : List Int) (k : Nat) (v : Int) : dent s k v = bump s k (-v) := by
  unfold dent bump
  rw [Int.sub_eq_add_neg]
theorem subAt_eq (b left : List Int) (p : Nat) (t : Int) : subAt b left p t = foldE (fun s o y => bump s (p + o) (-t * y)) left 0 b := by
  unfold subAt
  congr 1
  funext s o y
  rw [dent_bump, Int.neg_mul]
theorem subAt_len (b left : List Int) (p : Nat) (t : Int) : (subAt b left p t).length = left.length := by
  rw [subAt_eq, foldE_bump2_len]
theorem zp_subAt {b left : List Int} {p : Nat} {t : Int} (h : p + b.length ≤ left.length) : zp (subAt b left p t) = zp left - X ^ p * (cst t * zp b) := by
  rw [subAt_eq, zp_bumps2 _ _ _ _ _ (by omega), Nat.add_zero, cst_neg]; grind
theorem zp_mapr (c : Int) (a : List Int) : zp (a.map fun x => x * c) = cst c * zp a := by
  rw [← zp_map]
  congr 1
  apply List.map_congr_left
  intro x _
  exact Int.mul_comm x c
theorem zp_rstep {b f : List Int} (h : b.length ≤ f.length) : zp (rstep b f) = cst (absI (lastD b)) * zp f - X ^ (f.length - b.length) * (cst (lastD f * (lastD b).sign) * zp b) := by
  unfold rstep
  rw [zp_trim, zp_subAt (by rw [List.length_map]; omega), zp_mapr]
theorem Xp_c {k j : Nat} (f : ZP) (h : k ≤ j) : ((X : ZP) ^ k * f).s.c j = f.s.c (j - k) := by rw [Xp, if_neg (by omega)]
theorem sub_Xp_c {f g : ZP} {k j : Nat} (h : k ≤ j) : (f - X ^ k * g).s.c j = f.s.c j - g.s.c (j - k) := by rw [sub_c, Xp_c _ h]
/-- the first numbers go -/
theorem drop_len {f g : ZP} {b : List Int} {p n : Nat} (hb : zp b = g) (hf : f.lt (n + 1)) (hn : n + 1 = p + b.length) (nb : b ≠ []) (t : Int) (e : f.s.c n = t * lastD b) : (f - X ^ p * (cst t * g)).lt n := by
  intro k hk
  have lb := List.length_pos_iff.mpr nb
  subst hb
  show (f - X ^ p * (cst t * zp b)).s.c k = 0
  rw [sub_Xp_c (by omega), cst_mul]
  by_cases c : k = n
  · subst c
    rw [e, lastD_c nb, show b.length - 1 = k - p by omega]; omega
  · rw [hf k (by omega), lt_len b (k - p) (by omega), Int.mul_zero]; rfl
theorem rstep_len {b f : List Int} (nb : b ≠ []) (h : b.length ≤ f.length) : (rstep b f).length < f.length := by
  have lb := List.length_pos_iff.mpr nb
  have nf : f ≠ [] := fun e => by subst e; rw [List.length_nil] at h; omega
  have ht : Tr (rstep b f) := tr_trim _
  have := tr_len (n := f.length - 1) ht (by
    rw [zp_rstep h]
    refine drop_len rfl ?_ (by omega) nb _ ?_
    · rw [Nat.sub_add_cancel (by omega)]
      intro k hk
      show (cst _ * zp f).s.c k = 0
      rw [cst_mul, lt_len f k hk, Int.mul_zero]
    · rw [cst_mul, ← lastD_c nf, absI_eq, Int.mul_assoc]
      have : (lastD b).sign * lastD b = (lastD b).natAbs := Int.sign_mul_self ..
      rw [this, Int.mul_comm])
  omega
theorem rest_sem {b : List Int} (nb : b ≠ []) (tb : Tr b) : ∀ (n : Nat) (f r : List Int), restGo b n f = some r → ∃ (c : Int) (h : ZP), 0 < c ∧ cst c * zp f = h * zp b + zp r ∧ r.length < b.length ∧ (Tr f → Tr r)
  | 0, f, r, e => by cases e
  | n + 1, f, r, e => by
    unfold restGo at e
    split at e
    · rename_i hl
      split at e
      · obtain ⟨c, h, hc, e1, l, t⟩ := rest_sem nb tb n _ _ e
        have hl2 := tr_lastD tb nb
        refine ⟨c * absI (lastD b), h + cst c * X ^ (f.length - b.length) * cst (lastD f * (lastD b).sign), Int.mul_pos hc (by rw [absI_eq]; omega), ?_, l, fun _ => t (tr_trim _)⟩
        rw [zp_rstep hl] at e1
        rw [cst_mul_cst]
        grind
      · cases e
    · rename_i hl
      cases e
      exact ⟨1, 0, by decide, by rw [cst_one]; grind, by omega, id⟩
theorem G_r {g a b : QP} {x : Rat} (h : QP.G g a b) (hx : x ≠ 0) : QP.G g a (cst x * b) := by
  obtain ⟨h1, h2, u, v, e⟩ := h
  have i := QP.cst_inv hx
  exact ⟨h1, QP.dvd_mul_left h2 _, u, v * cst x⁻¹, by grind⟩
theorem G_l {g a b : QP} {x : Rat} (h : QP.G g a b) (hx : x ≠ 0) : QP.G g (cst x * a) b := (G_r h.comm hx).comm
theorem low_prim {r : List Int} (h : Tr r) : ∃ c : Int, c ≠ 0 ∧ zp r = cst c * zp (primL (lowL r)) := by
  obtain ⟨_, c, hc, e⟩ := prim_spec (low_tr h)
  by_cases n : r = []
  · subst n
    exact ⟨1, by decide, by rw [cst_one]; show zp [] = 1 * zp []; grind⟩
  · have z := tr_ne h n
    have p := con_pos z
    refine ⟨conL r * c, Int.mul_ne_zero (by omega) hc, ?_⟩
    have l := low_eq z
    rw [cst_mul_cst]
    generalize zp (primL (lowL r)) = t at *
    rw [e] at l
    rw [l]; grind
theorem ratne {c : Int} (h : c ≠ 0) : (c : Rat) ≠ 0 := fun e => h (Rat.intCast_inj.mp e)
theorem com_sem : ∀ (n : Nat) (a b g : List Int), commonGo n a b = some g → PP a → PP b → PP g ∧ QP.G (q (zp g)) (q (zp a)) (q (zp b))
  | 0, a, b, g, e, _, _ => by cases e
  | n + 1, a, b, g, e, pa, pb => by
    unfold commonGo at e
    split at e
    · rename_i hb
      cases e
      subst hb
      exact ⟨pa, by rw [zp_nil, q_zero]; exact QP.G.zero _⟩
    · rename_i nb
      split at e
      · rename_i r hr
        split at e
        · obtain ⟨c, h, hc, e1, l, t⟩ := rest_sem nb pb.1 _ _ _ hr
          have tr := t pa.1
          obtain ⟨p', _⟩ := prim_spec (low_tr tr)
          obtain ⟨x, hx, ex⟩ := low_prim tr
          obtain ⟨pg, G1⟩ := com_sem n _ _ _ e pb p'
          refine ⟨pg, ?_⟩
          have c0 : c ≠ 0 := by omega
          have G2 := G_r G1 (ratne hx)
          rw [← q_cst, ← q_mul, ← ex] at G2
          have e2 := congrArg q e1
          rw [q_add, q_mul, q_mul, q_cst] at e2
          have G3 := QP.G.step G2 e2
          have G4 := G_l G3 (x := ((c : Int) : Rat)⁻¹) (by
            intro k
            have i := Rat.mul_inv_cancel _ (ratne c0)
            rw [k, Rat.mul_zero] at i
            exact absurd i (by decide))
          have i := QP.cst_inv (ratne c0)
          rw [show cst ((c : Int) : Rat)⁻¹ * (cst ((c : Int) : Rat) * q (zp a)) = q (zp a) by grind] at G4
          exact G4
        · cases e
      · cases e
theorem comL_sem {a b g : List Int} (e : comL a b = some g) (ta : Tr a) (tb : Tr b) : PP g ∧ QP.G (q (zp g)) (q (zp a)) (q (zp b)) := by
  unfold comL at e
  split at e
  · obtain ⟨pa, x, hx, ex⟩ := prim_spec ta
    obtain ⟨pb, y, hy, ey⟩ := prim_spec tb
    obtain ⟨pg, G1⟩ := com_sem _ _ _ _ e pa pb
    refine ⟨pg, ?_⟩
    have G2 := G_l (G_r G1 (ratne hy)) (ratne hx)
    rw [← q_cst, ← q_cst, ← q_mul, ← q_mul, ← ex, ← ey] at G2
    exact G2
  · cases e
theorem G_uniq {g g' : List Int} {a b : QP} (pg : PP g) (pg' : PP g') (h : QP.G (q (zp g)) a b) (h' : QP.G (q (zp g')) a b) : g = g' := by
  obtain ⟨r, hr, e⟩ := h'.uniq h
  obtain ⟨x, y, hx, hy, e2⟩ := q_rel hr e
  exact pg.uniq pg' hx hy e2
/-! exact quotients -/
theorem divGo_ex {b : List Int} (nb : b ≠ []) (tb : Tr b) (lb9 : (lastD b).natAbs.log2 < 9000) : ∀ (n : Nat) (left found : List Int) (c : ZP), left.length < n → Tr left → zp left = zp b * c → left.length + 1 ≤ found.length + b.length → (∀ k, k + b.length ≤ left.length → found.getD k 0 = 0) →
    (∀ (k : Nat) (l : List Int) (d : ZP), k ≤ left.length → zp l = zp b * d → d = c ∨ True → True) → (∀ k, okS (c.s.c k) b = true) →
    ∃ o, divGo b n left found = some (some o) ∧ zp o = zp found + c ∧ Tr o
  | 0, left, found, c, h, _, _, _, _, _, _ => by omega
  | n + 1, left, found, c, h, tl, e, hf, hz, hx, hs => by
    have lb := List.length_pos_iff.mpr nb
    unfold divGo
    by_cases hle : b.length ≤ left.length
    · rw [if_pos hle]
      have nl : left ≠ [] := fun k => by subst k; rw [List.length_nil] at hle; omega
      rw [if_pos ⟨tr_lastD tb nb, lb9, nl, nb⟩]
      have nc : c ≠ 0 := fun k => tr_ne tl nl (by rw [e, k]; grind)
      have p : left.length - b.length + b.length = left.length := Nat.sub_add_cancel hle
      have hb1 : (zp b).lt (b.length - 1 + 1) := by rw [Nat.sub_add_cancel lb]; exact lt_len b
      have hc1 : c.lt (left.length - b.length + 1) := by
        intro k hk
        apply Classical.byContradiction
        intro ck
        -- the greatest place of c
        obtain ⟨m, hm⟩ := c.p
        have : ∃ j, k ≤ j ∧ c.lt (j + 1) ∧ c.s.c j ≠ 0 := by
          have : ∀ i, (∃ j, k ≤ j ∧ c.lt (j + 1) ∧ c.s.c j ≠ 0) ∨ c.lt (m - i) := by
            intro i
            induction i with
            | zero => exact .inr hm
            | succ i ih =>
              rcases ih with h1 | h1
              · exact .inl h1
              · by_cases z : m - i = 0
                · exact .inr (by rw [show m - (i + 1) = m - i by omega]; exact h1)
                · by_cases w : c.s.c (m - i - 1) = 0
                  · right
                    intro j hj
                    by_cases v : j = m - i - 1
                    · subst v; exact w
                    · exact h1 j (by omega)
                  · left
                    refine ⟨m - i - 1, ?_, by rw [show m - i - 1 + 1 = m - i by omega]; exact h1, w⟩
                    rcases Nat.lt_or_ge k (m - i) with u | u
                    · omega
                    · exact absurd (h1 k u) ck
          rcases this m with h1 | h1
          · exact h1
          · exact absurd (h1 k (by omega)) ck
        obtain ⟨j, kj, hj1, hj2⟩ := this
        have l1 := lead_mul hb1 hj1
        rw [← e, ← lastD_c nb] at l1
        exact Int.mul_ne_zero (tr_lastD tb nb) hj2 (by rw [← l1]; exact lt_len left _ (by omega))
      have ll := lead_mul hb1 hc1
      rw [← e, ← lastD_c nb, show b.length - 1 + (left.length - b.length) = left.length - 1 by omega, ← lastD_c nl] at ll
      have fm : (lastD left).fmod (lastD b) = 0 := by rw [ll]; exact Int.mul_fmod_right ..
      have fd : (lastD left).fdiv (lastD b) = c.s.c (left.length - b.length) := by rw [ll]; exact Int.mul_fdiv_cancel_left _ (tr_lastD tb nb)
      rw [fm, fd, if_neg (by simp), if_pos ⟨hs _, by omega⟩]
      have e1 : zp (trimL (subAt b left (left.length - b.length) (c.s.c (left.length - b.length)))) = zp b * (c - X ^ (left.length - b.length) * cst (c.s.c (left.length - b.length))) := by
        rw [zp_trim, zp_subAt (by omega), e]; grind
      have hl2 : (trimL (subAt b left (left.length - b.length) (c.s.c (left.length - b.length)))).length ≤ left.length - 1 := by
        refine tr_len (tr_trim _) ?_
        rw [zp_trim, zp_subAt (by omega)]
        refine drop_len rfl (by rw [Nat.sub_add_cancel (by omega)]; exact lt_len left) (by omega) nb _ ?_
        rw [← lastD_c nl, ll, Int.mul_comm]
      obtain ⟨o, h1, h2, h3⟩ := divGo_ex nb tb lb9 n _ (found.set (left.length - b.length) (c.s.c (left.length - b.length))) _ (by omega) (tr_trim _) e1 (by rw [List.length_set]; omega) (fun k hk => by
        have : (found.set (left.length - b.length) (c.s.c (left.length - b.length))).getD k 0 = found.getD k 0 := by
          simp only [List.getD, List.getElem?_set]
          rw [if_neg (by omega)]
        rw [this]
        exact hz k (by omega)) (fun _ _ _ _ _ _ => trivial) (fun k => by
        have : (c - X ^ (left.length - b.length) * cst (c.s.c (left.length - b.length))).s.c k = if k = left.length - b.length then 0 else c.s.c k := by
          rw [sub_c, Xp, cst_c]
          by_cases w : k = left.length - b.length
          · subst w
            rw [if_neg (by omega), if_pos (by omega), if_pos rfl]
            omega
          · rw [if_neg w]
            by_cases v : k < left.length - b.length
            · rw [if_pos v]; omega
            · rw [if_neg v, if_neg (by omega)]; omega
        rw [this]
        split
        · exact List.all_eq_true.mpr fun x _ => ml
        · exact hs k)
      refine ⟨o, h1, ?_, h3⟩
      have e3 : zp (found.set (left.length - b.length) (c.s.c (left.length - b.length))) = zp found + X ^ (left.length - b.length) * cst (c.s.c (left.length - b.length)) := by
        rw [← zp_bump (by omega)]
        unfold bump
        rw [hz _ (by omega), Int.zero_add]
      rw [h2, e3]; grind
    · rw [if_neg hle]
      have nl : left = [] := by
        apply Classical.byContradiction
        intro nl
        have nc : c ≠ 0 := fun k => tr_ne tl nl (by rw [e, k]; grind)
        have tc : Tr (trimL (lst c)) := tr_trim _
        have ec : zp (trimL (lst c)) = c := by rw [zp_trim, zp_lst]
        have ncl : trimL (lst c) ≠ [] := fun k => nc (by rw [← ec, k, zp_nil])
        have := (len_mul tb tc tl nb ncl (by rw [ec]; exact e)).1
        have := List.length_pos_iff.mpr ncl
        omega
      rw [if_neg (fun k => k nl)]
      refine ⟨_, rfl, ?_, tr_trim _⟩
      subst nl
      have : zp b * c = 0 := by rw [← e, zp_nil]
      rcases no_zero this with k | k
      · exact absurd k (tr_ne tb nb)
      · rw [zp_trim, k]; grind
theorem divL_ex {a b : List Int} {c : ZP} (nb : b ≠ []) (tb : Tr b) (ta : Tr a) (lb9 : (lastD b).natAbs.log2 < 9000) (la : a.length ≤ 10000) (lb : b.length ≤ 10000) (e : zp a = zp b * c) (hs : ∀ k, okS (c.s.c k) b = true) {n : Nat} (hn : a.length < n) : ∃ o, divL n a b = some (some o) ∧ zp o = c ∧ Tr o := by
  unfold divL
  rw [if_pos ⟨nb, la, lb⟩]
  obtain ⟨o, h1, h2, h3⟩ := divGo_ex nb tb lb9 n a (List.replicate (a.length + 1 - b.length) 0) c hn ta e (by rw [List.length_replicate]; omega) (fun k hk => by
    simp only [List.getD, List.getElem?_replicate]
    split <;> rfl) (fun _ _ _ _ _ _ => trivial) hs
  exact ⟨o, h1, by rw [h2, zp_rep]; grind, h3⟩
/-! divisibility over the fractions, by a primitive one -/
theorem clear (h : QP) : ∃ (N : Int) (h' : ZP), N ≠ 0 ∧ q h' = cst (N : Rat) * h := by
  obtain ⟨n, hn⟩ := h.p
  have : ∀ (n : Nat) (h : QP), h.lt n → ∃ (N : Int) (h' : ZP), N ≠ 0 ∧ q h' = cst (N : Rat) * h := by
    intro n
    induction n with
    | zero =>
      intro h hl
      have : h = 0 := Pol.ext (PS.lt0 hl)
      exact ⟨1, 0, by decide, by rw [this, q_zero]; grind⟩
    | succ n ih =>
      intro h hl
      obtain ⟨N, h', hN, e⟩ := ih ⟨h.s.tl, n, hl.tl⟩ hl.tl
      have d0 : ((h.s.c 0).den : Int) ≠ 0 := by have := (h.s.c 0).den_nz; omega
      refine ⟨N * (h.s.c 0).den, cst (N * (h.s.c 0).num) + X * (cst ((h.s.c 0).den : Int) * h'), Int.mul_ne_zero hN d0, extc fun k => ?_⟩
      have hr : (((h.s.c 0).den : Int) : Rat) * h.s.c 0 = (((h.s.c 0).num : Int) : Rat) := by
        have e := Rat.num_divInt_den (h.s.c 0)
        rw [Rat.divInt_eq_div] at e
        have nz := ratne d0
        generalize (((h.s.c 0).den : Int) : Rat) = dd at *
        generalize (((h.s.c 0).num : Int) : Rat) = nn at *
        generalize h.s.c 0 = w at *
        grind
      cases k with
      | zero =>
        rw [q_c, add_c, X_mul0, cst_c, if_pos rfl, cst_mul]
        rw [Int.add_zero, Rat.intCast_mul, Rat.intCast_mul, ← hr]
        grind
      | succ k =>
        rw [q_c, add_c, X_mul, cst_c, if_neg (by omega), cst_mul, cst_mul, Int.zero_add, Rat.intCast_mul]
        have e1 : (q h').s.c k = (cst (N : Rat) * (⟨h.s.tl, n, hl.tl⟩ : QP)).s.c k := by rw [e]
        rw [q_c, cst_mul] at e1
        rw [e1, Rat.intCast_mul]
        show _ * ((N : Rat) * h.s.c (k + 1)) = _
        grind
  exact this n h hn
/-- a quotient over the fractions by a primitive one is whole -/
theorem whole {a b : List Int} (hb : conL b = 1) (h : q (zp b) ∣ q (zp a)) : ∃ c : ZP, zp a = zp b * c := by
  obtain ⟨h, e⟩ := h
  obtain ⟨N, h', hN, e'⟩ := clear h
  have e1 : cst N * zp a = zp b * h' := q_inj (by rw [q_mul, q_mul, q_cst, e', e]; grind)
  have k1 := con_mul (a := b) (b := lst h') (c := a.map fun x => N * x) (by rw [zp_map, zp_lst, e1])
  rw [hb, Nat.one_mul] at k1
  have k2 := con_scale (zp_map N a)
  have dv : ∀ k, N ∣ h'.s.c k := fun k => by
    have := con_dvd (lst h') k
    rw [zp_lst, ← k1, k2] at this
    have h1 : (N.natAbs : Int) ∣ ((N.natAbs * conL a : Nat) : Int) := Int.natCast_dvd_natCast.mpr (Nat.dvd_mul_right _ _)
    exact Int.natAbs_dvd.mp (Int.dvd_trans h1 this)
  refine ⟨⟨⟨fun k => h'.s.c k / N⟩, let ⟨n, hn⟩ := h'.p; ⟨n, fun k hk => by show h'.s.c k / N = 0; rw [hn k hk]; exact Int.zero_ediv _⟩⟩, ?_⟩
  apply cst_cancel (a := N) _ hN
  rw [e1]
  have : h' = cst N * (⟨⟨fun k => h'.s.c k / N⟩, let ⟨n, hn⟩ := h'.p; ⟨n, fun k hk => by show h'.s.c k / N = 0; rw [hn k hk]; exact Int.zero_ediv _⟩⟩ : ZP) := extc fun k => by
    rw [cst_mul]
    exact (Int.mul_ediv_cancel' (dv k)).symm
  generalize (⟨⟨fun k => h'.s.c k / N⟩, _⟩ : ZP) = w at *
  rw [this]; grind
end Mn.Z

/-! Sizes, and that the plain functions tell an answer. -/
namespace Mn.Z
open Lean.Grind Pol
/-- all numbers below 2^b -/
def Bt (b : Nat) (f : ZP) : Prop := ∀ k, (f.s.c k).natAbs < 2 ^ b
theorem Bt.mono {a b : Nat} {f : ZP} (h : Bt a f) (l : a ≤ b) : Bt b f := fun k => Nat.lt_of_lt_of_le (h k) (Nat.pow_le_pow_right (by decide) l)
theorem Bt.mem {b : Nat} {a : List Int} (h : Bt b (zp a)) {x : Int} (hx : x ∈ a) : x.natAbs < 2 ^ b := by
  obtain ⟨k, _, rfl⟩ := mem_c hx
  exact h k
theorem Bt.of {b : Nat} {a : List Int} (h : ∀ x ∈ a, x.natAbs < 2 ^ b) : Bt b (zp a) := fun k => by
  rcases c_mem (a := a) (k := k) with e | e
  · rw [e]; exact Nat.two_pow_pos b
  · exact h _ e
theorem Bt.zero (b : Nat) : Bt b 0 := fun k => by rw [zero_c]; exact Nat.two_pow_pos b
theorem pow1 (b : Nat) : 2 ^ (b + 1) = 2 ^ b + 2 ^ b := by rw [Nat.pow_succ]; omega
theorem Bt.add {b : Nat} {f g : ZP} (h : Bt b f) (h' : Bt b g) : Bt (b + 1) (f + g) := fun k => by
  have := h k; have := h' k
  rw [add_c, pow1]; omega
theorem Bt.sub {b : Nat} {f g : ZP} (h : Bt b f) (h' : Bt b g) : Bt (b + 1) (f - g) := fun k => by
  have := h k; have := h' k
  rw [sub_c, pow1]; omega
theorem Bt.neg {b : Nat} {f : ZP} (h : Bt b f) : Bt b (-f) := fun k => by
  have := h k
  rw [neg_c, Int.natAbs_neg]; exact this
theorem Bt.sc {b e : Nat} {f : ZP} {c : Int} (hc : c.natAbs < 2 ^ e) (h : Bt b f) : Bt (e + b) (cst c * f) := fun k => by
  rw [cst_mul, Int.natAbs_mul]
  exact mul_lt2 hc (h k)
theorem Bt.Xp {b k : Nat} {f : ZP} (h : Bt b f) : Bt b (X ^ k * f) := fun j => by
  rw [Z.Xp]
  split
  · exact Nat.two_pow_pos b
  · exact h _
theorem Bt.cst {b : Nat} {c : Int} (hc : c.natAbs < 2 ^ b) : Bt b (cst c) := fun k => by
  rw [cst_c]
  split
  · exact hc
  · exact Nat.two_pow_pos b
theorem muc_bd {a b : Nat} {g : PS Int} (hg : ∀ k, (g.c k).natAbs < 2 ^ b) : ∀ (k m : Nat) (f : PS Int), (∀ k, (f.c k).natAbs < 2 ^ a) → f.lt m → (PS.muc k f g).natAbs ≤ m * 2 ^ (a + b)
  | 0, m, f, hf, hm => by
    show (f.c 0 * g.c 0).natAbs ≤ _
    cases m with
    | zero => rw [hm 0 (Nat.le_refl _)]; simp
    | succ m =>
      rw [Int.natAbs_mul]
      have := mul_lt2 (hf 0) (hg 0)
      rw [Nat.succ_mul]
      omega
  | k + 1, m, f, hf, hm => by
    show (f.c 0 * g.c (k + 1) + PS.muc k f.tl g).natAbs ≤ _
    cases m with
    | zero =>
      have := muc_bd hg k 0 f.tl (fun k => hf (k + 1)) (fun k hk => hm (k + 1) (Nat.zero_le _))
      rw [hm 0 (Nat.le_refl _)]
      omega
    | succ m =>
      have h1 := muc_bd hg k m f.tl (fun k => hf (k + 1)) (fun k hk => hm (k + 1) (by omega))
      have h2 := mul_lt2 (hf 0) (hg (k + 1))
      rw [← Int.natAbs_mul] at h2
      rw [Nat.succ_mul]
      omega
theorem Bt.mul {a b m e : Nat} {f g : ZP} (hf : Bt a f) (hg : Bt b g) (hm : f.lt m) (he : m < 2 ^ e) : Bt (e + (a + b)) (f * g) := fun k => by
  have := muc_bd hg k m f.s hf hm
  have h2 : m * 2 ^ (a + b) < 2 ^ (e + (a + b)) := by
    rw [Nat.pow_add 2 e (a + b)]
    exact Nat.mul_lt_mul_of_pos_right he (Nat.two_pow_pos _)
  show (PS.muc k f.s g.s).natAbs < _
  omega
theorem Bt.div {b : Nat} {f g : ZP} {c : Int} (hc : c ≠ 0) (h : Bt b f) (e : f = Pol.cst c * g) : Bt b g := fun k => by
  have := h k
  rw [e, cst_mul, Int.natAbs_mul] at this
  have : 1 ≤ c.natAbs := by omega
  have := Nat.le_mul_of_pos_left (g.s.c k).natAbs this
  omega
theorem Bt.D {b m e : Nat} {f : ZP} (h : Bt b f) (hm : f.lt m) (he : m < 2 ^ e) : Bt (e + b) (Pol.D f) := fun k => by
  show (((k + 1 : Nat) : Int) * f.s.c (k + 1)).natAbs < _
  rcases Nat.lt_or_ge (k + 1) m with l | l
  · rw [Int.natAbs_mul, Int.natAbs_natCast]
    exact mul_lt2 (Nat.lt_trans l he) (h _)
  · rw [hm _ l, Int.mul_zero]; exact Nat.two_pow_pos _
theorem prim_bt {b : Nat} {a : List Int} (h : Tr a) (hb : Bt b (zp a)) : Bt b (zp (primL a)) := by
  obtain ⟨_, c, hc, e⟩ := prim_spec h
  exact hb.div hc e
theorem okS_of {c : Int} {l : List Int} {a b : Nat} (hc : c.natAbs < 2 ^ a) (h : Bt b (zp l)) (hl : a + b < 1000000) : okS c l = true :=
  List.all_eq_true.mpr fun x hx => mulOk_lg hc (h.mem hx) hl
theorem okM_of {x y : List Int} {a b : Nat} (h : Bt a (zp x)) (h' : Bt b (zp y)) (hl : a + b < 1000000) (l1 : x.length ≤ 8000000) (l2 : y.length ≤ 8000000) : okM x y = true := by
  unfold okM
  simp only [Bool.and_eq_true, List.all_eq_true]
  exact ⟨⟨⟨fun u hu v hv => mulOk_lg (h.mem hu) (h'.mem hv) hl, small_of (by omega)⟩, small_of (by omega)⟩, small_of (by omega)⟩
theorem mulRaw_len (a b : List Int) : (mulRaw a b).length = a.length + b.length - 1 := by
  unfold mulRaw
  have : ∀ (a s : List Int) (k : Nat), (foldE (fun s p x => foldE (fun s o y => bump s (p + o) (x * y)) s 0 b) s k a).length = s.length := by
    intro a
    induction a with
    | nil => intro s k; rfl
    | cons x a ih =>
      intro s k
      show (foldE (fun s p x => foldE (fun s o y => bump s (p + o) (x * y)) s 0 b) (foldE (fun s o y => bump s (k + o) (x * y)) s 0 b) (k + 1) a).length = _
      rw [ih, foldE_bump2_len]
  rw [this, List.length_replicate]
theorem mul_len (a b : List Int) : (mulL a b).length ≤ a.length + b.length - 1 := by
  unfold mulL
  have := trimL_len (mulRaw a b)
  rw [mulRaw_len] at this
  exact this
theorem add_len (a b : List Int) : (addL a b).length ≤ max a.length b.length := by
  unfold addL
  have := trimL_len (addRaw a b)
  unfold addRaw at this
  rw [foldE_bump_len, foldE_bump_len, List.length_replicate] at this
  exact this
theorem Bt.lastD {b : Nat} {a : List Int} (h : Bt b (zp a)) : (lastD a).natAbs < 2 ^ b := by
  by_cases e : a = []
  · subst e; exact Nat.two_pow_pos b
  · rw [lastD_c e]; exact h _
/-! rests -/
theorem rest_ex {b : List Int} {bb : Nat} (nb : b ≠ []) (hb : Bt bb (zp b)) : ∀ (n : Nat) (f : List Int) (bf : Nat), f.length < n → Bt bf (zp f) → bf + (f.length + 1 - b.length) * (bb + 1) + bb < 1000000 → ∃ r, restGo b n f = some r ∧ Bt (bf + (f.length + 1 - b.length) * (bb + 1)) (zp r)
  | 0, f, bf, h, _, _ => by omega
  | n + 1, f, bf, h, hf, hs => by
    unfold restGo
    by_cases hl : b.length ≤ f.length
    · have st : f.length + 1 - b.length = (f.length - b.length) + 1 := by omega
      rw [st, Nat.succ_mul] at hs
      have ls : (lastD f * (lastD b).sign).natAbs < 2 ^ bf := by
        rw [Int.natAbs_mul]
        have h1 := hf.lastD
        have h2 : (lastD b).sign.natAbs ≤ 1 := by
          rcases Int.lt_trichotomy (lastD b) 0 with k | k | k
          · rw [Int.sign_eq_neg_one_of_neg k]; decide
          · rw [k]; decide
          · rw [Int.sign_eq_one_of_pos k]; decide
        have := Nat.mul_le_mul_left (lastD f).natAbs h2
        omega
      have ok : okR b f = true := by
        unfold okR
        rw [Bool.and_eq_true]
        refine ⟨List.all_eq_true.mpr fun x hx => mulOk_lg (hf.mem hx) (b := bb) ?_ (by omega), okS_of ls hb (by omega)⟩
        rw [absI_eq, Int.natAbs_natCast]
        exact hb.lastD
      rw [if_pos hl, if_pos ok]
      have bs : Bt (bf + (bb + 1)) (zp (rstep b f)) := by
        rw [zp_rstep hl]
        have h1 : Bt (bb + bf) (cst (absI (lastD b)) * zp f) := Bt.sc (by rw [absI_eq, Int.natAbs_natCast]; exact hb.lastD) hf
        have h2 : Bt (bb + bf) (X ^ (f.length - b.length) * (cst (lastD f * (lastD b).sign) * zp b)) := ((Bt.sc ls hb).mono (by omega)).Xp
        exact (h1.sub h2).mono (by omega)
      have lr := rstep_len nb hl
      have mm : ((rstep b f).length + 1 - b.length) * (bb + 1) ≤ (f.length - b.length) * (bb + 1) := Nat.mul_le_mul_right _ (by omega)
      obtain ⟨r, h1, h2⟩ := rest_ex nb hb n (rstep b f) (bf + (bb + 1)) (by omega) bs (by omega)
      refine ⟨r, h1, h2.mono ?_⟩
      rw [st, Nat.succ_mul]
      omega
    · rw [if_neg hl]
      exact ⟨f, rfl, hf.mono (by omega)⟩
/-! common divisors: how the numbers may grow -/
def pe : Nat → Nat × Nat
  | 0 => (0, 1)
  | n + 1 => (2 * (pe n).1 + (pe n).2, (pe n).1)
theorem pe_up (k : Nat) : ∀ j, 1 ≤ j → (j + 1) * (pe k).1 + (pe k).2 ≤ (pe (k + j)).1
  | 0, h => by omega
  | 1, _ => by show _ ≤ 2 * (pe k).1 + (pe k).2; omega
  | j + 2, _ => by
    have ih := pe_up k (j + 1) (by omega)
    show _ ≤ 2 * (pe (k + (j + 1))).1 + (pe (k + (j + 1))).2
    have e1 : (j + 1 + 1) * (pe k).1 = (j + 1) * (pe k).1 + (pe k).1 := Nat.succ_mul _ _
    have e2 : (j + 2 + 1) * (pe k).1 = (j + 1) * (pe k).1 + (pe k).1 + (pe k).1 := by rw [Nat.succ_mul, Nat.succ_mul]
    rw [e1] at ih
    rw [e2]
    omega
theorem pe_mono (k : Nat) : ∀ j, (pe k).1 ≤ (pe (k + j)).1
  | 0 => Nat.le_refl _
  | j + 1 => by
    have := pe_mono k j
    show _ ≤ 2 * (pe (k + j)).1 + (pe (k + j)).2
    omega
theorem pe_2 (k : Nat) : ∀ j, 1 ≤ j → (pe k).1 ≤ (pe (k + j)).2
  | j + 1, _ => pe_mono k j
theorem pe_pos (k : Nat) : 1 ≤ (pe (k + 1)).1 := by
  induction k with
  | zero => decide
  | succ k ih => show 1 ≤ 2 * (pe (k + 1)).1 + _; omega
theorem con_lt {b : Nat} {a : List Int} (n : zp a ≠ 0) (h : Bt b (zp a)) : conL a < 2 ^ b := by
  have : ∃ k, (zp a).s.c k ≠ 0 := by
    apply Classical.byContradiction
    intro c
    exact n (extc fun k => by rw [zero_c]; exact Classical.byContradiction fun e => c ⟨k, e⟩)
  obtain ⟨k, hk⟩ := this
  have d := ncd.mp (con_dvd a k)
  exact Nat.lt_of_le_of_lt (Nat.le_of_dvd (by omega) d) (h k)
theorem okC_of {b : Nat} {a : List Int} (h : Bt b (zp a)) (hb : b < 9000) : okC a = true := by
  unfold okC
  apply _root_.decide_eq_true
  by_cases n : zp a = 0
  · rw [con_congr (b := []) (n.trans zp_nil.symm)]; decide
  · have := log2_lt (con_lt n h)
    omega
theorem ln_zp {a : List Int} (h : Tr a) (n : a ≠ []) : QP.ln (q (zp a)) (a.length - 1) := by
  have hl := List.length_pos_iff.mpr n
  refine ⟨fun k hk => ?_, ?_⟩
  · show ((((zp a).s.c k : Int)) : Rat) = 0
    rw [lt_len a k (by omega)]; rfl
  · show (((zp a).s.c (a.length - 1) : Int) : Rat) ≠ 0
    rw [← lastD_c n]
    exact ratne (tr_lastD h n)
theorem grow {y1 z1 A0 B0 A1 B1 j M : Nat} (up : (j + 1) * A0 + B0 ≤ A1) (u2 : A0 ≤ B1) (hs : z1 * A1 + y1 * B1 ≤ M) : (y1 + (j + 1) * z1) * A0 + z1 * B0 ≤ M := by
  have e : (y1 + (j + 1) * z1) * A0 + z1 * B0 = y1 * A0 + z1 * ((j + 1) * A0 + B0) := by grind
  have h1 := Nat.mul_le_mul_left z1 up
  have h2 := Nat.mul_le_mul_left y1 u2
  omega
theorem comGo_ex {M d : Nat} {h : QP} (hM : M < 9000) (hh : QP.ln h d) : ∀ (n : Nat) (a b : List Int) (x y : Nat), b.length < n → PP a → PP b → b.length ≤ a.length → a.length < 90 → h ∣ q (zp a) → h ∣ q (zp b) → Bt x (zp a) → Bt y (zp b) → x + 1 ≤ M → (b ≠ [] → y + 1 ≤ M) →
    (b ≠ [] → (x + 1 + (a.length + 1 - b.length) * (y + 1)) * (pe (b.length - 1 - d)).1 + (y + 1) * (pe (b.length - 1 - d)).2 ≤ M) → ∃ g, commonGo n a b = some g ∧ Bt M (zp g)
  | 0, a, b, x, y, hn, _, _, _, _, _, _, _, _, _, _, _ => by omega
  | n + 1, a, b, x, y, hn, pa, pb, hl, ha9, da, db, ba, bb, hx, hy, hs => by
    unfold commonGo
    by_cases nb : b = []
    · rw [if_pos nb]
      exact ⟨a, rfl, ba.mono (by omega)⟩
    · rw [if_neg nb]
      have hb0 := List.length_pos_iff.mpr nb
      have hy := hy nb
      have hs := hs nb
      have md : d ≤ b.length - 1 := QP.ln_dvd db hh (ln_zp pb.1 nb)
      have ms : (a.length + 1 - b.length) * (y + 1) ≤ 90 * 9000 := Nat.mul_le_mul (by omega) (by omega)
      obtain ⟨r, h1, h2⟩ := rest_ex nb bb (a.length + 1) a x (by omega) ba (by omega)
      rw [h1]
      obtain ⟨c, w, hc, e1, l, t⟩ := rest_sem nb pb.1 _ _ _ h1
      have tr := t pa.1
      have dr : h ∣ q (zp r) := by
        have e2 := congrArg q e1
        rw [q_add, q_mul, q_mul] at e2
        rw [show q (zp r) = q (cst c) * q (zp a) - q w * q (zp b) by grind]
        exact QP.dvd_sub (QP.dvd_mul_left da _) (QP.dvd_mul_left db _)
      -- is the rest 0?
      by_cases nr : r = []
      · subst nr
        have oc : okC [] = true := by decide
        simp only
        rw [if_pos oc]
        show ∃ g, commonGo n b (primL (lowL [])) = some g ∧ _
        have : primL (lowL []) = [] := rfl
        rw [this]
        cases n with
        | zero => omega
        | succ n =>
          unfold commonGo
          rw [if_pos rfl]
          exact ⟨b, rfl, bb.mono (by omega)⟩
      · have hr0 := List.length_pos_iff.mpr nr
        have mr : d ≤ r.length - 1 := QP.ln_dvd dr hh (ln_zp tr nr)
        obtain ⟨p', _⟩ := prim_spec (low_tr tr)
        obtain ⟨u, hu, eu⟩ := low_prim tr
        have lr : (primL (lowL r)).length = r.length := by rw [prim_len (low_tr tr), low_len]
        have br : Bt (x + (a.length + 1 - b.length) * (y + 1)) (zp (primL (lowL r))) := h2.div hu eu
        have k1 : b.length - 1 - d = (r.length - 1 - d) + (b.length - r.length) := by omega
        have up := pe_up (r.length - 1 - d) (b.length - r.length) (by omega)
        have u2 := pe_2 (r.length - 1 - d) (b.length - r.length) (by omega)
        have ps : 1 ≤ (pe (b.length - 1 - d)).1 := by
          have := pe_pos (b.length - 1 - d - 1)
          rwa [show b.length - 1 - d - 1 + 1 = b.length - 1 - d by omega] at this
        rw [← k1] at up u2
        have zM : x + (a.length + 1 - b.length) * (y + 1) + 1 ≤ M := by
          have := Nat.le_mul_of_pos_right (x + 1 + (a.length + 1 - b.length) * (y + 1)) ps
          omega
        have oc : okC r = true := okC_of h2 (by omega)
        simp only
        rw [if_pos oc]
        refine comGo_ex hM hh n b (primL (lowL r)) y (x + (a.length + 1 - b.length) * (y + 1)) (by omega) pb p' (by omega) (by omega) db ?_ bb br hy (fun _ => zM) fun _ => ?_
        · have e3 := congrArg q eu
          rw [q_mul, q_cst] at e3
          rw [e3] at dr
          exact (QP.dvd_scale' (ratne hu)).mp dr
        · rw [lr]
          have e4 : b.length + 1 - r.length = b.length - r.length + 1 := by omega
          rw [e4]
          refine grow up u2 ?_
          rw [show x + (a.length + 1 - b.length) * (y + 1) + 1 = x + 1 + (a.length + 1 - b.length) * (y + 1) by omega]
          exact hs
end Mn.Z

/-! Common divisors and square-free parts: they are told. -/
namespace Mn.Z
open Lean.Grind Pol
theorem low_self {a : List Int} (h : PP a) : lowL a = a := by
  unfold lowL
  rcases h.2 with e | e
  · subst e; rfl
  · rw [e.1]; rfl
theorem one_dvd (f : QP) : (1 : QP) ∣ f := ⟨f, by grind⟩
theorem one_ln : QP.ln (1 : QP) 0 := QP.one_unit
theorem pe_b1 (k : Nat) : (pe k).2 ≤ (pe (k + 1)).1 := by show _ ≤ 2 * (pe k).1 + (pe k).2; omega
theorem pe_pair {p m : Nat} (h : m ≤ p) (h1 : 1 ≤ m) : (p + 1 - m) * (pe (m - 1)).1 ≤ (pe (p - 1)).1 := by
  by_cases e : p = m
  · subst e; rw [show p + 1 - p = 1 by omega]; omega
  · have := pe_up (m - 1) (p - m) (by omega)
    rw [show m - 1 + (p - m) = p - 1 by omega] at this
    rw [show p + 1 - m = p - m + 1 by omega]
    omega
theorem pe_le {k l : Nat} (h : k ≤ l) : (pe k).1 ≤ (pe l).1 := by
  have := pe_mono k (l - k)
  rwa [show k + (l - k) = l by omega] at this
theorem pe_le2 {k l : Nat} (h : k ≤ l) (hl : 1 ≤ l) : (pe k).2 ≤ (pe l).1 := by
  cases k with
  | zero =>
    have := pe_pos (l - 1)
    rw [show l - 1 + 1 = l by omega] at this
    exact this
  | succ k => exact pe_le (show k ≤ l by omega)
theorem three {x y A A1 B1 t M B : Nat} (hx : x ≤ B) (hy : y ≤ B) (h1 : t * A1 ≤ A) (h2 : A1 ≤ A) (h3 : B1 ≤ A) (hs : 3 * (B + 1) * A ≤ M) : (x + 1 + t * (y + 1)) * A1 + (y + 1) * B1 ≤ M := by
  have e : (x + 1 + t * (y + 1)) * A1 + (y + 1) * B1 = (x + 1) * A1 + (y + 1) * (t * A1) + (y + 1) * B1 := by grind
  have i1 : (x + 1) * A1 ≤ (B + 1) * A := Nat.mul_le_mul (by omega) h2
  have i2 : (y + 1) * (t * A1) ≤ (B + 1) * A := Nat.mul_le_mul (by omega) h1
  have i3 : (y + 1) * B1 ≤ (B + 1) * A := Nat.mul_le_mul (by omega) h3
  have e2 : 3 * (B + 1) * A = (B + 1) * A + (B + 1) * A + (B + 1) * A := by grind
  omega
/-- primitive ones -/
theorem comP_ex {M B L : Nat} (hM : M < 9000) (hL : 1 ≤ L) (h90 : L < 90) {a b : List Int} (pa : PP a) (pb : PP b) (la : a.length ≤ L) (lb : b.length ≤ L) (ba : Bt B (zp a)) (bb : Bt B (zp b)) (hs : 3 * (B + 1) * (pe L).1 ≤ M) : ∃ g, commonGo (b.length + 2) a b = some g ∧ Bt M (zp g) := by
  have pp : 1 ≤ (pe L).1 := by have := pe_pos (L - 1); rwa [show L - 1 + 1 = L by omega] at this
  have hB : B + 1 ≤ M := by
    have := Nat.le_mul_of_pos_right (3 * (B + 1)) pp
    omega
  have main : ∀ (n : Nat) (a b : List Int), b.length < n → PP a → PP b → b.length ≤ a.length → a.length ≤ L → Bt B (zp a) → Bt B (zp b) → ∃ g, commonGo n a b = some g ∧ Bt M (zp g) := by
    intro n a b hn pa pb hl la ba bb
    refine comGo_ex hM one_ln n a b B B hn pa pb hl (by omega) (one_dvd _) (one_dvd _) ba bb hB (fun _ => hB) fun nb => ?_
    have hb0 := List.length_pos_iff.mpr nb
    rw [Nat.sub_zero]
    refine three (A := (pe L).1) (Nat.le_refl B) (Nat.le_refl B) (Nat.le_trans (pe_pair hl hb0) (pe_le (by omega))) (pe_le (by omega)) (pe_le2 (by omega) hL) hs
  by_cases hl : b.length ≤ a.length
  · exact main _ a b (by omega) pa pb hl la ba bb
  · show ∃ g, commonGo ((b.length + 1) + 1) a b = some g ∧ _
    have nb : b ≠ [] := fun e => by subst e; simp at hl
    unfold commonGo
    rw [if_neg nb]
    have e1 : restGo b (a.length + 1) a = some a := by
      unfold restGo
      rw [if_neg hl]
    rw [e1]
    simp only
    rw [if_pos (okC_of ba (by omega)), low_self pa, prim_self pa]
    exact main _ b a (by omega) pb pa (by omega) lb bb ba
theorem comL_ex {M B L : Nat} (hM : M < 9000) (hL : 1 ≤ L) (h90 : L < 90) {a b : List Int} (ta : Tr a) (tb : Tr b) (la : a.length ≤ L) (lb : b.length ≤ L) (ba : Bt B (zp a)) (bb : Bt B (zp b)) (hs : 3 * (B + 1) * (pe L).1 ≤ M) : ∃ g, comL a b = some g ∧ Bt M (zp g) := by
  have pp : 1 ≤ (pe L).1 := by have := pe_pos (L - 1); rwa [show L - 1 + 1 = L by omega] at this
  have hB : B + 1 ≤ M := by
    have := Nat.le_mul_of_pos_right (3 * (B + 1)) pp
    omega
  unfold comL
  rw [if_pos ⟨okC_of ba (by omega), okC_of bb (by omega)⟩]
  have := comP_ex hM hL h90 (prim_spec ta).1 (prim_spec tb).1 (by rw [prim_len ta]; exact la) (by rw [prim_len tb]; exact lb) (prim_bt ta ba) (prim_bt tb bb) hs
  rw [prim_len tb] at this
  exact this
/-- the numbers of a quotient -/
theorem quo_bt {b : List Int} {y : Nat} (nb : b ≠ []) (tb : Tr b) (hb : Bt y (zp b)) : ∀ (m : Nat) (x : Nat) (f c : ZP), f = zp b * c → Bt x f → c.lt (m + 1) → Bt (x + m * (y + 1)) c
  | m, x, f, c, e, hf, hc => by
    have lb := List.length_pos_iff.mpr nb
    have hb1 : (zp b).lt (b.length - 1 + 1) := by rw [Nat.sub_add_cancel lb]; exact lt_len b
    have ll := lead_mul hb1 hc
    rw [← e, ← lastD_c nb] at ll
    have cm : (c.s.c m).natAbs < 2 ^ x := by
      have h1 := hf (b.length - 1 + m)
      rw [ll, Int.natAbs_mul] at h1
      have h2 : 1 ≤ (lastD b).natAbs := by have := tr_lastD tb nb; omega
      have := Nat.le_mul_of_pos_left (c.s.c m).natAbs h2
      omega
    cases m with
    | zero =>
      intro k
      cases k with
      | zero => rw [Nat.zero_mul]; exact cm
      | succ k => rw [hc _ (by omega)]; exact Nat.two_pow_pos _
    | succ m =>
      have lt' : (c - X ^ (m + 1) * cst (c.s.c (m + 1))).lt (m + 1) := fun k hk => by
        show (c - X ^ (m + 1) * cst (c.s.c (m + 1))).s.c k = 0
        rw [sub_Xp_c hk, cst_c]
        by_cases w : k = m + 1
        · subst w; rw [if_pos (by omega)]; omega
        · rw [hc k (by omega), if_neg (by omega)]; rfl
      have bf : Bt (x + (y + 1)) (f - X ^ (m + 1) * (cst (c.s.c (m + 1)) * zp b)) :=
        (Bt.sub (b := x + y) (hf.mono (by omega)) ((Bt.sc cm hb).Xp)).mono (by omega)
      have ih := quo_bt nb tb hb m (x + (y + 1)) (f - X ^ (m + 1) * (cst (c.s.c (m + 1)) * zp b)) (c - X ^ (m + 1) * cst (c.s.c (m + 1))) (by rw [e]; grind) bf lt'
      intro k
      by_cases w : k = m + 1
      · subst w
        exact Nat.lt_of_lt_of_le cm (Nat.pow_le_pow_right (by decide) (by omega))
      · have := ih k
        have e3 : (c - X ^ (m + 1) * cst (c.s.c (m + 1))).s.c k = c.s.c k := by
          rw [sub_c, Xp, cst_c]
          by_cases v : k < m + 1
          · rw [if_pos v]; omega
          · rw [if_neg v, if_neg (by omega)]; omega
        rw [e3] at this
        refine Nat.lt_of_lt_of_le this (Nat.pow_le_pow_right (by decide) ?_)
        rw [Nat.succ_mul]; omega
theorem unit_len {a : List Int} (h : Tr a) (n : a ≠ []) (l : a.length < 2) : QP.unit (q (zp a)) := by
  have := ln_zp h n
  have hl := List.length_pos_iff.mpr n
  rw [show a.length - 1 = 0 by omega] at this
  exact this
theorem irr_unit {p u : QP} (hp : QP.Irr p) (hu : QP.unit u) : ¬ p ∣ u := fun d => hp.2.1 (QP.dvd_unit d hu)
theorem rad_unit {f r : QP} (hf : QP.unit f) (hr : QP.unit r) : QP.Rad f r :=
  ⟨QP.ln_ne hr, fun p hp => ⟨fun d => absurd d (irr_unit hp hr), fun d => absurd d (irr_unit hp hf)⟩, fun p hp d => irr_unit hp hr (QP.dvd_trans ⟨p, rfl⟩ d)⟩
theorem Rad_scale {f r : QP} {x y : Rat} (hx : x ≠ 0) (hy : y ≠ 0) (h : QP.Rad (cst x * f) (cst y * r)) : QP.Rad f r := by
  refine ⟨fun e => h.1 (by rw [e]; grind), fun p hp => ?_, fun p hp d => h.2.2 p hp ((QP.dvd_scale' hy).mpr d)⟩
  have := h.2.1 p hp
  rwa [QP.dvd_scale' hy, QP.dvd_scale' hx] at this
theorem slope_len {a : List Int} (h : Tr a) (l : 2 ≤ a.length) : (slopeL a).length = a.length - 1 := by
  have n : a ≠ [] := fun e => by subst e; simp at l
  have h1 := ln_zp h n
  rw [show a.length - 1 = a.length - 2 + 1 by omega] at h1
  have h2 := QP.D_ln h1
  rw [← q_D, ← zp_slope] at h2
  have ts : Tr (slopeL a) := tr_trim _
  have ns : slopeL a ≠ [] := fun e => QP.ln_ne h2 (by rw [e, zp_nil, q_zero])
  have h3 := ln_zp ts ns
  have := QP.ln_uniq h2 h3
  have := List.length_pos_iff.mpr ns
  omega
/-- the square-free part is told -/
theorem sf_ex {M K d x e : Nat} {h : QP} (hM : M < 9000) (hh : QP.ln h d) {a : List Int} (ta : Tr a) (la : a.length < 90) (ba : Bt x (zp a)) (he : a.length < 2 ^ e) (dh : h ∣ q (zp a)) (dD : h ∣ Pol.D (q (zp a))) (hK : a.length - 2 - d ≤ K) (hK1 : 1 ≤ K) (hxM : x + e + 1 ≤ M)
    (hs : (x + 1 + 2 * (x + e + 1)) * (pe K).1 + (x + e + 1) * (pe K).1 ≤ M) (h6 : (a.length) * (M + 1) < 970000) : ∃ s, sfL a = some s ∧ PP s ∧ (a ≠ [] → QP.Rad (q (zp a)) (q (zp s))) ∧ Bt (x + (a.length - 2) * (M + 1)) (zp s) ∧ q (zp s) ∣ q (zp a) := by
  unfold sfL
  obtain ⟨pu, c, hc, ec⟩ := prim_spec ta
  have lu := prim_len ta
  have bu := prim_bt ta ba
  have oc : okC a = true := okC_of ba (by omega)
  rw [if_pos oc]
  have qec := congrArg q ec
  rw [q_mul, q_cst] at qec
  by_cases l2 : (primL a).length < 2
  · rw [if_pos l2]
    refine ⟨_, rfl, pu, fun na => ?_, bu.mono (by omega), by rw [qec]; exact QP.dvd_mul_left (QP.dvd_rfl _) _⟩
    have nu : primL a ≠ [] := fun k => by rw [k] at lu; exact na (List.length_eq_zero_iff.mp lu.symm)
    exact rad_unit (unit_len ta na (by omega)) (unit_len pu.1 nu l2)
  · rw [if_neg l2]
    generalize hu : primL a = u at *
    have nu : u ≠ [] := fun k => by rw [k] at l2; simp at l2
    have na : a ≠ [] := fun k => by rw [k] at lu; exact nu (List.length_eq_zero_iff.mp lu)
    have ts : Tr (slopeL u) := tr_trim _
    have ls := slope_len pu.1 (by omega)
    have bs : Bt (e + x) (zp (slopeL u)) := by rw [zp_slope]; exact bu.D (lt_len u) (by omega)
    have pp : 1 ≤ (pe K).1 := by have := pe_pos (K - 1); rwa [show K - 1 + 1 = K by omega] at this
    -- the common divisor
    have hg : ∃ g, comL u (slopeL u) = some g ∧ Bt M (zp g) := by
      unfold comL
      rw [if_pos ⟨okC_of bu (by omega), okC_of bs (by omega)⟩, prim_self pu]
      obtain ⟨pv, c2, hc2, ec2⟩ := prim_spec ts
      have lv := prim_len ts
      have hdu : h ∣ q (zp u) := by rw [qec] at dh; exact (QP.dvd_scale' (ratne hc)).mp dh
      have hdv : h ∣ q (zp (primL (slopeL u))) := by
        have h1 : h ∣ Pol.D (q (zp u)) := by
          rw [qec, Pol.D_mul, Pol.D_cst] at dD
          have : (0 : QP) * q (zp u) + cst (c : Rat) * Pol.D (q (zp u)) = cst (c : Rat) * Pol.D (q (zp u)) := by grind
          rw [this] at dD
          exact (QP.dvd_scale' (ratne hc)).mp dD
        rw [← q_D, ← zp_slope, ec2, q_mul, q_cst] at h1
        exact (QP.dvd_scale' (ratne hc2)).mp h1
      refine comGo_ex hM hh _ u (primL (slopeL u)) x (x + e) (by omega) pu pv (by omega) (by omega) hdu hdv bu ((prim_bt ts bs).mono (by omega)) (by omega) (fun _ => by omega) fun _ => ?_
      rw [lv, ls, show u.length + 1 - (u.length - 1) = 2 by omega]
      have k1 := pe_le (k := u.length - 1 - 1 - d) (l := K) (by omega)
      have k2 := pe_le2 (k := u.length - 1 - 1 - d) (l := K) (by omega) hK1
      have i1 := Nat.mul_le_mul_left (x + 1 + 2 * (x + e + 1)) k1
      have i2 := Nat.mul_le_mul_left (x + e + 1) k2
      omega
    obtain ⟨g, hg1, hg2⟩ := hg
    rw [hg1]
    obtain ⟨pg, Gg⟩ := comL_sem hg1 pu.1 ts
    have ng : g ≠ [] := fun k => by
      have := Gg.1
      rw [k, zp_nil, q_zero] at this
      exact tr_ne pu.1 nu (q_inj ((QP.zero_dvd this).trans q_zero.symm))
    have cg := (pg.2.resolve_left ng).1
    obtain ⟨c', ec'⟩ := whole cg Gg.1
    -- the quotient
    have tc : Tr (trimL (lst c')) := tr_trim _
    have etc : zp (trimL (lst c')) = c' := by rw [zp_trim, zp_lst]
    have nc' : trimL (lst c') ≠ [] := fun k => tr_ne pu.1 nu (by rw [ec', ← etc, k, zp_nil]; grind)
    have lens := (len_mul pg.1 tc pu.1 ng nc' (by rw [etc]; exact ec')).1
    have lg0 := List.length_pos_iff.mpr ng
    have lc0 := List.length_pos_iff.mpr nc'
    have ltc : c'.lt ((trimL (lst c')).length - 1 + 1) := by
      rw [Nat.sub_add_cancel lc0]
      have := lt_len (trimL (lst c'))
      rwa [etc] at this
    have bc : Bt (x + (a.length - 2) * (M + 1)) c' := by
      by_cases g1 : g.length = 1
      · have : zp g = 1 := by
          obtain ⟨v, rfl⟩ : ∃ v, g = [v] := by
            match g, g1 with
            | [v], _ => exact ⟨v, rfl⟩
          have h1 := (pg.2.resolve_left ng)
          have : v = 1 := by
            have e1 : conL [v] = v.natAbs := by show Int.gcd 0 v = _; exact Int.gcd_zero_left v
            have e2 : lastD [v] = v := rfl
            rw [e1, e2] at h1
            omega
          subst this
          exact zp_one
        rw [this] at ec'
        have : c' = zp u := by rw [ec']; grind
        rw [this]
        exact bu.mono (by omega)
      · have := quo_bt ng pg.1 hg2 _ x (zp u) c' ec' bu ltc
        refine this.mono ?_
        have : ((trimL (lst c')).length - 1) * (M + 1) ≤ (a.length - 2) * (M + 1) := Nat.mul_le_mul_right _ (by omega)
        omega
    have m2 : (a.length - 2) * (M + 1) ≤ a.length * (M + 1) := Nat.mul_le_mul_right _ (by omega)
    obtain ⟨o, d1, d2, d3⟩ := divL_ex (c := c') ng pg.1 pu.1 (by
      have := log2_lt hg2.lastD
      omega) (by omega) (by omega) ec' (fun k => okS_of (bc k) hg2 (by omega)) (n := u.length + 1) (by omega)
    simp only
    rw [d1]
    have bo : Bt (x + (a.length - 2) * (M + 1)) (zp o) := by rw [d2]; exact bc
    have oo : okC o = true := by
      have k1 := con_mul (a := g) (b := o) (c := u) (by rw [d2]; exact ec')
      rw [cg, (pu.2.resolve_left nu).1, Nat.one_mul] at k1
      unfold okC
      rw [← k1]
      decide
    simp only
    rw [if_pos oo]
    obtain ⟨ps, c3, hc3, ec3⟩ := prim_spec d3
    refine ⟨_, rfl, (prim_spec d3).1, fun _ => ?_, prim_bt d3 bo, ?_⟩
    rotate_left
    · rw [qec, ec', ← d2, ec3, q_mul, q_mul]
      exact QP.dvd_mul_left (QP.dvd_mul_left (QP.dvd_mul_left (QP.dvd_rfl _) _) _) _
    have r1 := QP.rad_of (f := q (zp u)) (g := q (zp g)) (r := q c') (fun k => tr_ne pu.1 nu (q_inj (k.trans q_zero.symm))) (by rw [← q_D, ← zp_slope]; exact Gg) (by rw [← q_mul, ← ec'])
    rw [← d2, ec3, q_mul, q_cst] at r1
    have i := QP.cst_inv (ratne hc)
    refine Rad_scale (x := ((c : Int) : Rat)⁻¹) (y := (c3 : Rat)) ?_ (ratne hc3) ?_
    · intro k
      have i := Rat.mul_inv_cancel _ (ratne hc)
      rw [k, Rat.mul_zero] at i
      exact absurd i (by decide)
    · rw [qec, show cst ((c : Int) : Rat)⁻¹ * (cst (c : Rat) * q (zp u)) = q (zp u) by grind]
      exact r1
theorem rad_eq {a b : List Int} {f g : QP} (pa : PP a) (pb : PP b) (ha : QP.Rad f (q (zp a))) (hb : QP.Rad g (q (zp b))) (h : ∀ p, QP.Irr p → (p ∣ f ↔ p ∣ g)) : a = b := by
  obtain ⟨r, hr, e⟩ := ha.uniq hb h
  obtain ⟨x, y, hx, hy, e2⟩ := q_rel hr e
  exact (pb.uniq pa hx hy e2).symm
end Mn.Z

/-! Mini: contents, rests, common divisors, square-free parts; turned and backward ones. -/
namespace Mn
open PySem L2 Z
theorem enum_loop2 {σ : Type} {z : Zs} {f : D → Env → Zs → Option (Out × Zs)} (E : σ → Slot → Slot → Env) (g : σ → Nat → Int → σ) (I : σ → Prop) : ∀ (b : List Int) (k : Nat) (s : σ) (x y : Slot), I s →
    (∀ s j v x y, I s → k ≤ j → j < k + b.length → v ∈ b → f (.tup [.int j, .int v]) (E s x y) z = some (.nx (E (g s j v) (.sh (.int j)) (.sh (.int v))), z) ∧ I (g s j v)) →
    ∃ x' y', loopS f (enI k b) (E s x y) z = some (.nx (E (foldE g s k b) x' y'), z) ∧ I (foldE g s k b) ∧ ((b = [] ∧ x' = x ∧ y' = y) ∨ ∃ u v : Int, x' = .sh (.int u) ∧ y' = .sh (.int v))
  | [], k, s, x, y, hi, h => ⟨x, y, rfl, hi, .inl ⟨rfl, rfl, rfl⟩⟩
  | v :: b, k, s, x, y, hi, h => by
    obtain ⟨e, hi'⟩ := h s k v x y hi (Nat.le_refl _) (by simp) List.mem_cons_self
    obtain ⟨x', y', e2, hi2, hx⟩ := enum_loop2 E g I b (k + 1) (g s k v) (.sh (.int k)) (.sh (.int v)) hi' fun s j u x y hs h1 h2 h3 => h s j u x y hs (by omega) (by simp only [List.length_cons]; omega) (List.mem_cons_of_mem _ h3)
    refine ⟨x', y', ?_, hi2, .inr ?_⟩
    · show loopS f (_ :: enI (k + 1) b) _ _ = _
      unfold loopS
      rw [e]
      exact e2
    · rcases hx with ⟨_, h1, h2⟩ | h
      · exact ⟨_, _, h1, h2⟩
      · exact h
section
variable {P : List Fn} {K i j jc jt jp js : Nat} {z : Zs} {C : CallF} {a : List Int}
theorem ls_var {ρ : Env} {ow : Bool} {l : List Int} {k : Nat} (h : ρ[k]? = some (.sh (pl l))) : evI C ρ ow (.ls (.var k)) z = some (il l, z) := by
  have e : evE C ρ (.var k) z = some (.sh (pl l), z) := by simp only [evE, h]
  rw [evI, e, bd_some]
  rfl
theorem con_loop {s0 : Slot} (hc : ∀ x y : Int, C jc [.int x, .int y] z = some (.sh (.int (Int.gcd x y)), z)) : ∀ (b : List Int) (g : Nat) (x : Slot), ∃ x', loopS (lpF C (.nm 2) (.cons (.asg [1, 2] 1 (.call jc (.cons (.var 1) (.cons (.var 2) .nil)))) .nil)) (il b) [s0, .sh (.int g), x] z = some (.nx [s0, .sh (.int (conG g b)), x'], z)
  | [], g, x => ⟨x, rfl⟩
  | v :: b, g, x => by
    obtain ⟨x', e⟩ := con_loop hc b (Int.gcd g v) (.sh (.int v))
    refine ⟨x', ?_⟩
    rw [il_cons]
    unfold loopS
    simp -implicitDefEqProofs only [lpF, setT, List.set_cons_succ, List.set_cons_zero]
    rw [exB]; simp -implicitDefEqProofs only [exS, freeze, froz, evE.eq_1, evE.eq_2, evE.eq_3, evE.eq_4, evE.eq_5, evE.eq_6, evE.eq_7, evE.eq_8, evE.eq_9, evE.eq_10, evE.eq_11, evE.eq_12, evE.eq_13, evE.eq_14, evE.eq_15, evE.eq_16, evE.eq_17, evE.eq_18, evRs, evO, evC, bd_some, bd_none, List.getElem?_cons_succ, List.getElem?_cons_zero, List.set_cons_succ, List.set_cons_zero, putR, setTs, setT, b_add, b_sub, b_band, c_lt, c_le, c_gt, c_ge, c_isn, c_notn, isn_int, isn_non, bi_abs, bi_int, bi_intb, bi_max2, bi_min2, toB_bl, toDs_nil, toDs_cons, R.toD, Option.map_some, Option.map_none, List.getD_cons_zero, List.getD_cons_succ, if_true, eq_int, ne_int, toDs, hc]
    rw [exB]
    exact e
theorem content_ok (h : P[i]? = some (B.content j)) (hj : P[j]? = some B.common_divisor) (a : List Int) : run P (K + 2) i [pl a] z = some (.sh (.int (conL a)), z) := by
  refine run_ret h rfl ?_ rfl
  have hc := fun x y => cd_ok (K := K) hj x y z
  generalize run P (K + 1) = C at *
  unfold B.content
  simp only
  show exB C _ [.sh (pl a), .un, .un] _ = _
  rw [exB]; simp -implicitDefEqProofs only [exS, freeze, froz, evE.eq_1, evE.eq_2, evE.eq_3, evE.eq_4, evE.eq_5, evE.eq_6, evE.eq_7, evE.eq_8, evE.eq_9, evE.eq_10, evE.eq_11, evE.eq_12, evE.eq_13, evE.eq_14, evE.eq_15, evE.eq_16, evE.eq_17, evE.eq_18, evRs, evO, evC, bd_some, bd_none, List.getElem?_cons_succ, List.getElem?_cons_zero, List.set_cons_succ, List.set_cons_zero, putR, setTs, setT, b_add, b_sub, b_band, c_lt, c_le, c_gt, c_ge, c_isn, c_notn, isn_int, isn_non, bi_abs, bi_int, bi_intb, bi_max2, bi_min2, toB_bl, toDs_nil, toDs_cons, R.toD, Option.map_some, Option.map_none, List.getD_cons_zero, List.getD_cons_succ, if_true, eq_int, ne_int]
  obtain ⟨x', e⟩ := con_loop (s0 := .sh (pl a)) hc a 0 .un
  refine (exB_nx (exS_loop rfl (ls_var rfl) e)).trans ?_
  rw [exB]; simp -implicitDefEqProofs only [exS, freeze, froz, evE.eq_1, evE.eq_2, evE.eq_3, evE.eq_4, evE.eq_5, evE.eq_6, evE.eq_7, evE.eq_8, evE.eq_9, evE.eq_10, evE.eq_11, evE.eq_12, evE.eq_13, evE.eq_14, evE.eq_15, evE.eq_16, evE.eq_17, evE.eq_18, evRs, evO, evC, bd_some, bd_none, List.getElem?_cons_succ, List.getElem?_cons_zero, List.set_cons_succ, List.set_cons_zero, putR, setTs, setT, b_add, b_sub, b_band, c_lt, c_le, c_gt, c_ge, c_isn, c_notn, isn_int, isn_non, bi_abs, bi_int, bi_intb, bi_max2, bi_min2, toB_bl, toDs_nil, toDs_cons, R.toD, Option.map_some, Option.map_none, List.getD_cons_zero, List.getD_cons_succ, if_true, eq_int, ne_int]
  rfl
theorem comp_il {ρ : Env} {elt : ME} {k n : Nat} {l : List Int} (f : Int → Int) (hc : compOk ρ [n] (.nm n) = true) (hi : evI C ρ true (.ls (.nvar k)) z = some (il l, z)) (he : ∀ x ∈ l, evE C ((wipeE ρ [n]).set n (.sh (.int x))) elt z = some (.sh (.int (f x)), z)) :
    evE C ρ (.comp elt (.nm n) (.ls (.nvar k)) .none [n]) z = some (.fr (il (l.map f)), z) := by
  refine comp_ev hc hi ?_
  have : il (l.map f) = (il l).map fun d => match d with | .int x => .int (f x) | d => d := by
    unfold il; rw [List.map_map, List.map_map]; rfl
  rw [this]
  refine lcL_map _ _ fun d hd => ?_
  obtain ⟨x, hx, rfl⟩ := List.mem_map.mp hd
  unfold compF
  simp -implicitDefEqProofs only [setT, evC, bd_some, if_true, he x hx, R.toD]
theorem lowered_ok (h : P[i]? = some (B.lowered j)) (hj : P[j]? = some (B.content jc)) (hc : P[jc]? = some B.common_divisor) (a : List Int) (ho : okC a = true) : run P (K + 3) i [pl a] z = some (.fr (il (lowL a)), z) := by
  refine run_ret h rfl ?_ rfl
  have e1 := content_ok (K := K) (z := z) hj hc a
  generalize run P (K + 2) = C at *
  unfold B.lowered
  simp only
  show exB C _ [.sh (pl a), .un, .un] _ = _
  rw [exB]; simp -implicitDefEqProofs only [exS, freeze, froz, evE.eq_1, evE.eq_2, evE.eq_3, evE.eq_4, evE.eq_5, evE.eq_6, evE.eq_7, evE.eq_8, evE.eq_9, evE.eq_10, evE.eq_11, evE.eq_12, evE.eq_13, evE.eq_14, evE.eq_15, evE.eq_16, evE.eq_17, evE.eq_18, evRs, evO, evC, bd_some, bd_none, List.getElem?_cons_succ, List.getElem?_cons_zero, List.set_cons_succ, List.set_cons_zero, putR, setTs, setT, b_add, b_sub, b_band, c_lt, c_le, c_gt, c_ge, c_isn, c_notn, isn_int, isn_non, bi_abs, bi_int, bi_intb, bi_max2, bi_min2, toB_bl, toDs_nil, toDs_cons, R.toD, Option.map_some, Option.map_none, List.getD_cons_zero, List.getD_cons_succ, if_true, eq_int, ne_int, toDs, e1]
  unfold lowL
  have lg : (conL a).log2 < 9000 := of_decide_eq_true ho
  by_cases c : (conL a : Int) < 2
  · have ls : biR .list [.sh (pl a)] = some (.fr (il a)) := rfl
    rw [if_pos c, exB]; simp -implicitDefEqProofs only [exS, freeze, froz, evE.eq_1, evE.eq_2, evE.eq_3, evE.eq_4, evE.eq_5, evE.eq_6, evE.eq_7, evE.eq_8, evE.eq_9, evE.eq_10, evE.eq_11, evE.eq_12, evE.eq_13, evE.eq_14, evE.eq_15, evE.eq_16, evE.eq_17, evE.eq_18, evRs, evO, evC, bd_some, bd_none, List.getElem?_cons_succ, List.getElem?_cons_zero, List.set_cons_succ, List.set_cons_zero, putR, setTs, setT, b_add, b_sub, b_band, c_lt, c_le, c_gt, c_ge, c_isn, c_notn, isn_int, isn_non, bi_abs, bi_int, bi_intb, bi_max2, bi_min2, toB_bl, toDs_nil, toDs_cons, R.toD, Option.map_some, Option.map_none, List.getD_cons_zero, List.getD_cons_succ, if_true, eq_int, ne_int, decide_eq_true c]
    rw [exB]; simp -implicitDefEqProofs only [exS, freeze, froz, evE.eq_1, evE.eq_2, evE.eq_3, evE.eq_4, evE.eq_5, evE.eq_6, evE.eq_7, evE.eq_8, evE.eq_9, evE.eq_10, evE.eq_11, evE.eq_12, evE.eq_13, evE.eq_14, evE.eq_15, evE.eq_16, evE.eq_17, evE.eq_18, evRs, evO, evC, bd_some, bd_none, List.getElem?_cons_succ, List.getElem?_cons_zero, List.set_cons_succ, List.set_cons_zero, putR, setTs, setT, b_add, b_sub, b_band, c_lt, c_le, c_gt, c_ge, c_isn, c_notn, isn_int, isn_non, bi_abs, bi_int, bi_intb, bi_max2, bi_min2, toB_bl, toDs_nil, toDs_cons, R.toD, Option.map_some, Option.map_none, List.getD_cons_zero, List.getD_cons_succ, if_true, eq_int, ne_int, ls]
  · have e2 : evE C [.sh (pl a), .sh (.int (conL a)), .un] (.comp (.bin .fdiv (.nvar 2) (.nvar 1)) (.nm 2) (.ls (.nvar 0)) .none [2]) z = some (.fr (il (a.map fun x => x.fdiv (conL a))), z) := by
      refine comp_il (fun x => x.fdiv (conL a)) rfl (ls_sh rfl) fun x _ => ?_
      simp -implicitDefEqProofs only [wipeE, exS, freeze, froz, evE.eq_1, evE.eq_2, evE.eq_3, evE.eq_4, evE.eq_5, evE.eq_6, evE.eq_7, evE.eq_8, evE.eq_9, evE.eq_10, evE.eq_11, evE.eq_12, evE.eq_13, evE.eq_14, evE.eq_15, evE.eq_16, evE.eq_17, evE.eq_18, evRs, evO, evC, bd_some, bd_none, List.getElem?_cons_succ, List.getElem?_cons_zero, List.set_cons_succ, List.set_cons_zero, putR, setTs, setT, b_add, b_sub, b_band, c_lt, c_le, c_gt, c_ge, c_isn, c_notn, isn_int, isn_non, bi_abs, bi_int, bi_intb, bi_max2, bi_min2, toB_bl, toDs_nil, toDs_cons, R.toD, Option.map_some, Option.map_none, List.getD_cons_zero, List.getD_cons_succ, if_true, eq_int, ne_int, b_fdiv (i := x) (j := (conL a : Int)) ⟨by omega, by rw [Int.natAbs_natCast]; exact lg⟩]
    rw [if_neg c, exB]; simp -implicitDefEqProofs only [exS, freeze, froz, evE.eq_1, evE.eq_2, evE.eq_3, evE.eq_4, evE.eq_5, evE.eq_6, evE.eq_7, evE.eq_8, evE.eq_9, evE.eq_10, evE.eq_11, evE.eq_12, evE.eq_13, evE.eq_14, evE.eq_15, evE.eq_16, evE.eq_17, evE.eq_18, evRs, evO, evC, bd_some, bd_none, List.getElem?_cons_succ, List.getElem?_cons_zero, List.set_cons_succ, List.set_cons_zero, putR, setTs, setT, b_add, b_sub, b_band, c_lt, c_le, c_gt, c_ge, c_isn, c_notn, isn_int, isn_non, bi_abs, bi_int, bi_intb, bi_max2, bi_min2, toB_bl, toDs_nil, toDs_cons, R.toD, Option.map_some, Option.map_none, List.getD_cons_zero, List.getD_cons_succ, if_true, eq_int, ne_int, decide_eq_false c]
    rw [exB]; simp only
    rw [exB]; simp -implicitDefEqProofs only [exS, freeze, froz, evE.eq_1, evE.eq_2, evE.eq_3, evE.eq_4, evE.eq_5, evE.eq_6, evE.eq_7, evE.eq_8, evE.eq_9, evE.eq_10, evE.eq_11, evE.eq_12, evE.eq_13, evE.eq_14, evE.eq_15, evE.eq_16, evE.eq_17, evE.eq_18, evRs, evO, evC, bd_some, bd_none, List.getElem?_cons_succ, List.getElem?_cons_zero, List.set_cons_succ, List.set_cons_zero, putR, setTs, setT, b_add, b_sub, b_band, c_lt, c_le, c_gt, c_ge, c_isn, c_notn, isn_int, isn_non, bi_abs, bi_int, bi_intb, bi_max2, bi_min2, toB_bl, toDs_nil, toDs_cons, R.toD, Option.map_some, Option.map_none, List.getD_cons_zero, List.getD_cons_succ, if_true, eq_int, ne_int, e2]
theorem prim_b (e1 : C j [pl a] z = some (.fr (il (lowL a)), z)) (e2 : ∀ x : List Int, C jc [pl x, .int (-1)] z = some (.fr (il (scL x (-1))), z)) : exB C (B.primitive j jc).body [.sh (pl a), .un] z = some (.ret (.fr (il (primL a))), z) := by
  unfold B.primitive
  simp only
  rw [exB]; simp -implicitDefEqProofs only [exS, freeze, froz, evE.eq_1, evE.eq_2, evE.eq_3, evE.eq_4, evE.eq_5, evE.eq_6, evE.eq_7, evE.eq_8, evE.eq_9, evE.eq_10, evE.eq_11, evE.eq_12, evE.eq_13, evE.eq_14, evE.eq_15, evE.eq_16, evE.eq_17, evE.eq_18, evRs, evO, evC, bd_some, bd_none, List.getElem?_cons_succ, List.getElem?_cons_zero, List.set_cons_succ, List.set_cons_zero, putR, setTs, setT, b_add, b_sub, b_band, c_lt, c_le, c_gt, c_ge, c_isn, c_notn, isn_int, isn_non, bi_abs, bi_int, bi_intb, bi_max2, bi_min2, toB_bl, toDs_nil, toDs_cons, R.toD, Option.map_some, Option.map_none, List.getD_cons_zero, List.getD_cons_succ, if_true, eq_int, ne_int, toDs, e1]
  unfold primL
  generalize lowL a = l at *
  have nl := ne_il (x := .vw (il l)) (y := .fr []) (a := l) (b := []) rfl rfl
  by_cases n : l = []
  · rw [decide_eq_true n] at nl
    rw [if_neg (fun k => k.1 n), exB]; simp -implicitDefEqProofs only [exS, freeze, froz, evE.eq_1, evE.eq_2, evE.eq_3, evE.eq_4, evE.eq_5, evE.eq_6, evE.eq_7, evE.eq_8, evE.eq_9, evE.eq_10, evE.eq_11, evE.eq_12, evE.eq_13, evE.eq_14, evE.eq_15, evE.eq_16, evE.eq_17, evE.eq_18, evRs, evO, evC, bd_some, bd_none, List.getElem?_cons_succ, List.getElem?_cons_zero, List.set_cons_succ, List.set_cons_zero, putR, setTs, setT, b_add, b_sub, b_band, c_lt, c_le, c_gt, c_ge, c_isn, c_notn, isn_int, isn_non, bi_abs, bi_int, bi_intb, bi_max2, bi_min2, toB_bl, toDs_nil, toDs_cons, R.toD, Option.map_some, Option.map_none, List.getD_cons_zero, List.getD_cons_succ, if_true, eq_int, ne_int, toDs, nl, Bool.not_true]
    rw [exB]; simp only
    rw [exB]; simp -implicitDefEqProofs only [exS, freeze, froz, evE.eq_1, evE.eq_2, evE.eq_3, evE.eq_4, evE.eq_5, evE.eq_6, evE.eq_7, evE.eq_8, evE.eq_9, evE.eq_10, evE.eq_11, evE.eq_12, evE.eq_13, evE.eq_14, evE.eq_15, evE.eq_16, evE.eq_17, evE.eq_18, evRs, evO, evC, bd_some, bd_none, List.getElem?_cons_succ, List.getElem?_cons_zero, List.set_cons_succ, List.set_cons_zero, putR, setTs, setT, b_add, b_sub, b_band, c_lt, c_le, c_gt, c_ge, c_isn, c_notn, isn_int, isn_non, bi_abs, bi_int, bi_intb, bi_max2, bi_min2, toB_bl, toDs_nil, toDs_cons, R.toD, Option.map_some, Option.map_none, List.getD_cons_zero, List.getD_cons_succ, if_true, eq_int, ne_int]
  · rw [decide_eq_false n] at nl
    have sl : subR (.vw (il l)) (.sh (.int (-(1 : Int)))) z = some (.sh (.int (lastD l))) := sub_last_vw n
    by_cases c : lastD l < 0
    · have e2' := e2 l
      rw [if_pos ⟨n, c⟩, exB]; simp -implicitDefEqProofs only [exS, freeze, froz, evE.eq_1, evE.eq_2, evE.eq_3, evE.eq_4, evE.eq_5, evE.eq_6, evE.eq_7, evE.eq_8, evE.eq_9, evE.eq_10, evE.eq_11, evE.eq_12, evE.eq_13, evE.eq_14, evE.eq_15, evE.eq_16, evE.eq_17, evE.eq_18, evRs, evO, evC, bd_some, bd_none, List.getElem?_cons_succ, List.getElem?_cons_zero, List.set_cons_succ, List.set_cons_zero, putR, setTs, setT, b_add, b_sub, b_band, c_lt, c_le, c_gt, c_ge, c_isn, c_notn, isn_int, isn_non, bi_abs, bi_int, bi_intb, bi_max2, bi_min2, toB_bl, toDs_nil, toDs_cons, R.toD, Option.map_some, Option.map_none, List.getD_cons_zero, List.getD_cons_succ, if_true, eq_int, ne_int, toDs, nl, Bool.not_false, sl, decide_eq_true c]
      have n1 : (-(1 : Int)) = -1 := rfl
      rw [exB]; simp -implicitDefEqProofs only [exS, freeze, froz, evE.eq_1, evE.eq_2, evE.eq_3, evE.eq_4, evE.eq_5, evE.eq_6, evE.eq_7, evE.eq_8, evE.eq_9, evE.eq_10, evE.eq_11, evE.eq_12, evE.eq_13, evE.eq_14, evE.eq_15, evE.eq_16, evE.eq_17, evE.eq_18, evRs, evO, evC, bd_some, bd_none, List.getElem?_cons_succ, List.getElem?_cons_zero, List.set_cons_succ, List.set_cons_zero, putR, setTs, setT, b_add, b_sub, b_band, c_lt, c_le, c_gt, c_ge, c_isn, c_notn, isn_int, isn_non, bi_abs, bi_int, bi_intb, bi_max2, bi_min2, toB_bl, toDs_nil, toDs_cons, R.toD, Option.map_some, Option.map_none, List.getD_cons_zero, List.getD_cons_succ, if_true, eq_int, ne_int, toDs, n1, e2']
    · rw [if_neg (fun k => c k.2), exB]; simp -implicitDefEqProofs only [exS, freeze, froz, evE.eq_1, evE.eq_2, evE.eq_3, evE.eq_4, evE.eq_5, evE.eq_6, evE.eq_7, evE.eq_8, evE.eq_9, evE.eq_10, evE.eq_11, evE.eq_12, evE.eq_13, evE.eq_14, evE.eq_15, evE.eq_16, evE.eq_17, evE.eq_18, evRs, evO, evC, bd_some, bd_none, List.getElem?_cons_succ, List.getElem?_cons_zero, List.set_cons_succ, List.set_cons_zero, putR, setTs, setT, b_add, b_sub, b_band, c_lt, c_le, c_gt, c_ge, c_isn, c_notn, isn_int, isn_non, bi_abs, bi_int, bi_intb, bi_max2, bi_min2, toB_bl, toDs_nil, toDs_cons, R.toD, Option.map_some, Option.map_none, List.getD_cons_zero, List.getD_cons_succ, if_true, eq_int, ne_int, toDs, nl, Bool.not_false, sl, decide_eq_false c]
      rw [exB]; simp only
      rw [exB]; simp -implicitDefEqProofs only [exS, freeze, froz, evE.eq_1, evE.eq_2, evE.eq_3, evE.eq_4, evE.eq_5, evE.eq_6, evE.eq_7, evE.eq_8, evE.eq_9, evE.eq_10, evE.eq_11, evE.eq_12, evE.eq_13, evE.eq_14, evE.eq_15, evE.eq_16, evE.eq_17, evE.eq_18, evRs, evO, evC, bd_some, bd_none, List.getElem?_cons_succ, List.getElem?_cons_zero, List.set_cons_succ, List.set_cons_zero, putR, setTs, setT, b_add, b_sub, b_band, c_lt, c_le, c_gt, c_ge, c_isn, c_notn, isn_int, isn_non, bi_abs, bi_int, bi_intb, bi_max2, bi_min2, toB_bl, toDs_nil, toDs_cons, R.toD, Option.map_some, Option.map_none, List.getD_cons_zero, List.getD_cons_succ, if_true, eq_int, ne_int]
theorem primitive_ok (h : P[i]? = some (B.primitive j js)) (hj : P[j]? = some (B.lowered jp)) (hp : P[jp]? = some (B.content jc)) (hc : P[jc]? = some B.common_divisor) (hs : P[js]? = some (B.scaled jt)) (ht : P[jt]? = some B.trimmed) (a : List Int) (ho : okC a = true) : run P (K + 4) i [pl a] z = some (.fr (il (primL a)), z) := by
  have e2 : ∀ x : List Int, run P (K + 3) js [pl x, .int (-1)] z = some (.fr (il (scL x (-1))), z) := fun x => scaled_ok (K := K + 1) hs ht x (-1) okS_neg
  exact run_ret h rfl (prim_b (lowered_ok hj hp hc a ho) e2) rfl
/-! rests -/
def rsC : ME := .cmp .ge (.bi .len (.cons (.nvar 2) .nil)) (.bi .len (.cons (.nvar 1) .nil))
def rsB (i0 i1 : Nat) : MSs := (.cons (.asg [3] 4 (.bin .mul (.sub (.nvar 2) (.neg (.lit (.int (1))))) (.call i0 (.cons (.var 3) .nil)))) (.cons (.asg [] 5 (.bin .sub (.bi .len (.cons (.nvar 2) .nil)) (.bi .len (.cons (.nvar 1) .nil)))) (.cons (.asg [] 2 (.comp (.bin .mul (.nvar 7) (.bi .abs (.cons (.nvar 3) .nil))) (.nm 7) (.ls (.nvar 2)) .none [7])) (.cons (.loop [1] (.tp [6, 7]) (.en (.var 1)) (.cons (.augS [] .sub 2 (.bin .add (.nvar 5) (.nvar 6)) (.bin .mul (.nvar 4) (.nvar 7))) .nil)) (.cons (.asg [2] 2 (.call i1 (.cons (.var 2) .nil))) .nil)))))
theorem rest_inner {s0 s1 s3 : Slot} {n p : Nat} {x : Int} {b : List Int} (hb : ∀ y ∈ b, mulOk x y = true) (hp : p + b.length ≤ n) : ∀ (s : List Int) (j : Nat) (v : Int) (x' y' : Slot), s.length = n → 0 ≤ j → j < 0 + b.length → v ∈ b →
    lpF C (.tp [6, 7]) (.cons (.augS [] .sub 2 (.bin .add (.nvar 5) (.nvar 6)) (.bin .mul (.nvar 4) (.nvar 7))) .nil) (.tup [.int j, .int v]) [s0, s1, .ow (il s), s3, .sh (.int x), .sh (.int p), x', y'] z = some (.nx [s0, s1, .ow (il (dent s (p + j) (x * v))), s3, .sh (.int x), .sh (.int p), .sh (.int j), .sh (.int v)], z) ∧ (dent s (p + j) (x * v)).length = n := div_inner hb hp
theorem rest_loop {b : List Int} {s0 : Slot} (nb : b ≠ []) (hs : ∀ n : Int, C js [.int n] z = some (.sh (.int n.sign), z)) (ht : ∀ a : List Int, C jt [pl a] z = some (.fr (il (trimL a)), z)) : ∀ (n : Nat) (f r : List Int) (x4 x5 x6 x7 : Slot), noOw [s0, .sh (pl b), .ow (il f), .sh (.int (lastD b)), x4, x5, x6, x7] 7 = true → restGo b n f = some r →
    ∃ y4 y5 y6 y7, exS C (.whl [] rsC (rsB js jt)) [s0, .sh (pl b), .ow (il f), .sh (.int (lastD b)), x4, x5, x6, x7] z = some (.nx [s0, .sh (pl b), .ow (il r), .sh (.int (lastD b)), y4, y5, y6, y7], z)
  | 0, f, r, _, _, _, _, _, e => by cases e
  | n + 1, f, r, x4, x5, x6, x7, h7, e => by
    unfold restGo at e
    have ce : evE C [s0, .sh (pl b), .ow (il f), .sh (.int (lastD b)), x4, x5, x6, x7] rsC z = some (.sh (.bl (decide (b.length ≤ f.length))), z) := by
      unfold rsC
      have hd : decide ((b.length : Int) ≤ (f.length : Int)) = decide (b.length ≤ f.length) := decide_eq_decide.mpr (by omega)
      simp -implicitDefEqProofs only [exS, freeze, froz, evE.eq_1, evE.eq_2, evE.eq_3, evE.eq_4, evE.eq_5, evE.eq_6, evE.eq_7, evE.eq_8, evE.eq_9, evE.eq_10, evE.eq_11, evE.eq_12, evE.eq_13, evE.eq_14, evE.eq_15, evE.eq_16, evE.eq_17, evE.eq_18, evRs, evO, evC, bd_some, bd_none, List.getElem?_cons_succ, List.getElem?_cons_zero, List.set_cons_succ, List.set_cons_zero, putR, setTs, setT, b_add, b_sub, b_band, c_lt, c_le, c_gt, c_ge, c_isn, c_notn, isn_int, isn_non, bi_abs, bi_int, bi_intb, bi_max2, bi_min2, toB_bl, toDs_nil, toDs_cons, R.toD, Option.map_some, Option.map_none, List.getD_cons_zero, List.getD_cons_succ, if_true, eq_int, ne_int, len_sh, len_vw, hd]
    split at e
    · rename_i hle
      rw [decide_eq_true hle] at ce
      split at e
      · rename_i hok
        unfold okR at hok
        rw [Bool.and_eq_true] at hok
        obtain ⟨o1, o2⟩ := hok
        have nf : f ≠ [] := fun k => by
          subst k
          have := List.length_pos_iff.mpr nb
          rw [List.length_nil] at hle
          omega
        have sv : subR (.vw (il f)) (.sh (.int (-(1 : Int)))) z = some (.sh (.int (lastD f))) := sub_last_vw nf
        have m1 : mulOk (lastD f) (lastD b).sign = true := by
          have : (lastD b).sign = -1 ∨ (lastD b).sign = 0 ∨ (lastD b).sign = 1 := by
            rcases Int.lt_trichotomy (lastD b) 0 with k | k | k
            · exact .inl (Int.sign_eq_neg_one_of_neg k)
            · rw [k]; exact .inr (.inl rfl)
            · exact .inr (.inr (Int.sign_eq_one_of_pos k))
          rcases this with k | k | k <;> rw [k] <;> exact mr
        have ep : (f.length : Int) - (b.length : Int) = ((f.length - b.length : Nat) : Int) := by omega
        have cm : evE C [s0, .sh (pl b), .ow (il f), .sh (.int (lastD b)), .sh (.int (lastD f * (lastD b).sign)), .sh (.int ((f.length - b.length : Nat) : Int)), x6, x7] (.comp (.bin .mul (.nvar 7) (.bi .abs (.cons (.nvar 3) .nil))) (.nm 7) (.ls (.nvar 2)) .none [7]) z = some (.fr (il (f.map fun x => x * absI (lastD b))), z) := by
          refine comp_il (fun x => x * absI (lastD b)) ?_ ?_ fun x hx => ?_
          · show ((([7] : List Nat).all fun i => ([7] : List Nat).contains i) && ([7] : List Nat).all (noOw _)) = true
            have : noOw [s0, .sh (pl b), .ow (il f), .sh (.int (lastD b)), .sh (.int (lastD f * (lastD b).sign)), .sh (.int ((f.length - b.length : Nat) : Int)), x6, x7] 7 = true := h7
            simp [this]
          · rw [evI]; simp -implicitDefEqProofs only [exS, freeze, froz, evE.eq_1, evE.eq_2, evE.eq_3, evE.eq_4, evE.eq_5, evE.eq_6, evE.eq_7, evE.eq_8, evE.eq_9, evE.eq_10, evE.eq_11, evE.eq_12, evE.eq_13, evE.eq_14, evE.eq_15, evE.eq_16, evE.eq_17, evE.eq_18, evRs, evO, evC, bd_some, bd_none, List.getElem?_cons_succ, List.getElem?_cons_zero, List.set_cons_succ, List.set_cons_zero, putR, setTs, setT, b_add, b_sub, b_band, c_lt, c_le, c_gt, c_ge, c_isn, c_notn, isn_int, isn_non, bi_abs, bi_int, bi_intb, bi_max2, bi_min2, toB_bl, toDs_nil, toDs_cons, R.toD, Option.map_some, Option.map_none, List.getD_cons_zero, List.getD_cons_succ, if_true, eq_int, ne_int]; rfl
          · have m2 : mulOk x (absI (lastD b)) = true := List.all_eq_true.mp o1 x hx
            have ab : (if lastD b < 0 then -lastD b else lastD b) = absI (lastD b) := rfl
            simp -implicitDefEqProofs only [wipeE, exS, freeze, froz, evE.eq_1, evE.eq_2, evE.eq_3, evE.eq_4, evE.eq_5, evE.eq_6, evE.eq_7, evE.eq_8, evE.eq_9, evE.eq_10, evE.eq_11, evE.eq_12, evE.eq_13, evE.eq_14, evE.eq_15, evE.eq_16, evE.eq_17, evE.eq_18, evRs, evO, evC, bd_some, bd_none, List.getElem?_cons_succ, List.getElem?_cons_zero, List.set_cons_succ, List.set_cons_zero, putR, setTs, setT, b_add, b_sub, b_band, c_lt, c_le, c_gt, c_ge, c_isn, c_notn, isn_int, isn_non, bi_abs, bi_int, bi_intb, bi_max2, bi_min2, toB_bl, toDs_nil, toDs_cons, R.toD, Option.map_some, Option.map_none, List.getD_cons_zero, List.getD_cons_succ, if_true, eq_int, ne_int, ab, b_mul m2]
        obtain ⟨x', y', lp, _, hxy⟩ := enum_loop2 (z := z) (f := lpF C (.tp [6, 7]) (.cons (.augS [] .sub 2 (.bin .add (.nvar 5) (.nvar 6)) (.bin .mul (.nvar 4) (.nvar 7))) .nil))
          (fun s x y => [s0, .sh (pl b), .ow (il s), .sh (.int (lastD b)), .sh (.int (lastD f * (lastD b).sign)), .sh (.int ((f.length - b.length : Nat) : Int)), x, y]) (fun s o y => dent s (f.length - b.length + o) (lastD f * (lastD b).sign * y)) (fun s => s.length = f.length) b 0 (f.map fun x => x * absI (lastD b)) x6 x7 (List.length_map ..)
          (rest_inner (fun y hy => List.all_eq_true.mp o2 y hy) (by omega))
        -- the last slot is a number
        have hy' : noOw [s0, .sh (pl b), .ow (il (rstep b f)), .sh (.int (lastD b)), .sh (.int (lastD f * (lastD b).sign)), .sh (.int ((f.length - b.length : Nat) : Int)), x', y'] 7 = true := by
          rcases hxy with ⟨k, _⟩ | ⟨u, v, _, rfl⟩
          · exact absurd k nb
          · rfl
        obtain ⟨y4, y5, y6, y7, ih⟩ := rest_loop nb hs ht n _ r _ _ x' y' hy' e
        refine ⟨y4, y5, y6, y7, ?_⟩
        rw [whl_true (z1 := z) (z2 := z) (ρ' := [s0, .sh (pl b), .ow (il (rstep b f)), .sh (.int (lastD b)), .sh (.int (lastD f * (lastD b).sign)), .sh (.int ((f.length - b.length : Nat) : Int)), x', y'])]
        · exact ih
        · exact ce
        · simp -implicitDefEqProofs only [freeze]
          unfold rsB
          rw [exB]; simp -implicitDefEqProofs only [exS, freeze, froz, evE.eq_1, evE.eq_2, evE.eq_3, evE.eq_4, evE.eq_5, evE.eq_6, evE.eq_7, evE.eq_8, evE.eq_9, evE.eq_10, evE.eq_11, evE.eq_12, evE.eq_13, evE.eq_14, evE.eq_15, evE.eq_16, evE.eq_17, evE.eq_18, evRs, evO, evC, bd_some, bd_none, List.getElem?_cons_succ, List.getElem?_cons_zero, List.set_cons_succ, List.set_cons_zero, putR, setTs, setT, b_add, b_sub, b_band, c_lt, c_le, c_gt, c_ge, c_isn, c_notn, isn_int, isn_non, bi_abs, bi_int, bi_intb, bi_max2, bi_min2, toB_bl, toDs_nil, toDs_cons, R.toD, Option.map_some, Option.map_none, List.getD_cons_zero, List.getD_cons_succ, if_true, eq_int, ne_int, toDs, sv, hs, b_mul m1]
          rw [exB]; simp -implicitDefEqProofs only [exS, freeze, froz, evE.eq_1, evE.eq_2, evE.eq_3, evE.eq_4, evE.eq_5, evE.eq_6, evE.eq_7, evE.eq_8, evE.eq_9, evE.eq_10, evE.eq_11, evE.eq_12, evE.eq_13, evE.eq_14, evE.eq_15, evE.eq_16, evE.eq_17, evE.eq_18, evRs, evO, evC, bd_some, bd_none, List.getElem?_cons_succ, List.getElem?_cons_zero, List.set_cons_succ, List.set_cons_zero, putR, setTs, setT, b_add, b_sub, b_band, c_lt, c_le, c_gt, c_ge, c_isn, c_notn, isn_int, isn_non, bi_abs, bi_int, bi_intb, bi_max2, bi_min2, toB_bl, toDs_nil, toDs_cons, R.toD, Option.map_some, Option.map_none, List.getD_cons_zero, List.getD_cons_succ, if_true, eq_int, ne_int, len_sh, len_vw, ep]
          rw [exB]; simp -implicitDefEqProofs only [exS, freeze, cm, bd_some, putR, Option.map_some, List.set_cons_succ, List.set_cons_zero]
          rw [exB_nx (exS_loop rfl (en_sh rfl) lp)]
          have es : foldE (fun s o y => dent s (f.length - b.length + o) (lastD f * (lastD b).sign * y)) (f.map fun x => x * absI (lastD b)) 0 b = subAt b (f.map fun x => x * absI (lastD b)) (f.length - b.length) (lastD f * (lastD b).sign) := rfl
          rw [es]
          rw [exB]; simp -implicitDefEqProofs only [exS, freeze, froz, evE.eq_1, evE.eq_2, evE.eq_3, evE.eq_4, evE.eq_5, evE.eq_6, evE.eq_7, evE.eq_8, evE.eq_9, evE.eq_10, evE.eq_11, evE.eq_12, evE.eq_13, evE.eq_14, evE.eq_15, evE.eq_16, evE.eq_17, evE.eq_18, evRs, evO, evC, bd_some, bd_none, List.getElem?_cons_succ, List.getElem?_cons_zero, List.set_cons_succ, List.set_cons_zero, putR, setTs, setT, b_add, b_sub, b_band, c_lt, c_le, c_gt, c_ge, c_isn, c_notn, isn_int, isn_non, bi_abs, bi_int, bi_intb, bi_max2, bi_min2, toB_bl, toDs_nil, toDs_cons, R.toD, Option.map_some, Option.map_none, List.getD_cons_zero, List.getD_cons_succ, if_true, eq_int, ne_int, toDs, ht]
          rw [exB]
          rfl
      · cases e
    · rename_i hle
      rw [decide_eq_false hle] at ce
      cases e
      exact ⟨x4, x5, x6, x7, whl_false (z1 := z) ce⟩
end
end Mn

/-! Mini: common divisors, square-free parts; turned, backward ones, powers of the letter. -/
namespace Mn
open PySem L2 Z
section
variable {P : List Fn} {K i j jc jt jp js jl jr jd jm : Nat} {z : Zs} {C : CallF} {a : List Int}
theorem rest_b (hs : ∀ n : Int, C js [.int n] z = some (.sh (.int n.sign), z)) (ht : ∀ a : List Int, C jt [pl a] z = some (.fr (il (trimL a)), z)) (hl : ∀ a : List Int, okC a = true → C jl [pl a] z = some (.fr (il (lowL a)), z))
    {b : List Int} (nb : b ≠ []) {n : Nat} {r : List Int} (e : restGo b n a = some r) (ho : okC r = true) : exB C (B.rest_of js jt jl).body [.sh (pl a), .sh (pl b), .un, .un, .un, .un, .un, .un] z = some (.ret (.fr (il (lowL r))), z) := by
  show exB C (.cons _ (.cons _ (.cons _ (.cons (.whl [] rsC (rsB js jt)) _)))) _ _ = _
  have eqb := eq_il (x := .sh (pl b)) (y := .fr []) (a := b) (b := []) rfl rfl
  have lst : biR .list [.sh (pl a)] = some (.fr (il a)) := rfl
  have sl : subR (.sh (pl b)) (.sh (.int (-(1 : Int)))) z = some (.sh (.int (lastD b))) := sub_last_sh nb
  rw [exB]; simp -implicitDefEqProofs only [exS, freeze, froz, evE.eq_1, evE.eq_2, evE.eq_3, evE.eq_4, evE.eq_5, evE.eq_6, evE.eq_7, evE.eq_8, evE.eq_9, evE.eq_10, evE.eq_11, evE.eq_12, evE.eq_13, evE.eq_14, evE.eq_15, evE.eq_16, evE.eq_17, evE.eq_18, evRs, evO, evC, bd_some, bd_none, List.getElem?_cons_succ, List.getElem?_cons_zero, List.set_cons_succ, List.set_cons_zero, putR, setTs, setT, b_add, b_sub, b_band, c_lt, c_le, c_gt, c_ge, c_isn, c_notn, isn_int, isn_non, bi_abs, bi_int, bi_intb, bi_max2, bi_min2, toB_bl, toDs_nil, toDs_cons, R.toD, Option.map_some, Option.map_none, List.getD_cons_zero, List.getD_cons_succ, if_true, eq_int, ne_int, toDs, eqb, decide_eq_false nb]
  rw [exB]; simp only
  rw [exB]; simp -implicitDefEqProofs only [exS, freeze, froz, evE.eq_1, evE.eq_2, evE.eq_3, evE.eq_4, evE.eq_5, evE.eq_6, evE.eq_7, evE.eq_8, evE.eq_9, evE.eq_10, evE.eq_11, evE.eq_12, evE.eq_13, evE.eq_14, evE.eq_15, evE.eq_16, evE.eq_17, evE.eq_18, evRs, evO, evC, bd_some, bd_none, List.getElem?_cons_succ, List.getElem?_cons_zero, List.set_cons_succ, List.set_cons_zero, putR, setTs, setT, b_add, b_sub, b_band, c_lt, c_le, c_gt, c_ge, c_isn, c_notn, isn_int, isn_non, bi_abs, bi_int, bi_intb, bi_max2, bi_min2, toB_bl, toDs_nil, toDs_cons, R.toD, Option.map_some, Option.map_none, List.getD_cons_zero, List.getD_cons_succ, if_true, eq_int, ne_int, lst]
  rw [exB]; simp -implicitDefEqProofs only [exS, freeze, froz, evE.eq_1, evE.eq_2, evE.eq_3, evE.eq_4, evE.eq_5, evE.eq_6, evE.eq_7, evE.eq_8, evE.eq_9, evE.eq_10, evE.eq_11, evE.eq_12, evE.eq_13, evE.eq_14, evE.eq_15, evE.eq_16, evE.eq_17, evE.eq_18, evRs, evO, evC, bd_some, bd_none, List.getElem?_cons_succ, List.getElem?_cons_zero, List.set_cons_succ, List.set_cons_zero, putR, setTs, setT, b_add, b_sub, b_band, c_lt, c_le, c_gt, c_ge, c_isn, c_notn, isn_int, isn_non, bi_abs, bi_int, bi_intb, bi_max2, bi_min2, toB_bl, toDs_nil, toDs_cons, R.toD, Option.map_some, Option.map_none, List.getD_cons_zero, List.getD_cons_succ, if_true, eq_int, ne_int, sl]
  obtain ⟨y4, y5, y6, y7, w⟩ := rest_loop (s0 := .sh (pl a)) nb hs ht n a r .un .un .un .un rfl e
  rw [exB_nx w]
  rw [exB]; simp -implicitDefEqProofs only [exS, freeze, froz, evE.eq_1, evE.eq_2, evE.eq_3, evE.eq_4, evE.eq_5, evE.eq_6, evE.eq_7, evE.eq_8, evE.eq_9, evE.eq_10, evE.eq_11, evE.eq_12, evE.eq_13, evE.eq_14, evE.eq_15, evE.eq_16, evE.eq_17, evE.eq_18, evRs, evO, evC, bd_some, bd_none, List.getElem?_cons_succ, List.getElem?_cons_zero, List.set_cons_succ, List.set_cons_zero, putR, setTs, setT, b_add, b_sub, b_band, c_lt, c_le, c_gt, c_ge, c_isn, c_notn, isn_int, isn_non, bi_abs, bi_int, bi_intb, bi_max2, bi_min2, toB_bl, toDs_nil, toDs_cons, R.toD, Option.map_some, Option.map_none, List.getD_cons_zero, List.getD_cons_succ, if_true, eq_int, ne_int, toDs, hl r ho]
theorem com_loop (hp : ∀ a : List Int, okC a = true → C jp [pl a] z = some (.fr (il (primL a)), z)) (hr : ∀ (a b r : List Int) (n : Nat), b ≠ [] → restGo b n a = some r → okC r = true → C jr [pl a, pl b] z = some (.fr (il (lowL r)), z)) : ∀ (n : Nat) (a b g : List Int), PP a → PP b → commonGo n a b = some g →
    ∃ y, exS C (.whl [] (.cmp .ne (.nvar 1) (.lst .nil)) (.cons (.par [1, 0, 1] [0, 1] (.cons (.var 1) (.cons (.call jp (.cons (.call jr (.cons (.var 0) (.cons (.var 1) .nil))) .nil)) .nil))) .nil)) [.sh (pl a), .sh (pl b)] z = some (.nx [.sh (pl g), y], z)
  | 0, a, b, g, _, _, e => by cases e
  | n + 1, a, b, g, pa, pb, e => by
    unfold commonGo at e
    have nb0 := ne_il (x := .sh (pl b)) (y := .fr []) (a := b) (b := []) rfl rfl
    split at e
    · rename_i nb
      cases e
      rw [decide_eq_true nb] at nb0
      refine ⟨_, whl_false (z1 := z) ?_⟩
      simp -implicitDefEqProofs only [exS, freeze, froz, evE.eq_1, evE.eq_2, evE.eq_3, evE.eq_4, evE.eq_5, evE.eq_6, evE.eq_7, evE.eq_8, evE.eq_9, evE.eq_10, evE.eq_11, evE.eq_12, evE.eq_13, evE.eq_14, evE.eq_15, evE.eq_16, evE.eq_17, evE.eq_18, evRs, evO, evC, bd_some, bd_none, List.getElem?_cons_succ, List.getElem?_cons_zero, List.set_cons_succ, List.set_cons_zero, putR, setTs, setT, b_add, b_sub, b_band, c_lt, c_le, c_gt, c_ge, c_isn, c_notn, isn_int, isn_non, bi_abs, bi_int, bi_intb, bi_max2, bi_min2, toB_bl, toDs_nil, toDs_cons, R.toD, Option.map_some, Option.map_none, List.getD_cons_zero, List.getD_cons_succ, if_true, eq_int, ne_int, toDs, nb0, Bool.not_true]
    · rename_i nb
      rw [decide_eq_false nb] at nb0
      split at e
      · rename_i r hr'
        split at e
        · rename_i oc
          obtain ⟨_, _, _, _, _, t⟩ := rest_sem nb pb.1 _ _ _ hr'
          have tr := t pa.1
          obtain ⟨p', _⟩ := prim_spec (low_tr tr)
          obtain ⟨y, ih⟩ := com_loop hp hr n b (primL (lowL r)) g pb p' e
          have ol : okC (lowL r) = true := by
            unfold okC
            by_cases k : r = []
            · subst k; decide
            · rw [con_low (tr_ne tr k)]; decide
          refine ⟨y, ?_⟩
          rw [whl_true (z1 := z) (z2 := z) (ρ' := [.sh (pl b), .sh (pl (primL (lowL r)))])]
          · exact ih
          · simp -implicitDefEqProofs only [exS, freeze, froz, evE.eq_1, evE.eq_2, evE.eq_3, evE.eq_4, evE.eq_5, evE.eq_6, evE.eq_7, evE.eq_8, evE.eq_9, evE.eq_10, evE.eq_11, evE.eq_12, evE.eq_13, evE.eq_14, evE.eq_15, evE.eq_16, evE.eq_17, evE.eq_18, evRs, evO, evC, bd_some, bd_none, List.getElem?_cons_succ, List.getElem?_cons_zero, List.set_cons_succ, List.set_cons_zero, putR, setTs, setT, b_add, b_sub, b_band, c_lt, c_le, c_gt, c_ge, c_isn, c_notn, isn_int, isn_non, bi_abs, bi_int, bi_intb, bi_max2, bi_min2, toB_bl, toDs_nil, toDs_cons, R.toD, Option.map_some, Option.map_none, List.getD_cons_zero, List.getD_cons_succ, if_true, eq_int, ne_int, toDs, nb0, Bool.not_false]
          · rw [exB]; simp -implicitDefEqProofs only [exS, freeze, froz, evE.eq_1, evE.eq_2, evE.eq_3, evE.eq_4, evE.eq_5, evE.eq_6, evE.eq_7, evE.eq_8, evE.eq_9, evE.eq_10, evE.eq_11, evE.eq_12, evE.eq_13, evE.eq_14, evE.eq_15, evE.eq_16, evE.eq_17, evE.eq_18, evRs, evO, evC, bd_some, bd_none, List.getElem?_cons_succ, List.getElem?_cons_zero, List.set_cons_succ, List.set_cons_zero, putR, setTs, setT, b_add, b_sub, b_band, c_lt, c_le, c_gt, c_ge, c_isn, c_notn, isn_int, isn_non, bi_abs, bi_int, bi_intb, bi_max2, bi_min2, toB_bl, toDs_nil, toDs_cons, R.toD, Option.map_some, Option.map_none, List.getD_cons_zero, List.getD_cons_succ, if_true, eq_int, ne_int, toDs, hr a b r _ nb hr' oc]
            simp -implicitDefEqProofs only [exS, freeze, froz, evE.eq_1, evE.eq_2, evE.eq_3, evE.eq_4, evE.eq_5, evE.eq_6, evE.eq_7, evE.eq_8, evE.eq_9, evE.eq_10, evE.eq_11, evE.eq_12, evE.eq_13, evE.eq_14, evE.eq_15, evE.eq_16, evE.eq_17, evE.eq_18, evRs, evO, evC, bd_some, bd_none, List.getElem?_cons_succ, List.getElem?_cons_zero, List.set_cons_succ, List.set_cons_zero, putR, setTs, setT, b_add, b_sub, b_band, c_lt, c_le, c_gt, c_ge, c_isn, c_notn, isn_int, isn_non, bi_abs, bi_int, bi_intb, bi_max2, bi_min2, toB_bl, toDs_nil, toDs_cons, R.toD, Option.map_some, Option.map_none, List.getD_cons_zero, List.getD_cons_succ, if_true, eq_int, ne_int, toDs, hp (lowL r) ol]
            rw [exB]
        · cases e
      · cases e
theorem com_b (hp : ∀ a : List Int, okC a = true → C jp [pl a] z = some (.fr (il (primL a)), z)) (hr : ∀ (a b r : List Int) (n : Nat), b ≠ [] → restGo b n a = some r → okC r = true → C jr [pl a, pl b] z = some (.fr (il (lowL r)), z))
    {b g : List Int} (ta : Tr a) (tb : Tr b) (e : comL a b = some g) : exB C (B.common jp jr).body [.sh (pl a), .sh (pl b)] z = some (.ret (.sh (pl g)), z) := by
  unfold comL at e
  split at e
  · rename_i h
    unfold B.common
    simp only
    obtain ⟨y, w⟩ := com_loop hp hr _ _ _ g (prim_spec ta).1 (prim_spec tb).1 e
    rw [exB]; simp -implicitDefEqProofs only [exS, freeze, froz, evE.eq_1, evE.eq_2, evE.eq_3, evE.eq_4, evE.eq_5, evE.eq_6, evE.eq_7, evE.eq_8, evE.eq_9, evE.eq_10, evE.eq_11, evE.eq_12, evE.eq_13, evE.eq_14, evE.eq_15, evE.eq_16, evE.eq_17, evE.eq_18, evRs, evO, evC, bd_some, bd_none, List.getElem?_cons_succ, List.getElem?_cons_zero, List.set_cons_succ, List.set_cons_zero, putR, setTs, setT, b_add, b_sub, b_band, c_lt, c_le, c_gt, c_ge, c_isn, c_notn, isn_int, isn_non, bi_abs, bi_int, bi_intb, bi_max2, bi_min2, toB_bl, toDs_nil, toDs_cons, R.toD, Option.map_some, Option.map_none, List.getD_cons_zero, List.getD_cons_succ, if_true, eq_int, ne_int, toDs, hp a h.1, hp b h.2]
    refine (exB_nx w).trans ?_
    rw [exB]; simp -implicitDefEqProofs only [exS, freeze, froz, evE.eq_1, evE.eq_2, evE.eq_3, evE.eq_4, evE.eq_5, evE.eq_6, evE.eq_7, evE.eq_8, evE.eq_9, evE.eq_10, evE.eq_11, evE.eq_12, evE.eq_13, evE.eq_14, evE.eq_15, evE.eq_16, evE.eq_17, evE.eq_18, evRs, evO, evC, bd_some, bd_none, List.getElem?_cons_succ, List.getElem?_cons_zero, List.set_cons_succ, List.set_cons_zero, putR, setTs, setT, b_add, b_sub, b_band, c_lt, c_le, c_gt, c_ge, c_isn, c_notn, isn_int, isn_non, bi_abs, bi_int, bi_intb, bi_max2, bi_min2, toB_bl, toDs_nil, toDs_cons, R.toD, Option.map_some, Option.map_none, List.getD_cons_zero, List.getD_cons_succ, if_true, eq_int, ne_int]
  · cases e
theorem sf_b (hp : ∀ a : List Int, okC a = true → C jp [pl a] z = some (.fr (il (primL a)), z)) (hd : ∀ (a b : List Int) (n : Nat) (o : Option (List Int)), divL n a b = some o → C jd [pl a, pl b] z = some (oL o, z)) (hm : ∀ a b g : List Int, Tr a → Tr b → comL a b = some g → C jm [pl a, pl b] z = some (.sh (pl g), z)) (hs : ∀ a : List Int, a.length ≤ 16777216 → C js [pl a] z = some (.fr (il (slopeL a)), z))
    {s : List Int} (ta : Tr a) (la : a.length ≤ 16777216) (e : sfL a = some s) : exB C (B.square_free jp jd jm js).body [.sh (pl a), .un] z = some (.ret (.fr (il s)), z) := by
  unfold sfL at e
  split at e
  · rename_i oc
    have pu := (prim_spec ta).1
    have lu := prim_len ta
    unfold B.square_free
    simp only
    rw [exB]; simp -implicitDefEqProofs only [exS, freeze, froz, evE.eq_1, evE.eq_2, evE.eq_3, evE.eq_4, evE.eq_5, evE.eq_6, evE.eq_7, evE.eq_8, evE.eq_9, evE.eq_10, evE.eq_11, evE.eq_12, evE.eq_13, evE.eq_14, evE.eq_15, evE.eq_16, evE.eq_17, evE.eq_18, evRs, evO, evC, bd_some, bd_none, List.getElem?_cons_succ, List.getElem?_cons_zero, List.set_cons_succ, List.set_cons_zero, putR, setTs, setT, b_add, b_sub, b_band, c_lt, c_le, c_gt, c_ge, c_isn, c_notn, isn_int, isn_non, bi_abs, bi_int, bi_intb, bi_max2, bi_min2, toB_bl, toDs_nil, toDs_cons, R.toD, Option.map_some, Option.map_none, List.getD_cons_zero, List.getD_cons_succ, if_true, eq_int, ne_int, toDs, hp a oc]
    generalize hu : primL a = u at pu lu e ⊢
    split at e
    · rename_i l2
      have d : decide ((u.length : Int) < 2) = true := _root_.decide_eq_true (by omega)
      cases e
      rw [exB]; simp -implicitDefEqProofs only [exS, freeze, froz, evE.eq_1, evE.eq_2, evE.eq_3, evE.eq_4, evE.eq_5, evE.eq_6, evE.eq_7, evE.eq_8, evE.eq_9, evE.eq_10, evE.eq_11, evE.eq_12, evE.eq_13, evE.eq_14, evE.eq_15, evE.eq_16, evE.eq_17, evE.eq_18, evRs, evO, evC, bd_some, bd_none, List.getElem?_cons_succ, List.getElem?_cons_zero, List.set_cons_succ, List.set_cons_zero, putR, setTs, setT, b_add, b_sub, b_band, c_lt, c_le, c_gt, c_ge, c_isn, c_notn, isn_int, isn_non, bi_abs, bi_int, bi_intb, bi_max2, bi_min2, toB_bl, toDs_nil, toDs_cons, R.toD, Option.map_some, Option.map_none, List.getD_cons_zero, List.getD_cons_succ, if_true, eq_int, ne_int, len_vw, d]
      rw [exB]; simp -implicitDefEqProofs only [exS, freeze, froz, evE.eq_1, evE.eq_2, evE.eq_3, evE.eq_4, evE.eq_5, evE.eq_6, evE.eq_7, evE.eq_8, evE.eq_9, evE.eq_10, evE.eq_11, evE.eq_12, evE.eq_13, evE.eq_14, evE.eq_15, evE.eq_16, evE.eq_17, evE.eq_18, evRs, evO, evC, bd_some, bd_none, List.getElem?_cons_succ, List.getElem?_cons_zero, List.set_cons_succ, List.set_cons_zero, putR, setTs, setT, b_add, b_sub, b_band, c_lt, c_le, c_gt, c_ge, c_isn, c_notn, isn_int, isn_non, bi_abs, bi_int, bi_intb, bi_max2, bi_min2, toB_bl, toDs_nil, toDs_cons, R.toD, Option.map_some, Option.map_none, List.getD_cons_zero, List.getD_cons_succ, if_true, eq_int, ne_int]
    · rename_i l2
      have d : decide ((u.length : Int) < 2) = false := decide_eq_false (by omega)
      split at e
      · rename_i g hg
        split at e
        · rename_i d' hd'
          split at e
          · rename_i od
            cases e
            rw [exB]; simp -implicitDefEqProofs only [exS, freeze, froz, evE.eq_1, evE.eq_2, evE.eq_3, evE.eq_4, evE.eq_5, evE.eq_6, evE.eq_7, evE.eq_8, evE.eq_9, evE.eq_10, evE.eq_11, evE.eq_12, evE.eq_13, evE.eq_14, evE.eq_15, evE.eq_16, evE.eq_17, evE.eq_18, evRs, evO, evC, bd_some, bd_none, List.getElem?_cons_succ, List.getElem?_cons_zero, List.set_cons_succ, List.set_cons_zero, putR, setTs, setT, b_add, b_sub, b_band, c_lt, c_le, c_gt, c_ge, c_isn, c_notn, isn_int, isn_non, bi_abs, bi_int, bi_intb, bi_max2, bi_min2, toB_bl, toDs_nil, toDs_cons, R.toD, Option.map_some, Option.map_none, List.getD_cons_zero, List.getD_cons_succ, if_true, eq_int, ne_int, len_vw, d]
            rw [exB]; simp only
            rw [exB]; simp -implicitDefEqProofs only [exS, freeze, froz, evE.eq_1, evE.eq_2, evE.eq_3, evE.eq_4, evE.eq_5, evE.eq_6, evE.eq_7, evE.eq_8, evE.eq_9, evE.eq_10, evE.eq_11, evE.eq_12, evE.eq_13, evE.eq_14, evE.eq_15, evE.eq_16, evE.eq_17, evE.eq_18, evRs, evO, evC, bd_some, bd_none, List.getElem?_cons_succ, List.getElem?_cons_zero, List.set_cons_succ, List.set_cons_zero, putR, setTs, setT, b_add, b_sub, b_band, c_lt, c_le, c_gt, c_ge, c_isn, c_notn, isn_int, isn_non, bi_abs, bi_int, bi_intb, bi_max2, bi_min2, toB_bl, toDs_nil, toDs_cons, R.toD, Option.map_some, Option.map_none, List.getD_cons_zero, List.getD_cons_succ, if_true, eq_int, ne_int, toDs, hs u (by omega)]
            simp -implicitDefEqProofs only [exS, freeze, froz, evE.eq_1, evE.eq_2, evE.eq_3, evE.eq_4, evE.eq_5, evE.eq_6, evE.eq_7, evE.eq_8, evE.eq_9, evE.eq_10, evE.eq_11, evE.eq_12, evE.eq_13, evE.eq_14, evE.eq_15, evE.eq_16, evE.eq_17, evE.eq_18, evRs, evO, evC, bd_some, bd_none, List.getElem?_cons_succ, List.getElem?_cons_zero, List.set_cons_succ, List.set_cons_zero, putR, setTs, setT, b_add, b_sub, b_band, c_lt, c_le, c_gt, c_ge, c_isn, c_notn, isn_int, isn_non, bi_abs, bi_int, bi_intb, bi_max2, bi_min2, toB_bl, toDs_nil, toDs_cons, R.toD, Option.map_some, Option.map_none, List.getD_cons_zero, List.getD_cons_succ, if_true, eq_int, ne_int, toDs, hm u (slopeL u) g pu.1 (tr_trim _) hg]
            simp -implicitDefEqProofs only [exS, freeze, froz, evE.eq_1, evE.eq_2, evE.eq_3, evE.eq_4, evE.eq_5, evE.eq_6, evE.eq_7, evE.eq_8, evE.eq_9, evE.eq_10, evE.eq_11, evE.eq_12, evE.eq_13, evE.eq_14, evE.eq_15, evE.eq_16, evE.eq_17, evE.eq_18, evRs, evO, evC, bd_some, bd_none, List.getElem?_cons_succ, List.getElem?_cons_zero, List.set_cons_succ, List.set_cons_zero, putR, setTs, setT, b_add, b_sub, b_band, c_lt, c_le, c_gt, c_ge, c_isn, c_notn, isn_int, isn_non, bi_abs, bi_int, bi_intb, bi_max2, bi_min2, toB_bl, toDs_nil, toDs_cons, R.toD, Option.map_some, Option.map_none, List.getD_cons_zero, List.getD_cons_succ, if_true, eq_int, ne_int, toDs, hd u g _ _ hd', oL]
            simp -implicitDefEqProofs only [exS, freeze, froz, evE.eq_1, evE.eq_2, evE.eq_3, evE.eq_4, evE.eq_5, evE.eq_6, evE.eq_7, evE.eq_8, evE.eq_9, evE.eq_10, evE.eq_11, evE.eq_12, evE.eq_13, evE.eq_14, evE.eq_15, evE.eq_16, evE.eq_17, evE.eq_18, evRs, evO, evC, bd_some, bd_none, List.getElem?_cons_succ, List.getElem?_cons_zero, List.set_cons_succ, List.set_cons_zero, putR, setTs, setT, b_add, b_sub, b_band, c_lt, c_le, c_gt, c_ge, c_isn, c_notn, isn_int, isn_non, bi_abs, bi_int, bi_intb, bi_max2, bi_min2, toB_bl, toDs_nil, toDs_cons, R.toD, Option.map_some, Option.map_none, List.getD_cons_zero, List.getD_cons_succ, if_true, eq_int, ne_int, toDs, hp d' od]
          · cases e
        · cases e
      · cases e
  · cases e
/-! turned -/
def tnL : Nat → List Int → List Int
  | _, [] => []
  | k, x :: l => (if k % 2 = 0 then x else -x) :: tnL (k + 1) l
theorem tn_zip : ∀ (b : List Int) (k : Nat), (b.zipIdx k).map (fun p => if p.2 % 2 = 0 then p.1 else -p.1) = tnL k b
  | [], _ => rfl
  | v :: b, k => by
    rw [List.zipIdx_cons, List.map_cons, tn_zip b (k + 1)]
    rfl
theorem bit1 (j : Nat) : Builtin.bitAnd (j : Int) 1 = ((j % 2 : Nat) : Int) := by
  have : Builtin.bitAnd (j : Int) 1 = ((j &&& 1 : Nat) : Int) := by
    unfold Builtin.bitAnd
    rw [_root_.decide_eq_true (show (0 : Int) ≤ (j : Int) by omega), _root_.decide_eq_true (show (0 : Int) ≤ 1 by decide)]
    rfl
  rw [this, Nat.and_one_is_mod]
theorem turned_b (a : List Int) : exB C B.turned.body [.sh (pl a), .un, .un] z = some (.ret (.fr (il (tnL 0 a))), z) := by
  unfold B.turned
  simp only
  have e : evE C [.sh (pl a), .un, .un] (.comp (.ite (.cmp .eq (.bin .band (.nvar 1) (.lit (.int (1)))) (.lit (.int (0)))) (.var 2) (.neg (.var 2))) (.tp [1, 2]) (.en (.nvar 0)) .none [1, 2]) z = some (.fr (il (tnL 0 a)), z) := by
    refine comp_ev rfl (en_nv rfl) ?_
    rw [← tn_zip]
    refine lcL_en (fun j v => if j % 2 = 0 then v else -v) a 0 fun j v _ _ _ => ?_
    unfold compF
    simp -implicitDefEqProofs only [wipeE, setT, setTs, List.set_cons_succ, List.set_cons_zero, evC, bd_some, if_true]
    by_cases h : j % 2 = 0
    · have d : decide (((j % 2 : Nat) : Int) = 0) = true := _root_.decide_eq_true (by omega)
      rw [if_pos h]
      simp -implicitDefEqProofs only [exS, freeze, froz, evE.eq_1, evE.eq_2, evE.eq_3, evE.eq_4, evE.eq_5, evE.eq_6, evE.eq_7, evE.eq_8, evE.eq_9, evE.eq_10, evE.eq_11, evE.eq_12, evE.eq_13, evE.eq_14, evE.eq_15, evE.eq_16, evE.eq_17, evE.eq_18, evRs, evO, evC, bd_some, bd_none, List.getElem?_cons_succ, List.getElem?_cons_zero, List.set_cons_succ, List.set_cons_zero, putR, setTs, setT, b_add, b_sub, b_band, c_lt, c_le, c_gt, c_ge, c_isn, c_notn, isn_int, isn_non, bi_abs, bi_int, bi_intb, bi_max2, bi_min2, toB_bl, toDs_nil, toDs_cons, R.toD, Option.map_some, Option.map_none, List.getD_cons_zero, List.getD_cons_succ, if_true, eq_int, ne_int, bit1, d]
    · have d : decide (((j % 2 : Nat) : Int) = 0) = false := decide_eq_false (by omega)
      rw [if_neg h]
      simp -implicitDefEqProofs only [exS, freeze, froz, evE.eq_1, evE.eq_2, evE.eq_3, evE.eq_4, evE.eq_5, evE.eq_6, evE.eq_7, evE.eq_8, evE.eq_9, evE.eq_10, evE.eq_11, evE.eq_12, evE.eq_13, evE.eq_14, evE.eq_15, evE.eq_16, evE.eq_17, evE.eq_18, evRs, evO, evC, bd_some, bd_none, List.getElem?_cons_succ, List.getElem?_cons_zero, List.set_cons_succ, List.set_cons_zero, putR, setTs, setT, b_add, b_sub, b_band, c_lt, c_le, c_gt, c_ge, c_isn, c_notn, isn_int, isn_non, bi_abs, bi_int, bi_intb, bi_max2, bi_min2, toB_bl, toDs_nil, toDs_cons, R.toD, Option.map_some, Option.map_none, List.getD_cons_zero, List.getD_cons_succ, if_true, eq_int, ne_int, bit1, d]
  rw [exB]; simp -implicitDefEqProofs only [exS, freeze, froz, evE.eq_1, evE.eq_2, evE.eq_3, evE.eq_4, evE.eq_5, evE.eq_6, evE.eq_7, evE.eq_8, evE.eq_9, evE.eq_10, evE.eq_11, evE.eq_12, evE.eq_13, evE.eq_14, evE.eq_15, evE.eq_16, evE.eq_17, evE.eq_18, evRs, evO, evC, bd_some, bd_none, List.getElem?_cons_succ, List.getElem?_cons_zero, List.set_cons_succ, List.set_cons_zero, putR, setTs, setT, b_add, b_sub, b_band, c_lt, c_le, c_gt, c_ge, c_isn, c_notn, isn_int, isn_non, bi_abs, bi_int, bi_intb, bi_max2, bi_min2, toB_bl, toDs_nil, toDs_cons, R.toD, Option.map_some, Option.map_none, List.getD_cons_zero, List.getD_cons_succ, if_true, eq_int, ne_int, e]
theorem back_b (ht : ∀ a : List Int, C jt [pl a] z = some (.fr (il (trimL a)), z)) (a : List Int) : exB C (B.backward jt).body [.sh (pl a)] z = some (.ret (.fr (il (trimL a.reverse))), z) := by
  unfold B.backward
  simp only
  have er : (il a).reverse = il a.reverse := by unfold il; rw [← List.map_reverse]
  have h : C jt [.lst (il a.reverse)] z = some (.fr (il (trimL a.reverse)), z) := ht _
  rw [exB]; simp -implicitDefEqProofs only [exS, freeze, froz, evE.eq_1, evE.eq_2, evE.eq_3, evE.eq_4, evE.eq_5, evE.eq_6, evE.eq_7, evE.eq_8, evE.eq_9, evE.eq_10, evE.eq_11, evE.eq_12, evE.eq_13, evE.eq_14, evE.eq_15, evE.eq_16, evE.eq_17, evE.eq_18, evRs, evO, evC, bd_some, bd_none, List.getElem?_cons_succ, List.getElem?_cons_zero, List.set_cons_succ, List.set_cons_zero, putR, setTs, setT, b_add, b_sub, b_band, c_lt, c_le, c_gt, c_ge, c_isn, c_notn, isn_int, isn_non, bi_abs, bi_int, bi_intb, bi_max2, bi_min2, toB_bl, toDs_nil, toDs_cons, R.toD, Option.map_some, Option.map_none, List.getD_cons_zero, List.getD_cons_succ, if_true, eq_int, ne_int, R.items, er, toDs, h]
/-! powers of the letter -/
def opRaw (a : List Int) (c : Nat) : List Int := foldE (fun s p x => s.set (p * c) x) (List.replicate ((a.length - 1) * c + 1) 0) 0 a
def opL (a : List Int) (c : Nat) : List Int := trimL (opRaw a c)
theorem op_inner {s0 : Slot} {n c : Nat} (hc : c ≤ 1000) : ∀ (s : List Int) (j : Nat) (v : Int) (x y : Slot), s.length = n → j * c < n →
    lpF C (.tp [3, 4]) (.cons (.set [4] 2 (.bin .mul (.nvar 3) (.nvar 1)) (.var 4)) .nil) (.tup [.int j, .int v]) [s0, .sh (.int c), .ow (il s), x, y] z = some (.nx [s0, .sh (.int c), .ow (il (s.set (j * c) v)), .sh (.int j), .sh (.int v)], z) ∧ (s.set (j * c) v).length = n := by
  intro s j v x y hs hj
  refine ⟨?_, by rw [List.length_set, hs]⟩
  simp -implicitDefEqProofs only [lpF, setT, setTs, List.set_cons_succ, List.set_cons_zero]
  have h1 : j * c < s.length := by omega
  have mo : mulOk (j : Int) (c : Int) = true := mr (by omega) (by omega)
  have e : (j : Int) * (c : Int) = ((j * c : Nat) : Int) := (Int.natCast_mul j c).symm
  have ev : evE C [s0, .sh (.int c), .ow (il s), .sh (.int j), .sh (.int v)] (.bin .mul (.nvar 3) (.nvar 1)) z = some (.sh (.int ((j * c : Nat) : Int)), z) := by
    rw [← e]
    simp -implicitDefEqProofs only [exS, freeze, froz, evE.eq_1, evE.eq_2, evE.eq_3, evE.eq_4, evE.eq_5, evE.eq_6, evE.eq_7, evE.eq_8, evE.eq_9, evE.eq_10, evE.eq_11, evE.eq_12, evE.eq_13, evE.eq_14, evE.eq_15, evE.eq_16, evE.eq_17, evE.eq_18, evRs, evO, evC, bd_some, bd_none, List.getElem?_cons_succ, List.getElem?_cons_zero, List.set_cons_succ, List.set_cons_zero, putR, setTs, setT, b_add, b_sub, b_band, c_lt, c_le, c_gt, c_ge, c_isn, c_notn, isn_int, isn_non, bi_abs, bi_int, bi_intb, bi_max2, bi_min2, toB_bl, toDs_nil, toDs_cons, R.toD, Option.map_some, Option.map_none, List.getD_cons_zero, List.getD_cons_succ, if_true, eq_int, ne_int, b_mul mo]
  generalize j * c = k at *
  have ev2 : evE C [s0, .sh (.int c), .ow (il s), .sh (.int j), .sh (.int v)] (.var 4) z = some (.sh (.int v), z) := rfl
  rw [exB, exS]
  simp -implicitDefEqProofs only [freeze, froz, List.getD_cons_zero, List.getD_cons_succ, List.set_cons_succ, List.set_cons_zero, ev, ev2, bd_some, List.getElem?_cons_succ, List.getElem?_cons_zero, R.toD, setD_il h1, Option.map_some]
  rw [exB]
theorem op_b (ht : ∀ a : List Int, C jt [pl a] z = some (.fr (il (trimL a)), z)) (a : List Int) (c : Nat) (h1 : 1 ≤ c) (hc : c ≤ 1000) (la : a.length ≤ 1000) : exB C (B.of_power jt).body [.sh (pl a), .sh (.int c), .un, .un, .un] z = some (.ret (.fr (il (opL a c))), z) := by
  unfold B.of_power
  simp only
  have mo : mulOk ((a.length : Int) - 1) (c : Int) = true := mr (by omega) (by omega)
  have mle : (a.length - 1) * c ≤ 1000 * 1000 := Nat.mul_le_mul (by omega) hc
  have en : (if ((a.length : Int) - 1) * (c : Int) + 1 > 0 then ((a.length : Int) - 1) * (c : Int) + 1 else 0) = ((if a = [] then 0 else (a.length - 1) * c + 1 : Nat) : Int) := by
    by_cases n : a = []
    · subst n
      rw [if_pos rfl]
      have : (([] : List Int).length : Int) - 1 = -1 := rfl
      rw [this, if_neg (by omega)]
      rfl
    · have hl := List.length_pos_iff.mpr n
      rw [if_neg n, show (a.length : Int) - 1 = ((a.length - 1 : Nat) : Int) by omega, ← Int.natCast_mul, if_pos (by omega)]
      rfl
  have rp := rep_ok (n := if a = [] then 0 else (a.length - 1) * c + 1) (by split <;> omega)
  rw [exB]; simp -implicitDefEqProofs only [exS, freeze, froz, evE.eq_1, evE.eq_2, evE.eq_3, evE.eq_4, evE.eq_5, evE.eq_6, evE.eq_7, evE.eq_8, evE.eq_9, evE.eq_10, evE.eq_11, evE.eq_12, evE.eq_13, evE.eq_14, evE.eq_15, evE.eq_16, evE.eq_17, evE.eq_18, evRs, evO, evC, bd_some, bd_none, List.getElem?_cons_succ, List.getElem?_cons_zero, List.set_cons_succ, List.set_cons_zero, putR, setTs, setT, b_add, b_sub, b_band, c_lt, c_le, c_gt, c_ge, c_isn, c_notn, isn_int, isn_non, bi_abs, bi_int, bi_intb, bi_max2, bi_min2, toB_bl, toDs_nil, toDs_cons, R.toD, Option.map_some, Option.map_none, List.getD_cons_zero, List.getD_cons_succ, if_true, eq_int, ne_int, toDs, len_sh, b_mul mo, en, rp]
  obtain ⟨x1, y1, l1, i1⟩ := enum_loop (z := z) (f := lpF C (.tp [3, 4]) (.cons (.set [4] 2 (.bin .mul (.nvar 3) (.nvar 1)) (.var 4)) .nil)) (fun s x y => [.sh (pl a), .sh (.int c), .ow (il s), x, y]) (fun s p x => s.set (p * c) x) (fun s => s.length = if a = [] then 0 else (a.length - 1) * c + 1) a 0 (List.replicate (if a = [] then 0 else (a.length - 1) * c + 1) 0) .un .un (List.length_replicate ..)
    (fun s j v x y hs h1 h2 hv => op_inner hc s j v x y hs (by
      rw [if_neg (List.ne_nil_of_mem hv)]
      have : j * c ≤ (a.length - 1) * c := Nat.mul_le_mul_right _ (by omega)
      omega))
  refine (exB_nx (exS_loop rfl (en_sh rfl) l1)).trans ?_
  rw [exB]; simp -implicitDefEqProofs only [exS, freeze, froz, evE.eq_1, evE.eq_2, evE.eq_3, evE.eq_4, evE.eq_5, evE.eq_6, evE.eq_7, evE.eq_8, evE.eq_9, evE.eq_10, evE.eq_11, evE.eq_12, evE.eq_13, evE.eq_14, evE.eq_15, evE.eq_16, evE.eq_17, evE.eq_18, evRs, evO, evC, bd_some, bd_none, List.getElem?_cons_succ, List.getElem?_cons_zero, List.set_cons_succ, List.set_cons_zero, putR, setTs, setT, b_add, b_sub, b_band, c_lt, c_le, c_gt, c_ge, c_isn, c_notn, isn_int, isn_non, bi_abs, bi_int, bi_intb, bi_max2, bi_min2, toB_bl, toDs_nil, toDs_cons, R.toD, Option.map_some, Option.map_none, List.getD_cons_zero, List.getD_cons_succ, if_true, eq_int, ne_int, toDs, ht]
  unfold opL opRaw
  by_cases n : a = []
  · subst n
    show some (Out.ret (.fr (il (trimL (List.replicate 0 0)))), z) = some (Out.ret (.fr (il (trimL (List.replicate ((0 - 1) * c + 1) 0)))), z)
    rw [show (0 - 1) * c + 1 = 1 by omega]
    rfl
  · rw [if_neg n]
end
end Mn

/-! Turned, backward polynomials, powers of the letter; sizes. -/
namespace Mn.Z
open Lean.Grind Pol
theorem tr_of_last {a : List Int} (h : a ≠ [] → lastD a ≠ 0) : Tr a := by
  by_cases e : a = []
  · subst e; rfl
  · have := h e
    obtain ⟨b, x, rfl⟩ : ∃ b x, a = b ++ [x] := ⟨a.dropLast, a.getLast e, (List.dropLast_concat_getLast e).symm⟩
    exact tr_last (by unfold lastD at this; simpa using this)
theorem tn_len : ∀ (a : List Int) (k : Nat), (tnL k a).length = a.length
  | [], k => rfl
  | x :: a, k => by show (tnL (k + 1) a).length + 1 = a.length + 1; rw [tn_len]
theorem tn_get : ∀ (a : List Int) (k j : Nat), (tnL k a).getD j 0 = if (k + j) % 2 = 0 then a.getD j 0 else -a.getD j 0
  | [], k, j => by
    show (0 : Int) = if _ then (0 : Int) else -0
    split <;> rfl
  | x :: a, k, 0 => rfl
  | x :: a, k, j + 1 => by
    show (tnL (k + 1) a).getD j 0 = if (k + (j + 1)) % 2 = 0 then a.getD j 0 else -a.getD j 0
    rw [tn_get a, show k + 1 + j = k + (j + 1) by omega]
theorem tr_turn {a : List Int} (h : Tr a) : Tr (tnL 0 a) := tr_of_last fun n => by
  have na : a ≠ [] := fun e => by subst e; exact n rfl
  have hl := tr_lastD h na
  rw [lastD_c na] at hl
  rw [lastD_c n, tn_len]
  show (tnL 0 a).getD (a.length - 1) 0 ≠ 0
  have hl : a.getD (a.length - 1) 0 ≠ 0 := hl
  rw [tn_get]
  split <;> omega
theorem zp_turn (a : List Int) : zp (tnL 0 a) = evP (zp a) (-X) := by
  have : ∀ (a : List Int) (k : Nat), zp (tnL k a) = cst (if k % 2 = 0 then 1 else -1) * evP (zp a) (-X) := by
    intro a
    induction a with
    | nil => intro k; show zp [] = _ * evP (zp []) _; rw [zp_nil, evP_zero]; grind
    | cons x a ih =>
      intro k
      show ofL ((if k % 2 = 0 then x else -x) :: tnL (k + 1) a) = _ * evP (ofL (x :: a)) _
      have ih : ofL (tnL (k + 1) a) = cst (if (k + 1) % 2 = 0 then 1 else -1) * evP (ofL a) (-X) := ih (k + 1)
      rw [ofL_cons, ofL_cons, evP_cons, ih]
      by_cases h : k % 2 = 0
      · rw [if_pos h, if_neg (by omega), if_pos h, cst_neg, cst_one]; grind
      · rw [if_neg h, if_pos (by omega), if_neg h, cst_neg, cst_neg, cst_one]; grind
  have := this a 0
  rw [if_pos rfl, cst_one] at this
  rw [this]; grind
/-- the backward one, of length m + 1 -/
def Rv (m : Nat) (f : ZP) : ZP := ⟨⟨fun k => if k ≤ m then f.s.c (m - k) else 0⟩, m + 1, fun k hk => by show (if k ≤ m then f.s.c (m - k) else 0) = 0; rw [if_neg (by omega)]⟩
theorem Rv_c (m : Nat) (f : ZP) (k : Nat) : (Rv m f).s.c k = if k ≤ m then f.s.c (m - k) else 0 := rfl
theorem Rv_add (m : Nat) (f g : ZP) : Rv m (f + g) = Rv m f + Rv m g := extc fun k => by
  rw [add_c, Rv_c, Rv_c, Rv_c]
  split
  · exact add_c ..
  · rfl
theorem Rv_sc (m : Nat) (a : Int) (f : ZP) : Rv m (cst a * f) = cst a * Rv m f := extc fun k => by
  rw [cst_mul, Rv_c, Rv_c]
  split
  · exact cst_mul ..
  · rw [Int.mul_zero]
theorem Rv_up (m n : Nat) (f : ZP) (h : f.lt (n + 1)) : Rv (m + n) f = X ^ m * Rv n f := extc fun k => by
  rw [Xp, Rv_c, Rv_c]
  by_cases c : k < m
  · rw [if_pos c]
    split
    · exact h _ (by omega)
    · rfl
  · rw [if_neg c]
    by_cases d : k ≤ m + n
    · rw [if_pos d, if_pos (by omega), show n - (k - m) = m + n - k by omega]
    · rw [if_neg d, if_neg (by omega)]
theorem Rv_X (m : Nat) (f : ZP) : Rv (m + 1) (X * f) = Rv m f := extc fun k => by
  rw [Rv_c, Rv_c]
  by_cases c : k ≤ m
  · rw [if_pos c, if_pos (by omega), show m + 1 - k = (m - k) + 1 by omega, X_mul]
  · rw [if_neg c]
    split
    · rw [show m + 1 - k = 0 by omega, X_mul0]
    · rfl
theorem Rv_mul {n : Nat} {g : ZP} (hg : g.lt (n + 1)) : ∀ (m : Nat) (f : ZP), f.lt (m + 1) → Rv (m + n) (f * g) = Rv m f * Rv n g
  | 0, f, hf => by
    have : f = cst (f.s.c 0) := extc fun k => by
      rw [cst_c]
      cases k with
      | zero => rfl
      | succ k => rw [if_neg (by omega)]; exact hf _ (by omega)
    have e : Rv 0 f = cst (f.s.c 0) := extc fun k => by
      rw [cst_c, Rv_c]
      cases k with
      | zero => rfl
      | succ k => rw [if_neg (by omega), if_neg (by omega)]
    rw [e, Nat.zero_add]
    generalize f.s.c 0 = w at *
    rw [this, Rv_sc]
  | m + 1, f, hf => by
    have e : f = cst (f.s.c 0) + X * ⟨f.s.tl, m + 1, hf.tl⟩ := extc fun k => by
      rw [add_c, cst_c]
      cases k with
      | zero => rw [X_mul0, if_pos rfl]; omega
      | succ k => rw [X_mul, if_neg (by omega)]; show f.s.c (k + 1) = 0 + f.s.c (k + 1); omega
    generalize hf' : (⟨f.s.tl, m + 1, hf.tl⟩ : ZP) = f' at e
    generalize f.s.c 0 = w at e
    have lf' : f'.lt (m + 1) := by rw [← hf']; exact hf.tl
    have ih := Rv_mul hg m f' lf'
    rw [e, Rv_add, Rv_X, show (cst w + X * f') * g = cst w * g + X * (f' * g) by grind, Rv_add, Rv_sc, show m + 1 + n = (m + n) + 1 by omega, Rv_X, ih]
    have h1 : Rv (m + 1) (cst w) = X ^ (m + 1) * cst w := by
      have := Rv_up (m + 1) 0 (cst w) (PS.lt_cst w)
      rw [Nat.add_zero] at this
      rw [this]
      congr 1
      refine extc fun k => ?_
      rw [Rv_c]
      cases k with
      | zero => rfl
      | succ k => rw [if_neg (by omega)]; rfl
    have h2 : Rv (m + n + 1) g = X ^ (m + 1) * Rv n g := by
      have := Rv_up (m + 1) n g hg
      rw [show m + 1 + n = m + n + 1 by omega] at this
      exact this
    rw [h1, h2]; grind
theorem zp_rev {a : List Int} {m : Nat} (h : a.length = m + 1) : zp a.reverse = Rv m (zp a) := extc fun k => by
  rw [Rv_c]
  show a.reverse.getD k 0 = if k ≤ m then a.getD (m - k) 0 else 0
  by_cases c : k ≤ m
  · rw [if_pos c]
    simp only [List.getD]
    rw [List.getElem?_reverse (by omega), show a.length - 1 - k = m - k by omega]
  · rw [if_neg c]
    simp only [List.getD]
    rw [List.getElem?_eq_none (by rw [List.length_reverse]; omega)]; rfl
theorem back_mul {a b c : List Int} (ha : Tr a) (hb : Tr b) (hc : Tr c) (h : zp c = zp a * zp b) : trimL c.reverse = mulL (trimL a.reverse) (trimL b.reverse) := by
  have tm : Tr (mulL (trimL a.reverse) (trimL b.reverse)) := tr_trim _
  by_cases na : a = []
  · subst na
    have : c = [] := tr_zero hc (by rw [h, zp_nil]; grind)
    subst this
    exact zp_inj (tr_trim _) tm (by rw [zp_mul, zp_trim, zp_trim, show ([] : List Int).reverse = [] from rfl, zp_nil]; grind)
  · by_cases nb : b = []
    · subst nb
      have : c = [] := tr_zero hc (by rw [h, zp_nil]; grind)
      subst this
      exact zp_inj (tr_trim _) tm (by rw [zp_mul, zp_trim, zp_trim, show ([] : List Int).reverse = [] from rfl, zp_nil]; grind)
    · have l := (len_mul ha hb hc na nb h).1
      have la := List.length_pos_iff.mpr na
      have lb := List.length_pos_iff.mpr nb
      apply zp_inj (tr_trim _) tm
      rw [zp_mul, zp_trim, zp_trim, zp_trim, zp_rev (m := c.length - 1) (by omega), zp_rev (a := a) (m := a.length - 1) (by omega), zp_rev (a := b) (m := b.length - 1) (by omega), h, show c.length - 1 = a.length - 1 + (b.length - 1) by omega]
      exact Rv_mul (by rw [Nat.sub_add_cancel lb]; exact lt_len b) _ _ (by rw [Nat.sub_add_cancel la]; exact lt_len a)
/-! powers of the letter -/
theorem Xpow_add (m n : Nat) : (X : ZP) ^ (m + n) = X ^ m * X ^ n := by
  induction n with
  | zero => rw [Nat.add_zero, Semiring.pow_zero]; grind
  | succ n ih => rw [← Nat.add_assoc, Semiring.pow_succ, ih, Semiring.pow_succ]; grind
theorem opGo_len (c : Nat) : ∀ (a s : List Int) (k : Nat), (foldE (fun s p x => s.set (p * c) x) s k a).length = s.length
  | [], s, k => rfl
  | x :: a, s, k => by
    show (foldE (fun s p x => s.set (p * c) x) (s.set (k * c) x) (k + 1) a).length = _
    rw [opGo_len c a, List.length_set]
theorem zp_opGo (c : Nat) (hc : 1 ≤ c) : ∀ (a s : List Int) (k : Nat), (a ≠ [] → (k + a.length - 1) * c < s.length) → (∀ j, k * c ≤ j → s.getD j 0 = 0) → zp (foldE (fun s p x => s.set (p * c) x) s k a) = zp s + X ^ (k * c) * evP (zp a) (X ^ c)
  | [], s, k, _, _ => by
    show zp s = zp s + _ * evP (zp []) _
    rw [zp_nil, evP_zero]; grind
  | x :: a, s, k, h, hz => by
    have h := h (by simp)
    simp only [List.length_cons] at h
    have h1 : k * c < s.length := Nat.lt_of_le_of_lt (Nat.mul_le_mul_right c (by omega)) h
    have e1 : zp (s.set (k * c) x) = zp s + X ^ (k * c) * cst x := by
      rw [← zp_bump h1]
      unfold bump
      rw [hz _ (Nat.le_refl _), Int.zero_add]
    show zp (foldE (fun s p x => s.set (p * c) x) (s.set (k * c) x) (k + 1) a) = zp s + X ^ (k * c) * evP (ofL (x :: a)) _
    rw [zp_opGo c hc a _ (k + 1) (fun _ => by rw [List.length_set, show k + 1 + a.length - 1 = k + (a.length + 1) - 1 by omega]; exact h) (fun j hj => by
      rw [Nat.succ_mul] at hj
      have : (s.set (k * c) x).getD j 0 = s.getD j 0 := by
        simp only [List.getD, List.getElem?_set]
        rw [if_neg (by omega)]
      rw [this]
      exact hz j (by omega)), e1, ofL_cons, evP_cons, Nat.succ_mul, Xpow_add]
    grind
theorem zp_op (a : List Int) {c : Nat} (hc : 1 ≤ c) : zp (opL a c) = evP (zp a) (X ^ c) := by
  unfold opL opRaw
  rw [zp_trim, zp_opGo c hc a _ 0 (fun n => by
    have := List.length_pos_iff.mpr n
    rw [List.length_replicate, Nat.zero_add]; omega) (fun j _ => by
    simp only [List.getD, List.getElem?_replicate]
    split <;> rfl), zp_rep, Nat.zero_mul, Semiring.pow_zero]
  grind
/-! sizes of what is put in, and of powers -/
theorem putF_ok {b : List Int} {bb e : Nat} (hb : Bt bb (zp b)) (he : b.length < 2 ^ e) : ∀ (r f : List Int) (bf : Nat), Bt bf (zp f) → (∀ x ∈ r, x.natAbs < 2 ^ bf) → bf + r.length * (bb + e + 1) + bb < 1000000 → f.length + r.length * b.length + b.length + 1 ≤ 8000000 →
    okPutF b f r = true ∧ Bt (bf + r.length * (bb + e + 1)) (zp (r.foldl (putF b) f)) ∧ (r.foldl (putF b) f).length ≤ f.length + r.length * b.length + 1
  | [], f, bf, hf, _, _, _ => ⟨rfl, by rw [List.length_nil, Nat.zero_mul]; exact hf, by simp only [List.foldl_nil]; omega⟩
  | x :: r, f, bf, hf, hx, hs, hl => by
    simp only [List.length_cons] at hs hl
    rw [Nat.succ_mul] at hs hl
    have m1 := mul_len f b
    have hm : Bt (e + (bb + bf)) (zp (mulL f b)) := by
      rw [zp_mul, show zp f * zp b = zp b * zp f by grind]
      exact hb.mul hf (lt_len b) he
    have hp : Bt (bf + (bb + e + 1)) (zp (putF b f x)) := by
      rw [zp_putF, ← zp_mul]
      exact (hm.add (Bt.cst (b := e + (bb + bf)) (Nat.lt_of_lt_of_le (hx x List.mem_cons_self) (Nat.pow_le_pow_right (by decide) (by omega))))).mono (by omega)
    have lp : (putF b f x).length ≤ f.length + b.length ∨ (putF b f x).length ≤ 1 := by
      unfold putF
      have h1 := add_len (mulL f b) (trimL [x])
      have h2 := trimL_len [x]
      simp only [List.length_singleton] at h2
      omega
    have lp2 : (putF b f x).length ≤ f.length + b.length + 1 := by omega
    by_cases lf : 1 ≤ f.length + b.length
    · obtain ⟨i1, i2, i3⟩ := putF_ok hb he r (putF b f x) (bf + (bb + e + 1)) hp (fun y hy => Nat.lt_of_lt_of_le (hx y (List.mem_cons_of_mem _ hy)) (Nat.pow_le_pow_right (by decide) (by omega))) (by omega) (by omega)
      refine ⟨?_, ?_, ?_⟩
      · unfold okPutF
        rw [Bool.and_eq_true, Bool.and_eq_true]
        exact ⟨⟨okM_of hf hb (by omega) (by omega) (by omega), small_of (by omega)⟩, i1⟩
      · rw [List.length_cons, Nat.succ_mul]
        exact i2.mono (by omega)
      · rw [List.length_cons, Nat.succ_mul, List.foldl_cons]
        omega
    · have l0 : b.length = 0 := by omega
      obtain ⟨i1, i2, i3⟩ := putF_ok hb he r (putF b f x) (bf + (bb + e + 1)) hp (fun y hy => Nat.lt_of_lt_of_le (hx y (List.mem_cons_of_mem _ hy)) (Nat.pow_le_pow_right (by decide) (by omega))) (by omega) (by rw [l0] at hl ⊢; omega)
      refine ⟨?_, ?_, ?_⟩
      · unfold okPutF
        rw [Bool.and_eq_true, Bool.and_eq_true]
        exact ⟨⟨okM_of hf hb (by omega) (by omega) (by omega), small_of (by omega)⟩, i1⟩
      · rw [List.length_cons, Nat.succ_mul]
        exact i2.mono (by omega)
      · rw [List.length_cons, Nat.succ_mul, List.foldl_cons, l0]
        rw [l0] at i3 lp
        -- a length of 1 at most
        have : ∀ (r f : List Int), f.length ≤ 1 → (r.foldl (putF b) f).length ≤ 1 := by
          intro r
          induction r with
          | nil => intro f h; exact h
          | cons y r ih =>
            intro f h
            rw [List.foldl_cons]
            refine ih _ ?_
            unfold putF
            have h1 := add_len (mulL f b) (trimL [y])
            have h2 := trimL_len [y]
            have h3 := mul_len f b
            simp only [List.length_singleton] at h2
            omega
        have := this r (putF b f x) (by omega)
        omega
theorem put_ok' {a b : List Int} {ba bb e : Nat} (ha : Bt ba (zp a)) (hb : Bt bb (zp b)) (he : b.length < 2 ^ e) (hs : ba + a.length * (bb + e + 1) + bb < 1000000) (hl : a.length * b.length + b.length + 1 ≤ 8000000) :
    okPut a b = true ∧ Bt (ba + a.length * (bb + e + 1)) (zp (putL a b)) ∧ (putL a b).length ≤ a.length * b.length + 1 := by
  have := putF_ok hb he a.reverse [] ba (by rw [zp_nil]; exact Bt.zero _) (fun x hx => ha.mem (List.mem_reverse.mp hx)) (by rw [List.length_reverse]; exact hs) (by rw [List.length_reverse, List.length_nil]; omega)
  rw [List.length_reverse, List.length_nil, Nat.zero_add] at this
  exact this
theorem pow_ok' {a : List Int} {ba e : Nat} (ha : Bt ba (zp a)) (he : a.length < 2 ^ e) : ∀ n : Nat, Bt (1 + n * (ba + e)) (zp (powL a n)) ∧ (powL a n).length ≤ 1 + n * a.length ∧ (1 + n * (ba + e) + ba < 1000000 → 1 + n * a.length ≤ 8000000 → a.length ≤ 8000000 → okPow a n = true)
  | 0 => ⟨Bt.of (fun x hx => by
      have : x = 1 := by simpa [powL] using hx
      subst this; rw [Nat.zero_mul]; decide), by show 1 ≤ _; omega, fun _ _ _ => rfl⟩
  | n + 1 => by
    obtain ⟨h1, h2, h3⟩ := pow_ok' ha he n
    refine ⟨?_, ?_, fun k1 k2 k3 => ?_⟩
    · show Bt _ (zp (mulL (powL a n) a))
      rw [zp_mul, show zp (powL a n) * zp a = zp a * zp (powL a n) by grind]
      refine (ha.mul h1 (lt_len a) he).mono ?_
      rw [Nat.succ_mul]; omega
    · show (mulL (powL a n) a).length ≤ _
      have := mul_len (powL a n) a
      rw [Nat.succ_mul]; omega
    · rw [Nat.succ_mul] at k1 k2
      have k := h3 (by omega) (by omega) k3
      unfold okPow at k ⊢
      rw [List.all_eq_true] at k ⊢
      intro x hx
      have := List.mem_range.mp hx
      by_cases e : x = n
      · subst e
        exact okM_of h1 ha (by omega) (by omega) k3
      · exact k x (List.mem_range.mpr (by omega))
end Mn.Z

/-! What law k06 asks, for lists. -/
namespace Mn.Z
open Lean.Grind Pol
theorem comGo_len : ∀ (n : Nat) (a b g : List Int), commonGo n a b = some g → PP a → PP b → g.length ≤ max a.length b.length
  | 0, a, b, g, e, _, _ => by cases e
  | n + 1, a, b, g, e, pa, pb => by
    unfold commonGo at e
    split at e
    · cases e; omega
    · rename_i nb
      split at e
      · rename_i r hr
        split at e
        · obtain ⟨_, _, _, _, l, t⟩ := rest_sem nb pb.1 _ _ _ hr
          have tr := t pa.1
          have := comGo_len n _ _ g e pb (prim_spec (low_tr tr)).1
          rw [prim_len (low_tr tr), low_len] at this
          omega
        · cases e
      · cases e
theorem comL_len {a b g : List Int} (e : comL a b = some g) (ta : Tr a) (tb : Tr b) : g.length ≤ max a.length b.length := by
  unfold comL at e
  split at e
  · have := comGo_len _ _ _ _ e (prim_spec ta).1 (prim_spec tb).1
    rw [prim_len ta, prim_len tb] at this
    exact this
  · cases e
/-- a small polynomial -/
structure Sm (n b : Nat) (a : List Int) : Prop where
  tr : Tr a
  len : a.length ≤ n
  bt : Bt b (zp a)
theorem drp_sm {deg size b : Nat} {l : List Int} (h : DrP deg size l) (hb : size < 2 ^ b) : Sm (deg + 1) b l := by
  obtain ⟨r, rfl, _, h2, h3⟩ := h
  refine ⟨tr_trim r, Nat.le_trans (trimL_len r) h2, ?_⟩
  rw [zp_trim]
  exact Bt.of fun x hx => by have := h3 x hx; omega
theorem Sm.mul {n m b c e : Nat} {x y : List Int} (h : Sm n b x) (h' : Sm m c y) (he : n < 2 ^ e) : Sm (n + m - 1) (e + (b + c)) (mulL x y) :=
  ⟨tr_trim _, by have := mul_len x y; have := h.len; have := h'.len; omega, by rw [zp_mul]; exact h.bt.mul h'.bt ((lt_len x).mono h.len) he⟩
theorem Sm.slope {n b e : Nat} {x : List Int} (h : Sm n b x) (he : n < 2 ^ e) : Sm n (e + b) (slopeL x) := by
  refine ⟨tr_trim _, ?_, by rw [zp_slope]; exact h.bt.D ((lt_len x).mono h.len) he⟩
  refine tr_len (tr_trim _) ?_
  rw [zp_slope]
  exact PS.D_lt (((lt_len x).mono h.len).mono (by omega))
theorem Sm.okM {n m b c : Nat} {x y : List Int} (h : Sm n b x) (h' : Sm m c y) (k : b + c < 1000000 := by omega) (k1 : n ≤ 8000000 := by omega) (k2 : m ≤ 8000000 := by omega) : okM x y = true :=
  okM_of h.bt h'.bt k (Nat.le_trans h.len k1) (Nat.le_trans h'.len k2)
theorem Sm.put {n m b c e : Nat} {x y : List Int} (h : Sm n b x) (h' : Sm m c y) (he : m < 2 ^ e) (k : b + n * (c + e + 1) + c < 1000000) (k2 : n * m + m + 1 ≤ 8000000) : okPut x y = true ∧ Sm (n * m + 1) (b + n * (c + e + 1)) (putL x y) := by
  have i1 : x.length * (c + e + 1) ≤ n * (c + e + 1) := Nat.mul_le_mul_right _ h.len
  have i2 : x.length * y.length ≤ n * m := Nat.mul_le_mul h.len h'.len
  have l1 := h.len
  have l2 := h'.len
  obtain ⟨h1, h2, h3⟩ := put_ok' h.bt h'.bt (e := e) (by omega) (by omega) (by omega)
  refine ⟨h1, ?_, by omega, h2.mono (by omega)⟩
  unfold putL
  show Tr _
  cases x with
  | nil => exact tr_nil
  | cons v x =>
    rw [List.foldl_reverse, List.foldr_cons]
    exact tr_trim _
theorem Sm.prim {n b : Nat} {x : List Int} (h : Sm n b x) : Sm n b (primL x) :=
  ⟨(prim_spec h.tr).1.1, by rw [prim_len h.tr]; exact h.len, prim_bt h.tr h.bt⟩
theorem Sm.okC {n b : Nat} {x : List Int} (h : Sm n b x) (hb : b < 9000 := by omega) : okC x = true := okC_of h.bt hb
theorem Sm.turn {n b : Nat} {x : List Int} (h : Sm n b x) : Sm n b (tnL 0 x) :=
  ⟨tr_turn h.tr, by rw [tn_len]; exact h.len, fun k => by
    show ((tnL 0 x).getD k 0).natAbs < _
    have := h.bt k
    have this : (x.getD k 0).natAbs < _ := this
    rw [tn_get]
    split <;> omega⟩
theorem Sm.back {n b : Nat} {x : List Int} (h : Sm n b x) : Sm n b (trimL x.reverse) :=
  ⟨tr_trim _, Nat.le_trans (trimL_len _) (by rw [List.length_reverse]; exact h.len), by
    rw [zp_trim]
    exact Bt.of fun y hy => h.bt.mem (List.mem_reverse.mp hy)⟩
theorem Sm.mono {n b n' b' : Nat} {x : List Int} (h : Sm n b x) (k1 : n ≤ n') (k2 : b ≤ b') : Sm n' b' x := ⟨h.tr, Nat.le_trans h.len k1, h.bt.mono k2⟩
theorem tr_put (x y : List Int) : Tr (putL x y) := by
  unfold putL
  cases x with
  | nil => exact tr_nil
  | cons v x =>
    rw [List.foldl_reverse, List.foldr_cons]
    exact tr_trim _
theorem tr_mul (x y : List Int) : Tr (mulL x y) := tr_trim _
theorem tr_pow (x : List Int) (n : Nat) : Tr (powL x n) := by
  cases n with
  | zero => exact tr_last (a := []) (x := 1) (by decide)
  | succ n => exact tr_trim _
theorem pow_mul (f g : ZP) : ∀ n : Nat, (f * g) ^ n = f ^ n * g ^ n
  | 0 => by rw [Semiring.pow_zero, Semiring.pow_zero, Semiring.pow_zero]; grind
  | n + 1 => by rw [Semiring.pow_succ, Semiring.pow_succ, Semiring.pow_succ, pow_mul f g n]; grind
theorem evP_pow (f g : ZP) : ∀ n : Nat, evP (f ^ n) g = evP f g ^ n
  | 0 => by rw [Semiring.pow_zero, Semiring.pow_zero, show (1 : ZP) = cst 1 from rfl, evP_cst]
  | n + 1 => by rw [Semiring.pow_succ, Semiring.pow_succ, evP_mul, evP_pow f g n]
theorem zp_X : zp [0, 1] = X := by
  show ofL [0, 1] = X
  rw [ofL_cons, ofL_single, cst_zero, cst_one]; grind
theorem zp_nX : zp [0, -1] = -X := by
  show ofL [0, -1] = -X
  rw [ofL_cons, ofL_single, cst_zero, cst_neg, cst_one]; grind
theorem tr_nn (l : List Int) (h : Tr l) : l = [] ∨ zp l ≠ 0 := by
  by_cases e : l = []
  · exact .inl e
  · exact .inr (tr_ne h e)
section
variable {one two third : List Int} (h1 : Sm 4 2 one) (h2 : Sm 3 2 two) (h3 : Sm 3 2 third)
include h1 h2 h3
theorem kBoth : Sm 6 7 (mulL one two) := (h1.mul h2 (e := 3) (by decide)).mono (by omega) (by omega)
theorem kA : okPut one two = true ∧ okPut (putL one two) third = true ∧ okPut two third = true ∧ okPut one (putL two third) = true ∧ putL (putL one two) third = putL one (putL two third) := by
  obtain ⟨a1, a2⟩ := h1.put h2 (e := 2) (by decide) (by omega) (by omega)
  obtain ⟨b1, b2⟩ := a2.put h3 (e := 2) (by decide) (by omega) (by omega)
  obtain ⟨c1, c2⟩ := h2.put h3 (e := 2) (by decide) (by omega) (by omega)
  obtain ⟨d1, d2⟩ := h1.put c2 (e := 4) (by decide) (by omega) (by omega)
  refine ⟨a1, b1, c1, d1, zp_inj (tr_put _ _) (tr_put _ _) ?_⟩
  rw [zp_put, zp_put, zp_put, zp_put, evP_comp]
theorem kA2 : okPut (mulL one two) third = true ∧ okPut one third = true ∧ okM (putL one third) (putL two third) = true ∧ putL (mulL one two) third = mulL (putL one third) (putL two third) := by
  obtain ⟨a1, a2⟩ := (kBoth h1 h2 h3).put h3 (e := 2) (by decide) (by omega) (by omega)
  obtain ⟨b1, b2⟩ := h1.put h3 (e := 2) (by decide) (by omega) (by omega)
  obtain ⟨c1, c2⟩ := h2.put h3 (e := 2) (by decide) (by omega) (by omega)
  refine ⟨a1, b1, b2.okM c2, zp_inj (tr_put _ _) (tr_mul _ _) ?_⟩
  rw [zp_put, zp_mul, zp_mul, zp_put, zp_put, evP_mul]
theorem kB : okM (slopeL one) two = true ∧ okM one (slopeL two) = true ∧ (mulL (slopeL one) two).length ≤ 100 ∧ (mulL one (slopeL two)).length ≤ 100 ∧ slopeL (mulL one two) = addL (mulL (slopeL one) two) (mulL one (slopeL two)) := by
  have s1 := h1.slope (e := 3) (by decide)
  have s2 := h2.slope (e := 2) (by decide)
  have m1 := s1.mul h2 (e := 3) (by decide)
  have m2 := h1.mul s2 (e := 3) (by decide)
  refine ⟨s1.okM h2, h1.okM s2, Nat.le_trans m1.len (by omega), Nat.le_trans m2.len (by omega), zp_inj (tr_trim _) (tr_trim _) ?_⟩
  rw [zp_slope, zp_add, zp_mul, zp_mul, zp_mul, zp_slope, zp_slope, D_mul]
theorem kB2 : okPut (slopeL one) two = true ∧ okM (putL (slopeL one) two) (slopeL two) = true ∧ (putL one two).length ≤ 100 ∧ slopeL (putL one two) = mulL (putL (slopeL one) two) (slopeL two) := by
  have s1 := h1.slope (e := 3) (by decide)
  have s2 := h2.slope (e := 2) (by decide)
  obtain ⟨a1, a2⟩ := s1.put h2 (e := 2) (by decide) (by omega) (by omega)
  obtain ⟨b1, b2⟩ := h1.put h2 (e := 2) (by decide) (by omega) (by omega)
  refine ⟨a1, a2.okM s2, Nat.le_trans b2.len (by omega), zp_inj (tr_trim _) (tr_mul _ _) ?_⟩
  rw [zp_slope, zp_mul, zp_put, zp_put, zp_slope, zp_slope, D_ev]
theorem kC (n2 : two ≠ []) : divL 60 (mulL one two) two = some (some one) ∧ restGo two 60 (mulL one two) = some [] := by
  have hb := kBoth h1 h2 h3
  have e : zp (mulL one two) = zp two * zp one := by rw [zp_mul]; grind
  constructor
  · obtain ⟨o, d1, d2, d3⟩ := divL_ex (c := zp one) n2 h2.tr hb.tr (by have := log2_lt h2.bt.lastD; omega) (by have := hb.len; omega) (by have := h2.len; omega) e (fun k => okS_of (h1.bt k) h2.bt (by omega)) (n := 60) (by have := hb.len; omega)
    rw [d1, zp_inj d3 h1.tr d2]
  · have l1 := hb.len
    have l2 := h2.len
    obtain ⟨r, hr, _⟩ := rest_ex n2 h2.bt 60 (mulL one two) 7 (by omega) hb.bt (by
      have : ((mulL one two).length + 1 - two.length) * (2 + 1) ≤ 7 * 3 := Nat.mul_le_mul (by omega) (by omega)
      omega)
    rw [hr]
    obtain ⟨c, w, hc, e1, l, t⟩ := rest_sem n2 h2.tr _ _ _ hr
    have tr := t hb.tr
    rw [zp_mul] at e1
    have er : zp r = zp two * (cst c * zp one - w) := by grind
    have : r = [] := by
      apply Classical.byContradiction
      intro nr
      have tc : Tr (trimL (lst (cst c * zp one - w))) := tr_trim _
      have ec : zp (trimL (lst (cst c * zp one - w))) = cst c * zp one - w := by rw [zp_trim, zp_lst]
      have nc : trimL (lst (cst c * zp one - w)) ≠ [] := fun k => tr_ne tr nr (by rw [er, ← ec, k, zp_nil]; grind)
      have := (len_mul h2.tr tc tr n2 nc (by rw [ec]; exact er)).1
      have := List.length_pos_iff.mpr nc
      omega
    rw [this]
theorem kD : ∃ g g0, comL (mulL one third) (mulL two third) = some g ∧ comL one two = some g0 ∧ comL two one = some g0 ∧ okM g0 third = true ∧ okC (mulL g0 third) = true ∧ g = primL (mulL g0 third) := by
  have m1 := (h1.mul h3 (e := 3) (by decide)).mono (n' := 6) (b' := 7) (by omega) (by omega)
  have m2 := (h2.mul h3 (e := 2) (by decide)).mono (n' := 6) (b' := 7) (by omega) (by omega)
  obtain ⟨g, a1, a2⟩ := comL_ex (M := 3000) (B := 7) (L := 6) (by decide) (by decide) (by decide) m1.tr m2.tr m1.len m2.len m1.bt m2.bt (by decide)
  obtain ⟨g0, b1, b2⟩ := comL_ex (M := 3000) (B := 2) (L := 4) (by decide) (by decide) (by decide) h1.tr h2.tr h1.len (Nat.le_trans h2.len (by omega)) h1.bt h2.bt (by decide)
  obtain ⟨g1, c1, c2⟩ := comL_ex (M := 3000) (B := 2) (L := 4) (by decide) (by decide) (by decide) h2.tr h1.tr (Nat.le_trans h2.len (by omega)) h1.len h2.bt h1.bt (by decide)
  obtain ⟨p1, G1⟩ := comL_sem a1 m1.tr m2.tr
  obtain ⟨p2, G2⟩ := comL_sem b1 h1.tr h2.tr
  obtain ⟨p3, G3⟩ := comL_sem c1 h2.tr h1.tr
  have e1 : g1 = g0 := G_uniq p3 p2 G3.comm G2
  subst e1
  have sg : Sm 4 3000 g1 := ⟨p3.1, by have := comL_len b1 h1.tr h2.tr; have := h1.len; have := h2.len; omega, b2⟩
  have mg := sg.mul h3 (e := 3) (by decide)
  refine ⟨g, g1, a1, b1, c1, sg.okM h3, mg.okC, ?_⟩
  obtain ⟨pm, x, hx, ex⟩ := prim_spec (tr_mul g1 third)
  refine G_uniq p1 pm G1 ?_
  have G4 := G2.mul (q (zp third))
  have ex2 := congrArg q ex
  rw [zp_mul, q_mul, q_mul, q_cst] at ex2
  have e3 : q (zp third) * q (zp g1) = cst (x : Rat) * q (zp (primL (mulL g1 third))) := by rw [← ex2]; grind
  rw [e3, ← q_mul, ← q_mul] at G4
  rw [zp_mul, zp_mul, show zp one * zp third = zp third * zp one by grind, show zp two * zp third = zp third * zp two by grind]
  obtain ⟨t1, t2, u, v, t3⟩ := G4
  have i := QP.cst_inv (ratne hx)
  exact ⟨(QP.dvd_scale (ratne hx)).mp t1, (QP.dvd_scale (ratne hx)).mp t2, cst ((x : Int) : Rat)⁻¹ * u, cst ((x : Int) : Rat)⁻¹ * v, by grind⟩
theorem kE : okC (mulL one two) = true ∧ okC one = true ∧ okC two = true ∧ okM (primL one) (primL two) = true ∧ ((conL (mulL one two) : Int) = conL one * conL two) ∧ primL (mulL one two) = mulL (primL one) (primL two) := by
  refine ⟨(kBoth h1 h2 h3).okC, h1.okC, h2.okC, h1.prim.okM h2.prim, ?_, prim_mul h1.tr h2.tr (tr_mul _ _) (zp_mul _ _)⟩
  rw [con_mul (zp_mul one two), Int.natCast_mul]
theorem kG : okM (tnL 0 one) (tnL 0 two) = true ∧ okM (trimL one.reverse) (trimL two.reverse) = true ∧ okPut one [0, -1] = true ∧ tnL 0 (mulL one two) = mulL (tnL 0 one) (tnL 0 two) ∧ trimL (mulL one two).reverse = mulL (trimL one.reverse) (trimL two.reverse) ∧ tnL 0 one = putL one [0, -1] := by
  have sx : Sm 2 1 [0, -1] := ⟨tr_last (a := [0]) (by decide), by decide, Bt.of fun x hx => by
    simp only [List.mem_cons, List.not_mem_nil, or_false] at hx
    rcases hx with rfl | rfl <;> decide⟩
  obtain ⟨a1, a2⟩ := h1.put sx (e := 2) (by decide) (by omega) (by omega)
  refine ⟨h1.turn.okM h2.turn, h1.back.okM h2.back, a1, zp_inj (tr_turn (tr_mul _ _)) (tr_mul _ _) ?_, back_mul h1.tr h2.tr (tr_mul _ _) (zp_mul _ _), zp_inj (tr_turn h1.tr) (tr_put _ _) ?_⟩
  · rw [zp_turn, zp_mul, zp_mul, zp_turn, zp_turn, evP_mul]
  · rw [zp_turn, zp_put, zp_nX]
theorem kH {c : Nat} (c1 : 1 ≤ c) (c2 : c ≤ 3) : okM (opL one c) (opL two c) = true ∧ okPow [0, 1] c = true ∧ okPut one (powL [0, 1] c) = true ∧ opL (mulL one two) c = mulL (opL one c) (opL two c) ∧ opL one c = putL one (powL [0, 1] c) := by
  have sx : Sm 2 1 [0, 1] := ⟨tr_last (a := [0]) (by decide), by decide, Bt.of fun x hx => by
    simp only [List.mem_cons, List.not_mem_nil, or_false] at hx
    rcases hx with rfl | rfl <;> decide⟩
  obtain ⟨p1, p2, p3⟩ := pow_ok' sx.bt (e := 2) (by decide) c
  have i1 : c * (1 + 2) ≤ 3 * 3 := Nat.mul_le_mul c2 (by omega)
  have i2 : c * ([0, 1] : List Int).length ≤ 3 * 2 := Nat.mul_le_mul c2 (by decide)
  have sp : Sm 7 10 (powL [0, 1] c) := ⟨tr_pow _ _, by omega, p1.mono (by omega)⟩
  obtain ⟨a1, a2⟩ := h1.put sp (e := 3) (by decide) (by omega) (by omega)
  obtain ⟨b1, b2⟩ := h2.put sp (e := 3) (by decide) (by omega) (by omega)
  have e : ∀ l : List Int, opL l c = putL l (powL [0, 1] c) := fun l => zp_inj (tr_trim _) (tr_put _ _) (by rw [zp_op l c1, zp_put, zp_pow, zp_X])
  refine ⟨?_, p3 (by omega) (by omega) (by decide), a1, ?_, e one⟩
  · rw [e, e]; exact a2.okM b2
  · apply zp_inj (tr_trim _) (tr_mul _ _)
    show zp (opL (mulL one two) c) = _
    rw [zp_op _ c1, zp_mul, zp_mul, zp_op _ c1, zp_op _ c1, evP_mul]
theorem kF {c : Nat} (c2 : c ≤ 3) : okPow one c = true ∧ okPow two c = true ∧ okPow (mulL one two) c = true ∧ okM (powL one c) (powL two c) = true ∧ powL (mulL one two) c = mulL (powL one c) (powL two c) := by
  have hb := kBoth h1 h2 h3
  have l1 := h1.len
  have l2 := h2.len
  have lb := hb.len
  obtain ⟨p1, p2, p3⟩ := pow_ok' h1.bt (e := 3) (by omega) c
  obtain ⟨q1, q2, q3⟩ := pow_ok' h2.bt (e := 2) (by omega) c
  obtain ⟨r1, r2, r3⟩ := pow_ok' hb.bt (e := 3) (by omega) c
  have i1 : c * (2 + 3) ≤ 3 * 5 := Nat.mul_le_mul c2 (by omega)
  have i2 : c * one.length ≤ 3 * 4 := Nat.mul_le_mul c2 l1
  have i3 : c * (2 + 2) ≤ 3 * 4 := Nat.mul_le_mul c2 (by omega)
  have i4 : c * two.length ≤ 3 * 3 := Nat.mul_le_mul c2 l2
  have i5 : c * (7 + 3) ≤ 3 * 10 := Nat.mul_le_mul c2 (by omega)
  have i6 : c * (mulL one two).length ≤ 3 * 6 := Nat.mul_le_mul c2 lb
  refine ⟨p3 (by omega) (by omega) (by omega), q3 (by omega) (by omega) (by omega), r3 (by omega) (by omega) (by omega), okM_of p1 q1 (by omega) (by omega) (by omega), ?_⟩
  apply zp_inj (tr_pow _ _) (tr_mul _ _)
  rw [zp_pow, zp_mul, zp_mul, zp_pow, zp_pow, pow_mul]
end
/-! square-free parts -/
theorem sf_nil : sfL [] = some [] := by decide +kernel
theorem irr_pow {p f : QP} (hp : QP.Irr p) : ∀ n : Nat, p ∣ f ^ (n + 1) → p ∣ f
  | 0, h => by
    rw [Semiring.pow_succ, Semiring.pow_zero] at h
    rwa [show (1 : QP) * f = f by grind] at h
  | n + 1, h => by
    rw [Semiring.pow_succ] at h
    rcases hp.euclid h with k | k
    · exact irr_pow hp n k
    · exact k
theorem kS1 {one : List Int} (h1 : Sm 4 2 one) : ∃ s, sfL one = some s ∧ PP s ∧ (one ≠ [] → QP.Rad (q (zp one)) (q (zp s))) ∧ Bt 88 (zp s) ∧ q (zp s) ∣ q (zp one) ∧ s.length ≤ 4 := by
  have l1 := h1.len
  obtain ⟨s, a1, a2, a3, a4, a5⟩ := sf_ex (M := 42) (K := 2) (d := 0) (x := 2) (e := 3) (by decide) one_ln h1.tr (by omega) h1.bt (by omega) (one_dvd _) (one_dvd _) (by omega) (by decide) (by decide) (by decide) (by omega)
  refine ⟨s, a1, a2, a3, a4.mono (by omega), a5, ?_⟩
  rcases tr_nn one h1.tr with e | e
  · subst e; rw [sf_nil] at a1; cases a1; simp
  · by_cases n : s = []
    · subst n; simp
    · have n1 : one ≠ [] := fun k => e (by rw [k, zp_nil])
      have := QP.ln_dvd a5 (ln_zp a2.1 n) (ln_zp h1.tr n1)
      have := List.length_pos_iff.mpr n1
      omega
theorem kS2 {two : List Int} (h2 : Sm 3 2 two) : ∃ s, sfL two = some s ∧ PP s ∧ (two ≠ [] → QP.Rad (q (zp two)) (q (zp s))) ∧ Bt 21 (zp s) ∧ q (zp s) ∣ q (zp two) ∧ s.length ≤ 3 := by
  have l1 := h2.len
  obtain ⟨s, a1, a2, a3, a4, a5⟩ := sf_ex (M := 18) (K := 1) (d := 0) (x := 2) (e := 2) (by decide) one_ln h2.tr (by omega) h2.bt (by omega) (one_dvd _) (one_dvd _) (by omega) (by decide) (by decide) (by decide) (by omega)
  refine ⟨s, a1, a2, a3, a4.mono (by omega), a5, ?_⟩
  rcases tr_nn two h2.tr with e | e
  · subst e; rw [sf_nil] at a1; cases a1; simp
  · by_cases n : s = []
    · subst n; simp
    · have n1 : two ≠ [] := fun k => e (by rw [k, zp_nil])
      have := QP.ln_dvd a5 (ln_zp a2.1 n) (ln_zp h2.tr n1)
      have := List.length_pos_iff.mpr n1
      omega
theorem kSp {one s : List Int} (h1 : Sm 4 2 one) (hs : sfL one = some s) {c : Nat} (c1 : 1 ≤ c) (c2 : c ≤ 3) : sfL (powL one c) = some s := by
  obtain ⟨s', e1, p1, r1, _, _, _⟩ := kS1 h1
  rw [hs] at e1
  cases e1
  obtain ⟨k, rfl⟩ : ∃ k, c = k + 1 := ⟨c - 1, by omega⟩
  by_cases n : one = []
  · subst n
    rw [sf_nil] at hs
    cases hs
    have : powL [] (k + 1) = [] := by
      apply tr_zero (tr_pow _ _)
      rw [zp_pow, zp_nil, Semiring.pow_succ]; grind
    rw [this, sf_nil]
  · have l1 := h1.len
    have l0 := List.length_pos_iff.mpr n
    have tp := tr_pow one (k + 1)
    have ln1 := ln_zp h1.tr n
    have lnp := QP.ln_pow ln1 (k + 1)
    rw [← q_pow, ← zp_pow] at lnp
    have np : powL one (k + 1) ≠ [] := fun e => QP.ln_ne lnp (by rw [e, zp_nil, q_zero])
    have lp := QP.ln_uniq lnp (ln_zp tp np)
    have lp0 := List.length_pos_iff.mpr np
    have e2 : (k + 1) * (one.length - 1) = k * (one.length - 1) + (one.length - 1) := Nat.succ_mul _ _
    have i2 : k * (one.length - 1) ≤ 2 * 3 := Nat.mul_le_mul (by omega) (by omega)
    obtain ⟨b1, b2, _⟩ := pow_ok' h1.bt (e := 3) (by omega) (k + 1)
    have i1 : (k + 1) * (2 + 3) ≤ 3 * 5 := Nat.mul_le_mul c2 (by omega)
    have eD : Pol.D (q (zp (powL one (k + 1)))) = cst ((k + 1 : Nat) : Rat) * (q (zp one) ^ k * Pol.D (q (zp one))) := by
      rw [zp_pow, q_pow, QP.D_pow]
    have eP : q (zp (powL one (k + 1))) = q (zp one) ^ k * q (zp one) := by rw [zp_pow, q_pow, Semiring.pow_succ]
    have m2 : (powL one (k + 1)).length * (200 + 1) ≤ 10 * 201 := Nat.mul_le_mul (by omega) (by omega)
    obtain ⟨t, a1, a2, a3, a4, a5⟩ := sf_ex (M := 200) (K := 2) (d := k * (one.length - 1)) (x := 16) (e := 4) (h := q (zp one) ^ k) (by decide) (QP.ln_pow ln1 k) tp (by omega) (b1.mono (by omega)) (by omega) (by rw [eP]; exact ⟨_, rfl⟩) (by rw [eD]; exact QP.dvd_mul_left ⟨_, rfl⟩ _) (by omega) (by decide) (by decide) (by decide) (by omega)
    rw [a1]
    congr 1
    refine rad_eq a2 p1 (a3 np) (r1 n) fun p hp => ⟨fun d => ?_, fun d => ?_⟩
    · rw [zp_pow, q_pow] at d
      exact irr_pow hp k d
    · rw [eP]; exact QP.dvd_mul_left d _
theorem kSs {one s : List Int} (h1 : Sm 4 2 one) (hs : sfL one = some s) : okM one s = true ∧ sfL (mulL one s) = some s := by
  obtain ⟨s', e1, p1, r1, b1, d1, ls⟩ := kS1 h1
  rw [hs] at e1
  cases e1
  have ss : Sm 4 88 s := ⟨p1.1, ls, b1⟩
  refine ⟨h1.okM ss, ?_⟩
  by_cases n : one = []
  · subst n
    rw [sf_nil] at hs
    cases hs
    have : mulL [] [] = [] := by decide +kernel
    rw [this, sf_nil]
  · have l1 := h1.len
    have R1 := r1 n
    have ns : s ≠ [] := fun k => R1.1 (by rw [k, zp_nil, q_zero])
    have tm := tr_mul one s
    have lns := ln_zp p1.1 ns
    have ln1 := ln_zp h1.tr n
    have lnm := QP.ln_mul ln1 lns
    rw [← q_mul, ← zp_mul] at lnm
    have nm : mulL one s ≠ [] := fun e => QP.ln_ne lnm (by rw [e, zp_nil, q_zero])
    have lm := QP.ln_uniq lnm (ln_zp tm nm)
    have lm0 := List.length_pos_iff.mpr nm
    have sm := h1.mul ss (e := 3) (by decide)
    have lsm := sm.len
    have m2 : (mulL one s).length * (800 + 1) ≤ 7 * 801 := Nat.mul_le_mul (by omega) (by omega)
    have l0 := List.length_pos_iff.mpr n
    obtain ⟨t, a1, a2, a3, a4, a5⟩ := sf_ex (M := 800) (K := 2) (d := s.length - 1) (x := 93) (e := 3) (h := q (zp s)) (by decide) lns tm (by omega) (sm.bt.mono (by omega)) (by omega) (by rw [zp_mul, q_mul]; exact QP.dvd_mul_left (QP.dvd_rfl _) _) (by
      rw [zp_mul, q_mul, D_mul]
      exact QP.dvd_add (QP.dvd_mul_left (QP.dvd_rfl _) _) (QP.dvd_mul_right d1 _)) (by omega) (by decide) (by decide) (by decide) (by omega)
    rw [a1]
    congr 1
    refine rad_eq a2 p1 (a3 nm) R1 fun p hp => ⟨fun d => ?_, fun d => ?_⟩
    · rw [zp_mul, q_mul] at d
      rcases hp.euclid d with k | k
      · exact k
      · exact (R1.2.1 p hp).mp k
    · rw [zp_mul, q_mul]; exact QP.dvd_mul_right d _
theorem kSb {one two s1 s2 : List Int} (h1 : Sm 4 2 one) (h2 : Sm 3 2 two) (e1 : sfL one = some s1) (e2 : sfL two = some s2) : okM s1 s2 = true ∧ ∃ s, sfL (mulL one two) = some s ∧ sfL (mulL s1 s2) = some s := by
  obtain ⟨s', k1, p1, r1, b1, d1, l1⟩ := kS1 h1
  rw [e1] at k1
  cases k1
  obtain ⟨s', k2, p2, r2, b2, d2, l2⟩ := kS2 h2
  rw [e2] at k2
  cases k2
  have m1 : Sm 4 88 s1 := ⟨p1.1, l1, b1⟩
  have m2 : Sm 3 21 s2 := ⟨p2.1, l2, b2⟩
  have sm := m1.mul m2 (e := 3) (by decide)
  have sb := h1.mul h2 (e := 3) (by decide)
  refine ⟨m1.okM m2, ?_⟩
  have ln1 := sm.len
  have ln2 := sb.len
  have i1 : (mulL s1 s2).length * (5600 + 1) ≤ 6 * 5601 := Nat.mul_le_mul (by omega) (by omega)
  have i2 : (mulL one two).length * (5600 + 1) ≤ 6 * 5601 := Nat.mul_le_mul (by omega) (by omega)
  obtain ⟨t, a1, a2, a3, a4, a5⟩ := sf_ex (M := 5600) (K := 4) (d := 0) (x := 112) (e := 3) (by decide) one_ln sm.tr (by omega) sm.bt (by omega) (one_dvd _) (one_dvd _) (by omega) (by decide) (by decide) (by decide) (by omega)
  obtain ⟨u, c1, c2, c3, c4, c5⟩ := sf_ex (M := 5600) (K := 4) (d := 0) (x := 7) (e := 3) (by decide) one_ln sb.tr (by omega) sb.bt (by omega) (one_dvd _) (one_dvd _) (by omega) (by decide) (by decide) (by decide) (by omega)
  refine ⟨u, c1, ?_⟩
  rw [a1]
  congr 1
  by_cases n1 : one = []
  · subst n1
    rw [sf_nil] at e1
    cases e1
    have x1 : mulL [] s2 = [] := tr_zero (tr_mul _ _) (by rw [zp_mul, zp_nil]; grind)
    have x2 : mulL [] two = [] := tr_zero (tr_mul _ _) (by rw [zp_mul, zp_nil]; grind)
    rw [x1] at a1
    rw [x2] at c1
    rw [a1] at c1
    exact Option.some.inj c1
  · by_cases n2 : two = []
    · subst n2
      rw [sf_nil] at e2
      cases e2
      have x1 : mulL s1 [] = [] := tr_zero (tr_mul _ _) (by rw [zp_mul, zp_nil]; grind)
      have x2 : mulL one [] = [] := tr_zero (tr_mul _ _) (by rw [zp_mul, zp_nil]; grind)
      rw [x1] at a1
      rw [x2] at c1
      rw [a1] at c1
      exact Option.some.inj c1
    · have R1 := r1 n1
      have R2 := r2 n2
      have nz1 : mulL s1 s2 ≠ [] := fun e => by
        have : q (zp s1) * q (zp s2) = 0 := by rw [← q_mul, ← zp_mul, e, zp_nil, q_zero]
        rcases QP.no_zero_div this with k | k
        · exact R1.1 k
        · exact R2.1 k
      have nz2 : mulL one two ≠ [] := fun e => by
        have : zp one * zp two = 0 := by rw [← zp_mul, e, zp_nil]
        rcases no_zero this with k | k
        · exact tr_ne h1.tr n1 k
        · exact tr_ne h2.tr n2 k
      refine rad_eq a2 c2 (a3 nz1) (c3 nz2) fun p hp => ?_
      rw [zp_mul, zp_mul, q_mul, q_mul]
      constructor
      · intro d
        rcases hp.euclid d with k | k
        · exact QP.dvd_mul_right ((R1.2.1 p hp).mp k) _
        · exact QP.dvd_mul_left ((R2.2.1 p hp).mp k) _
      · intro d
        rcases hp.euclid d with k | k
        · exact QP.dvd_mul_right ((R1.2.1 p hp).mpr k) _
        · exact QP.dvd_mul_left ((R2.2.1 p hp).mpr k) _
end Mn.Z

/-! Sums of powers of roots. -/
namespace Mn.Z
open Lean.Grind Pol
/-! sums -/
def smR (h : Nat → Rat) : Nat → Rat
  | 0 => 0
  | n + 1 => smR h n + h n
theorem smR_first (h : Nat → Rat) : ∀ n, smR h (n + 1) = h 0 + smR (fun i => h (i + 1)) n
  | 0 => by show 0 + h 0 = h 0 + 0; grind
  | n + 1 => by
    show smR h (n + 1) + h (n + 1) = h 0 + (smR (fun i => h (i + 1)) n + h (n + 1))
    rw [smR_first h n]; grind
theorem smR_congr {h g : Nat → Rat} : ∀ {n : Nat}, (∀ i, i < n → h i = g i) → smR h n = smR g n
  | 0, _ => rfl
  | n + 1, e => by
    show smR h n + h n = smR g n + g n
    rw [smR_congr fun i hi => e i (by omega), e n (by omega)]
theorem smR_zero {h : Nat → Rat} : ∀ {m n : Nat}, m ≤ n → (∀ i, m ≤ i → i < n → h i = 0) → smR h n = smR h m
  | m, 0, hm, _ => by rw [show m = 0 by omega]
  | m, n + 1, hm, e => by
    by_cases c : m = n + 1
    · rw [c]
    · show smR h n + h n = smR h m
      rw [e n (by omega) (by omega), smR_zero (n := n) (by omega) fun i h1 h2 => e i h1 (by omega)]; grind
theorem muc_sm : ∀ (k : Nat) (f g : PS Rat), PS.muc k f g = smR (fun i => f.c i * g.c (k - i)) (k + 1)
  | 0, f, g => by show f.c 0 * g.c 0 = 0 + f.c 0 * g.c 0; grind
  | k + 1, f, g => by
    rw [smR_first]
    show f.c 0 * g.c (k + 1) + PS.muc k f.tl g = _
    rw [muc_sm k]
    congr 1
    apply smR_congr
    intro i hi
    show f.c (i + 1) * g.c (k - i) = f.c (i + 1) * g.c (k + 1 - (i + 1))
    rw [show k + 1 - (i + 1) = k - i by omega]
/-- a series is told by its product with one whose first number is not 0 -/
theorem ps_cancel {f g h : PS Rat} (n : f.c 0 ≠ 0) (e : f * g = f * h) : g = h := by
  have z : ∀ (d : PS Rat), f * d = 0 → d = 0 := by
    intro d hd
    apply PS.ext
    intro k
    rw [PS.zero_c]
    induction k using Nat.strongRecOn with
    | _ k ih =>
      have : (f * d).c k = 0 := by rw [hd, PS.zero_c]
      have h1 : PS.muc k f d = 0 := this
      rw [muc_sm, smR_first] at h1
      have h2 : smR (fun i => f.c (i + 1) * d.c (k - (i + 1))) k = 0 := by
        rw [smR_zero (m := 0) (Nat.zero_le _)]
        · rfl
        · intro i _ hi
          rw [ih (k - (i + 1)) (by omega)]; grind
      rw [h2] at h1
      have h3 : f.c 0 * d.c k = 0 := by
        have h1 : f.c 0 * d.c (k - 0) + 0 = 0 := h1
        rw [Nat.sub_zero] at h1
        grind
      grind
  have h1 : f * (g - h) = 0 := by grind
  have := z _ h1
  grind
/-! the sums of powers -/
/-- a(deg - i) p(s - i), for i from 1 to n -/
def wh (a : List Int) (p : Nat → Rat) (s : Nat) : Nat → Rat
  | 0 => 0
  | n + 1 => wh a p s n + ((a.getD (a.length - 1 - (n + 1)) 0 : Int) : Rat) * p (s - (n + 1))
def nxt (a : List Int) (p : Nat → Rat) (s : Nat) : Rat :=
  if s = 0 then ((a.length - 1 : Nat) : Int)
  else -(wh a p s (min (s - 1) (a.length - 1)) + (if s ≤ a.length - 1 then (((s : Int) * a.getD (a.length - 1 - s) 0 : Int) : Rat) else 0)) / ((lastD a : Int) : Rat)
def psL (a : List Int) : Nat → List Rat
  | 0 => []
  | k + 1 => psL a k ++ [nxt a (fun j => (psL a k).getD j 0) k]
def ps (a : List Int) (k : Nat) : Rat := nxt a (fun j => (psL a k).getD j 0) k
theorem psL_len (a : List Int) : ∀ n, (psL a n).length = n
  | 0 => rfl
  | n + 1 => by unfold psL; rw [List.length_append, psL_len a n]; rfl
theorem psL_get (a : List Int) : ∀ n j, j < n → (psL a n).getD j 0 = ps a j
  | n + 1, j, h => by
    unfold psL
    by_cases e : j = n
    · subst e
      simp only [List.getD, List.getElem?_append]
      rw [if_neg (by rw [psL_len]; omega), psL_len, Nat.sub_self]
      rfl
    · have : (psL a n ++ [nxt a (fun j => (psL a n).getD j 0) n]).getD j 0 = (psL a n).getD j 0 := by
        simp only [List.getD, List.getElem?_append]
        rw [if_pos (by rw [psL_len]; omega)]
      rw [this, psL_get a n j (by omega)]
theorem psL_map (a : List Int) (n : Nat) : psL a n = (List.range n).map (ps a) := by
  apply List.ext_getElem
  · rw [psL_len]; simp
  · intro j h1 h2
    rw [psL_len] at h1
    have := psL_get a n j h1
    rw [List.getElem_map, List.getElem_range, ← this]
    simp [List.getD, List.getElem?_eq_getElem (show j < (psL a n).length by rw [psL_len]; exact h1)]
theorem wh_congr {a : List Int} {p r : Nat → Rat} {s : Nat} : ∀ {n : Nat}, (∀ i, i < n → p (s - (i + 1)) = r (s - (i + 1))) → wh a p s n = wh a r s n
  | 0, _ => rfl
  | n + 1, h => by
    unfold wh
    rw [wh_congr fun i hi => h i (by omega), h n (by omega)]
theorem ps_eq (a : List Int) {s : Nat} (h : s ≠ 0) : ps a s = -(wh a (ps a) s (min (s - 1) (a.length - 1)) + (if s ≤ a.length - 1 then (((s : Int) * a.getD (a.length - 1 - s) 0 : Int) : Rat) else 0)) / ((lastD a : Int) : Rat) := by
  unfold ps
  conv => lhs; unfold nxt
  rw [if_neg h]
  congr 3
  apply wh_congr
  intro i hi
  exact psL_get a s _ (by omega)
theorem ps_zero (a : List Int) : ps a 0 = (((a.length - 1 : Nat) : Int) : Rat) := by
  unfold ps nxt
  rw [if_pos rfl]
/-- the numbers, the last first -/
def Aq (a : List Int) : PS Rat := (q (Rv (a.length - 1) (zp a))).s
theorem Aq_c (a : List Int) (i : Nat) : (Aq a).c i = if i ≤ a.length - 1 then ((a.getD (a.length - 1 - i) 0 : Int) : Rat) else 0 := by
  show (((Rv (a.length - 1) (zp a)).s.c i : Int) : Rat) = _
  rw [Rv_c]
  split
  · rfl
  · rfl
theorem Aq_0 {a : List Int} (h : a ≠ []) : (Aq a).c 0 = ((lastD a : Int) : Rat) := by
  rw [Aq_c, if_pos (Nat.zero_le _), Nat.sub_zero, lastD_c h]; rfl
/-- the sums without the first -/
def Qs (a : List Int) : PS Rat := ⟨fun k => if k = 0 then 0 else ps a k⟩
def XD (f : PS Rat) : PS Rat := ⟨fun k => ((k : Int) : Rat) * f.c k⟩
theorem wh_sm (a : List Int) (p : Nat → Rat) (s : Nat) : ∀ n, wh a p s n = smR (fun i => ((a.getD (a.length - 1 - (i + 1)) 0 : Int) : Rat) * p (s - (i + 1))) n
  | 0 => rfl
  | n + 1 => by unfold wh smR; rw [wh_sm a p s n]
theorem newton {a : List Int} (ta : Tr a) (na : a ≠ []) : Aq a * Qs a = -XD (Aq a) := by
  apply PS.ext
  intro s
  rw [PS.neg_c]
  show PS.muc s (Aq a) (Qs a) = -(((s : Int) : Rat) * (Aq a).c s)
  have l0 := ratne (tr_lastD ta na)
  by_cases h : s = 0
  · subst h
    show (Aq a).c 0 * (Qs a).c 0 = _
    have e1 : (Qs a).c 0 = 0 := rfl
    have e2 : (((0 : Nat) : Int) : Rat) = 0 := rfl
    rw [e1, e2]; grind
  · rw [muc_sm, smR_first]
    obtain ⟨t, rfl⟩ : ∃ t, s = t + 1 := ⟨s - 1, by omega⟩
    have e1 : (Qs a).c (t + 1 - 0) = ps a (t + 1) := rfl
    have e2 : smR (fun i => (Aq a).c (i + 1) * (Qs a).c (t + 1 - (i + 1))) (t + 1) = wh a (ps a) (t + 1) (min (t + 1 - 1) (a.length - 1)) := by
      rw [wh_sm]
      rw [smR_zero (m := min (t + 1 - 1) (a.length - 1)) (by omega)]
      · apply smR_congr
        intro i hi
        rw [Aq_c, if_pos (by omega)]
        show _ * (if t + 1 - (i + 1) = 0 then 0 else ps a (t + 1 - (i + 1))) = _
        rw [if_neg (by omega)]
      · intro i h1 h2
        rw [Aq_c]
        by_cases c : i + 1 ≤ a.length - 1
        · have : t + 1 - (i + 1) = 0 := by omega
          show _ * (if t + 1 - (i + 1) = 0 then 0 else ps a (t + 1 - (i + 1))) = _
          rw [if_pos this]; grind
        · rw [if_neg c]; grind
    rw [e1, e2, Aq_0 na, ps_eq a h, Aq_c]
    generalize wh a (ps a) (t + 1) (min (t + 1 - 1) (a.length - 1)) = w at *
    generalize ((lastD a : Int) : Rat) = d at *
    by_cases c : t + 1 ≤ a.length - 1
    · rw [if_pos c, if_pos c, Rat.intCast_mul]
      generalize ((a.getD (a.length - 1 - (t + 1)) 0 : Int) : Rat) = x at *
      grind
    · rw [if_neg c, if_neg c]
      grind
theorem Qs_uniq {a : List Int} (ta : Tr a) (na : a ≠ []) {Q : PS Rat} (h : Aq a * Q = -XD (Aq a)) : Q = Qs a := by
  refine ps_cancel (f := Aq a) ?_ (h.trans (newton ta na).symm)
  rw [Aq_0 na]
  exact ratne (tr_lastD ta na)
theorem XD_mul (f g : PS Rat) : XD (f * g) = XD f * g + f * XD g := by
  -- XD f = X (D f)
  have hx : ∀ f : PS Rat, XD f = (X : QP).s * PS.D f := by
    intro f
    apply PS.ext
    intro k
    cases k with
    | zero =>
      rw [PS.mul_c0]
      show ((0 : Int) : Rat) * f.c 0 = (if (0 : Nat) = 1 then (1 : Rat) else 0) * _
      rw [if_neg (by omega)]
      have : ((0 : Int) : Rat) = 0 := rfl
      rw [this]; grind
    | succ k =>
      rw [PS.mul_cs, X_tl, PS.cst_mul]
      show (((k + 1 : Nat) : Int) : Rat) * f.c (k + 1) = (if (0 : Nat) = 1 then (1 : Rat) else 0) * _ + 1 * (((k + 1 : Nat) : Rat) * f.c (k + 1))
      rw [if_neg (by omega)]
      have : (((k + 1 : Nat) : Int) : Rat) = ((k + 1 : Nat) : Rat) := rfl
      rw [this]; grind
  rw [hx, hx, hx, PS.D_mul]; grind
/-- sums of a product -/
theorem Aq_mul {a b c : List Int} (ha : Tr a) (hb : Tr b) (hc : Tr c) (na : a ≠ []) (nb : b ≠ []) (h : zp c = zp a * zp b) : Aq c = Aq a * Aq b := by
  have l := (len_mul ha hb hc na nb h).1
  have la := List.length_pos_iff.mpr na
  have lb := List.length_pos_iff.mpr nb
  unfold Aq
  rw [h, show c.length - 1 = a.length - 1 + (b.length - 1) by omega, Rv_mul (by rw [Nat.sub_add_cancel lb]; exact lt_len b) _ _ (by rw [Nat.sub_add_cancel la]; exact lt_len a), q_mul]
  rfl
theorem ps_mul {a b c : List Int} (ha : Tr a) (hb : Tr b) (hc : Tr c) (na : a ≠ []) (nb : b ≠ []) (h : zp c = zp a * zp b) (k : Nat) : ps c k = ps a k + ps b k := by
  have lm := (len_mul ha hb hc na nb h).1
  have la := List.length_pos_iff.mpr na
  have lb := List.length_pos_iff.mpr nb
  have nc : c ≠ [] := fun e => by subst e; simp at lm; omega
  by_cases k0 : k = 0
  · subst k0
    rw [ps_zero, ps_zero, ps_zero, ← Rat.intCast_add]
    congr 1
    omega
  · have e := Aq_mul ha hb hc na nb h
    have := Qs_uniq hc nc (Q := Qs a + Qs b) (by
      rw [e, XD_mul]
      have h1 := newton ha na
      have h2 := newton hb nb
      grind)
    have := congrArg (fun f : PS Rat => f.c k) this
    simp only [PS.add_c] at this
    have e1 : ∀ a : List Int, (Qs a).c k = ps a k := fun a => if_neg k0
    rw [e1, e1, e1] at this
    exact this.symm
/-- sums of one whose roots are so many times as great -/
def tau (x : Rat) (f : PS Rat) : PS Rat := ⟨fun k => x ^ k * f.c k⟩
theorem tau_mul (x : Rat) (f g : PS Rat) : tau x (f * g) = tau x f * tau x g := by
  apply PS.ext
  intro k
  show x ^ k * PS.muc k f g = PS.muc k (tau x f) (tau x g)
  induction k generalizing f with
  | zero =>
    show x ^ 0 * (f.c 0 * g.c 0) = (x ^ 0 * f.c 0) * (x ^ 0 * g.c 0)
    rw [Rat.pow_zero]; grind
  | succ k ih =>
    show x ^ (k + 1) * (f.c 0 * g.c (k + 1) + PS.muc k f.tl g) = (x ^ 0 * f.c 0) * (x ^ (k + 1) * g.c (k + 1)) + PS.muc k (tau x f).tl (tau x g)
    have e : (tau x f).tl = PS.sc x (tau x f.tl) := PS.ext fun j => by
      show x ^ (j + 1) * f.c (j + 1) = x * (x ^ j * f.c (j + 1))
      rw [Rat.pow_succ]; grind
    rw [e, PS.muc_sc, ← ih, Rat.pow_succ, Rat.pow_zero]; grind
theorem tau_XD (x : Rat) (f : PS Rat) : tau x (XD f) = XD (tau x f) := PS.ext fun k => by
  show x ^ k * (((k : Int) : Rat) * f.c k) = ((k : Int) : Rat) * (x ^ k * f.c k)
  grind
theorem ps_tau {a b : List Int} {x y : Rat} (ha : Tr a) (hb : Tr b) (na : a ≠ []) (nb : b ≠ []) (hy : y ≠ 0) (l : b.length = a.length) (h : ∀ i, (Aq b).c i = y * (x ^ i * (Aq a).c i)) (k : Nat) : ps b k = x ^ k * ps a k := by
  by_cases k0 : k = 0
  · subst k0
    rw [ps_zero, ps_zero, l, Rat.pow_zero]; grind
  · have e : Aq b = PS.cst y * tau x (Aq a) := PS.ext fun i => by rw [PS.cst_mul, h]; rfl
    have h1 := newton ha na
    have h2 := congrArg (tau x) h1
    rw [tau_mul] at h2
    have h3 : tau x (-XD (Aq a)) = -XD (tau x (Aq a)) := PS.ext fun k => by
      show x ^ k * (-(((k : Int) : Rat) * (Aq a).c k)) = -(((k : Int) : Rat) * (x ^ k * (Aq a).c k))
      grind
    rw [h3] at h2
    have h4 : XD (PS.cst y * tau x (Aq a)) = PS.cst y * XD (tau x (Aq a)) := PS.ext fun k => by
      rw [PS.cst_mul]
      show ((k : Int) : Rat) * (PS.cst y * tau x (Aq a)).c k = y * (((k : Int) : Rat) * (tau x (Aq a)).c k)
      rw [PS.cst_mul]; grind
    have := Qs_uniq hb nb (Q := tau x (Qs a)) (by
      rw [e, h4]
      grind)
    have := congrArg (fun f : PS Rat => f.c k) this
    have e1 : ∀ a : List Int, (Qs a).c k = ps a k := fun a => if_neg k0
    have this : x ^ k * (Qs a).c k = (Qs b).c k := this
    rw [e1, e1] at this
    exact this.symm
end Mn.Z

/-! Sizes of sums of powers; weighed sums; the polynomial from its sums. -/
namespace Mn.Z
open Lean.Grind Pol
theorem int_pow_cast (x : Int) (n : Nat) : ((x ^ n : Int) : Rat) = (x : Rat) ^ n := by
  induction n with
  | zero => rw [Int.pow_zero, Rat.pow_zero]; rfl
  | succ n ih => rw [Int.pow_succ, Rat.pow_succ, Rat.intCast_mul, ih]
theorem pow4 (n : Nat) : (4 : Nat) ^ (n + 1) = 4 * 4 ^ n := by rw [Nat.pow_succ]; omega
theorem three_s (s : Nat) : 3 * s ≤ 2 * 4 ^ s := by
  induction s with
  | zero => decide
  | succ s ih =>
    rw [pow4]
    have : 1 ≤ 4 ^ s := Nat.one_le_pow _ _ (by decide)
    omega
theorem natAbs_pow_lt {x : Int} {B : Nat} (h : x.natAbs < 2 ^ B) : ∀ n, (x ^ n).natAbs ≤ 2 ^ (B * n)
  | 0 => by rw [Int.pow_zero]; exact Nat.one_le_two_pow
  | n + 1 => by
    rw [Int.pow_succ, Int.natAbs_mul, Nat.mul_succ, Nat.pow_add]
    exact Nat.mul_le_mul (natAbs_pow_lt h n) (Nat.le_of_lt h)
/-- times the last number to the exponent, they are whole and small -/
theorem ps_whole {a : List Int} {B : Nat} (ta : Tr a) (na : a ≠ []) (hb : Bt B (zp a)) : ∀ s : Nat, s ≠ 0 → ∃ N : Int, ps a s * ((lastD a : Int) : Rat) ^ s = (N : Rat) ∧ N.natAbs ≤ 2 ^ (B * s) * 4 ^ s := by
  intro s
  induction s using Nat.strongRecOn with
  | _ s ih =>
    intro h
    have l0 := ratne (tr_lastD ta na)
    have lb := hb.lastD
    have part : ∀ n, n ≤ s - 1 → ∃ W : Int, wh a (ps a) s n * ((lastD a : Int) : Rat) ^ (s - 1) = (W : Rat) ∧ 3 * W.natAbs + 2 ^ (B * s) * 4 ^ (s - n) ≤ 2 ^ (B * s) * 4 ^ s := by
      intro n
      induction n with
      | zero => intro _; exact ⟨0, by show (0 : Rat) * _ = 0; grind, by simp⟩
      | succ n ih2 =>
        intro hn
        obtain ⟨W, w1, w2⟩ := ih2 (by omega)
        obtain ⟨N, n1, n2⟩ := ih (s - (n + 1)) (by omega) (by omega)
        refine ⟨W + a.getD (a.length - 1 - (n + 1)) 0 * lastD a ^ n * N, ?_, ?_⟩
        · unfold wh
          rw [Rat.intCast_add, Rat.intCast_mul, Rat.intCast_mul, ← w1, ← n1, int_pow_cast]
          have e : ((lastD a : Int) : Rat) ^ (s - 1) = ((lastD a : Int) : Rat) ^ n * ((lastD a : Int) : Rat) ^ (s - (n + 1)) := by
            have : ∀ (x : Rat) (i j : Nat), x ^ (i + j) = x ^ i * x ^ j := fun x i j => by
              induction j with
              | zero => rw [Nat.add_zero, Rat.pow_zero]; grind
              | succ j ih => rw [← Nat.add_assoc, Rat.pow_succ, ih, Rat.pow_succ]; grind
            rw [← this]
            congr 1
            omega
          rw [e]
          generalize ((lastD a : Int) : Rat) ^ n = u
          generalize ((lastD a : Int) : Rat) ^ (s - (n + 1)) = v
          generalize ps a (s - (n + 1)) = w
          generalize wh a (ps a) s n = t
          grind
        · have h1 : (a.getD (a.length - 1 - (n + 1)) 0).natAbs ≤ 2 ^ B := Nat.le_of_lt (hb (a.length - 1 - (n + 1)))
          have h2 := natAbs_pow_lt lb n
          have h3 : (a.getD (a.length - 1 - (n + 1)) 0 * lastD a ^ n * N).natAbs ≤ 2 ^ (B * s) * 4 ^ (s - (n + 1)) := by
            rw [Int.natAbs_mul, Int.natAbs_mul]
            have := Nat.mul_le_mul (Nat.mul_le_mul h1 h2) n2
            refine Nat.le_trans this ?_
            rw [← Nat.mul_assoc, ← Nat.pow_add, ← Nat.pow_add]
            refine Nat.mul_le_mul_right _ (Nat.pow_le_pow_right (by decide) ?_)
            have : B * s = B * (n + 1) + B * (s - (n + 1)) := by rw [← Nat.mul_add]; congr 1; omega
            rw [Nat.mul_succ] at this
            omega
          have e4 : (4 : Nat) ^ (s - n) = 4 * 4 ^ (s - (n + 1)) := by rw [← pow4]; congr 1; omega
          rw [e4, Nat.mul_left_comm] at w2
          generalize 2 ^ (B * s) * 4 ^ (s - (n + 1)) = t at *
          have := Int.natAbs_add_le W (a.getD (a.length - 1 - (n + 1)) 0 * lastD a ^ n * N)
          omega
    obtain ⟨W, w1, w2⟩ := part (min (s - 1) (a.length - 1)) (by omega)
    refine ⟨-(W + (if s ≤ a.length - 1 then (s : Int) * a.getD (a.length - 1 - s) 0 else 0) * lastD a ^ (s - 1)), ?_, ?_⟩
    · rw [ps_eq a h, Rat.intCast_neg, Rat.intCast_add, ← w1]
      have e : ((lastD a : Int) : Rat) ^ s = ((lastD a : Int) : Rat) ^ (s - 1) * ((lastD a : Int) : Rat) := by
        rw [← Rat.pow_succ]; congr 1; omega
      rw [e]
      have ei : (if s ≤ a.length - 1 then (((s : Int) * a.getD (a.length - 1 - s) 0 : Int) : Rat) else 0) = (((if s ≤ a.length - 1 then (s : Int) * a.getD (a.length - 1 - s) 0 else 0) : Int) : Rat) := by
        split <;> rfl
      rw [ei, Rat.intCast_mul, int_pow_cast]
      generalize (((if s ≤ a.length - 1 then (s : Int) * a.getD (a.length - 1 - s) 0 else 0) : Int) : Rat) = x
      generalize wh a (ps a) s (min (s - 1) (a.length - 1)) = t
      generalize ((lastD a : Int) : Rat) ^ (s - 1) = v
      generalize ((lastD a : Int) : Rat) = d at *
      grind
    · rw [Int.natAbs_neg]
      have h2 := natAbs_pow_lt lb (s - 1)
      have h3 : ((if s ≤ a.length - 1 then (s : Int) * a.getD (a.length - 1 - s) 0 else 0) * lastD a ^ (s - 1)).natAbs ≤ s * 2 ^ (B * s) := by
        rw [Int.natAbs_mul]
        have h1 : (if s ≤ a.length - 1 then (s : Int) * a.getD (a.length - 1 - s) 0 else 0).natAbs ≤ s * 2 ^ B := by
          split
          · rw [Int.natAbs_mul, Int.natAbs_natCast]
            exact Nat.mul_le_mul_left _ (Nat.le_of_lt (hb (a.length - 1 - s)))
          · exact Nat.zero_le _
        refine Nat.le_trans (Nat.mul_le_mul h1 h2) ?_
        rw [Nat.mul_assoc, ← Nat.pow_add]
        refine Nat.mul_le_mul_left _ (Nat.pow_le_pow_right (by decide) ?_)
        have : B * s = B * (s - 1) + B := by rw [← Nat.mul_succ]; congr 1; omega
        omega
      have h4 := Nat.mul_le_mul_left (2 ^ (B * s)) (three_s s)
      have h5 := Int.natAbs_add_le W ((if s ≤ a.length - 1 then (s : Int) * a.getD (a.length - 1 - s) 0 else 0) * lastD a ^ (s - 1))
      rw [Nat.mul_left_comm, Nat.mul_left_comm (2 ^ (B * s)) 2, Nat.mul_comm (2 ^ (B * s)) s] at h4
      generalize 2 ^ (B * s) * 4 ^ s = t at *
      generalize 2 ^ (B * s) * 4 ^ (s - min (s - 1) (a.length - 1)) = t2 at *
      generalize s * 2 ^ (B * s) = t3 at *
      omega
theorem ps_bd {a : List Int} {B : Nat} (ta : Tr a) (na : a ≠ []) (hb : Bt B (zp a)) (la : a.length < 1000) (s : Nat) : Bd ((B + 2) * s + 10) (ps a s) := by
  by_cases h : s = 0
  · subst h
    rw [ps_zero]
    exact bd_int (by
      have : (2 : Nat) ^ 10 = 1024 := by decide
      rw [Nat.mul_zero, Nat.zero_add]
      omega) (by omega)
  · obtain ⟨N, h1, h2⟩ := ps_whole ta na hb s h
    have l0 := tr_lastD ta na
    have ln : lastD a ^ s ≠ 0 := by
      intro e
      have := congrArg Int.natAbs e
      rw [Int.natAbs_pow] at this
      have := Nat.pow_pos (n := s) (show 0 < (lastD a).natAbs by omega)
      omega
    have e : ps a s = Rat.divInt N (lastD a ^ s) := by
      rw [Rat.divInt_eq_div, ← h1, int_pow_cast]
      have : ((lastD a : Int) : Rat) ^ s ≠ 0 := by rw [← int_pow_cast]; exact ratne ln
      generalize ((lastD a : Int) : Rat) ^ s = d at *
      grind
    rw [e]
    have p4 : (4 : Nat) ^ s = 2 ^ (2 * s) := by rw [Nat.pow_mul]
    refine bd_divInt ln ?_ ?_
    · refine Nat.lt_of_le_of_lt h2 ?_
      rw [p4, ← Nat.pow_add]
      exact Nat.pow_lt_pow_right (by decide) (by rw [Nat.add_mul]; omega)
    · refine Nat.lt_of_le_of_lt (natAbs_pow_lt hb.lastD s) ?_
      exact Nat.pow_lt_pow_right (by decide) (by rw [Nat.add_mul]; omega)
theorem bd_zero {b : Nat} (h : 1 ≤ b) : Bd b 0 := bd_int (n := 0) (Nat.two_pow_pos b) h
theorem bd_c {x : Int} {b : Nat} (h : x.natAbs < 2 ^ b) : Bd (b + 1) (x : Rat) := bd_int (Nat.lt_of_lt_of_le h (Nat.pow_le_pow_right (by decide) (by omega))) (by omega)
theorem wh_bd {a : List Int} {B M : Nat} {p : Nat → Rat} {s : Nat} (hb : Bt B (zp a)) (hp : ∀ j, j < s → Bd M (p j)) : ∀ n, n < s → Bd (n * (B + M + 2) + 1) (wh a p s n)
  | 0, _ => by show Bd _ 0; exact bd_zero (by omega)
  | n + 1, h => by
    unfold wh
    have h1 := wh_bd hb hp n (by omega)
    have h2 := bd_mul (bd_c (hb (a.length - 1 - (n + 1)))) (hp (s - (n + 1)) (by omega))
    refine (bd_add h1 h2).mono ?_
    rw [Nat.succ_mul]; omega
/-! weighed sums -/
def wS (p : Nat → Rat) : List Int → Nat → Rat
  | [], _ => 0
  | x :: l, k => ((x : Int) : Rat) * p k + wS p l (k + 1)
theorem wS_cons (p : Nat → Rat) (x : Int) (l : List Int) (k : Nat) : wS p (x :: l) k = ((x : Int) : Rat) * p k + wS p l (k + 1) := rfl
theorem wS_trim (p : Nat → Rat) : ∀ (l : List Int) (k : Nat), wS p (trimL l) k = wS p l k
  | [], k => rfl
  | x :: l, k => by
    have ih := wS_trim p l (k + 1)
    rw [trimL_cons, wS_cons, ← ih]
    split
    · rename_i h
      rw [h.1, h.2]
      show (0 : Rat) = ((0 : Int) : Rat) * p k + 0
      have : ((0 : Int) : Rat) = 0 := rfl
      rw [this]; grind
    · rfl
theorem wS_eq {p : Nat → Rat} {a b : List Int} (h : zp a = zp b) (k : Nat) : wS p a k = wS p b k := by
  rw [← wS_trim p a, ← wS_trim p b, zp_trimL h]
def adC : List Int → List Int → List Int
  | [], b => b
  | a, [] => a
  | x :: a, y :: b => (x + y) :: adC a b
theorem zp_adC : ∀ a b : List Int, zp (adC a b) = zp a + zp b
  | [], b => by show zp b = zp [] + zp b; rw [zp_nil]; grind
  | x :: a, [] => by show zp (x :: a) = zp (x :: a) + zp []; rw [zp_nil]; grind
  | x :: a, y :: b => by
    show ofL ((x + y) :: adC a b) = ofL (x :: a) + ofL (y :: b)
    have ih : ofL (adC a b) = ofL a + ofL b := zp_adC a b
    rw [ofL_cons, ofL_cons, ofL_cons, ih, cst_add]; grind
theorem wS_adC (p : Nat → Rat) : ∀ (a b : List Int) (k : Nat), wS p (adC a b) k = wS p a k + wS p b k
  | [], b, k => by show wS p b k = 0 + wS p b k; grind
  | x :: a, [], k => by show wS p (x :: a) k = wS p (x :: a) k + 0; grind
  | x :: a, y :: b, k => by
    show ((x + y : Int) : Rat) * p k + wS p (adC a b) (k + 1) = (((x : Int) : Rat) * p k + wS p a (k + 1)) + (((y : Int) : Rat) * p k + wS p b (k + 1))
    rw [wS_adC p a b, Rat.intCast_add]; grind
theorem wS_add (p : Nat → Rat) (a b : List Int) (k : Nat) : wS p (addL a b) k = wS p a k + wS p b k := by
  rw [wS_eq (b := adC a b) (by rw [zp_add, zp_adC]), wS_adC]
theorem wS_X (p : Nat → Rat) (a : List Int) (k : Nat) : wS p (mulL [0, 1] a) k = wS p a (k + 1) := by
  rw [wS_eq (b := 0 :: a) (by
    rw [zp_mul, zp_X]
    show _ = ofL (0 :: a)
    rw [ofL_cons, cst_zero]; grind)]
  show ((0 : Int) : Rat) * p k + _ = _
  have : ((0 : Int) : Rat) = 0 := rfl
  rw [this]; grind
theorem wS_one (p : Nat → Rat) (k : Nat) : wS p [0, 1] k = p (k + 1) := by
  show ((0 : Int) : Rat) * p k + (((1 : Int) : Rat) * p (k + 1) + 0) = _
  have : ((0 : Int) : Rat) = 0 := rfl
  have h1 : ((1 : Int) : Rat) = 1 := rfl
  rw [this, h1]; grind
theorem wS_bd {p : Nat → Rat} {b M : Nat} : ∀ (l : List Int) (k : Nat), (∀ x ∈ l, x.natAbs < 2 ^ b) → (∀ j, j < k + l.length → Bd M (p j)) → Bd (l.length * (b + M + 2) + 1) (wS p l k)
  | [], k, _, _ => bd_zero (by omega)
  | x :: l, k, hl, hp => by
    unfold wS
    have h1 := wS_bd l (k + 1) (fun y hy => hl y (List.mem_cons_of_mem _ hy)) (fun j hj => hp j (by simp only [List.length_cons]; omega))
    have h2 := bd_mul (bd_c (hl x List.mem_cons_self)) (hp k (by simp))
    refine (bd_add h2 h1).mono ?_
    rw [List.length_cons, Nat.succ_mul]; omega
/-! the polynomial from its sums -/
/-- Σ v(j) s(k-1-j), j < n -/
def fw (v s : Nat → Rat) (k : Nat) (n : Nat) : Rat := smR (fun j => v j * s (k - 1 - j)) n
/-- the numbers over the last one are told by the sums -/
theorem from_eq {a : List Int} (ta : Tr a) (na : a ≠ []) {k : Nat} (h : k ≠ 0) : ((k : Int) : Rat) * ((Aq a).c k / ((lastD a : Int) : Rat)) = -fw (fun j => (Aq a).c j / ((lastD a : Int) : Rat)) (fun j => ps a (j + 1)) k k := by
  have e := congrArg (fun f : PS Rat => f.c k) (newton ta na)
  have l0 := ratne (tr_lastD ta na)
  have e1 : PS.muc k (Aq a) (Qs a) = -(((k : Int) : Rat) * (Aq a).c k) := e
  rw [muc_sm] at e1
  have e2 : smR (fun i => (Aq a).c i * (Qs a).c (k - i)) (k + 1) = smR (fun i => (Aq a).c i * (Qs a).c (k - i)) k := by
    show _ + (Aq a).c k * (Qs a).c (k - k) = _
    rw [Nat.sub_self]
    have : (Qs a).c 0 = 0 := rfl
    rw [this]; grind
  rw [e2] at e1
  have e3 : ∀ n, n ≤ k → fw (fun j => (Aq a).c j / ((lastD a : Int) : Rat)) (fun j => ps a (j + 1)) k n = smR (fun i => (Aq a).c i * (Qs a).c (k - i)) n / ((lastD a : Int) : Rat) := by
    intro n
    unfold fw
    induction n with
    | zero => intro _; show (0 : Rat) = 0 / _; grind
    | succ n ih =>
      intro hn
      show smR _ n + (Aq a).c n / ((lastD a : Int) : Rat) * ps a (k - 1 - n + 1) = (smR _ n + (Aq a).c n * (Qs a).c (k - n)) / _
      rw [ih (by omega)]
      have : (Qs a).c (k - n) = ps a (k - 1 - n + 1) := by
        show (if k - n = 0 then 0 else ps a (k - n)) = _
        rw [if_neg (by omega)]; congr 1; omega
      rw [this]
      generalize smR (fun i => (Aq a).c i * (Qs a).c (k - i)) n = t
      generalize ((lastD a : Int) : Rat) = d at *
      grind
  rw [e3 k (Nat.le_refl _), e1]
  generalize ((lastD a : Int) : Rat) = d at *
  grind
end Mn.Z

/-! Mini: ranges from a number on; comprehensions with tests. -/
namespace Mn
open PySem L2
theorem rangeD_nat (n : Nat) : ∀ k : Nat, rangeD (k : Int) n = rgI k n := by
  intro k
  have : ∀ (n k : Nat), (List.range' k n).map (fun (i : Nat) => D.int (i : Int)) = rgI k n := fun n => by
    induction n with
    | zero => intro k; rfl
    | succ n ih => intro k; rw [List.range'_succ, List.map_cons, ih]; rfl
  rw [← this, List.range'_eq_map_range, List.map_map]
  unfold rangeD
  apply List.map_congr_left
  intro i _
  show D.int ((k : Int) + (i : Int)) = D.int ((k + i : Nat) : Int)
  congr 1
theorem rg2_nat {C : CallF} {ρ : Env} {ow : Bool} {a b : ME} {i j : Nat} {z z1 z2 : Zs} (h : evE C ρ a z = some (.sh (.int i), z1)) (h' : evE C ρ b z1 = some (.sh (.int j), z2)) (h1 : i ≤ 16777216) (h2 : j ≤ 16777216) : evI C ρ ow (.rg2 a b) z = some (rgI i (j - i), z2) := by
  rw [evI, h, bd_some, h', bd_some, ← rangeD_nat]
  show (if rgOk (i : Int) = true ∧ rgOk (j : Int) = true ∧ small ((j : Int) - (i : Int)).toNat = true then some (rangeD (i : Int) ((j : Int) - (i : Int)).toNat, z2) else none) = _
  rw [if_pos ⟨rgOk_of (by omega) (by omega), rgOk_of (by omega) (by omega), small_of (by omega)⟩]
  congr 2
  congr 1
  omega
/-- as range_inv, with the last number told -/
theorem range_inv2 {σ : Type} {z : Zs} {f : D → Env → Zs → Option (Out × Zs)} (E : σ → Slot → Env) (I : Nat → σ → Prop) (N : Nat)
    (h : ∀ j s x, j < N → I j s → ∃ s', f (.int j) (E s x) z = some (.nx (E s' (.sh (.int j))), z) ∧ I (j + 1) s') :
    ∀ (n k : Nat) (s : σ) (x : Slot), k + n = N → I k s → ∃ s', loopS f (rgI k n) (E s x) z = some (.nx (E s' (if n = 0 then x else .sh (.int ((N - 1 : Nat) : Int)))), z) ∧ I N s'
  | 0, k, s, x, hk, hi => ⟨s, rfl, by rw [← hk]; exact hi⟩
  | n + 1, k, s, x, hk, hi => by
    obtain ⟨s', e, hi'⟩ := h k s x (by omega) hi
    obtain ⟨s2, e2, hi2⟩ := range_inv2 E I N h n (k + 1) s' (.sh (.int k)) (by omega) hi'
    refine ⟨s2, ?_, hi2⟩
    show loopS f (_ :: rgI (k + 1) n) _ _ = _
    unfold loopS
    rw [e, if_neg (by omega)]
    simp only
    rw [e2]
    congr 3
    split
    · rename_i h0; subst h0; congr 3; omega
    · rfl
theorem lcL_fm {α : Type} {z : Zs} {f : D → Zs → Option (Option α × Zs)} (g : D → Option α) : ∀ ds : List D, (∀ d ∈ ds, f d z = some (g d, z)) → lcL f ds z = some (ds.filterMap g, z)
  | [], _ => rfl
  | d :: ds, h => by
    unfold lcL
    rw [h d List.mem_cons_self, bd_some, lcL_fm g ds fun d m => h d (List.mem_cons_of_mem _ m), bd_some, List.filterMap_cons]
    cases g d <;> rfl
theorem mem_rgI : ∀ {n k : Nat} {d : D}, d ∈ rgI k n → ∃ j : Nat, k ≤ j ∧ j < k + n ∧ d = .int j
  | 0, k, d, h => by cases h
  | n + 1, k, d, h => by
    rcases List.mem_cons.mp h with rfl | h
    · exact ⟨k, by omega, by omega, rfl⟩
    · obtain ⟨j, h1, h2, h3⟩ := mem_rgI h
      exact ⟨j, by omega, by omega, h3⟩
end Mn

/-! Mini: lists of fractions; sums of powers. -/
namespace Mn
open PySem L2 Z
def ql (l : List Rat) : List D := l.map qd
theorem ql_len (l : List Rat) : (ql l).length = l.length := List.length_map ..
theorem qd_plain (p : Rat) (n : Nat) : plain (n + 2) (qd p) = true := by
  cases n <;> rfl
theorem ql_plain (l : List Rat) : plain 9 (.lst (ql l)) = true := by
  show (ql l).all (plain 8) = true
  unfold ql
  rw [List.all_map, List.all_eq_true]
  intro x _
  exact qd_plain x 6
theorem ql_inj {a b : List Rat} : D.lst (ql a) = .lst (ql b) ↔ a = b := by
  constructor
  · intro h
    injection h with h
    exact (List.map_inj_right (fun x y e => qd_inj.mp e)).mp h
  · rintro rfl; rfl
theorem ne_ql {x y : R} {a b : List Rat} (h : a = b) (hx : x.view = .lst (ql a)) (hy : y.view = .lst (ql b)) : cmpR .ne x y = some false := by
  rw [c_ne (by rw [hx]; exact ql_plain a) (by rw [hy]; exact ql_plain b), hx, hy, h]
  rw [_root_.decide_eq_true rfl]; rfl
theorem at_ql {l : List Rat} {k : Nat} (h : k < l.length) : atI (ql l) (k : Int) = some (qd l[k]) := by
  unfold ql
  rw [atI_map, atI_nat h]; rfl
theorem sub_qvw {l : List Rat} {k : Nat} {z : Zs} (h : k < l.length) : subR (.vw (ql l)) (.sh (.int k)) z = some (Q l[k]) := by
  show ((R.vw (ql l)).items.bind fun ds => (atI ds k).map R.sh) = _
  simp only [R.items, Option.bind_some, at_ql h, Option.map_some]
theorem sub_qsh {l : List Rat} {k : Nat} {z : Zs} (h : k < l.length) : subR (.sh (.lst (ql l))) (.sh (.int k)) z = some (Q l[k]) := by
  show ((R.sh (.lst (ql l))).items.bind fun ds => (atI ds k).map R.sh) = _
  simp only [R.items, Option.bind_some, at_ql h, Option.map_some]
theorem len_qvw {l : List Rat} : biR .len [.vw (ql l)] = some (.sh (.int l.length)) := by
  show some (R.sh (.int ((ql l).length : Nat))) = _; rw [ql_len]
theorem len_qsh {l : List Rat} : biR .len [.sh (.lst (ql l))] = some (.sh (.int l.length)) := by
  show some (R.sh (.int ((ql l).length : Nat))) = _; rw [ql_len]
theorem tup_neg (p : Rat) : D.tup [.int (-p.num), .int (p.den : Int)] = qd (-p) := by
  unfold qd
  rw [Rat.neg_num, Rat.neg_den]
theorem ql_snoc (l : List Rat) (x : Rat) : ql l ++ [qd x] = ql (l ++ [x]) := by unfold ql; rw [List.map_append]; rfl
theorem getD_get {l : List Rat} {k : Nat} (h : k < l.length) : l.getD k 0 = l[k] := by simp [List.getD, List.getElem?_eq_getElem h]
section
variable {P : List Fn} {K i j jc jt jp js f0 f1 f2 : Nat} {z : Zs} {C : CallF} {a : List Int}
/-- what the callees do with fractions -/
structure Fr (C : CallF) (z : Zs) (j0 j1 : Nat) : Prop where
  pl : ∀ (p q : Rat) (a b : Nat), Bd a p → Bd b q → a + b < 9000 → C j0 [qd p, qd q] z = some (Q (p + q), z)
  tm : ∀ (p q : Rat) (a b : Nat), Bd a p → Bd b q → a + b < 9000 → C j1 [qd p, qd q] z = some (Q (p * q), z)
theorem sub_int {e : ME} {ρ : Env} {l : List Int} {k : Nat} {n : Int} {m : Nat} (h : ρ[k]? = some (.sh (pl l))) (he : evE C ρ e z = some (.sh (.int n), z)) (hn : n = (m : Int)) (hm : m < l.length) : evE C ρ (.sub (.nvar k) e) z = some (.sh (.int (l.getD m 0)), z) := by
  have e1 : evE C ρ (.nvar k) z = some (.sh (pl l), z) := by simp only [evE, h]
  rw [evE, e1, bd_some, he, bd_some, hn, sub_sh hm, getD_lt hm]
  rfl
theorem sub_rat {e : ME} {ρ : Env} {l : List Rat} {k : Nat} {n : Int} {m : Nat} (h : ρ[k]? = some (.ow (ql l))) (he : evE C ρ e z = some (.sh (.int n), z)) (hn : n = (m : Int)) (hm : m < l.length) : evE C ρ (.sub (.nvar k) e) z = some (Q (l.getD m 0), z) := by
  have e1 : evE C ρ (.nvar k) z = some (.vw (ql l), z) := by simp only [evE, h]
  rw [evE, e1, bd_some, he, bd_some, hn, sub_qvw hm, getD_get hm]
  rfl
theorem sub_rat' {e : ME} {ρ : Env} {l : List Rat} {k : Nat} {n : Int} {m : Nat} (h : ρ[k]? = some (.sh (.lst (ql l)))) (he : evE C ρ e z = some (.sh (.int n), z)) (hn : n = (m : Int)) (hm : m < l.length) : evE C ρ (.sub (.nvar k) e) z = some (Q (l.getD m 0), z) := by
  have e1 : evE C ρ (.nvar k) z = some (.sh (.lst (ql l)), z) := by simp only [evE, h]
  rw [evE, e1, bd_some, he, bd_some, hn, sub_qsh hm, getD_get hm]
  rfl
theorem sub_lastI {l : List Int} {ρ : Env} {k : Nat} (h : ρ[k]? = some (.sh (pl l))) (n : l ≠ []) : evE C ρ (.sub (.nvar k) (.neg (.lit (.int (1))))) z = some (.sh (.int (lastD l)), z) := by
  have e1 : evE C ρ (.nvar k) z = some (.sh (pl l), z) := by simp only [evE, h]
  have e2 : evE C ρ (.neg (.lit (.int (1)))) z = some (.sh (.int (-1)), z) := rfl
  rw [evE, e1, bd_some, e2, bd_some, sub_last_sh n]
  rfl
/-- one whole -/
theorem ps_inner (F : Fr C z f0 f1) {n s : Nat} {l : List Rat} {B M : Nat} (na : a ≠ []) (hb : Bt B (zp a)) (hl : l.length = s) (hM : ∀ j, j < s → Bd M (l.getD j 0)) (hB : s * (B + M + 2) + 1 + (B + 1 + M) < 9000) (s1 : 1 ≤ s) (la : a.length < 1000) (hs : s < 1000) {x6 : Slot} :
    ∃ x', exS C (.loop [] (.nm 6) (.rg2 (.lit (.int (1))) (.bin .add (.bi .min2 (.cons (.bin .sub (.nvar 4) (.lit (.int (1)))) (.cons (.nvar 2) .nil))) (.lit (.int (1))))) (.cons (.asg [5] 5 (.call f0 (.cons (.var 5) (.cons (.call f1 (.cons (.tup (.cons (.sub (.nvar 0) (.bin .sub (.nvar 2) (.nvar 6))) (.cons (.lit (.int (1))) .nil))) (.cons (.sub (.nvar 3) (.bin .sub (.nvar 4) (.nvar 6))) .nil))) .nil)))) .nil))
      [.sh (pl a), .sh (.int n), .sh (.int ((a.length - 1 : Nat) : Int)), .ow (ql l), .sh (.int s), .sh (qd 0), x6] z = some (.nx [.sh (pl a), .sh (.int n), .sh (.int ((a.length - 1 : Nat) : Int)), .ow (ql l), .sh (.int s), .sh (qd (wh a (fun j => l.getD j 0) s (min (s - 1) (a.length - 1)))), x'], z) := by
  have la0 := List.length_pos_iff.mpr na
  obtain ⟨s', x', lp, hs', _⟩ := range_inv (z := z) (f := lpF C (.nm 6) (.cons (.asg [5] 5 (.call f0 (.cons (.var 5) (.cons (.call f1 (.cons (.tup (.cons (.sub (.nvar 0) (.bin .sub (.nvar 2) (.nvar 6))) (.cons (.lit (.int (1))) .nil))) (.cons (.sub (.nvar 3) (.bin .sub (.nvar 4) (.nvar 6))) .nil))) .nil)))) .nil))
    (fun (w : Rat) x => [.sh (pl a), .sh (.int n), .sh (.int ((a.length - 1 : Nat) : Int)), .ow (ql l), .sh (.int s), .sh (qd w), x]) (fun k w => w = wh a (fun j => l.getD j 0) s (k - 1) ∧ 1 ≤ k) (min (s - 1) (a.length - 1) + 1)
    (by
      rintro k w x hk ⟨rfl, k1⟩
      obtain ⟨j, rfl⟩ : ∃ j, k = j + 1 := ⟨k - 1, by omega⟩
      rw [Nat.add_sub_cancel]
      refine ⟨wh a (fun j => l.getD j 0) s (j + 1), ?_, rfl, by omega⟩
      simp -implicitDefEqProofs only [lpF, setT, List.set_cons_succ, List.set_cons_zero]
      have b1 := wh_bd (p := fun j => l.getD j 0) hb hM j (by omega)
      have jm : j * (B + M + 2) ≤ s * (B + M + 2) := Nat.mul_le_mul_right _ (by omega)
      have c1 := bd_c (hb (a.length - 1 - (j + 1)))
      have c2 := hM (s - (j + 1)) (by omega)
      have e2 := F.tm _ _ _ _ c1 c2 (by omega)
      have e1 := F.pl _ _ _ _ b1 (bd_mul c1 c2) (by omega)
      have m1 : a.length - 1 - (j + 1) < a.length := by omega
      have m2 : s - (j + 1) < l.length := by omega
      have i1 : ((a.length - 1 : Nat) : Int) - ((j + 1 : Nat) : Int) = ((a.length - 1 - (j + 1) : Nat) : Int) := by omega
      have i2 : (s : Int) - ((j + 1 : Nat) : Int) = ((s - (j + 1) : Nat) : Int) := by omega
      have v1 := sub_sh (z := z) m1
      have v2 := sub_qvw (z := z) m2
      rw [← getD_lt m1] at v1
      rw [← getD_get m2] at v2
      have e2' : C f1 [.tup [.int (a.getD (a.length - 1 - (j + 1)) 0), .int 1], qd (l.getD (s - (j + 1)) 0)] z = _ := e2
      rw [exB]; simp -implicitDefEqProofs only [exS, freeze, froz, evE.eq_1, evE.eq_2, evE.eq_3, evE.eq_4, evE.eq_5, evE.eq_6, evE.eq_7, evE.eq_8, evE.eq_9, evE.eq_10, evE.eq_11, evE.eq_12, evE.eq_13, evE.eq_14, evE.eq_15, evE.eq_16, evE.eq_17, evE.eq_18, evRs, evO, evC, bd_some, bd_none, List.getElem?_cons_succ, List.getElem?_cons_zero, List.set_cons_succ, List.set_cons_zero, putR, setTs, setT, b_add, b_sub, b_band, c_lt, c_le, c_gt, c_ge, c_isn, c_notn, isn_int, isn_non, bi_abs, bi_int, bi_intb, bi_max2, bi_min2, toB_bl, toDs_nil, toDs_cons, R.toD, Option.map_some, Option.map_none, List.getD_cons_zero, List.getD_cons_succ, if_true, eq_int, ne_int, toDs, i1, i2, v1, v2, e2']
      simp -implicitDefEqProofs only [exS, freeze, froz, evE.eq_1, evE.eq_2, evE.eq_3, evE.eq_4, evE.eq_5, evE.eq_6, evE.eq_7, evE.eq_8, evE.eq_9, evE.eq_10, evE.eq_11, evE.eq_12, evE.eq_13, evE.eq_14, evE.eq_15, evE.eq_16, evE.eq_17, evE.eq_18, evRs, evO, evC, bd_some, bd_none, List.getElem?_cons_succ, List.getElem?_cons_zero, List.set_cons_succ, List.set_cons_zero, putR, setTs, setT, b_add, b_sub, b_band, c_lt, c_le, c_gt, c_ge, c_isn, c_notn, isn_int, isn_non, bi_abs, bi_int, bi_intb, bi_max2, bi_min2, toB_bl, toDs_nil, toDs_cons, R.toD, Option.map_some, Option.map_none, List.getD_cons_zero, List.getD_cons_succ, if_true, eq_int, ne_int, toDs, e1]
      rw [exB]
      rfl) (min (s - 1) (a.length - 1)) 1 0 x6 (by omega) ⟨rfl, by omega⟩
  subst hs'
  refine ⟨x', exS_loop rfl (rg2_nat (i := 1) (j := min (s - 1) (a.length - 1) + 1) (z1 := z) (z2 := z) rfl ?_ (by omega) (by omega)) lp⟩
  have em : (if ((a.length - 1 : Nat) : Int) < (s : Int) - 1 then ((a.length - 1 : Nat) : Int) else (s : Int) - 1) + 1 = ((min (s - 1) (a.length - 1) + 1 : Nat) : Int) := by split <;> omega
  simp -implicitDefEqProofs only [exS, freeze, froz, evE.eq_1, evE.eq_2, evE.eq_3, evE.eq_4, evE.eq_5, evE.eq_6, evE.eq_7, evE.eq_8, evE.eq_9, evE.eq_10, evE.eq_11, evE.eq_12, evE.eq_13, evE.eq_14, evE.eq_15, evE.eq_16, evE.eq_17, evE.eq_18, evRs, evO, evC, bd_some, bd_none, List.getElem?_cons_succ, List.getElem?_cons_zero, List.set_cons_succ, List.set_cons_zero, putR, setTs, setT, b_add, b_sub, b_band, c_lt, c_le, c_gt, c_ge, c_isn, c_notn, isn_int, isn_non, bi_abs, bi_int, bi_intb, bi_max2, bi_min2, toB_bl, toDs_nil, toDs_cons, R.toD, Option.map_some, Option.map_none, List.getD_cons_zero, List.getD_cons_succ, if_true, eq_int, ne_int, em]
end
end Mn

/-! Mini: sums of powers, weighed sums, the polynomial from its sums. -/
namespace Mn
open PySem L2 Z
section
variable {P : List Fn} {K i j jc jt jp js f0 f1 f2 : Nat} {z : Zs} {C : CallF} {a : List Int}
theorem cutQ {l : List Rat} {n : Nat} (h : l.length = n) : cutL (ql l) none (some (n : Int)) = ql l := by
  unfold cutL
  have e0 : HT.sIx (ql l).length 0 none = 0 := rfl
  have e1 : HT.sIx (ql l).length (ql l).length (some (n : Int)) = n := by
    rw [HT.sIx_nat, ql_len]; omega
  rw [e0, e1, List.drop_zero, Nat.sub_zero]
  exact List.take_of_length_le (by rw [ql_len]; omega)
/-- the outer loop's body -/
def psB (f0 f1 f2 : Nat) : MSs := (.cons (.asg [] 5 (.tup (.cons (.lit (.int (0))) (.cons (.lit (.int (1))) .nil)))) (.cons (.loop [] (.nm 6) (.rg2 (.lit (.int (1))) (.bin .add (.bi .min2 (.cons (.bin .sub (.nvar 4) (.lit (.int (1)))) (.cons (.nvar 2) .nil))) (.lit (.int (1))))) (.cons (.asg [5] 5 (.call f0 (.cons (.var 5) (.cons (.call f1 (.cons (.tup (.cons (.sub (.nvar 0) (.bin .sub (.nvar 2) (.nvar 6))) (.cons (.lit (.int (1))) .nil))) (.cons (.sub (.nvar 3) (.bin .sub (.nvar 4) (.nvar 6))) .nil))) .nil)))) .nil)) (.cons (.ite [] (.cmp .le (.nvar 4) (.nvar 2)) (.cons (.asg [5] 5 (.call f0 (.cons (.var 5) (.cons (.tup (.cons (.bin .mul (.nvar 4) (.sub (.nvar 0) (.bin .sub (.nvar 2) (.nvar 4)))) (.cons (.lit (.int (1))) .nil))) .nil)))) .nil) .nil) (.cons (.app [] 3 (.call f2 (.cons (.tup (.cons (.neg (.sub (.nvar 5) (.lit (.int (0))))) (.cons (.sub (.nvar 5) (.lit (.int (1)))) .nil))) (.cons (.tup (.cons (.sub (.nvar 0) (.neg (.lit (.int (1))))) (.cons (.lit (.int (1))) .nil))) .nil)))) .nil))))
theorem power_sums_b (F : Fr C z f0 f1) (ho : ∀ (p q : Rat) (a b : Nat), Bd a p → Bd b q → a + b < 9000 → q ≠ 0 → C f2 [qd p, qd q] z = some (Q (p / q), z)) {n Bb : Nat} (ta : Tr a) (na : a ≠ []) (la : a.length < 100) (hb : Bt Bb (zp a)) (n1 : 1 ≤ n) (n2 : n < 100) (hB : n * (Bb + ((Bb + 2) * n + 10) + 2) + 1 + (2 * Bb + 30 + ((Bb + 2) * n + 10)) < 9000) :
    exB C (B.power_sums f0 f1 f2).body [.sh (pl a), .sh (.int n), .un, .un, .un, .un, .un] z = some (.ret (.fr (ql (psL a n))), z) := by
  show exB C (.cons _ (.cons _ (.cons (.loop [] (.nm 4) (.rg2 (.lit (.int (1))) (.nvar 1)) (psB f0 f1 f2)) _))) _ _ = _
  have la0 := List.length_pos_iff.mpr na
  have el : (a.length : Int) - 1 = ((a.length - 1 : Nat) : Int) := by omega
  rw [exB]; simp -implicitDefEqProofs only [exS, freeze, froz, evE.eq_1, evE.eq_2, evE.eq_3, evE.eq_4, evE.eq_5, evE.eq_6, evE.eq_7, evE.eq_8, evE.eq_9, evE.eq_10, evE.eq_11, evE.eq_12, evE.eq_13, evE.eq_14, evE.eq_15, evE.eq_16, evE.eq_17, evE.eq_18, evRs, evO, evC, bd_some, bd_none, List.getElem?_cons_succ, List.getElem?_cons_zero, List.set_cons_succ, List.set_cons_zero, putR, setTs, setT, b_add, b_sub, b_band, c_lt, c_le, c_gt, c_ge, c_isn, c_notn, isn_int, isn_non, bi_abs, bi_int, bi_intb, bi_max2, bi_min2, toB_bl, toDs_nil, toDs_cons, R.toD, Option.map_some, Option.map_none, List.getD_cons_zero, List.getD_cons_succ, if_true, eq_int, ne_int, toDs, len_sh, el]
  rw [exB]; simp -implicitDefEqProofs only [exS, freeze, froz, evE.eq_1, evE.eq_2, evE.eq_3, evE.eq_4, evE.eq_5, evE.eq_6, evE.eq_7, evE.eq_8, evE.eq_9, evE.eq_10, evE.eq_11, evE.eq_12, evE.eq_13, evE.eq_14, evE.eq_15, evE.eq_16, evE.eq_17, evE.eq_18, evRs, evO, evC, bd_some, bd_none, List.getElem?_cons_succ, List.getElem?_cons_zero, List.set_cons_succ, List.set_cons_zero, putR, setTs, setT, b_add, b_sub, b_band, c_lt, c_le, c_gt, c_ge, c_isn, c_notn, isn_int, isn_non, bi_abs, bi_int, bi_intb, bi_max2, bi_min2, toB_bl, toDs_nil, toDs_cons, R.toD, Option.map_some, Option.map_none, List.getD_cons_zero, List.getD_cons_succ, if_true, eq_int, ne_int, toDs]
  obtain ⟨s', x', lp, hs', _⟩ := range_inv (z := z) (f := lpF C (.nm 4) (psB f0 f1 f2)) (fun (w : List Rat × Slot × Slot) x => [.sh (pl a), .sh (.int n), .sh (.int ((a.length - 1 : Nat) : Int)), .ow (ql w.1), x, w.2.1, w.2.2]) (fun k w => w.1 = psL a k ∧ 1 ≤ k) n
    (by
      rintro s ⟨l, x5, x6⟩ x hs ⟨hl, s1⟩
      simp only at hl
      subst hl
      have hM : ∀ j, j < s → Bd ((Bb + 2) * n + 10) ((psL a s).getD j 0) := fun j hj => by
        rw [psL_get a s j hj]
        refine (ps_bd ta na hb (by omega) j).mono ?_
        have := Nat.mul_le_mul_left (Bb + 2) (show j ≤ n by omega)
        omega
      have sn : s * (Bb + ((Bb + 2) * n + 10) + 2) ≤ n * (Bb + ((Bb + 2) * n + 10) + 2) := Nat.mul_le_mul_right _ (by omega)
      obtain ⟨y6, inner⟩ := ps_inner (n := n) (x6 := x6) F na hb (psL_len a s) hM (by omega) s1 (by omega) (by omega)
      have hwh : wh a (fun j => (psL a s).getD j 0) s (min (s - 1) (a.length - 1)) = wh a (ps a) s (min (s - 1) (a.length - 1)) := wh_congr fun i hi => psL_get a s _ (by omega)
      have w1 := wh_bd (p := fun j => (psL a s).getD j 0) hb hM (min (s - 1) (a.length - 1)) (by omega)
      have wm : min (s - 1) (a.length - 1) * (Bb + ((Bb + 2) * n + 10) + 2) ≤ n * (Bb + ((Bb + 2) * n + 10) + 2) := Nat.mul_le_mul_right _ (by omega)
      have w1 := w1.mono (show _ ≤ n * (Bb + ((Bb + 2) * n + 10) + 2) + 1 by omega)
      rw [hwh] at w1 inner
      have ln0 : ((lastD a : Int) : Rat) ≠ 0 := ratne (tr_lastD ta na)
      have d0 : D.tup [.int 0, .int 1] = qd 0 := rfl
      have new : psL a (s + 1) = psL a s ++ [ps a s] := rfl
      have ndv : ∀ w : Rat, Bd (n * (Bb + ((Bb + 2) * n + 10) + 2) + 1 + (Bb + 20)) w → C f2 [qd (-w), .tup [.int (lastD a), .int 1]] z = some (Q (-w / ((lastD a : Int) : Rat)), z) := fun w hw => ho _ _ _ _ (bd_neg hw) (bd_c hb.lastD) (by omega) ln0
      have sl : subR (.sh (pl a)) (.sh (.int (-(1 : Int)))) z = some (.sh (.int (lastD a))) := sub_last_sh na
      have hlen : (ql (psL a s)).length < 16777216 := by rw [ql_len, psL_len]; omega
      refine ⟨(psL a (s + 1), .sh (qd (wh a (ps a) s (min (s - 1) (a.length - 1)) + (if s ≤ a.length - 1 then (((s : Int) * a.getD (a.length - 1 - s) 0 : Int) : Rat) else 0))), y6), ?_, rfl, by omega⟩
      simp -implicitDefEqProofs only [lpF, setT, List.set_cons_succ, List.set_cons_zero]
      unfold psB
      rw [exB]; simp -implicitDefEqProofs only [exS, freeze, froz, evE.eq_1, evE.eq_2, evE.eq_3, evE.eq_4, evE.eq_5, evE.eq_6, evE.eq_7, evE.eq_8, evE.eq_9, evE.eq_10, evE.eq_11, evE.eq_12, evE.eq_13, evE.eq_14, evE.eq_15, evE.eq_16, evE.eq_17, evE.eq_18, evRs, evO, evC, bd_some, bd_none, List.getElem?_cons_succ, List.getElem?_cons_zero, List.set_cons_succ, List.set_cons_zero, putR, setTs, setT, b_add, b_sub, b_band, c_lt, c_le, c_gt, c_ge, c_isn, c_notn, isn_int, isn_non, bi_abs, bi_int, bi_intb, bi_max2, bi_min2, toB_bl, toDs_nil, toDs_cons, R.toD, Option.map_some, Option.map_none, List.getD_cons_zero, List.getD_cons_succ, if_true, eq_int, ne_int, toDs, d0]
      rw [exB_nx inner]
      have ep := ps_eq a (s := s) (by omega)
      by_cases c : s ≤ a.length - 1
      · have dc : decide ((s : Int) ≤ ((a.length - 1 : Nat) : Int)) = true := _root_.decide_eq_true (by omega)
        have m1 : a.length - 1 - s < a.length := by omega
        have i1 : ((a.length - 1 : Nat) : Int) - (s : Int) = ((a.length - 1 - s : Nat) : Int) := by omega
        have v1 := sub_sh (z := z) m1
        rw [← getD_lt m1] at v1
        have mo : mulOk (s : Int) (a.getD (a.length - 1 - s) 0) = true := ml (by omega) (by omega)
        have bs : ((s : Int) * a.getD (a.length - 1 - s) 0).natAbs < 2 ^ (7 + Bb) := by
          rw [Int.natAbs_mul, Int.natAbs_natCast]
          exact mul_lt2 (show s < 2 ^ 7 by have : (2 : Nat) ^ 7 = 128 := by decide
                                           omega) (hb _)
        have e1 := F.pl _ _ _ _ w1 (bd_c bs) (by omega)
        have e1' : C f0 [qd (wh a (ps a) s (min (s - 1) (a.length - 1))), .tup [.int ((s : Int) * a.getD (a.length - 1 - s) 0), .int 1]] z = _ := e1
        rw [if_pos c] at ep ⊢
        have e2 := ndv _ ((bd_add w1 (bd_c bs)).mono (by omega))
        rw [← ep] at e2
        rw [exB]; simp -implicitDefEqProofs only [exS, freeze, froz, evE.eq_1, evE.eq_2, evE.eq_3, evE.eq_4, evE.eq_5, evE.eq_6, evE.eq_7, evE.eq_8, evE.eq_9, evE.eq_10, evE.eq_11, evE.eq_12, evE.eq_13, evE.eq_14, evE.eq_15, evE.eq_16, evE.eq_17, evE.eq_18, evRs, evO, evC, bd_some, bd_none, List.getElem?_cons_succ, List.getElem?_cons_zero, List.set_cons_succ, List.set_cons_zero, putR, setTs, setT, b_add, b_sub, b_band, c_lt, c_le, c_gt, c_ge, c_isn, c_notn, isn_int, isn_non, bi_abs, bi_int, bi_intb, bi_max2, bi_min2, toB_bl, toDs_nil, toDs_cons, R.toD, Option.map_some, Option.map_none, List.getD_cons_zero, List.getD_cons_succ, if_true, eq_int, ne_int, dc]
        rw [exB]; simp -implicitDefEqProofs only [exS, freeze, froz, evE.eq_1, evE.eq_2, evE.eq_3, evE.eq_4, evE.eq_5, evE.eq_6, evE.eq_7, evE.eq_8, evE.eq_9, evE.eq_10, evE.eq_11, evE.eq_12, evE.eq_13, evE.eq_14, evE.eq_15, evE.eq_16, evE.eq_17, evE.eq_18, evRs, evO, evC, bd_some, bd_none, List.getElem?_cons_succ, List.getElem?_cons_zero, List.set_cons_succ, List.set_cons_zero, putR, setTs, setT, b_add, b_sub, b_band, c_lt, c_le, c_gt, c_ge, c_isn, c_notn, isn_int, isn_non, bi_abs, bi_int, bi_intb, bi_max2, bi_min2, toB_bl, toDs_nil, toDs_cons, R.toD, Option.map_some, Option.map_none, List.getD_cons_zero, List.getD_cons_succ, if_true, eq_int, ne_int, toDs, i1, v1, b_mul mo, e1']
        rw [exB]; simp only
        rw [exB]; simp -implicitDefEqProofs only [exS, freeze, froz, evE.eq_1, evE.eq_2, evE.eq_3, evE.eq_4, evE.eq_5, evE.eq_6, evE.eq_7, evE.eq_8, evE.eq_9, evE.eq_10, evE.eq_11, evE.eq_12, evE.eq_13, evE.eq_14, evE.eq_15, evE.eq_16, evE.eq_17, evE.eq_18, evRs, evO, evC, bd_some, bd_none, List.getElem?_cons_succ, List.getElem?_cons_zero, List.set_cons_succ, List.set_cons_zero, putR, setTs, setT, b_add, b_sub, b_band, c_lt, c_le, c_gt, c_ge, c_isn, c_notn, isn_int, isn_non, bi_abs, bi_int, bi_intb, bi_max2, bi_min2, toB_bl, toDs_nil, toDs_cons, R.toD, Option.map_some, Option.map_none, List.getD_cons_zero, List.getD_cons_succ, if_true, eq_int, ne_int, toDs, sub0, sub1, tup_neg, sl, e2]
        rw [if_pos hlen]
        simp only
        rw [exB, new, ← ql_snoc]
      · have dc : decide ((s : Int) ≤ ((a.length - 1 : Nat) : Int)) = false := decide_eq_false (by omega)
        rw [if_neg c] at ep ⊢
        have ew : wh a (ps a) s (min (s - 1) (a.length - 1)) + 0 = wh a (ps a) s (min (s - 1) (a.length - 1)) := by grind
        rw [ew] at ep ⊢
        have e2 := ndv _ (w1.mono (by omega))
        rw [← ep] at e2
        rw [exB]; simp -implicitDefEqProofs only [exS, freeze, froz, evE.eq_1, evE.eq_2, evE.eq_3, evE.eq_4, evE.eq_5, evE.eq_6, evE.eq_7, evE.eq_8, evE.eq_9, evE.eq_10, evE.eq_11, evE.eq_12, evE.eq_13, evE.eq_14, evE.eq_15, evE.eq_16, evE.eq_17, evE.eq_18, evRs, evO, evC, bd_some, bd_none, List.getElem?_cons_succ, List.getElem?_cons_zero, List.set_cons_succ, List.set_cons_zero, putR, setTs, setT, b_add, b_sub, b_band, c_lt, c_le, c_gt, c_ge, c_isn, c_notn, isn_int, isn_non, bi_abs, bi_int, bi_intb, bi_max2, bi_min2, toB_bl, toDs_nil, toDs_cons, R.toD, Option.map_some, Option.map_none, List.getD_cons_zero, List.getD_cons_succ, if_true, eq_int, ne_int, dc]
        rw [exB]; simp only
        rw [exB]; simp -implicitDefEqProofs only [exS, freeze, froz, evE.eq_1, evE.eq_2, evE.eq_3, evE.eq_4, evE.eq_5, evE.eq_6, evE.eq_7, evE.eq_8, evE.eq_9, evE.eq_10, evE.eq_11, evE.eq_12, evE.eq_13, evE.eq_14, evE.eq_15, evE.eq_16, evE.eq_17, evE.eq_18, evRs, evO, evC, bd_some, bd_none, List.getElem?_cons_succ, List.getElem?_cons_zero, List.set_cons_succ, List.set_cons_zero, putR, setTs, setT, b_add, b_sub, b_band, c_lt, c_le, c_gt, c_ge, c_isn, c_notn, isn_int, isn_non, bi_abs, bi_int, bi_intb, bi_max2, bi_min2, toB_bl, toDs_nil, toDs_cons, R.toD, Option.map_some, Option.map_none, List.getD_cons_zero, List.getD_cons_succ, if_true, eq_int, ne_int, toDs, sub0, sub1, tup_neg, sl, e2]
        rw [if_pos hlen]
        simp only
        rw [exB, new, ← ql_snoc]) (n - 1) 1 ([(((a.length - 1 : Nat) : Int) : Rat)], .un, .un) .un (by omega) ⟨by
          show _ = psL a (0 + 1)
          show _ = [] ++ [ps a 0]
          rw [ps_zero]; rfl, by omega⟩
  rw [exB_nx (ρ' := [.sh (pl a), .sh (.int n), .sh (.int ((a.length - 1 : Nat) : Int)), .ow (ql s'.1), x', s'.2.1, s'.2.2]) (z' := z) (exS_loop rfl (rg2_nat (i := 1) (j := n) (z1 := z) (z2 := z) rfl ?_ (by omega) (by omega)) lp)]
  · rw [exB, hs']; simp -implicitDefEqProofs only [exS, freeze, froz, evE.eq_1, evE.eq_2, evE.eq_3, evE.eq_4, evE.eq_5, evE.eq_6, evE.eq_7, evE.eq_8, evE.eq_9, evE.eq_10, evE.eq_11, evE.eq_12, evE.eq_13, evE.eq_14, evE.eq_15, evE.eq_16, evE.eq_17, evE.eq_18, evRs, evO, evC, bd_some, bd_none, List.getElem?_cons_succ, List.getElem?_cons_zero, List.set_cons_succ, List.set_cons_zero, putR, setTs, setT, b_add, b_sub, b_band, c_lt, c_le, c_gt, c_ge, c_isn, c_notn, isn_int, isn_non, bi_abs, bi_int, bi_intb, bi_max2, bi_min2, toB_bl, toDs_nil, toDs_cons, R.toD, Option.map_some, Option.map_none, List.getD_cons_zero, List.getD_cons_succ, if_true, eq_int, ne_int, R.items, cutQ (psL_len a n)]
  · simp -implicitDefEqProofs only [exS, freeze, froz, evE.eq_1, evE.eq_2, evE.eq_3, evE.eq_4, evE.eq_5, evE.eq_6, evE.eq_7, evE.eq_8, evE.eq_9, evE.eq_10, evE.eq_11, evE.eq_12, evE.eq_13, evE.eq_14, evE.eq_15, evE.eq_16, evE.eq_17, evE.eq_18, evRs, evO, evC, bd_some, bd_none, List.getElem?_cons_succ, List.getElem?_cons_zero, List.set_cons_succ, List.set_cons_zero, putR, setTs, setT, b_add, b_sub, b_band, c_lt, c_le, c_gt, c_ge, c_isn, c_notn, isn_int, isn_non, bi_abs, bi_int, bi_intb, bi_max2, bi_min2, toB_bl, toDs_nil, toDs_cons, R.toD, Option.map_some, Option.map_none, List.getD_cons_zero, List.getD_cons_succ, if_true, eq_int, ne_int]
/-! weighed sums -/
theorem ws_inner (F : Fr C z f0 f1) {l : List Rat} {p : Nat → Rat} {k Bb M : Nat} {s0 s1 s2 s4 : Slot} (hp : ∀ j, j < l.length → l.getD j 0 = p j) (hM : ∀ j, j < l.length → Bd M (p j)) : ∀ (b : List Int) (m : Nat) (w : Rat) (W : Nat) (x y : Slot), (∀ u ∈ b, u.natAbs < 2 ^ Bb) → k + m + b.length ≤ l.length → Bd W w → W + (b.length + 1) * (Bb + M + 2) + 1 < 9000 →
    ∃ x' y', loopS (lpF C (.tp [7, 8]) (.cons (.asg [6, 8] 6 (.call f0 (.cons (.var 6) (.cons (.call f1 (.cons (.tup (.cons (.var 8) (.cons (.lit (.int (1))) .nil))) (.cons (.sub (.nvar 3) (.bin .add (.nvar 5) (.nvar 7))) .nil))) .nil)))) .nil)) (enI m b) [s0, s1, s2, .ow (ql l), s4, .sh (.int k), .sh (qd w), x, y] z
      = some (.nx [s0, s1, s2, .ow (ql l), s4, .sh (.int k), .sh (qd (w + wS p b (k + m))), x', y'], z)
  | [], m, w, W, x, y, _, _, _, _ => ⟨x, y, by show some (Out.nx [s0, s1, s2, .ow (ql l), s4, .sh (.int k), .sh (qd w), x, y], z) = _; rw [show w + wS p [] (k + m) = w by show w + 0 = w; grind]⟩
  | v :: b, m, w, W, x, y, hb, hl, hw, hW => by
    simp only [List.length_cons] at hl hW
    rw [Nat.succ_mul] at hW
    have c1 := bd_c (hb v List.mem_cons_self)
    have c2 := hM (k + m) (by omega)
    have e2 := F.tm _ _ _ _ c1 c2 (by omega)
    have e1 := F.pl _ _ _ _ hw (bd_mul c1 c2) (by omega)
    have m1 : k + m < l.length := by omega
    have i1 : (k : Int) + (m : Int) = ((k + m : Nat) : Int) := by omega
    have v1 := sub_qvw (z := z) m1
    rw [← getD_get m1, hp _ m1] at v1
    have e2' : C f1 [.tup [.int v, .int 1], qd (p (k + m))] z = _ := e2
    obtain ⟨x', y', ih⟩ := ws_inner F hp hM b (m + 1) (w + (v : Rat) * p (k + m)) (W + (Bb + M + 2)) (.sh (.int m)) (.sh (.int v)) (fun u hu => hb u (List.mem_cons_of_mem _ hu)) (by show k + (m + 1) + b.length ≤ l.length; omega) ((bd_add hw (bd_mul c1 c2)).mono (by omega)) (by omega)
    refine ⟨x', y', ?_⟩
    show loopS _ (_ :: enI (m + 1) b) _ _ = _
    unfold loopS
    simp -implicitDefEqProofs only [lpF, setT, setTs, List.set_cons_succ, List.set_cons_zero]
    rw [exB]; simp -implicitDefEqProofs only [exS, freeze, froz, evE.eq_1, evE.eq_2, evE.eq_3, evE.eq_4, evE.eq_5, evE.eq_6, evE.eq_7, evE.eq_8, evE.eq_9, evE.eq_10, evE.eq_11, evE.eq_12, evE.eq_13, evE.eq_14, evE.eq_15, evE.eq_16, evE.eq_17, evE.eq_18, evRs, evO, evC, bd_some, bd_none, List.getElem?_cons_succ, List.getElem?_cons_zero, List.set_cons_succ, List.set_cons_zero, putR, setTs, setT, b_add, b_sub, b_band, c_lt, c_le, c_gt, c_ge, c_isn, c_notn, isn_int, isn_non, bi_abs, bi_int, bi_intb, bi_max2, bi_min2, toB_bl, toDs_nil, toDs_cons, R.toD, Option.map_some, Option.map_none, List.getD_cons_zero, List.getD_cons_succ, if_true, eq_int, ne_int, toDs, i1, v1, e2']
    simp -implicitDefEqProofs only [exS, freeze, froz, evE.eq_1, evE.eq_2, evE.eq_3, evE.eq_4, evE.eq_5, evE.eq_6, evE.eq_7, evE.eq_8, evE.eq_9, evE.eq_10, evE.eq_11, evE.eq_12, evE.eq_13, evE.eq_14, evE.eq_15, evE.eq_16, evE.eq_17, evE.eq_18, evRs, evO, evC, bd_some, bd_none, List.getElem?_cons_succ, List.getElem?_cons_zero, List.set_cons_succ, List.set_cons_zero, putR, setTs, setT, b_add, b_sub, b_band, c_lt, c_le, c_gt, c_ge, c_isn, c_notn, isn_int, isn_non, bi_abs, bi_int, bi_intb, bi_max2, bi_min2, toB_bl, toDs_nil, toDs_cons, R.toD, Option.map_some, Option.map_none, List.getD_cons_zero, List.getD_cons_succ, if_true, eq_int, ne_int, toDs, e1]
    rw [exB]
    simp only
    have : w + wS p (v :: b) (k + m) = w + (v : Rat) * p (k + m) + wS p b (k + (m + 1)) := by rw [wS_cons, show k + (m + 1) = k + m + 1 by omega]; grind
    rw [this]
    exact ih
/-- the rows of weighed sums -/
def wL (p : Nat → Rat) (b : List Int) (n : Nat) : List Rat := (List.range n).map fun k => wS p b k
theorem wL_succ (p : Nat → Rat) (b : List Int) (n : Nat) : wL p b (n + 1) = wL p b n ++ [wS p b n] := by unfold wL; rw [List.range_succ, List.map_append]; rfl
theorem wL_len (p : Nat → Rat) (b : List Int) (n : Nat) : (wL p b n).length = n := by unfold wL; simp
theorem weighed_b (F : Fr C z f0 f1) {n Bb M : Nat} {b : List Int} (h3 : C f2 [pl a, .int (n + b.length : Nat)] z = some (.fr (ql (psL a (n + b.length))), z)) (hM : ∀ j, j < n + b.length → Bd M (ps a j)) (hb : ∀ u ∈ b, u.natAbs < 2 ^ Bb) (hn : n < 100) (hB : (b.length + 1) * (Bb + M + 2) + 2 < 9000) :
    exB C (B.weighed_sums f2 f0 f1).body [.sh (pl a), .sh (pl b), .sh (.int n), .un, .un, .un, .un, .un, .un] z = some (.ret (.fr (ql (wL (ps a) b n))), z) := by
  unfold B.weighed_sums
  simp only
  have el : (n : Int) + (b.length : Int) = ((n + b.length : Nat) : Int) := by omega
  rw [exB]; simp -implicitDefEqProofs only [exS, freeze, froz, evE.eq_1, evE.eq_2, evE.eq_3, evE.eq_4, evE.eq_5, evE.eq_6, evE.eq_7, evE.eq_8, evE.eq_9, evE.eq_10, evE.eq_11, evE.eq_12, evE.eq_13, evE.eq_14, evE.eq_15, evE.eq_16, evE.eq_17, evE.eq_18, evRs, evO, evC, bd_some, bd_none, List.getElem?_cons_succ, List.getElem?_cons_zero, List.set_cons_succ, List.set_cons_zero, putR, setTs, setT, b_add, b_sub, b_band, c_lt, c_le, c_gt, c_ge, c_isn, c_notn, isn_int, isn_non, bi_abs, bi_int, bi_intb, bi_max2, bi_min2, toB_bl, toDs_nil, toDs_cons, R.toD, Option.map_some, Option.map_none, List.getD_cons_zero, List.getD_cons_succ, if_true, eq_int, ne_int, toDs, len_sh, el, h3]
  rw [exB]; simp -implicitDefEqProofs only [exS, freeze, froz, evE.eq_1, evE.eq_2, evE.eq_3, evE.eq_4, evE.eq_5, evE.eq_6, evE.eq_7, evE.eq_8, evE.eq_9, evE.eq_10, evE.eq_11, evE.eq_12, evE.eq_13, evE.eq_14, evE.eq_15, evE.eq_16, evE.eq_17, evE.eq_18, evRs, evO, evC, bd_some, bd_none, List.getElem?_cons_succ, List.getElem?_cons_zero, List.set_cons_succ, List.set_cons_zero, putR, setTs, setT, b_add, b_sub, b_band, c_lt, c_le, c_gt, c_ge, c_isn, c_notn, isn_int, isn_non, bi_abs, bi_int, bi_intb, bi_max2, bi_min2, toB_bl, toDs_nil, toDs_cons, R.toD, Option.map_some, Option.map_none, List.getD_cons_zero, List.getD_cons_succ, if_true, eq_int, ne_int, toDs]
  obtain ⟨s', x', lp, hs'⟩ := range_inv (z := z) (f := lpF C (.nm 5) (.cons (.asg [] 6 (.tup (.cons (.lit (.int (0))) (.cons (.lit (.int (1))) .nil)))) (.cons (.loop [1] (.tp [7, 8]) (.en (.var 1)) (.cons (.asg [6, 8] 6 (.call f0 (.cons (.var 6) (.cons (.call f1 (.cons (.tup (.cons (.var 8) (.cons (.lit (.int (1))) .nil))) (.cons (.sub (.nvar 3) (.bin .add (.nvar 5) (.nvar 7))) .nil))) .nil)))) .nil)) (.cons (.app [6] 4 (.var 6)) .nil))))
    (fun (w : List Rat × Slot × Slot × Slot) x => [.sh (pl a), .sh (pl b), .sh (.int n), .ow (ql (psL a (n + b.length))), .ow (ql w.1), x, w.2.1, w.2.2.1, w.2.2.2]) (fun k w => w.1 = wL (ps a) b k) n
    (by
      rintro k ⟨l, x6, x7, x8⟩ x hk hl
      simp only at hl
      subst hl
      have d0 : D.tup [.int 0, .int 1] = qd 0 := rfl
      obtain ⟨x', y', inner⟩ := ws_inner F (l := psL a (n + b.length)) (p := ps a) (k := k) (Bb := Bb) (M := M) (s0 := .sh (pl a)) (s1 := .sh (pl b)) (s2 := .sh (.int n)) (s4 := .ow (ql (wL (ps a) b k))) (fun j hj => psL_get a _ j (by rw [psL_len] at hj; exact hj)) (fun j hj => hM j (by rw [psL_len] at hj; exact hj)) b 0 0 1 x7 x8 hb (by rw [psL_len]; omega) (bd_zero (by omega)) (by omega)
      have ew : (0 : Rat) + wS (ps a) b (k + 0) = wS (ps a) b k := by rw [Nat.add_zero]; grind
      rw [ew] at inner
      have hlen : (ql (wL (ps a) b k)).length < 16777216 := by rw [ql_len, wL_len]; omega
      refine ⟨(wL (ps a) b (k + 1), .sh (qd (wS (ps a) b k)), x', y'), ?_, rfl⟩
      simp -implicitDefEqProofs only [lpF, setT, List.set_cons_succ, List.set_cons_zero]
      rw [exB]; simp -implicitDefEqProofs only [exS, freeze, froz, evE.eq_1, evE.eq_2, evE.eq_3, evE.eq_4, evE.eq_5, evE.eq_6, evE.eq_7, evE.eq_8, evE.eq_9, evE.eq_10, evE.eq_11, evE.eq_12, evE.eq_13, evE.eq_14, evE.eq_15, evE.eq_16, evE.eq_17, evE.eq_18, evRs, evO, evC, bd_some, bd_none, List.getElem?_cons_succ, List.getElem?_cons_zero, List.set_cons_succ, List.set_cons_zero, putR, setTs, setT, b_add, b_sub, b_band, c_lt, c_le, c_gt, c_ge, c_isn, c_notn, isn_int, isn_non, bi_abs, bi_int, bi_intb, bi_max2, bi_min2, toB_bl, toDs_nil, toDs_cons, R.toD, Option.map_some, Option.map_none, List.getD_cons_zero, List.getD_cons_succ, if_true, eq_int, ne_int, toDs, d0]
      rw [exB_nx (exS_loop rfl (en_sh rfl) inner)]
      rw [exB]; simp -implicitDefEqProofs only [exS, freeze, froz, evE.eq_1, evE.eq_2, evE.eq_3, evE.eq_4, evE.eq_5, evE.eq_6, evE.eq_7, evE.eq_8, evE.eq_9, evE.eq_10, evE.eq_11, evE.eq_12, evE.eq_13, evE.eq_14, evE.eq_15, evE.eq_16, evE.eq_17, evE.eq_18, evRs, evO, evC, bd_some, bd_none, List.getElem?_cons_succ, List.getElem?_cons_zero, List.set_cons_succ, List.set_cons_zero, putR, setTs, setT, b_add, b_sub, b_band, c_lt, c_le, c_gt, c_ge, c_isn, c_notn, isn_int, isn_non, bi_abs, bi_int, bi_intb, bi_max2, bi_min2, toB_bl, toDs_nil, toDs_cons, R.toD, Option.map_some, Option.map_none, List.getD_cons_zero, List.getD_cons_succ, if_true, eq_int, ne_int, toDs]
      rw [if_pos hlen]
      simp only
      rw [exB, wL_succ, ← ql_snoc]) n 0 ([], .un, .un, .un) .un (by omega) rfl
  rw [exB_nx (ρ' := [.sh (pl a), .sh (pl b), .sh (.int n), .ow (ql (psL a (n + b.length))), .ow (ql s'.1), x', s'.2.1, s'.2.2.1, s'.2.2.2]) (z' := z) (exS_loop rfl (rg1_ok (n := n) (z' := z) (by simp -implicitDefEqProofs only [exS, freeze, froz, evE.eq_1, evE.eq_2, evE.eq_3, evE.eq_4, evE.eq_5, evE.eq_6, evE.eq_7, evE.eq_8, evE.eq_9, evE.eq_10, evE.eq_11, evE.eq_12, evE.eq_13, evE.eq_14, evE.eq_15, evE.eq_16, evE.eq_17, evE.eq_18, evRs, evO, evC, bd_some, bd_none, List.getElem?_cons_succ, List.getElem?_cons_zero, List.set_cons_succ, List.set_cons_zero, putR, setTs, setT, b_add, b_sub, b_band, c_lt, c_le, c_gt, c_ge, c_isn, c_notn, isn_int, isn_non, bi_abs, bi_int, bi_intb, bi_max2, bi_min2, toB_bl, toDs_nil, toDs_cons, R.toD, Option.map_some, Option.map_none, List.getD_cons_zero, List.getD_cons_succ, if_true, eq_int, ne_int]) (by omega)) (by rw [rangeD_rgI]; exact lp))]
  rw [exB, hs']; simp -implicitDefEqProofs only [exS, freeze, froz, evE.eq_1, evE.eq_2, evE.eq_3, evE.eq_4, evE.eq_5, evE.eq_6, evE.eq_7, evE.eq_8, evE.eq_9, evE.eq_10, evE.eq_11, evE.eq_12, evE.eq_13, evE.eq_14, evE.eq_15, evE.eq_16, evE.eq_17, evE.eq_18, evRs, evO, evC, bd_some, bd_none, List.getElem?_cons_succ, List.getElem?_cons_zero, List.set_cons_succ, List.set_cons_zero, putR, setTs, setT, b_add, b_sub, b_band, c_lt, c_le, c_gt, c_ge, c_isn, c_notn, isn_int, isn_non, bi_abs, bi_int, bi_intb, bi_max2, bi_min2, toB_bl, toDs_nil, toDs_cons, R.toD, Option.map_some, Option.map_none, List.getD_cons_zero, List.getD_cons_succ, if_true, eq_int, ne_int]
end
end Mn

/-! Mini: the polynomial from its sums; the law's own fractions. -/
namespace Mn
open PySem L2 Z
section
variable {P : List Fn} {K i j jc jt jp js f0 f1 f2 f3 f4 : Nat} {z : Zs} {C : CallF} {a : List Int}
/-- the numbers over the last one -/
def Vr (a : List Int) (k : Nat) : Rat := (Aq a).c k / ((lastD a : Int) : Rat)
def VL (a : List Int) (n : Nat) : List Rat := (List.range n).map (Vr a)
theorem VL_len (a : List Int) (n : Nat) : (VL a n).length = n := by unfold VL; simp
theorem VL_get (a : List Int) {n k : Nat} (h : k < n) : (VL a n).getD k 0 = Vr a k := by
  unfold VL
  simp only [List.getD, List.getElem?_map, List.getElem?_range h]
  rfl
theorem VL_succ (a : List Int) (n : Nat) : VL a (n + 1) = VL a n ++ [Vr a n] := by unfold VL; rw [List.range_succ, List.map_append]; rfl
theorem Aq_bd {Bb : Nat} (hb : Bt Bb (zp a)) (k : Nat) : Bd (Bb + 1) ((Aq a).c k) := by
  rw [Aq_c]
  split
  · exact bd_c (hb _)
  · exact bd_zero (by omega)
theorem Vr_bd {Bb : Nat} (ta : Tr a) (na : a ≠ []) (hb : Bt Bb (zp a)) (k : Nat) : Bd (2 * Bb + 2) (Vr a k) :=
  (bd_div (Aq_bd hb k) (bd_c hb.lastD) (Z.ratne (tr_lastD ta na))).mono (by omega)
theorem fw_bd {v s : Nat → Rat} {k A M : Nat} (hv : ∀ j, Bd A (v j)) (hs : ∀ j, j < k → Bd M (s j)) : ∀ n, n ≤ k → Bd (n * (A + M + 1) + 1) (fw v s k n)
  | 0, _ => by show Bd _ 0; exact bd_zero (by omega)
  | n + 1, h => by
    show Bd _ (fw v s k n + v n * s (k - 1 - n))
    refine (bd_add (fw_bd hv hs n (by omega)) (bd_mul (hv n) (hs _ (by omega)))).mono ?_
    rw [Nat.succ_mul]; omega
theorem from_inner (F : Fr C z f0 f1) {A M k : Nat} {l : List Rat} {s3 s4 s5 x : Slot} (hv : ∀ j, Bd A (Vr a j)) (hs : ∀ j, j < k → Bd M (ps a (j + 1))) (hl : ∀ j, j < l.length → l.getD j 0 = ps a (j + 1)) (kl : k ≤ l.length) (hB : k * (A + M + 1) + 1 + (A + M) < 9000) (k1 : 1 ≤ k) (k9 : k < 100) :
    ∃ x', exS C (.loop [] (.nm 7) (.rg1 (.nvar 2)) (.cons (.asg [6] 6 (.call f0 (.cons (.var 6) (.cons (.call f1 (.cons (.sub (.nvar 1) (.nvar 7)) (.cons (.sub (.nvar 0) (.bin .sub (.bin .sub (.nvar 2) (.lit (.int (1)))) (.nvar 7))) .nil))) .nil)))) .nil))
      [.sh (.lst (ql l)), .ow (ql (VL a k)), .sh (.int k), s3, s4, s5, .sh (qd 0), x] z = some (.nx [.sh (.lst (ql l)), .ow (ql (VL a k)), .sh (.int k), s3, s4, s5, .sh (qd (fw (Vr a) (fun j => ps a (j + 1)) k k)), x'], z) := by
  obtain ⟨s', x', lp, hs'⟩ := range_inv (z := z) (f := lpF C (.nm 7) (.cons (.asg [6] 6 (.call f0 (.cons (.var 6) (.cons (.call f1 (.cons (.sub (.nvar 1) (.nvar 7)) (.cons (.sub (.nvar 0) (.bin .sub (.bin .sub (.nvar 2) (.lit (.int (1)))) (.nvar 7))) .nil))) .nil)))) .nil))
    (fun (w : Rat) x => [.sh (.lst (ql l)), .ow (ql (VL a k)), .sh (.int k), s3, s4, s5, .sh (qd w), x]) (fun j w => w = fw (Vr a) (fun j => ps a (j + 1)) k j) k
    (by
      rintro j w x hj rfl
      refine ⟨fw (Vr a) (fun j => ps a (j + 1)) k (j + 1), ?_, rfl⟩
      simp -implicitDefEqProofs only [lpF, setT, List.set_cons_succ, List.set_cons_zero]
      have b1 := fw_bd (k := k) hv hs j (by omega)
      have jm : j * (A + M + 1) ≤ k * (A + M + 1) := Nat.mul_le_mul_right _ (by omega)
      have c2 := hs (k - 1 - j) (by omega)
      have e2 := F.tm _ _ _ _ (hv j) c2 (by omega)
      have e1 := F.pl _ _ _ _ b1 (bd_mul (hv j) c2) (by omega)
      have m1 : j < (VL a k).length := by rw [VL_len]; exact hj
      have m2 : k - 1 - j < l.length := by omega
      have i2 : (k : Int) - 1 - (j : Int) = ((k - 1 - j : Nat) : Int) := by omega
      have v1 := sub_qvw (z := z) m1
      have v2 := sub_qsh (z := z) m2
      rw [← getD_get m1, VL_get a hj] at v1
      rw [← getD_get m2, hl _ m2] at v2
      rw [exB]; simp -implicitDefEqProofs only [exS, freeze, froz, evE.eq_1, evE.eq_2, evE.eq_3, evE.eq_4, evE.eq_5, evE.eq_6, evE.eq_7, evE.eq_8, evE.eq_9, evE.eq_10, evE.eq_11, evE.eq_12, evE.eq_13, evE.eq_14, evE.eq_15, evE.eq_16, evE.eq_17, evE.eq_18, evRs, evO, evC, bd_some, bd_none, List.getElem?_cons_succ, List.getElem?_cons_zero, List.set_cons_succ, List.set_cons_zero, putR, setTs, setT, b_add, b_sub, b_band, c_lt, c_le, c_gt, c_ge, c_isn, c_notn, isn_int, isn_non, bi_abs, bi_int, bi_intb, bi_max2, bi_min2, toB_bl, toDs_nil, toDs_cons, R.toD, Option.map_some, Option.map_none, List.getD_cons_zero, List.getD_cons_succ, if_true, eq_int, ne_int, toDs, i2, v1, v2, e2]
      simp -implicitDefEqProofs only [exS, freeze, froz, evE.eq_1, evE.eq_2, evE.eq_3, evE.eq_4, evE.eq_5, evE.eq_6, evE.eq_7, evE.eq_8, evE.eq_9, evE.eq_10, evE.eq_11, evE.eq_12, evE.eq_13, evE.eq_14, evE.eq_15, evE.eq_16, evE.eq_17, evE.eq_18, evRs, evO, evC, bd_some, bd_none, List.getElem?_cons_succ, List.getElem?_cons_zero, List.set_cons_succ, List.set_cons_zero, putR, setTs, setT, b_add, b_sub, b_band, c_lt, c_le, c_gt, c_ge, c_isn, c_notn, isn_int, isn_non, bi_abs, bi_int, bi_intb, bi_max2, bi_min2, toB_bl, toDs_nil, toDs_cons, R.toD, Option.map_some, Option.map_none, List.getD_cons_zero, List.getD_cons_succ, if_true, eq_int, ne_int, toDs, e1]
      rw [exB]
      rfl) k 0 0 x (by omega) rfl
  subst hs'
  exact ⟨x', exS_loop rfl (rg1_ok (n := k) (z' := z) (by simp -implicitDefEqProofs only [exS, freeze, froz, evE.eq_1, evE.eq_2, evE.eq_3, evE.eq_4, evE.eq_5, evE.eq_6, evE.eq_7, evE.eq_8, evE.eq_9, evE.eq_10, evE.eq_11, evE.eq_12, evE.eq_13, evE.eq_14, evE.eq_15, evE.eq_16, evE.eq_17, evE.eq_18, evRs, evO, evC, bd_some, bd_none, List.getElem?_cons_succ, List.getElem?_cons_zero, List.set_cons_succ, List.set_cons_zero, putR, setTs, setT, b_add, b_sub, b_band, c_lt, c_le, c_gt, c_ge, c_isn, c_notn, isn_int, isn_non, bi_abs, bi_int, bi_intb, bi_max2, bi_min2, toB_bl, toDs_nil, toDs_cons, R.toD, Option.map_some, Option.map_none, List.getD_cons_zero, List.getD_cons_succ, if_true, eq_int, ne_int]) (by omega)) (by rw [rangeD_rgI]; exact lp)⟩
/-- the product of the denominators -/
def bot : List Rat → Int → Int
  | [], b => b
  | x :: l, b => bot l (b * x.den)
theorem bot_spec : ∀ (l : List Rat) (b : Int), b ≠ 0 → bot l b ≠ 0 ∧ b ∣ bot l b ∧ ∀ x ∈ l, (x.den : Int) ∣ bot l b
  | [], b, h => ⟨h, Int.dvd_refl b, fun x hx => by cases hx⟩
  | x :: l, b, h => by
    obtain ⟨h1, h2, h3⟩ := bot_spec l (b * x.den) (Int.mul_ne_zero h (by have := x.den_nz; omega))
    refine ⟨h1, Int.dvd_trans (Int.dvd_mul_right _ _) h2, fun y hy => ?_⟩
    rcases List.mem_cons.mp hy with rfl | hy
    · exact Int.dvd_trans (Int.dvd_mul_left _ _) h2
    · exact h3 y hy
theorem bot_bd {A : Nat} : ∀ (l : List Rat) (b : Int) (W : Nat), (∀ x ∈ l, Bd A x) → b.natAbs < 2 ^ W → (bot l b).natAbs < 2 ^ (W + l.length * A)
  | [], b, W, _, h => by rw [List.length_nil, Nat.zero_mul]; exact h
  | x :: l, b, W, hl, h => by
    have := bot_bd l (b * x.den) (W + A) (fun y hy => hl y (List.mem_cons_of_mem _ hy)) (by
      rw [Int.natAbs_mul, Int.natAbs_natCast]
      exact mul_lt2 h (hl x List.mem_cons_self).2)
    rw [List.length_cons, Nat.succ_mul]
    refine Nat.lt_of_lt_of_le this (Nat.pow_le_pow_right (by decide) (by omega))
theorem bot_loop {A : Nat} {s0 s1 s2 s5 s6 s7 : Slot} : ∀ (l : List Rat) (b : Int) (W : Nat) (x : Slot), (∀ x ∈ l, Bd A x) → b.natAbs < 2 ^ W → W + (l.length + 1) * (A + 1) < 100000 →
    ∃ x', loopS (lpF C (.nm 4) (.cons (.asg [] 3 (.bin .mul (.nvar 3) (.sub (.nvar 4) (.lit (.int (1)))))) .nil)) (ql l) [s0, s1, s2, .sh (.int b), x, s5, s6, s7] z = some (.nx [s0, s1, s2, .sh (.int (bot l b)), x', s5, s6, s7], z) ∧ (l ≠ [] → ∃ d, x' = .sh d)
  | [], b, W, x, _, _, _ => ⟨x, rfl, fun h => absurd rfl h⟩
  | y :: l, b, W, x, hl, hb, hW => by
    have hy := hl y List.mem_cons_self
    simp only [List.length_cons] at hW
    rw [Nat.succ_mul] at hW
    have mo : mulOk b (y.den : Int) = true := mulOk_lg hb (show ((y.den : Int)).natAbs < 2 ^ A by rw [Int.natAbs_natCast]; exact hy.2) (by omega)
    obtain ⟨x', e, hx⟩ := bot_loop l (b * y.den) (W + A) (.sh (qd y)) (fun y hy => hl y (List.mem_cons_of_mem _ hy)) (by
      rw [Int.natAbs_mul, Int.natAbs_natCast]
      exact mul_lt2 hb hy.2) (by omega)
    refine ⟨x', ?_, fun _ => ?_⟩
    · show loopS _ (qd y :: ql l) _ _ = _
      unfold loopS
      simp -implicitDefEqProofs only [lpF, setT, List.set_cons_succ, List.set_cons_zero]
      rw [exB]; simp -implicitDefEqProofs only [exS, freeze, froz, evE.eq_1, evE.eq_2, evE.eq_3, evE.eq_4, evE.eq_5, evE.eq_6, evE.eq_7, evE.eq_8, evE.eq_9, evE.eq_10, evE.eq_11, evE.eq_12, evE.eq_13, evE.eq_14, evE.eq_15, evE.eq_16, evE.eq_17, evE.eq_18, evRs, evO, evC, bd_some, bd_none, List.getElem?_cons_succ, List.getElem?_cons_zero, List.set_cons_succ, List.set_cons_zero, putR, setTs, setT, b_add, b_sub, b_band, c_lt, c_le, c_gt, c_ge, c_isn, c_notn, isn_int, isn_non, bi_abs, bi_int, bi_intb, bi_max2, bi_min2, toB_bl, toDs_nil, toDs_cons, R.toD, Option.map_some, Option.map_none, List.getD_cons_zero, List.getD_cons_succ, if_true, eq_int, ne_int, sub1, b_mul mo]
      rw [exB]
      exact e
    · by_cases hn : l = []
      · subst hn
        have e' : some (Out.nx [s0, s1, s2, .sh (.int (b * y.den)), .sh (qd y), s5, s6, s7], z) = some (Out.nx [s0, s1, s2, .sh (.int (bot [] (b * y.den))), x', s5, s6, s7], z) := e
        injection e' with e'
        injection e' with e' _
        injection e' with e'
        injection e' with _ e'
        injection e' with _ e'
        injection e' with _ e'
        injection e' with _ e'
        injection e' with e' _
        exact ⟨_, e'.symm⟩
      · exact hx hn
def fdv (b : Int) (x : Rat) : Int := (x.num * b).fdiv x.den
theorem fdv_eq {b : Int} {x : Rat} (h : (x.den : Int) ∣ b) : ((fdv b x : Int) : Rat) = x * (b : Rat) := by
  obtain ⟨c, rfl⟩ := h
  have dz : (x.den : Int) ≠ 0 := by have := x.den_nz; omega
  unfold fdv
  rw [show x.num * ((x.den : Int) * c) = (x.den : Int) * (x.num * c) by rw [Int.mul_left_comm], Int.mul_fdiv_cancel_left _ dz, Rat.intCast_mul, Rat.intCast_mul]
  have e := Rat.num_divInt_den x
  rw [Rat.divInt_eq_div] at e
  have nz := Z.ratne dz
  generalize ((x.den : Int) : Rat) = dd at *
  generalize ((x.num : Int) : Rat) = nn at *
  generalize ((c : Int) : Rat) = cc at *
  rw [← e]; grind
theorem from_b (F : Fr C z f0 f1) (ho : ∀ (p q : Rat) (a b : Nat), Bd a p → Bd b q → a + b < 9000 → q ≠ 0 → C f2 [qd p, qd q] z = some (Q (p / q), z)) (hp : ∀ a : List Int, okC a = true → C f3 [pl a] z = some (.fr (il (primL a)), z)) (ht : ∀ a : List Int, C f4 [pl a] z = some (.fr (il (trimL a)), z))
    {Bb M : Nat} {l : List Rat} (ta : Tr a) (na : a ≠ []) (hb : Bt Bb (zp a)) (hll : l.length + 1 = a.length) (hl : ∀ j, j < l.length → l.getD j 0 = ps a (j + 1)) (hM : ∀ j, Bd M (ps a (j + 1)) ∨ l.length ≤ j) (l9 : a.length < 90) (hB : a.length * (2 * Bb + 2 + M + 1) + 1 + (2 * Bb + 2 + M + 20) < 9000) :
    exB C (B.from_sums f0 f1 f2 f3 f4).body [.sh (.lst (ql l)), .un, .un, .un, .un, .un, .un, .un] z = some (.ret (.fr (il (primL a))), z) := by
  unfold B.from_sums
  simp only
  have la0 := List.length_pos_iff.mpr na
  have ln0 : ((lastD a : Int) : Rat) ≠ 0 := Z.ratne (tr_lastD ta na)
  have V0 : Vr a 0 = 1 := by
    unfold Vr
    rw [Aq_0 na]
    generalize ((lastD a : Int) : Rat) = d at *
    grind
  have d1 : D.lst [.tup [.int 1, .int 1]] = .lst (ql (VL a 1)) := by
    show _ = D.lst [qd (Vr a 0)]
    rw [V0]; rfl
  have d1' : [D.tup [.int 1, .int 1]] = ql (VL a 1) := by injection d1
  rw [exB]; simp -implicitDefEqProofs only [exS, freeze, froz, evE.eq_1, evE.eq_2, evE.eq_3, evE.eq_4, evE.eq_5, evE.eq_6, evE.eq_7, evE.eq_8, evE.eq_9, evE.eq_10, evE.eq_11, evE.eq_12, evE.eq_13, evE.eq_14, evE.eq_15, evE.eq_16, evE.eq_17, evE.eq_18, evRs, evO, evC, bd_some, bd_none, List.getElem?_cons_succ, List.getElem?_cons_zero, List.set_cons_succ, List.set_cons_zero, putR, setTs, setT, b_add, b_sub, b_band, c_lt, c_le, c_gt, c_ge, c_isn, c_notn, isn_int, isn_non, bi_abs, bi_int, bi_intb, bi_max2, bi_min2, toB_bl, toDs_nil, toDs_cons, R.toD, Option.map_some, Option.map_none, List.getD_cons_zero, List.getD_cons_succ, if_true, eq_int, ne_int, toDs, d1']
  obtain ⟨s', x', lp, hs', _⟩ := range_inv (z := z) (f := lpF C (.nm 2) (.cons (.asg [] 6 (.tup (.cons (.lit (.int (0))) (.cons (.lit (.int (1))) .nil)))) (.cons (.loop [] (.nm 7) (.rg1 (.nvar 2)) (.cons (.asg [6] 6 (.call f0 (.cons (.var 6) (.cons (.call f1 (.cons (.sub (.nvar 1) (.nvar 7)) (.cons (.sub (.nvar 0) (.bin .sub (.bin .sub (.nvar 2) (.lit (.int (1)))) (.nvar 7))) .nil))) .nil)))) .nil)) (.cons (.app [2] 1 (.call f2 (.cons (.tup (.cons (.neg (.sub (.nvar 6) (.lit (.int (0))))) (.cons (.sub (.nvar 6) (.lit (.int (1)))) .nil))) (.cons (.tup (.cons (.var 2) (.cons (.lit (.int (1))) .nil))) .nil)))) .nil))))
    (fun (w : List Rat × Slot × Slot) x => [.sh (.lst (ql l)), .ow (ql w.1), x, .un, .un, .un, w.2.1, w.2.2]) (fun k w => w.1 = VL a k ∧ 1 ≤ k) (l.length + 1)
    (by
      rintro k ⟨v, x6, x7⟩ x hk ⟨hv, k1⟩
      simp only at hv
      subst hv
      have km : k * (2 * Bb + 2 + M + 1) ≤ a.length * (2 * Bb + 2 + M + 1) := Nat.mul_le_mul_right _ (by omega)
      have hs : ∀ j, j < k → Bd M (ps a (j + 1)) := fun j hj => (hM j).resolve_right (by omega)
      obtain ⟨y7, inner⟩ := from_inner (a := a) (s3 := .un) (s4 := .un) (s5 := .un) (x := x7) F (Vr_bd ta na hb) hs hl (show k ≤ l.length by omega) (by omega) k1 (by omega)
      have d0 : D.tup [.int 0, .int 1] = qd 0 := rfl
      have kz : ((k : Int) : Rat) ≠ 0 := Z.ratne (by omega)
      have fe := from_eq ta na (k := k) (by omega)
      have b1 := fw_bd (k := k) (Vr_bd ta na hb) hs k (Nat.le_refl _)
      have b2 : Bd 11 (((k : Int)) : Rat) := bd_int (by
        have : (2 : Nat) ^ 11 = 2048 := by decide
        omega) (by omega)
      have e2 := ho (-fw (Vr a) (fun j => ps a (j + 1)) k k) ((k : Int) : Rat) _ _ (bd_neg b1) b2 (by omega) kz
      have ev : -fw (Vr a) (fun j => ps a (j + 1)) k k / ((k : Int) : Rat) = Vr a k := by
        have fe : ((k : Int) : Rat) * Vr a k = -fw (Vr a) (fun j => ps a (j + 1)) k k := fe
        rw [← fe]
        generalize ((k : Int) : Rat) = d at *
        grind
      rw [ev] at e2
      have e2' : C f2 [qd (-fw (Vr a) (fun j => ps a (j + 1)) k k), .tup [.int k, .int 1]] z = _ := e2
      have hlen : (ql (VL a k)).length < 16777216 := by rw [ql_len, VL_len]; omega
      refine ⟨(VL a (k + 1), .sh (qd (fw (Vr a) (fun j => ps a (j + 1)) k k)), y7), ?_, rfl, by omega⟩
      simp -implicitDefEqProofs only [lpF, setT, List.set_cons_succ, List.set_cons_zero]
      rw [exB]; simp -implicitDefEqProofs only [exS, freeze, froz, evE.eq_1, evE.eq_2, evE.eq_3, evE.eq_4, evE.eq_5, evE.eq_6, evE.eq_7, evE.eq_8, evE.eq_9, evE.eq_10, evE.eq_11, evE.eq_12, evE.eq_13, evE.eq_14, evE.eq_15, evE.eq_16, evE.eq_17, evE.eq_18, evRs, evO, evC, bd_some, bd_none, List.getElem?_cons_succ, List.getElem?_cons_zero, List.set_cons_succ, List.set_cons_zero, putR, setTs, setT, b_add, b_sub, b_band, c_lt, c_le, c_gt, c_ge, c_isn, c_notn, isn_int, isn_non, bi_abs, bi_int, bi_intb, bi_max2, bi_min2, toB_bl, toDs_nil, toDs_cons, R.toD, Option.map_some, Option.map_none, List.getD_cons_zero, List.getD_cons_succ, if_true, eq_int, ne_int, toDs, d0]
      rw [exB_nx inner]
      rw [exB]; simp -implicitDefEqProofs only [exS, freeze, froz, evE.eq_1, evE.eq_2, evE.eq_3, evE.eq_4, evE.eq_5, evE.eq_6, evE.eq_7, evE.eq_8, evE.eq_9, evE.eq_10, evE.eq_11, evE.eq_12, evE.eq_13, evE.eq_14, evE.eq_15, evE.eq_16, evE.eq_17, evE.eq_18, evRs, evO, evC, bd_some, bd_none, List.getElem?_cons_succ, List.getElem?_cons_zero, List.set_cons_succ, List.set_cons_zero, putR, setTs, setT, b_add, b_sub, b_band, c_lt, c_le, c_gt, c_ge, c_isn, c_notn, isn_int, isn_non, bi_abs, bi_int, bi_intb, bi_max2, bi_min2, toB_bl, toDs_nil, toDs_cons, R.toD, Option.map_some, Option.map_none, List.getD_cons_zero, List.getD_cons_succ, if_true, eq_int, ne_int, toDs, sub0, sub1, tup_neg, e2']
      rw [if_pos hlen]
      simp only
      rw [exB, VL_succ, ← ql_snoc]) l.length 1 (VL a 1, .un, .un) .un (by omega) ⟨rfl, by omega⟩
  have em : (l.length : Int) + 1 = ((l.length + 1 : Nat) : Int) := rfl
  refine (exB_nx (ρ' := [.sh (.lst (ql l)), .ow (ql s'.1), x', .un, .un, .un, s'.2.1, s'.2.2]) (z' := z) (exS_loop rfl (rg2_nat (i := 1) (j := l.length + 1) (z1 := z) (z2 := z) rfl ?_ (by omega) (by omega)) lp)).trans ?_
  · simp -implicitDefEqProofs only [exS, freeze, froz, evE.eq_1, evE.eq_2, evE.eq_3, evE.eq_4, evE.eq_5, evE.eq_6, evE.eq_7, evE.eq_8, evE.eq_9, evE.eq_10, evE.eq_11, evE.eq_12, evE.eq_13, evE.eq_14, evE.eq_15, evE.eq_16, evE.eq_17, evE.eq_18, evRs, evO, evC, bd_some, bd_none, List.getElem?_cons_succ, List.getElem?_cons_zero, List.set_cons_succ, List.set_cons_zero, putR, setTs, setT, b_add, b_sub, b_band, c_lt, c_le, c_gt, c_ge, c_isn, c_notn, isn_int, isn_non, bi_abs, bi_int, bi_intb, bi_max2, bi_min2, toB_bl, toDs_nil, toDs_cons, R.toD, Option.map_some, Option.map_none, List.getD_cons_zero, List.getD_cons_succ, if_true, eq_int, ne_int, len_qsh, em]
  rw [hs']
  rw [exB]; simp -implicitDefEqProofs only [exS, freeze, froz, evE.eq_1, evE.eq_2, evE.eq_3, evE.eq_4, evE.eq_5, evE.eq_6, evE.eq_7, evE.eq_8, evE.eq_9, evE.eq_10, evE.eq_11, evE.eq_12, evE.eq_13, evE.eq_14, evE.eq_15, evE.eq_16, evE.eq_17, evE.eq_18, evRs, evO, evC, bd_some, bd_none, List.getElem?_cons_succ, List.getElem?_cons_zero, List.set_cons_succ, List.set_cons_zero, putR, setTs, setT, b_add, b_sub, b_band, c_lt, c_le, c_gt, c_ge, c_isn, c_notn, isn_int, isn_non, bi_abs, bi_int, bi_intb, bi_max2, bi_min2, toB_bl, toDs_nil, toDs_cons, R.toD, Option.map_some, Option.map_none, List.getD_cons_zero, List.getD_cons_succ, if_true, eq_int, ne_int, toDs]
  have hVL : ∀ x ∈ VL a (l.length + 1), Bd (2 * Bb + 2) x := fun x hx => by
    unfold VL at hx
    obtain ⟨k, _, rfl⟩ := List.mem_map.mp hx
    exact Vr_bd ta na hb k
  have lm : (VL a (l.length + 1)).length * (2 * Bb + 2) ≤ 90 * 9000 := by rw [VL_len]; exact Nat.mul_le_mul (by omega) (by omega)
  have lm2 : ((VL a (l.length + 1)).length + 1) * (2 * Bb + 2 + 1) < 100000 - 1 := by
    rw [VL_len]
    have : (l.length + 1 + 1) * (2 * Bb + 2 + 1) ≤ 2 * (a.length * (2 * Bb + 2 + M + 1)) := by
      rw [← Nat.mul_assoc]
      exact Nat.mul_le_mul (by omega) (by omega)
    omega
  obtain ⟨y4, lp2, hy4⟩ := bot_loop (C := C) (z := z) (s0 := .sh (.lst (ql l))) (s1 := .sh (.lst (ql (VL a (l.length + 1))))) (s2 := x') (s5 := .un) (s6 := s'.2.1) (s7 := s'.2.2) (VL a (l.length + 1)) 1 1 .un hVL (by decide) (by omega)
  obtain ⟨d4, rfl⟩ := hy4 (fun e => by have := VL_len a (l.length + 1); rw [e] at this; simp at this)
  obtain ⟨g1, _, g3⟩ := bot_spec (VL a (l.length + 1)) 1 (by decide)
  have g2 := bot_bd (VL a (l.length + 1)) 1 1 hVL (by decide)
  generalize hbt : bot (VL a (l.length + 1)) 1 = bt at *
  have lsv : ∀ {ρ : Env}, ρ[1]? = some (.sh (.lst (ql (VL a (l.length + 1))))) → evI C ρ false (.ls (.var 1)) z = some (ql (VL a (l.length + 1)), z) := fun {ρ} h => by
    have e : evE C ρ (.var 1) z = some (.sh (.lst (ql (VL a (l.length + 1)))), z) := by simp only [evE, h]
    rw [evI, e, bd_some]; rfl
  refine (exB_nx (exS_loop (ρ1 := [.sh (.lst (ql l)), .sh (.lst (ql (VL a (l.length + 1)))), x', .sh (.int 1), .un, .un, s'.2.1, s'.2.2]) rfl (lsv rfl) lp2)).trans ?_
  have cm : evE C [.sh (.lst (ql l)), .sh (.lst (ql (VL a (l.length + 1)))), x', .sh (.int bt), .sh d4, .un, s'.2.1, s'.2.2] (.comp (.bin .fdiv (.bin .mul (.sub (.nvar 4) (.lit (.int (0)))) (.nvar 3)) (.sub (.nvar 4) (.lit (.int (1))))) (.nm 4) (.rv (.nvar 1)) .none [4]) z = some (.fr (il ((VL a (l.length + 1)).reverse.map (fdv bt))), z) := by
    refine comp_ev (ds := (ql (VL a (l.length + 1))).reverse) (z1 := z) rfl ?_ ?_
    · rw [evI]; simp -implicitDefEqProofs only [exS, freeze, froz, evE.eq_1, evE.eq_2, evE.eq_3, evE.eq_4, evE.eq_5, evE.eq_6, evE.eq_7, evE.eq_8, evE.eq_9, evE.eq_10, evE.eq_11, evE.eq_12, evE.eq_13, evE.eq_14, evE.eq_15, evE.eq_16, evE.eq_17, evE.eq_18, evRs, evO, evC, bd_some, bd_none, List.getElem?_cons_succ, List.getElem?_cons_zero, List.set_cons_succ, List.set_cons_zero, putR, setTs, setT, b_add, b_sub, b_band, c_lt, c_le, c_gt, c_ge, c_isn, c_notn, isn_int, isn_non, bi_abs, bi_int, bi_intb, bi_max2, bi_min2, toB_bl, toDs_nil, toDs_cons, R.toD, Option.map_some, Option.map_none, List.getD_cons_zero, List.getD_cons_succ, if_true, eq_int, ne_int]; rfl
    · have : il ((VL a (l.length + 1)).reverse.map (fdv bt)) = (ql (VL a (l.length + 1))).reverse.map fun d => match d with
          | .tup [.int n, .int m] => .int ((n * bt).fdiv m)
          | d => d := by
        unfold il ql
        rw [← List.map_reverse, List.map_map, List.map_map]
        rfl
      rw [this]
      refine lcL_map _ _ fun d hd => ?_
      unfold ql at hd
      rw [← List.map_reverse] at hd
      obtain ⟨x, hx, rfl⟩ := List.mem_map.mp hd
      have bx := hVL x (List.mem_reverse.mp hx)
      have mo : mulOk x.num bt = true := mulOk_lg bx.1 g2 (by omega)
      have lg : ((x.den : Int)).natAbs.log2 < 9000 := by
        rw [Int.natAbs_natCast]
        have := log2_lt bx.2
        omega
      unfold compF
      simp -implicitDefEqProofs only [wipeE, setT, List.set_cons_succ, List.set_cons_zero, evC, bd_some, if_true]
      simp -implicitDefEqProofs only [exS, freeze, froz, evE.eq_1, evE.eq_2, evE.eq_3, evE.eq_4, evE.eq_5, evE.eq_6, evE.eq_7, evE.eq_8, evE.eq_9, evE.eq_10, evE.eq_11, evE.eq_12, evE.eq_13, evE.eq_14, evE.eq_15, evE.eq_16, evE.eq_17, evE.eq_18, evRs, evO, evC, bd_some, bd_none, List.getElem?_cons_succ, List.getElem?_cons_zero, List.set_cons_succ, List.set_cons_zero, putR, setTs, setT, b_add, b_sub, b_band, c_lt, c_le, c_gt, c_ge, c_isn, c_notn, isn_int, isn_non, bi_abs, bi_int, bi_intb, bi_max2, bi_min2, toB_bl, toDs_nil, toDs_cons, R.toD, Option.map_some, Option.map_none, List.getD_cons_zero, List.getD_cons_succ, if_true, eq_int, ne_int, sub0, sub1, b_mul mo, b_fdiv (i := x.num * bt) (j := (x.den : Int)) ⟨den_ne x, lg⟩]
      rfl
  rw [exB]; simp -implicitDefEqProofs only [exS, freeze, cm, bd_some, putR, Option.map_some, List.set_cons_succ, List.set_cons_zero]
  -- the meaning
  have hz : Pol.cst (lastD a) * zp ((VL a (l.length + 1)).reverse.map (fdv bt)) = Pol.cst bt * zp a := Pol.extc fun k => by
    rw [Pol.cst_mul, Pol.cst_mul]
    show lastD a * ((VL a (l.length + 1)).reverse.map (fdv bt)).getD k 0 = bt * a.getD k 0
    by_cases hk : k < a.length
    · have hr : ((VL a (l.length + 1)).reverse.map (fdv bt)).getD k 0 = fdv bt (Vr a (a.length - 1 - k)) := by
        simp only [List.getD, List.getElem?_map]
        rw [List.getElem?_reverse (by rw [VL_len]; omega), VL_len]
        have := VL_get a (n := l.length + 1) (k := l.length + 1 - 1 - k) (by omega)
        simp only [List.getD] at this
        have hs : (VL a (l.length + 1))[l.length + 1 - 1 - k]? = some ((VL a (l.length + 1))[l.length + 1 - 1 - k]'(by rw [VL_len]; omega)) := List.getElem?_eq_getElem _
        rw [hs] at this ⊢
        have this : (VL a (l.length + 1))[l.length + 1 - 1 - k]'(by rw [VL_len]; omega) = Vr a (l.length + 1 - 1 - k) := this
        show fdv bt _ = _
        rw [this, show l.length + 1 - 1 - k = a.length - 1 - k by omega]
      rw [hr]
      apply Rat.intCast_inj.mp
      have mem : Vr a (a.length - 1 - k) ∈ VL a (l.length + 1) := List.mem_map.mpr ⟨_, List.mem_range.mpr (by omega), rfl⟩
      rw [Rat.intCast_mul, Rat.intCast_mul, fdv_eq (g3 _ mem)]
      have hc : (Aq a).c (a.length - 1 - k) = ((a.getD k 0 : Int) : Rat) := by
        rw [Aq_c, if_pos (by omega), show a.length - 1 - (a.length - 1 - k) = k by omega]
      unfold Vr
      rw [hc]
      generalize ((lastD a : Int) : Rat) = d at *
      generalize ((a.getD k 0 : Int) : Rat) = u at *
      generalize ((bt : Int) : Rat) = w at *
      grind
    · have h1 : ((VL a (l.length + 1)).reverse.map (fdv bt)).getD k 0 = 0 := by
        simp only [List.getD]
        rw [List.getElem?_eq_none (by rw [List.length_map, List.length_reverse, VL_len]; omega)]; rfl
      have h2 : a.getD k 0 = 0 := by
        simp only [List.getD]
        rw [List.getElem?_eq_none (by omega)]; rfl
      rw [h1, h2]; omega
  have bl : Bt (1 + (VL a (l.length + 1)).length * (2 * Bb + 2) + Bb) (zp (trimL ((VL a (l.length + 1)).reverse.map (fdv bt)))) := by
    rw [zp_trim]
    exact (Bt.sc g2 hb).div (tr_lastD ta na) hz.symm
  have ok : okC (trimL ((VL a (l.length + 1)).reverse.map (fdv bt))) = true := okC_of bl (by
    have : (VL a (l.length + 1)).length * (2 * Bb + 2) ≤ a.length * (2 * Bb + 2 + M + 1) := by rw [VL_len, hll]; exact Nat.mul_le_mul_left _ (by omega)
    omega)
  have pq : primL (trimL ((VL a (l.length + 1)).reverse.map (fdv bt))) = primL a := prim_uniq (tr_trim _) ta (tr_lastD ta na) g1 (by rw [zp_trim]; exact hz)
  have e1 := ht ((VL a (l.length + 1)).reverse.map (fdv bt))
  have e2 := hp _ ok
  rw [pq] at e2
  rw [exB]; simp -implicitDefEqProofs only [exS, freeze, froz, evE.eq_1, evE.eq_2, evE.eq_3, evE.eq_4, evE.eq_5, evE.eq_6, evE.eq_7, evE.eq_8, evE.eq_9, evE.eq_10, evE.eq_11, evE.eq_12, evE.eq_13, evE.eq_14, evE.eq_15, evE.eq_16, evE.eq_17, evE.eq_18, evRs, evO, evC, bd_some, bd_none, List.getElem?_cons_succ, List.getElem?_cons_zero, List.set_cons_succ, List.set_cons_zero, putR, setTs, setT, b_add, b_sub, b_band, c_lt, c_le, c_gt, c_ge, c_isn, c_notn, isn_int, isn_non, bi_abs, bi_int, bi_intb, bi_max2, bi_min2, toB_bl, toDs_nil, toDs_cons, R.toD, Option.map_some, Option.map_none, List.getD_cons_zero, List.getD_cons_succ, if_true, eq_int, ne_int, toDs, e1]
  simp -implicitDefEqProofs only [exS, freeze, froz, evE.eq_1, evE.eq_2, evE.eq_3, evE.eq_4, evE.eq_5, evE.eq_6, evE.eq_7, evE.eq_8, evE.eq_9, evE.eq_10, evE.eq_11, evE.eq_12, evE.eq_13, evE.eq_14, evE.eq_15, evE.eq_16, evE.eq_17, evE.eq_18, evRs, evO, evC, bd_some, bd_none, List.getElem?_cons_succ, List.getElem?_cons_zero, List.set_cons_succ, List.set_cons_zero, putR, setTs, setT, b_add, b_sub, b_band, c_lt, c_le, c_gt, c_ge, c_isn, c_notn, isn_int, isn_non, bi_abs, bi_int, bi_intb, bi_max2, bi_min2, toB_bl, toDs_nil, toDs_cons, R.toD, Option.map_some, Option.map_none, List.getD_cons_zero, List.getD_cons_succ, if_true, eq_int, ne_int, toDs, e2]
end
end Mn

/-! Mini: the law's own fractions, of any size; a drawn polynomial that is not 0. -/
namespace Mn
open PySem L2 Z
section
variable {P : List Fn} {K i j jc jt : Nat} {z : Zs} {C : CallF} {p q : Rat} {a b : Nat}
theorem mod_half {a b : Nat} (hb : 0 < b) (h : a % b ≠ 0) : 2 * (b % (a % b)) < b := by
  have h1 : a % b < b := Nat.mod_lt _ hb
  have h2 : b % (a % b) < a % b := Nat.mod_lt _ (by omega)
  have h3 := Nat.mod_add_div b (a % b)
  have h4 : 1 ≤ b / (a % b) := Nat.div_pos (by omega) (by omega)
  have h5 := Nat.mul_le_mul_left (a % b) h4
  omega
theorem short_loop2 {s0 : Slot} : ∀ (n b a : Nat) (ds : List D) (l0 : Slot), b < 2 ^ n → 2 * n + 1 ≤ ds.length → ∃ l, loopS (fun d ρ z => match setT ρ (.nm 3) d with
    | some ρ1 => exB C (.cons (.ite [] (.cmp .eq (.nvar 2) (.lit (.int (0)))) (.cons .brk .nil) .nil) (.cons (.par [2] [1, 2] (.cons (.var 2) (.cons (.bin .mod (.bi .int (.cons (.nvar 1) .nil)) (.nvar 2)) .nil))) .nil)) ρ1 z
    | none => none) ds [s0, .sh (.int a), .sh (.int b), l0] z = some (.nx [s0, .sh (.int (Nat.gcd a b)), .sh (.int 0), l], z) := by
  have stop : ∀ (a : Nat) (d : D) (ds : List D) (l0 : Slot), loopS (fun d ρ z => match setT ρ (.nm 3) d with
    | some ρ1 => exB C (.cons (.ite [] (.cmp .eq (.nvar 2) (.lit (.int (0)))) (.cons .brk .nil) .nil) (.cons (.par [2] [1, 2] (.cons (.var 2) (.cons (.bin .mod (.bi .int (.cons (.nvar 1) .nil)) (.nvar 2)) .nil))) .nil)) ρ1 z
    | none => none) (d :: ds) [s0, .sh (.int a), .sh (.int ((0 : Nat) : Int)), l0] z = some (.nx [s0, .sh (.int (Nat.gcd a 0)), .sh (.int 0), .sh d], z) := by
    intro a d ds l0
    unfold loopS
    simp only [setT, List.set_cons_succ, List.set_cons_zero]
    rw [exB]; simp -implicitDefEqProofs only [exS, freeze, froz, evE.eq_1, evE.eq_2, evE.eq_3, evE.eq_4, evE.eq_5, evE.eq_6, evE.eq_7, evE.eq_8, evE.eq_9, evE.eq_10, evE.eq_11, evE.eq_12, evE.eq_13, evE.eq_14, evE.eq_15, evE.eq_16, evE.eq_17, evE.eq_18, evRs, evO, evC, bd_some, bd_none, List.getElem?_cons_succ, List.getElem?_cons_zero, List.set_cons_succ, List.set_cons_zero, putR, setTs, setT, b_add, b_sub, b_band, c_lt, c_le, c_gt, c_ge, c_isn, c_notn, isn_int, isn_non, bi_abs, bi_int, bi_intb, bi_max2, bi_min2, toB_bl, toDs_nil, toDs_cons, R.toD, Option.map_some, Option.map_none, List.getD_cons_zero, List.getD_cons_succ, if_true, eq_int, ne_int, _root_.decide_eq_true (show ((0 : Nat) : Int) = 0 from rfl)]
    rw [exB]; simp -implicitDefEqProofs only [exS]
    rw [Nat.gcd_zero_right]
    rfl
  have step : ∀ (a b : Nat) (d : D) (ds : List D) (l0 : Slot), b ≠ 0 → loopS (fun d ρ z => match setT ρ (.nm 3) d with
    | some ρ1 => exB C (.cons (.ite [] (.cmp .eq (.nvar 2) (.lit (.int (0)))) (.cons .brk .nil) .nil) (.cons (.par [2] [1, 2] (.cons (.var 2) (.cons (.bin .mod (.bi .int (.cons (.nvar 1) .nil)) (.nvar 2)) .nil))) .nil)) ρ1 z
    | none => none) (d :: ds) [s0, .sh (.int a), .sh (.int b), l0] z = loopS (fun d ρ z => match setT ρ (.nm 3) d with
    | some ρ1 => exB C (.cons (.ite [] (.cmp .eq (.nvar 2) (.lit (.int (0)))) (.cons .brk .nil) .nil) (.cons (.par [2] [1, 2] (.cons (.var 2) (.cons (.bin .mod (.bi .int (.cons (.nvar 1) .nil)) (.nvar 2)) .nil))) .nil)) ρ1 z
    | none => none) ds [s0, .sh (.int b), .sh (.int ((a % b : Nat) : Int)), .sh d] z := by
    intro a b d ds l0 h0
    have hb : (b : Int) ≠ 0 := by omega
    conv => lhs; unfold loopS
    simp only [setT, List.set_cons_succ, List.set_cons_zero]
    rw [exB]; simp -implicitDefEqProofs only [exS, freeze, froz, evE.eq_1, evE.eq_2, evE.eq_3, evE.eq_4, evE.eq_5, evE.eq_6, evE.eq_7, evE.eq_8, evE.eq_9, evE.eq_10, evE.eq_11, evE.eq_12, evE.eq_13, evE.eq_14, evE.eq_15, evE.eq_16, evE.eq_17, evE.eq_18, evRs, evO, evC, bd_some, bd_none, List.getElem?_cons_succ, List.getElem?_cons_zero, List.set_cons_succ, List.set_cons_zero, putR, setTs, setT, b_add, b_sub, b_band, c_lt, c_le, c_gt, c_ge, c_isn, c_notn, isn_int, isn_non, bi_abs, bi_int, bi_intb, bi_max2, bi_min2, toB_bl, toDs_nil, toDs_cons, R.toD, Option.map_some, Option.map_none, List.getD_cons_zero, List.getD_cons_succ, if_true, eq_int, ne_int, decide_eq_false hb]
    rw [exB]
    simp only
    rw [exB]; simp -implicitDefEqProofs only [exS, freeze, froz, evE.eq_1, evE.eq_2, evE.eq_3, evE.eq_4, evE.eq_5, evE.eq_6, evE.eq_7, evE.eq_8, evE.eq_9, evE.eq_10, evE.eq_11, evE.eq_12, evE.eq_13, evE.eq_14, evE.eq_15, evE.eq_16, evE.eq_17, evE.eq_18, evRs, evO, evC, bd_some, bd_none, List.getElem?_cons_succ, List.getElem?_cons_zero, List.set_cons_succ, List.set_cons_zero, putR, setTs, setT, b_add, b_sub, b_band, c_lt, c_le, c_gt, c_ge, c_isn, c_notn, isn_int, isn_non, bi_abs, bi_int, bi_intb, bi_max2, bi_min2, toB_bl, toDs_nil, toDs_cons, R.toD, Option.map_some, Option.map_none, List.getD_cons_zero, List.getD_cons_succ, if_true, eq_int, ne_int, b_mod hb, toDs]
    rw [exB, Int.fmod_eq_emod_of_nonneg _ (by omega)]
    rfl
  intro n
  induction n with
  | zero =>
    intro b a ds l0 hb hl
    have : b = 0 := by
      have : (2 : Nat) ^ 0 = 1 := rfl
      omega
    subst this
    cases ds with
    | nil => simp at hl
    | cons d ds => exact ⟨_, stop a d ds l0⟩
  | succ n ih =>
    intro b a ds l0 hb hl
    match ds, hl with
    | d :: ds, hl =>
      by_cases h0 : b = 0
      · subst h0; exact ⟨_, stop a d ds l0⟩
      · rw [step a b d ds l0 h0]
        have hg : Nat.gcd a b = Nat.gcd b (a % b) := by rw [Nat.gcd_comm a b, Nat.gcd_rec b a, Nat.gcd_comm]
        match ds, hl with
        | e :: ds, hl =>
          by_cases h1 : a % b = 0
          · rw [h1]
            rw [h1] at hg
            rw [hg]
            exact ⟨_, stop b e ds (.sh d)⟩
          · rw [step b (a % b) e ds (.sh d) h1]
            have hh := mod_half (by omega) h1
            rw [Nat.pow_succ] at hb
            obtain ⟨l, w⟩ := ih (b % (a % b)) (a % b) ds (.sh e) (by omega) (by simp only [List.length_cons] at hl; omega)
            refine ⟨l, ?_⟩
            have hg2 : Nat.gcd b (a % b) = Nat.gcd (a % b) (b % (a % b)) := by rw [Nat.gcd_comm b (a % b), Nat.gcd_rec (a % b) b, Nat.gcd_comm]
            rw [hg, hg2]
            exact w
        | [], hl => simp only [List.length_cons, List.length_nil] at hl; omega
    | [], hl => simp at hl
theorem short_ok2 (h : P[i]? = some B._law_short) (n d : Int) (hd : 0 < d) {W : Nat} (hw : d.natAbs < 2 ^ W) (hW : W < 9000) : run P (K + 1) i [.tup [.int n, .int d]] z = some (Q (Rat.divInt n d), z) := by
  refine run_ret h rfl ?_ rfl
  have ab : ∀ x : Int, (if x < 0 then -x else x) = (x.natAbs : Int) := fun x => by omega
  have s0 : subR (.sh (.tup [.int n, .int d])) (.sh (.int 0)) z = some (.sh (.int n)) := rfl
  have s1 : subR (.sh (.tup [.int n, .int d])) (.sh (.int 1)) z = some (.sh (.int d)) := rfl
  have hg : ((Int.gcd n d : Nat) : Int) ≠ 0 := by have := Int.gcd_pos_of_ne_zero_right n (show d ≠ 0 by omega); omega
  have hb : ((Int.gcd n d : Nat) : Int).natAbs.log2 < 9000 := gcd_log (b := W) (show d ≠ 0 by omega) hw (by omega)
  obtain ⟨e1, e2⟩ := pos_divInt (n := n) hd
  unfold B._law_short
  simp only
  show exB _ _ [.sh (.tup [.int n, .int d]), .un, .un, .un] _ = _
  rw [exB]; simp -implicitDefEqProofs only [exS, freeze, froz, evE.eq_1, evE.eq_2, evE.eq_3, evE.eq_4, evE.eq_5, evE.eq_6, evE.eq_7, evE.eq_8, evE.eq_9, evE.eq_10, evE.eq_11, evE.eq_12, evE.eq_13, evE.eq_14, evE.eq_15, evE.eq_16, evE.eq_17, evE.eq_18, evRs, evO, evC, bd_some, bd_none, List.getElem?_cons_succ, List.getElem?_cons_zero, List.set_cons_succ, List.set_cons_zero, putR, setTs, setT, b_add, b_sub, b_band, c_lt, c_le, c_gt, c_ge, c_isn, c_notn, isn_int, isn_non, bi_abs, bi_int, bi_intb, bi_max2, bi_min2, toB_bl, toDs_nil, toDs_cons, R.toD, Option.map_some, Option.map_none, List.getD_cons_zero, List.getD_cons_succ, if_true, eq_int, ne_int, s0, ab]
  rw [exB]; simp -implicitDefEqProofs only [exS, freeze, froz, evE.eq_1, evE.eq_2, evE.eq_3, evE.eq_4, evE.eq_5, evE.eq_6, evE.eq_7, evE.eq_8, evE.eq_9, evE.eq_10, evE.eq_11, evE.eq_12, evE.eq_13, evE.eq_14, evE.eq_15, evE.eq_16, evE.eq_17, evE.eq_18, evRs, evO, evC, bd_some, bd_none, List.getElem?_cons_succ, List.getElem?_cons_zero, List.set_cons_succ, List.set_cons_zero, putR, setTs, setT, b_add, b_sub, b_band, c_lt, c_le, c_gt, c_ge, c_isn, c_notn, isn_int, isn_non, bi_abs, bi_int, bi_intb, bi_max2, bi_min2, toB_bl, toDs_nil, toDs_cons, R.toD, Option.map_some, Option.map_none, List.getD_cons_zero, List.getD_cons_succ, if_true, eq_int, ne_int, s1]
  obtain ⟨l, lp⟩ := short_loop2 (C := run P K) (s0 := .sh (.tup [.int n, .int d])) (z := z) W d.natAbs n.natAbs (rangeD 0 40000) .un hw (by rw [rangeD_len]; omega)
  have ed : (d.natAbs : Int) = d := by omega
  rw [ed] at lp
  rw [exB_nx (ρ' := [.sh (.tup [.int n, .int d]), .sh (.int (Nat.gcd n.natAbs d.natAbs)), .sh (.int 0), l]) (z' := z)]
  · show exB _ _ [.sh (.tup [.int n, .int d]), .sh (.int (Int.gcd n d : Nat)), .sh (.int 0), l] _ = _
    rw [exB]; simp -implicitDefEqProofs only [exS, freeze, froz, evE.eq_1, evE.eq_2, evE.eq_3, evE.eq_4, evE.eq_5, evE.eq_6, evE.eq_7, evE.eq_8, evE.eq_9, evE.eq_10, evE.eq_11, evE.eq_12, evE.eq_13, evE.eq_14, evE.eq_15, evE.eq_16, evE.eq_17, evE.eq_18, evRs, evO, evC, bd_some, bd_none, List.getElem?_cons_succ, List.getElem?_cons_zero, List.set_cons_succ, List.set_cons_zero, putR, setTs, setT, b_add, b_sub, b_band, c_lt, c_le, c_gt, c_ge, c_isn, c_notn, isn_int, isn_non, bi_abs, bi_int, bi_intb, bi_max2, bi_min2, toB_bl, toDs_nil, toDs_cons, R.toD, Option.map_some, Option.map_none, List.getD_cons_zero, List.getD_cons_succ, if_true, eq_int, ne_int, s0, s1, b_fdiv ⟨hg, hb⟩, toDs, e1, e2]
    rfl
  · rw [exS, rg1_ok (n := 40000) (z' := z) rfl (by decide), bd_some]
    exact lp
theorem pos_den' (p : Rat) : (0 : Int) < p.den := by have := p.den_pos; omega
theorem lplus_ok (h : P[i]? = some (B._law_plus j)) (hj : P[j]? = some B._law_short) (hp : Bd a p) (hq : Bd b q) (hl : a + b < 9000) : run P (K + 2) i [qd p, qd q] z = some (Q (p + q), z) := by
  have m1 : mulOk p.num (q.den : Int) = true := mulOk_lg hp.1 (show ((q.den : Int)).natAbs < 2 ^ b by rw [Int.natAbs_natCast]; exact hq.2) (by omega)
  have m2 : mulOk q.num (p.den : Int) = true := mulOk_lg hq.1 (show ((p.den : Int)).natAbs < 2 ^ a by rw [Int.natAbs_natCast]; exact hp.2) (by omega)
  have m3 : mulOk (p.den : Int) (q.den : Int) = true := mulOk_lg (show ((p.den : Int)).natAbs < 2 ^ a by rw [Int.natAbs_natCast]; exact hp.2) (show ((q.den : Int)).natAbs < 2 ^ b by rw [Int.natAbs_natCast]; exact hq.2) (by omega)
  have sh := short_ok2 (K := K) (z := z) hj (p.num * q.den + q.num * p.den) (p.den * q.den) (Int.mul_pos (pos_den' p) (pos_den' q)) (W := a + b) (by
    rw [Int.natAbs_mul, Int.natAbs_natCast, Int.natAbs_natCast]
    exact mul_lt2 hp.2 hq.2) hl
  rw [add_divInt] at sh
  refine run_ret h rfl ?_ rfl
  unfold B._law_plus
  simp only
  show exB _ _ [.sh (qd p), .sh (qd q)] _ = _
  generalize run P (K + 1) = C at *
  rw [exB]; simp -implicitDefEqProofs only [exS, freeze, froz, evE.eq_1, evE.eq_2, evE.eq_3, evE.eq_4, evE.eq_5, evE.eq_6, evE.eq_7, evE.eq_8, evE.eq_9, evE.eq_10, evE.eq_11, evE.eq_12, evE.eq_13, evE.eq_14, evE.eq_15, evE.eq_16, evE.eq_17, evE.eq_18, evRs, evO, evC, bd_some, bd_none, List.getElem?_cons_succ, List.getElem?_cons_zero, List.set_cons_succ, List.set_cons_zero, putR, setTs, setT, b_add, b_sub, b_band, c_lt, c_le, c_gt, c_ge, c_isn, c_notn, isn_int, isn_non, bi_abs, bi_int, bi_intb, bi_max2, bi_min2, toB_bl, toDs_nil, toDs_cons, R.toD, Option.map_some, Option.map_none, List.getD_cons_zero, List.getD_cons_succ, if_true, eq_int, ne_int, toDs, sub0, sub1, b_mul m1, b_mul m2, b_mul m3, sh]
theorem lby_ok (h : P[i]? = some (B._law_by j)) (hj : P[j]? = some B._law_short) (hp : Bd a p) (hq : Bd b q) (hl : a + b < 9000) : run P (K + 2) i [qd p, qd q] z = some (Q (p * q), z) := by
  have m1 : mulOk p.num q.num = true := mulOk_lg hp.1 hq.1 (by omega)
  have m3 : mulOk (p.den : Int) (q.den : Int) = true := mulOk_lg (show ((p.den : Int)).natAbs < 2 ^ a by rw [Int.natAbs_natCast]; exact hp.2) (show ((q.den : Int)).natAbs < 2 ^ b by rw [Int.natAbs_natCast]; exact hq.2) (by omega)
  have sh := short_ok2 (K := K) (z := z) hj (p.num * q.num) (p.den * q.den) (Int.mul_pos (pos_den' p) (pos_den' q)) (W := a + b) (by
    rw [Int.natAbs_mul, Int.natAbs_natCast, Int.natAbs_natCast]
    exact mul_lt2 hp.2 hq.2) hl
  rw [mul_divInt] at sh
  refine run_ret h rfl ?_ rfl
  unfold B._law_by
  simp only
  show exB _ _ [.sh (qd p), .sh (qd q)] _ = _
  generalize run P (K + 1) = C at *
  rw [exB]; simp -implicitDefEqProofs only [exS, freeze, froz, evE.eq_1, evE.eq_2, evE.eq_3, evE.eq_4, evE.eq_5, evE.eq_6, evE.eq_7, evE.eq_8, evE.eq_9, evE.eq_10, evE.eq_11, evE.eq_12, evE.eq_13, evE.eq_14, evE.eq_15, evE.eq_16, evE.eq_17, evE.eq_18, evRs, evO, evC, bd_some, bd_none, List.getElem?_cons_succ, List.getElem?_cons_zero, List.set_cons_succ, List.set_cons_zero, putR, setTs, setT, b_add, b_sub, b_band, c_lt, c_le, c_gt, c_ge, c_isn, c_notn, isn_int, isn_non, bi_abs, bi_int, bi_intb, bi_max2, bi_min2, toB_bl, toDs_nil, toDs_cons, R.toD, Option.map_some, Option.map_none, List.getD_cons_zero, List.getD_cons_succ, if_true, eq_int, ne_int, toDs, sub0, sub1, b_mul m1, b_mul m3, sh]
/-- a drawn polynomial, or x + 1 -/
theorem lsome_ok {js : Nat} (hs : P[js]? = some (B._law_some i)) (h : P[i]? = some (B._law_p j jt)) (hj : P[j]? = some B._law_add) (ht : P[jt]? = some B._law_take) (deg size bt : Nat) (h1 : deg < 1000) (h2 : size < 1000) (h3 : 1 ≤ deg) (h4 : size < 2 ^ bt) (h5 : 1 ≤ bt) (s : Int) : ∃ (r : R) (l : List Int) (s' : Int), run P (K + 3) js [.hd, .int deg, .int size] (some s) = some (r, some s') ∧ (r = .sh (pl l) ∨ r = .fr (il l)) ∧ Sm (deg + 1) bt l ∧ l ≠ [] := by
  obtain ⟨l, s', e, d⟩ := lawp_ok (K := K) h hj ht deg size h1 h2 s
  by_cases n : l = []
  · refine ⟨.fr (il [1, 1]), [1, 1], s', run_ret hs rfl ?_ rfl, .inr rfl, ⟨tr_last (a := [1]) (by decide), by show 2 ≤ deg + 1; omega, Bt.of fun x hx => ?_⟩, by simp⟩
    · unfold B._law_some
      simp only
      show exB _ _ [.sh .hd, .sh (.int deg), .sh (.int size), .un] _ = _
      have ne := ne_il (x := .vw (il l)) (y := .fr []) (a := l) (b := []) rfl rfl
      rw [_root_.decide_eq_true n] at ne
      generalize run P (K + 2) = C at *
      rw [exB]; simp -implicitDefEqProofs only [exS, freeze, froz, evE.eq_1, evE.eq_2, evE.eq_3, evE.eq_4, evE.eq_5, evE.eq_6, evE.eq_7, evE.eq_8, evE.eq_9, evE.eq_10, evE.eq_11, evE.eq_12, evE.eq_13, evE.eq_14, evE.eq_15, evE.eq_16, evE.eq_17, evE.eq_18, evRs, evO, evC, bd_some, bd_none, List.getElem?_cons_succ, List.getElem?_cons_zero, List.set_cons_succ, List.set_cons_zero, putR, setTs, setT, b_add, b_sub, b_band, c_lt, c_le, c_gt, c_ge, c_isn, c_notn, isn_int, isn_non, bi_abs, bi_int, bi_intb, bi_max2, bi_min2, toB_bl, toDs_nil, toDs_cons, R.toD, Option.map_some, Option.map_none, List.getD_cons_zero, List.getD_cons_succ, if_true, eq_int, ne_int, toDs, e]
      have ne' := ne_il (x := .sh (pl l)) (y := .fr []) (a := l) (b := []) rfl rfl
      rw [_root_.decide_eq_true n] at ne'
      rw [exB]; simp -implicitDefEqProofs only [exS, freeze, froz, evE.eq_1, evE.eq_2, evE.eq_3, evE.eq_4, evE.eq_5, evE.eq_6, evE.eq_7, evE.eq_8, evE.eq_9, evE.eq_10, evE.eq_11, evE.eq_12, evE.eq_13, evE.eq_14, evE.eq_15, evE.eq_16, evE.eq_17, evE.eq_18, evRs, evO, evC, bd_some, bd_none, List.getElem?_cons_succ, List.getElem?_cons_zero, List.set_cons_succ, List.set_cons_zero, putR, setTs, setT, b_add, b_sub, b_band, c_lt, c_le, c_gt, c_ge, c_isn, c_notn, isn_int, isn_non, bi_abs, bi_int, bi_intb, bi_max2, bi_min2, toB_bl, toDs_nil, toDs_cons, R.toD, Option.map_some, Option.map_none, List.getD_cons_zero, List.getD_cons_succ, if_true, eq_int, ne_int, toDs, ne', Bool.not_true]
      rfl
    · simp only [List.mem_cons, List.not_mem_nil, or_false] at hx
      have : x = 1 := by omega
      subst this
      exact Nat.lt_of_lt_of_le (show (1 : Int).natAbs < 2 ^ 1 by decide) (Nat.pow_le_pow_right (by decide) h5)
  · refine ⟨.sh (pl l), l, s', run_ret hs rfl ?_ rfl, .inl rfl, drp_sm d h4, n⟩
    unfold B._law_some
    simp only
    show exB _ _ [.sh .hd, .sh (.int deg), .sh (.int size), .un] _ = _
    generalize run P (K + 2) = C at *
    rw [exB]; simp -implicitDefEqProofs only [exS, freeze, froz, evE.eq_1, evE.eq_2, evE.eq_3, evE.eq_4, evE.eq_5, evE.eq_6, evE.eq_7, evE.eq_8, evE.eq_9, evE.eq_10, evE.eq_11, evE.eq_12, evE.eq_13, evE.eq_14, evE.eq_15, evE.eq_16, evE.eq_17, evE.eq_18, evRs, evO, evC, bd_some, bd_none, List.getElem?_cons_succ, List.getElem?_cons_zero, List.set_cons_succ, List.set_cons_zero, putR, setTs, setT, b_add, b_sub, b_band, c_lt, c_le, c_gt, c_ge, c_isn, c_notn, isn_int, isn_non, bi_abs, bi_int, bi_intb, bi_max2, bi_min2, toB_bl, toDs_nil, toDs_cons, R.toD, Option.map_some, Option.map_none, List.getD_cons_zero, List.getD_cons_succ, if_true, eq_int, ne_int, toDs, e]
    have ne' := ne_il (x := .sh (pl l)) (y := .fr []) (a := l) (b := []) rfl rfl
    rw [decide_eq_false n] at ne'
    rw [exB]; simp -implicitDefEqProofs only [exS, freeze, froz, evE.eq_1, evE.eq_2, evE.eq_3, evE.eq_4, evE.eq_5, evE.eq_6, evE.eq_7, evE.eq_8, evE.eq_9, evE.eq_10, evE.eq_11, evE.eq_12, evE.eq_13, evE.eq_14, evE.eq_15, evE.eq_16, evE.eq_17, evE.eq_18, evRs, evO, evC, bd_some, bd_none, List.getElem?_cons_succ, List.getElem?_cons_zero, List.set_cons_succ, List.set_cons_zero, putR, setTs, setT, b_add, b_sub, b_band, c_lt, c_le, c_gt, c_ge, c_isn, c_notn, isn_int, isn_non, bi_abs, bi_int, bi_intb, bi_max2, bi_min2, toB_bl, toDs_nil, toDs_cons, R.toD, Option.map_some, Option.map_none, List.getD_cons_zero, List.getD_cons_succ, if_true, eq_int, ne_int, toDs, ne', Bool.not_false]
end
end Mn

/-! What law k21 asks, for lists. -/
namespace Mn.Z
open Lean.Grind Pol
theorem psL_ext {a : List Int} {n : Nat} {g : Nat → Rat} (h : ∀ k, ps a k = g k) : psL a n = (List.range n).map g := by
  rw [psL_map]
  apply List.map_congr_left
  intro k _
  exact h k
def sgn (k : Nat) : Rat := if k % 2 = 0 then 1 else -1
theorem sgn_pow (k : Nat) : (-1 : Rat) ^ k = sgn k := by
  induction k with
  | zero => rfl
  | succ k ih =>
    rw [Rat.pow_succ, ih]
    unfold sgn
    by_cases h : k % 2 = 0
    · rw [if_pos h, if_neg (by omega)]; grind
    · rw [if_neg h, if_pos (by omega)]; grind
theorem sgn_ne (k : Nat) : sgn k ≠ 0 := by unfold sgn; split <;> decide
theorem ps_turn {a : List Int} (ta : Tr a) (na : a ≠ []) (k : Nat) : ps (tnL 0 a) k = if k % 2 = 0 then ps a k else -ps a k := by
  have la := List.length_pos_iff.mpr na
  have nt : tnL 0 a ≠ [] := fun e => by have := tn_len a 0; rw [e] at this; simp at this; omega
  have := ps_tau (a := a) (b := tnL 0 a) (x := -1) (y := sgn (a.length - 1)) ta (tr_turn ta) na nt (sgn_ne _) (tn_len a 0) (fun i => by
    rw [Aq_c, Aq_c, tn_len, sgn_pow]
    by_cases h : i ≤ a.length - 1
    · rw [if_pos h, if_pos h, tn_get]
      unfold sgn
      by_cases p1 : (a.length - 1) % 2 = 0
      · by_cases p2 : i % 2 = 0
        · rw [if_pos (by omega), if_pos p1, if_pos p2]; grind
        · rw [if_neg (by omega), if_pos p1, if_neg p2, Rat.intCast_neg]; grind
      · by_cases p2 : i % 2 = 0
        · rw [if_neg (by omega), if_neg p1, if_pos p2, Rat.intCast_neg]; grind
        · rw [if_pos (by omega), if_neg p1, if_neg p2]; grind
    · rw [if_neg h, if_neg h]; grind) k
  rw [this, sgn_pow]
  unfold sgn
  split <;> grind
/-- the numbers times powers -/
def wdG (a : List Int) (by_ : Int) : Nat → List Int
  | 0 => []
  | k + 1 => (a.getD (a.length - 1 - k) 0 * by_ ^ k) :: wdG a by_ k
theorem wd_len (a : List Int) (y : Int) : ∀ k, (wdG a y k).length = k
  | 0 => rfl
  | k + 1 => by show (wdG a y k).length + 1 = k + 1; rw [wd_len]
theorem wd_get (a : List Int) (y : Int) : ∀ k j, j < k → (wdG a y k).getD j 0 = a.getD (a.length - 1 - (k - 1 - j)) 0 * y ^ (k - 1 - j)
  | k + 1, 0, _ => rfl
  | k + 1, j + 1, h => by
    show (wdG a y k).getD j 0 = _
    rw [wd_get a y k j (by omega), show k + 1 - 1 - (j + 1) = k - 1 - j by omega]
theorem wd_sm {a : List Int} (h : Sm 4 2 a) (na : a ≠ []) {y : Int} (hy : y.natAbs < 2 ^ 2) (h0 : y ≠ 0) : Sm 4 8 (wdG a y a.length) ∧ wdG a y a.length ≠ [] ∧ ∀ k, ps (wdG a y a.length) k = (y : Rat) ^ k * ps a k := by
  have la := List.length_pos_iff.mpr na
  have ll := h.len
  have nw : wdG a y a.length ≠ [] := fun e => by have := wd_len a y a.length; rw [e] at this; simp at this; omega
  have tw : Tr (wdG a y a.length) := tr_of_last fun _ => by
    rw [lastD_c nw, wd_len]
    show (wdG a y a.length).getD (a.length - 1) 0 ≠ 0
    rw [wd_get a y _ _ (by omega), show a.length - 1 - (a.length - 1) = 0 by omega, Nat.sub_zero, Int.pow_zero, Int.mul_one]
    have := tr_lastD h.tr na
    rw [lastD_c na] at this
    exact this
  refine ⟨⟨tw, by rw [wd_len]; exact ll, fun k => ?_⟩, nw, fun k => ?_⟩
  · show ((wdG a y a.length).getD k 0).natAbs < _
    by_cases hk : k < a.length
    · rw [wd_get a y _ _ hk, Int.natAbs_mul]
      have h1 := h.bt (a.length - 1 - (a.length - 1 - k))
      have h1 : (a.getD (a.length - 1 - (a.length - 1 - k)) 0).natAbs < 2 ^ 2 := h1
      have h2 := natAbs_pow_lt hy (a.length - 1 - k)
      have h3 : 2 ^ (2 * (a.length - 1 - k)) ≤ 2 ^ 6 := Nat.pow_le_pow_right (by decide) (by omega)
      have := Nat.mul_le_mul (show (a.getD (a.length - 1 - (a.length - 1 - k)) 0).natAbs ≤ 3 by omega) (Nat.le_trans h2 h3)
      have p6 : (2 : Nat) ^ 6 = 64 := rfl
      have p8 : (2 : Nat) ^ 8 = 256 := rfl
      omega
    · have : (wdG a y a.length).getD k 0 = 0 := by
        simp only [List.getD]
        rw [List.getElem?_eq_none (by rw [wd_len]; omega)]; rfl
      rw [this]; exact Nat.two_pow_pos _
  · refine ps_tau (x := (y : Rat)) (y := 1) h.tr tw na nw (by decide) (wd_len a y _) (fun i => ?_) k
    rw [Aq_c, Aq_c, wd_len]
    by_cases hi : i ≤ a.length - 1
    · rw [if_pos hi, if_pos hi, wd_get a y _ _ (by omega), show a.length - 1 - (a.length - 1 - i) = i by omega, Rat.intCast_mul, int_pow_cast]
      grind
    · rw [if_neg hi, if_neg hi]; grind
theorem four_sm {a : List Int} (h : Sm 4 2 a) (na : a ≠ []) : Sm 4 5 (a.map fun x => x * 4) ∧ (a.map fun x => x * 4) ≠ [] ∧ ∀ k, ps (a.map fun x => x * 4) k = ps a k := by
  have la := List.length_pos_iff.mpr na
  have e : zp (a.map fun x => x * 4) = cst 4 * zp a := zp_mapr 4 a
  have nw : (a.map fun x => x * 4) ≠ [] := fun k => na (List.map_eq_nil_iff.mp k)
  have tw : Tr (a.map fun x => x * 4) := tr_of_last fun _ => by
    rw [lastD_c nw, e, cst_mul, List.length_map, ← lastD_c na]
    have := tr_lastD h.tr na
    omega
  refine ⟨⟨tw, by rw [List.length_map]; exact h.len, by rw [e]; exact (Bt.sc (e := 3) (by decide) h.bt)⟩, nw, fun k => ?_⟩
  have := ps_tau (a := a) (b := a.map fun x => x * 4) (x := 1) (y := 4) h.tr tw na nw (by decide) (List.length_map ..) (fun i => by
    rw [Aq_c, Aq_c, List.length_map]
    by_cases hi : i ≤ a.length - 1
    · rw [if_pos hi, if_pos hi]
      have : (a.map fun x => x * 4).getD (a.length - 1 - i) 0 = a.getD (a.length - 1 - i) 0 * 4 := by
        have := congrArg (fun f : ZP => f.s.c (a.length - 1 - i)) e
        simp only [cst_mul] at this
        have this : (a.map fun x => x * 4).getD (a.length - 1 - i) 0 = 4 * a.getD (a.length - 1 - i) 0 := this
        rw [this]; omega
      rw [this, Rat.intCast_mul]
      have h1 : (1 : Rat) ^ i = 1 := by
        induction i with
        | zero => rfl
        | succ i ih =>
          have : ∀ n : Nat, (1 : Rat) ^ n = 1 := fun n => by
            induction n with
            | zero => rfl
            | succ n ih => rw [Rat.pow_succ, ih]; grind
          exact this _
      rw [h1]
      show _ * ((4 : Int) : Rat) = 4 * (1 * _)
      have : ((4 : Int) : Rat) = 4 := rfl
      rw [this]; grind
    · rw [if_neg hi, if_neg hi]; grind) k
  have h1 : ∀ n : Nat, (1 : Rat) ^ n = 1 := fun n => by
    induction n with
    | zero => rfl
    | succ n ih => rw [Rat.pow_succ, ih]; grind
  rw [this, h1]; grind
theorem mulX_bt {b : Nat} {l : List Int} (h : Bt b (zp l)) : Bt b (zp (mulL [0, 1] l)) := by
  have e : zp (mulL [0, 1] l) = X ^ 1 * zp l := by rw [zp_mul, zp_X, Semiring.pow_succ, Semiring.pow_zero]; grind
  rw [e]
  exact h.Xp
theorem drop_map {g : Nat → Rat} (n : Nat) : ((List.range (n + 1)).map g).drop 1 = (List.range n).map fun k => g (k + 1) := by
  rw [List.range_succ_eq_map, List.map_cons, List.map_map]
  rfl
end Mn.Z

namespace Mn.k21
open PySem L2 Z
abbrev lq (l : List Rat) : D := .lst (ql l)
structure Fa (C : CallF) : Prop where
  ps : ∀ (z : Zs) (a : List Int) (n Bb : Nat), Tr a → a ≠ [] → a.length < 100 → Bt Bb (zp a) → 1 ≤ n → n < 100 → n * (Bb + ((Bb + 2) * n + 10) + 2) + 1 + (2 * Bb + 30 + ((Bb + 2) * n + 10)) < 9000 → C 13 [pl a, .int n] z = some (.fr (ql (psL a n)), z)
  ws : ∀ (z : Zs) (a b : List Int) (n : Nat), Sm 4 2 a → a ≠ [] → Sm 4 3 b → 1 ≤ n → n ≤ 8 → C 14 [pl a, pl b, .int n] z = some (.fr (ql (wL (Z.ps a) b n)), z)
  fs : ∀ (z : Zs) (a : List Int), Sm 4 2 a → a ≠ [] → C 15 [lq ((psL a a.length).drop 1)] z = some (.fr (il (primL a)), z)
  pr : ∀ (z : Zs) (a : List Int), okC a = true → C 11 [pl a] z = some (.fr (il (primL a)), z)
  tm : ∀ (z : Zs) (a b : List Int), okM a b = true → C 8 [pl a, pl b] z = some (.fr (il (mulL a b)), z)
  tn : ∀ (z : Zs) (a : List Int), C 12 [pl a] z = some (.fr (il (tnL 0 a)), z)
  lp : ∀ (z : Zs) (p q : Rat) (a b : Nat), Bd a p → Bd b q → a + b < 9000 → C 22 [qd p, qd q] z = some (Q (p + q), z)
  lb : ∀ (z : Zs) (p q : Rat) (a b : Nat), Bd a p → Bd b q → a + b < 9000 → C 23 [qd p, qd q] z = some (Q (p * q), z)
  lm : ∀ (z : Zs) (p : Rat), C 21 [qd p] z = some (Q (-p), z)
  ad : ∀ (z : Zs) (a b : List Int), a.length ≤ 16777216 → b.length ≤ 16777216 → C 20 [pl a, pl b] z = some (.fr (il (addL a b)), z)
theorem frr (K : Nat) (z : Zs) : Fr (run PL (K + 3)) z 2 3 where
  pl p q a b h1 h2 h3 := plus_ok (j := 1) (jc := 0) rfl rfl rfl h1 h2 h3
  tm p q a b h1 h2 h3 := timesR_ok (j := 1) (jc := 0) rfl rfl rfl h1 h2 h3
theorem ov (K : Nat) (z : Zs) (p q : Rat) (a b : Nat) (h1 : Bd a p) (h2 : Bd b q) (h3 : a + b < 9000) (h0 : q ≠ 0) : run PL (K + 3) 4 [qd p, qd q] z = some (Q (p / q), z) := over_ok (j := 1) (jc := 0) rfl rfl rfl h1 h2 h3 h0
theorem ps' (K : Nat) (z : Zs) (a : List Int) (n Bb : Nat) (ta : Tr a) (na : a ≠ []) (la : a.length < 100) (hb : Bt Bb (zp a)) (n1 : 1 ≤ n) (n2 : n < 100) (hB : n * (Bb + ((Bb + 2) * n + 10) + 2) + 1 + (2 * Bb + 30 + ((Bb + 2) * n + 10)) < 9000) : run PL (K + 4) 13 [pl a, .int n] z = some (.fr (ql (psL a n)), z) :=
  run_ret (fd := B.power_sums 2 3 4) rfl rfl (power_sums_b (frr K z) (ov K z) ta na la hb n1 n2 hB) rfl
theorem pr' (K : Nat) (z : Zs) (a : List Int) (h : okC a = true) : run PL (K + 4) 11 [pl a] z = some (.fr (il (primL a)), z) := primitive_ok (j := 10) (jp := 9) (jc := 0) (js := 6) (jt := 5) rfl rfl rfl rfl rfl rfl a h
theorem fa (K : Nat) : Fa (run PL (K + 6)) where
  ps z a n Bb h1 h2 h3 h4 h5 h6 h7 := ps' (K + 2) z a n Bb h1 h2 h3 h4 h5 h6 h7
  ws z a b n h1 na h2 n1 n8 := by
    have l1 := h1.len
    have l2 := h2.len
    have e := ps' (K + 1) z a (n + b.length) 2 h1.tr na (by omega) h1.bt (by omega) (by omega) (by
      have : (n + b.length) * (2 + ((2 + 2) * (n + b.length) + 10) + 2) ≤ 12 * (2 + (4 * 12 + 10) + 2) := Nat.mul_le_mul (by omega) (by omega)
      omega)
    exact run_ret (fd := B.weighed_sums 13 2 3) rfl rfl (weighed_b (Bb := 3) (M := 60) (frr (K + 2) z) e (fun j hj => (ps_bd h1.tr na h1.bt (by omega) j).mono (by omega)) (fun u hu => h2.bt.mem hu) (by omega) (by
      have : (b.length + 1) * (3 + 60 + 2) ≤ 5 * 65 := Nat.mul_le_mul (by omega) (by omega)
      omega)) rfl
  fs z a h1 na := by
    have l1 := h1.len
    have la := List.length_pos_iff.mpr na
    refine run_ret (fd := B.from_sums 2 3 4 11 5) rfl rfl (from_b (Bb := 2) (M := 30) (frr (K + 2) z) (ov (K + 2) z) (pr' (K + 1) z) (fun a => trim_ok (K := K + 4) rfl a) h1.tr na h1.bt ?_ ?_ ?_ (by omega) ?_) rfl
    · rw [List.length_drop, psL_len]; omega
    · intro j hj
      rw [List.length_drop, psL_len] at hj
      have : ((psL a a.length).drop 1).getD j 0 = (psL a a.length).getD (j + 1) 0 := by simp [List.getD, Nat.add_comm]
      rw [this, psL_get a _ _ (by omega)]
    · intro j
      by_cases hj : j < 3
      · exact .inl ((ps_bd h1.tr na h1.bt (by omega) (j + 1)).mono (by omega))
      · right
        rw [List.length_drop, psL_len]; omega
    · have : a.length * (2 * 2 + 2 + 30 + 1) ≤ 4 * 37 := Nat.mul_le_mul (by omega) (by omega)
      omega
  pr z a h := pr' (K + 2) z a h
  tm z a b h := times_ok (K := K + 4) (j := 5) rfl rfl a b h
  tn z a := run_ret (fd := B.turned) rfl rfl (turned_b a) rfl
  lp z p q a b h1 h2 h3 := lplus_ok (K := K + 4) (j := 19) rfl rfl h1 h2 h3
  lb z p q a b h1 h2 h3 := lby_ok (K := K + 4) (j := 19) rfl rfl h1 h2 h3
  lm z p := minusL_ok (K := K + 5) rfl p
  ad z a b h1 h2 := lawadd_ok (K := K + 5) rfl a b h1 h2
/-- a comprehension over a range that makes fractions -/
theorem comp_rg {C : CallF} {ρ : Env} {elt it : ME} {k n : Nat} {z : Zs} (g : Nat → Rat) (hc : compOk ρ [k] (.nm k) = true) (hi : evE C ρ it z = some (.sh (.int n), z)) (hn : n < 1000) (he : ∀ j, j < n → evE C ((wipeE ρ [k]).set k (.sh (.int j))) elt z = some (Q (g j), z)) :
    evE C ρ (.comp elt (.nm k) (.rg1 it) .none [k]) z = some (.fr (ql ((List.range n).map g)), z) := by
  refine comp_ev hc (rg1_ok hi (by omega)) ?_
  rw [rangeD_rgI]
  have : ql ((List.range n).map g) = (rgI 0 n).map fun d => match d with | .int j => qd (g j.toNat) | d => d := by
    rw [← rangeD_rgI]
    unfold ql rangeD
    rw [List.map_map, List.map_map]
    apply List.map_congr_left
    intro j _
    show qd (g j) = qd (g ((0 : Int) + (j : Int)).toNat)
    congr 2
    omega
  rw [this]
  refine lcL_map _ _ fun d hd => ?_
  obtain ⟨j, _, h2, rfl⟩ := mem_rgI hd
  unfold compF
  simp -implicitDefEqProofs only [setT, evC, bd_some, if_true, he j (by omega), R.toD, Int.toNat_natCast]
theorem cutq1 (l : List Rat) : cutL (ql l) (some 1) none = ql (l.drop 1) := by
  unfold cutL
  have e : HT.sIx (ql l).length 0 (some 1) = min 1 (ql l).length := HT.sIx_nat _ _ 1
  rw [e, HT.sIx_none]
  cases l with
  | nil => rfl
  | cons x l =>
    show ((qd x :: ql l).drop (min 1 ((ql l).length + 1))).take _ = ql l
    rw [show min 1 ((ql l).length + 1) = 1 by omega]
    show (ql l).take _ = ql l
    rw [List.take_of_length_le (by rw [ql_len, ql_len, List.length_cons]; omega)]
theorem after {C : CallF} (F : Fa C) {z1 z2 : Zs} {one two third : List Int} {n : Nat} {y : Int} {iy : Int} {ns : List Int} {s1 : Slot} (h1 : Sm 4 2 one) (h2 : Sm 3 2 two) (h3 : Sm 3 2 third) (n1 : one ≠ []) (n2 : two ≠ []) (c1 : 1 ≤ n) (c2 : n ≤ 7)
    (ht : C 18 [.hd, .int 2] z1 = some (.sh (.int iy), z2)) (hy : (iy = 0 ∧ y = 2) ∨ (iy = 1 ∧ y = -3)) (hs1 : s1 = .sh .hd) : ∀ (body : MSs) (a0 a1 : MS), LB = .cons a0 (.cons a1 body) →
    exB C body [.sh (.ext ns), s1, .un, .un, .sh (pl one), .sh (pl two), .sh (pl third), .sh (.int n), .un, .un, .un, .un, .un, .un, .un, .un, .un] z1 = some (.ret (.sh (.bl true)), z2) := by
  intro body a0 a1 e
  unfold LB at e
  injection e with _ e
  injection e with _ e
  subst e
  subst hs1
  have l1 := h1.len
  have l2 := h2.len
  have l3 := h3.len
  have la := List.length_pos_iff.mpr n1
  have p1 := fun z => F.ps z one n 2 h1.tr n1 (by omega) h1.bt c1 (by omega) (by
    have : n * (2 + ((2 + 2) * n + 10) + 2) ≤ 7 * (2 + (4 * 7 + 10) + 2) := Nat.mul_le_mul c2 (by omega)
    omega)
  have p2 := fun z => F.ps z two n 2 h2.tr n2 (by omega) h2.bt c1 (by omega) (by
    have : n * (2 + ((2 + 2) * n + 10) + 2) ≤ 7 * (2 + (4 * 7 + 10) + 2) := Nat.mul_le_mul c2 (by omega)
    omega)
  have b1 : ∀ j, j ≤ 8 → Bd 50 (ps one j) := fun j hj => (ps_bd h1.tr n1 h1.bt (by omega) j).mono (by omega)
  have b2 : ∀ j, j ≤ 8 → Bd 50 (ps two j) := fun j hj => (ps_bd h2.tr n2 h2.bt (by omega) j).mono (by omega)
  have g1 : ∀ j (h : j < (psL one n).length), (psL one n)[j] = ps one j := fun j h => by
    rw [← getD_get h]; rw [psL_len] at h; exact psL_get one n j h
  have g2 : ∀ j (h : j < (psL two n).length), (psL two n)[j] = ps two j := fun j h => by
    rw [← getD_get h]; rw [psL_len] at h; exact psL_get two n j h
  have v1 : ∀ (z : Zs) j, j < n → subR (.sh (lq (psL one n))) (.sh (.int (j : Int))) z = some (Q (ps one j)) := fun z j hj => by
    rw [sub_qsh (by rw [psL_len]; exact hj), g1]
  have v2 : ∀ (z : Zs) j, j < n → subR (.sh (lq (psL two n))) (.sh (.int (j : Int))) z = some (Q (ps two j)) := fun z j hj => by
    rw [sub_qsh (by rw [psL_len]; exact hj), g2]
  -- first, second
  rw [exB]; simp -implicitDefEqProofs only [exS, freeze, froz, evE.eq_1, evE.eq_2, evE.eq_3, evE.eq_4, evE.eq_5, evE.eq_6, evE.eq_7, evE.eq_8, evE.eq_9, evE.eq_10, evE.eq_11, evE.eq_12, evE.eq_13, evE.eq_14, evE.eq_15, evE.eq_16, evE.eq_17, evE.eq_18, evRs, evO, evC, bd_some, bd_none, List.getElem?_cons_succ, List.getElem?_cons_zero, List.set_cons_succ, List.set_cons_zero, putR, setTs, setT, b_add, b_sub, b_band, c_lt, c_le, c_gt, c_ge, c_isn, c_notn, isn_int, isn_non, bi_abs, bi_int, bi_intb, bi_max2, bi_min2, toB_bl, toDs_nil, toDs_cons, R.toD, Option.map_some, Option.map_none, List.getD_cons_zero, List.getD_cons_succ, if_true, eq_int, ne_int, toDs, p1, p2, setTg]
  -- products
  have sb := (h1.mul h2 (e := 3) (by decide)).mono (n' := 6) (b' := 7) (by omega) (by omega)
  have lb := sb.len
  have o1 : okM one two = true := h1.okM h2
  have nb : mulL one two ≠ [] := fun e => by
    have : zp one * zp two = 0 := by rw [← zp_mul, e, zp_nil]
    rcases no_zero this with k | k
    · exact tr_ne h1.tr n1 k
    · exact tr_ne h2.tr n2 k
  have pb := fun z => F.ps z (mulL one two) n 7 sb.tr nb (by omega) sb.bt c1 (by omega) (by
    have : n * (7 + ((7 + 2) * n + 10) + 2) ≤ 7 * (7 + (9 * 7 + 10) + 2) := Nat.mul_le_mul c2 (by omega)
    omega)
  have ln : decide ((n : Int) = (n : Int)) = true := _root_.decide_eq_true rfl
  have E1 : psL (mulL one two) n = (List.range n).map fun k => ps one k + ps two k := psL_ext fun k => ps_mul h1.tr h2.tr sb.tr n1 n2 (zp_mul _ _) k
  have q1 := ne_ql (x := .fr (ql (psL (mulL one two) n))) (y := .fr (ql ((List.range n).map fun k => ps one k + ps two k))) E1 rfl rfl
  have cm1 : evE C [.sh (.ext ns), .sh .hd, .un, .un, .sh (pl one), .sh (pl two), .sh (pl third), .sh (.int n), .sh (lq (psL one n)), .sh (lq (psL two n)), .un, .un, .un, .un, .un, .un, .un] (.comp (.call 22 (.cons (.sub (.nvar 8) (.nvar 3)) (.cons (.sub (.nvar 9) (.nvar 3)) .nil))) (.nm 3) (.rg1 (.nvar 7)) .none [3]) z1 = some (.fr (ql ((List.range n).map fun k => ps one k + ps two k)), z1) :=
    comp_rg (fun k => ps one k + ps two k) rfl rfl (by omega) fun j hj => by
      have := F.lp z1 _ _ _ _ (b1 j (by omega)) (b2 j (by omega)) (by omega)
      simp -implicitDefEqProofs only [wipeE, exS, freeze, froz, evE.eq_1, evE.eq_2, evE.eq_3, evE.eq_4, evE.eq_5, evE.eq_6, evE.eq_7, evE.eq_8, evE.eq_9, evE.eq_10, evE.eq_11, evE.eq_12, evE.eq_13, evE.eq_14, evE.eq_15, evE.eq_16, evE.eq_17, evE.eq_18, evRs, evO, evC, bd_some, bd_none, List.getElem?_cons_succ, List.getElem?_cons_zero, List.set_cons_succ, List.set_cons_zero, putR, setTs, setT, b_add, b_sub, b_band, c_lt, c_le, c_gt, c_ge, c_isn, c_notn, isn_int, isn_non, bi_abs, bi_int, bi_intb, bi_max2, bi_min2, toB_bl, toDs_nil, toDs_cons, R.toD, Option.map_some, Option.map_none, List.getD_cons_zero, List.getD_cons_succ, if_true, eq_int, ne_int, toDs, v1 z1 j hj, v2 z1 j hj, this]
  rw [exB]; simp -implicitDefEqProofs only [exS, freeze, froz, evE.eq_1, evE.eq_2, evE.eq_3, evE.eq_4, evE.eq_5, evE.eq_6, evE.eq_7, evE.eq_8, evE.eq_9, evE.eq_10, evE.eq_11, evE.eq_12, evE.eq_13, evE.eq_14, evE.eq_15, evE.eq_16, evE.eq_17, evE.eq_18, evRs, evO, evC, bd_some, bd_none, List.getElem?_cons_succ, List.getElem?_cons_zero, List.set_cons_succ, List.set_cons_zero, putR, setTs, setT, b_add, b_sub, b_band, c_lt, c_le, c_gt, c_ge, c_isn, c_notn, isn_int, isn_non, bi_abs, bi_int, bi_intb, bi_max2, bi_min2, toB_bl, toDs_nil, toDs_cons, R.toD, Option.map_some, Option.map_none, List.getD_cons_zero, List.getD_cons_succ, if_true, eq_int, ne_int, len_qsh, psL_len, decide_true, Bool.not_true]
  simp -implicitDefEqProofs only [exS, freeze, froz, evE.eq_1, evE.eq_2, evE.eq_3, evE.eq_4, evE.eq_5, evE.eq_6, evE.eq_7, evE.eq_8, evE.eq_9, evE.eq_10, evE.eq_11, evE.eq_12, evE.eq_13, evE.eq_14, evE.eq_15, evE.eq_16, evE.eq_17, evE.eq_18, evRs, evO, evC, bd_some, bd_none, List.getElem?_cons_succ, List.getElem?_cons_zero, List.set_cons_succ, List.set_cons_zero, putR, setTs, setT, b_add, b_sub, b_band, c_lt, c_le, c_gt, c_ge, c_isn, c_notn, isn_int, isn_non, bi_abs, bi_int, bi_intb, bi_max2, bi_min2, toB_bl, toDs_nil, toDs_cons, R.toD, Option.map_some, Option.map_none, List.getD_cons_zero, List.getD_cons_succ, if_true, eq_int, ne_int, toDs, F.tm z1 _ _ o1, pb, cm1, q1]
  rw [exB]; simp only
  -- turned
  have st := h1.turn
  have nt : tnL 0 one ≠ [] := fun e => by have := tn_len one 0; rw [e] at this; simp at this; omega
  have pt := fun z => F.ps z (tnL 0 one) n 2 st.tr nt (by have := st.len; omega) st.bt c1 (by omega) (by
    have : n * (2 + ((2 + 2) * n + 10) + 2) ≤ 7 * (2 + (4 * 7 + 10) + 2) := Nat.mul_le_mul c2 (by omega)
    omega)
  have E2 : psL (tnL 0 one) n = (List.range n).map fun k => if k % 2 = 0 then ps one k else -ps one k := psL_ext fun k => ps_turn h1.tr n1 k
  have q2 := ne_ql (x := .fr (ql (psL (tnL 0 one) n))) (y := .fr (ql ((List.range n).map fun k => if k % 2 = 0 then ps one k else -ps one k))) E2 rfl rfl
  have cm2 : evE C [.sh (.ext ns), .sh .hd, .un, .un, .sh (pl one), .sh (pl two), .sh (pl third), .sh (.int n), .sh (lq (psL one n)), .sh (lq (psL two n)), .un, .un, .un, .un, .un, .un, .un] (.comp (.ite (.cmp .eq (.bin .sub (.nvar 3) (.bin .mul (.lit (.int (2))) (.bin .fdiv (.nvar 3) (.lit (.int (2)))))) (.lit (.int (0)))) (.sub (.nvar 8) (.nvar 3)) (.call 21 (.cons (.sub (.nvar 8) (.nvar 3)) .nil))) (.nm 3) (.rg1 (.nvar 7)) .none [3]) z1 = some (.fr (ql ((List.range n).map fun k => if k % 2 = 0 then ps one k else -ps one k)), z1) :=
    comp_rg (fun k => if k % 2 = 0 then ps one k else -ps one k) rfl rfl (by omega) fun j hj => by
      have fd : binR .fdiv (.sh (.int (j : Int))) (.sh (.int 2)) = some (.sh (.int ((j / 2 : Nat) : Int))) := by
        rw [b_fdiv ⟨by decide, by decide⟩, Int.fdiv_eq_ediv_of_nonneg _ (by decide)]; rfl
      have mo : mulOk 2 ((j / 2 : Nat) : Int) = true := ml
      by_cases h : j % 2 = 0
      · have d : decide ((j : Int) - 2 * ((j / 2 : Nat) : Int) = 0) = true := _root_.decide_eq_true (by omega)
        rw [if_pos h]
        simp -implicitDefEqProofs only [wipeE, exS, freeze, froz, evE.eq_1, evE.eq_2, evE.eq_3, evE.eq_4, evE.eq_5, evE.eq_6, evE.eq_7, evE.eq_8, evE.eq_9, evE.eq_10, evE.eq_11, evE.eq_12, evE.eq_13, evE.eq_14, evE.eq_15, evE.eq_16, evE.eq_17, evE.eq_18, evRs, evO, evC, bd_some, bd_none, List.getElem?_cons_succ, List.getElem?_cons_zero, List.set_cons_succ, List.set_cons_zero, putR, setTs, setT, b_add, b_sub, b_band, c_lt, c_le, c_gt, c_ge, c_isn, c_notn, isn_int, isn_non, bi_abs, bi_int, bi_intb, bi_max2, bi_min2, toB_bl, toDs_nil, toDs_cons, R.toD, Option.map_some, Option.map_none, List.getD_cons_zero, List.getD_cons_succ, if_true, eq_int, ne_int, fd, b_mul mo, d, v1 z1 j hj]
      · have d : decide ((j : Int) - 2 * ((j / 2 : Nat) : Int) = 0) = false := decide_eq_false (by omega)
        rw [if_neg h]
        simp -implicitDefEqProofs only [wipeE, exS, freeze, froz, evE.eq_1, evE.eq_2, evE.eq_3, evE.eq_4, evE.eq_5, evE.eq_6, evE.eq_7, evE.eq_8, evE.eq_9, evE.eq_10, evE.eq_11, evE.eq_12, evE.eq_13, evE.eq_14, evE.eq_15, evE.eq_16, evE.eq_17, evE.eq_18, evRs, evO, evC, bd_some, bd_none, List.getElem?_cons_succ, List.getElem?_cons_zero, List.set_cons_succ, List.set_cons_zero, putR, setTs, setT, b_add, b_sub, b_band, c_lt, c_le, c_gt, c_ge, c_isn, c_notn, isn_int, isn_non, bi_abs, bi_int, bi_intb, bi_max2, bi_min2, toB_bl, toDs_nil, toDs_cons, R.toD, Option.map_some, Option.map_none, List.getD_cons_zero, List.getD_cons_succ, if_true, eq_int, ne_int, toDs, fd, b_mul mo, d, v1 z1 j hj, F.lm]
  rw [exB]; simp -implicitDefEqProofs only [exS, freeze, froz, evE.eq_1, evE.eq_2, evE.eq_3, evE.eq_4, evE.eq_5, evE.eq_6, evE.eq_7, evE.eq_8, evE.eq_9, evE.eq_10, evE.eq_11, evE.eq_12, evE.eq_13, evE.eq_14, evE.eq_15, evE.eq_16, evE.eq_17, evE.eq_18, evRs, evO, evC, bd_some, bd_none, List.getElem?_cons_succ, List.getElem?_cons_zero, List.set_cons_succ, List.set_cons_zero, putR, setTs, setT, b_add, b_sub, b_band, c_lt, c_le, c_gt, c_ge, c_isn, c_notn, isn_int, isn_non, bi_abs, bi_int, bi_intb, bi_max2, bi_min2, toB_bl, toDs_nil, toDs_cons, R.toD, Option.map_some, Option.map_none, List.getD_cons_zero, List.getD_cons_succ, if_true, eq_int, ne_int, toDs, F.tn, pt, cm2, q2]
  rw [exB]; simp only
  -- the factor
  have sy : ∀ z : Zs, subR (.fr [.int 2, .int (-3)]) (.sh (.int iy)) z = some (.sh (.int y)) := fun z => by
    rcases hy with ⟨rfl, rfl⟩ | ⟨rfl, rfl⟩ <;> rfl
  have y2 : y.natAbs < 2 ^ 2 := by rcases hy with ⟨_, rfl⟩ | ⟨_, rfl⟩ <;> decide
  have y0 : y ≠ 0 := by rcases hy with ⟨_, rfl⟩ | ⟨_, rfl⟩ <;> decide
  have n3 : (-(3 : Int)) = -3 := rfl
  rw [exB]; simp -implicitDefEqProofs only [exS, freeze, froz, evE.eq_1, evE.eq_2, evE.eq_3, evE.eq_4, evE.eq_5, evE.eq_6, evE.eq_7, evE.eq_8, evE.eq_9, evE.eq_10, evE.eq_11, evE.eq_12, evE.eq_13, evE.eq_14, evE.eq_15, evE.eq_16, evE.eq_17, evE.eq_18, evRs, evO, evC, bd_some, bd_none, List.getElem?_cons_succ, List.getElem?_cons_zero, List.set_cons_succ, List.set_cons_zero, putR, setTs, setT, b_add, b_sub, b_band, c_lt, c_le, c_gt, c_ge, c_isn, c_notn, isn_int, isn_non, bi_abs, bi_int, bi_intb, bi_max2, bi_min2, toB_bl, toDs_nil, toDs_cons, R.toD, Option.map_some, Option.map_none, List.getD_cons_zero, List.getD_cons_succ, if_true, eq_int, ne_int, toDs, n3, ht, sy]
  -- wide
  have el : (one.length : Int) - 1 = ((one.length - 1 : Nat) : Int) := by omega
  have ai : ([D.int 1, D.int ((one.length - 1 : Nat) : Int)] : List D).all isI = true := rfl
  rw [exB]; simp -implicitDefEqProofs only [exS, freeze, froz, evE.eq_1, evE.eq_2, evE.eq_3, evE.eq_4, evE.eq_5, evE.eq_6, evE.eq_7, evE.eq_8, evE.eq_9, evE.eq_10, evE.eq_11, evE.eq_12, evE.eq_13, evE.eq_14, evE.eq_15, evE.eq_16, evE.eq_17, evE.eq_18, evRs, evO, evC, bd_some, bd_none, List.getElem?_cons_succ, List.getElem?_cons_zero, List.set_cons_succ, List.set_cons_zero, putR, setTs, setT, b_add, b_sub, b_band, c_lt, c_le, c_gt, c_ge, c_isn, c_notn, isn_int, isn_non, bi_abs, bi_int, bi_intb, bi_max2, bi_min2, toB_bl, toDs_nil, toDs_cons, R.toD, Option.map_some, Option.map_none, List.getD_cons_zero, List.getD_cons_succ, if_true, eq_int, ne_int, toDs, len_sh, el, ai]
  obtain ⟨sw, lpw, hsw1, hsw2⟩ := range_inv2 (z := z2) (f := lpF C (.nm 3) (.cons (.asg [] 10 (.bin .add (.lst (.cons (.bin .mul (.sub (.nvar 4) (.bin .sub (.nvar 12) (.nvar 3))) (.nvar 11)) .nil)) (.nvar 10))) (.cons (.asg [] 11 (.bin .mul (.nvar 11) (.nvar 2))) .nil)))
    (fun (s : List Int × Int) x => [.sh (.ext ns), .sh .hd, .sh (.int y), x, .sh (pl one), .sh (pl two), .sh (pl third), .sh (.int n), .sh (lq (psL one n)), .sh (lq (psL two n)), .ow (il s.1), .sh (.int s.2), .sh (.int ((one.length - 1 : Nat) : Int)), .un, .un, .un, .un]) (fun k s => s.1 = wdG one y k ∧ s.2 = y ^ k) one.length
    (by
      rintro k ⟨w, f⟩ x hk ⟨rfl, rfl⟩
      refine ⟨(wdG one y (k + 1), y ^ (k + 1)), ?_, rfl, rfl⟩
      have m1 : one.length - 1 - k < one.length := by omega
      have i1 : ((one.length - 1 : Nat) : Int) - (k : Int) = ((one.length - 1 - k : Nat) : Int) := by omega
      have w1 := sub_sh (z := z2) m1
      rw [← getD_lt m1] at w1
      have bx := h1.bt (one.length - 1 - k)
      have bx : (one.getD (one.length - 1 - k) 0).natAbs < 2 ^ 2 := bx
      have mo : mulOk (one.getD (one.length - 1 - k) 0) (y ^ k) = true := ml (by omega) (by omega)
      have mo2 : mulOk (y ^ k) y = true := mr (by omega) (by omega)
      have ct : binR .add (.fr [.int (one.getD (one.length - 1 - k) 0 * y ^ k)]) (.vw (il (wdG one y k))) = some (.fr (il (wdG one y (k + 1)))) := by
        show Option.or none (catR (.fr [.int (one.getD (one.length - 1 - k) 0 * y ^ k)]) (.vw (il (wdG one y k)))) = _
        rw [Option.none_or]
        unfold catR
        simp only [R.items]
        rw [if_pos (small_of (by rw [il_len, wd_len, List.length_singleton]; omega))]
        rfl
      simp -implicitDefEqProofs only [lpF, setT, List.set_cons_succ, List.set_cons_zero]
      rw [exB]; simp -implicitDefEqProofs only [exS, freeze, froz, evE.eq_1, evE.eq_2, evE.eq_3, evE.eq_4, evE.eq_5, evE.eq_6, evE.eq_7, evE.eq_8, evE.eq_9, evE.eq_10, evE.eq_11, evE.eq_12, evE.eq_13, evE.eq_14, evE.eq_15, evE.eq_16, evE.eq_17, evE.eq_18, evRs, evO, evC, bd_some, bd_none, List.getElem?_cons_succ, List.getElem?_cons_zero, List.set_cons_succ, List.set_cons_zero, putR, setTs, setT, b_add, b_sub, b_band, c_lt, c_le, c_gt, c_ge, c_isn, c_notn, isn_int, isn_non, bi_abs, bi_int, bi_intb, bi_max2, bi_min2, toB_bl, toDs_nil, toDs_cons, R.toD, Option.map_some, Option.map_none, List.getD_cons_zero, List.getD_cons_succ, if_true, eq_int, ne_int, toDs, i1, w1, b_mul mo, ct]
      rw [exB]; simp -implicitDefEqProofs only [exS, freeze, froz, evE.eq_1, evE.eq_2, evE.eq_3, evE.eq_4, evE.eq_5, evE.eq_6, evE.eq_7, evE.eq_8, evE.eq_9, evE.eq_10, evE.eq_11, evE.eq_12, evE.eq_13, evE.eq_14, evE.eq_15, evE.eq_16, evE.eq_17, evE.eq_18, evRs, evO, evC, bd_some, bd_none, List.getElem?_cons_succ, List.getElem?_cons_zero, List.set_cons_succ, List.set_cons_zero, putR, setTs, setT, b_add, b_sub, b_band, c_lt, c_le, c_gt, c_ge, c_isn, c_notn, isn_int, isn_non, bi_abs, bi_int, bi_intb, bi_max2, bi_min2, toB_bl, toDs_nil, toDs_cons, R.toD, Option.map_some, Option.map_none, List.getD_cons_zero, List.getD_cons_succ, if_true, eq_int, ne_int, b_mul mo2]
      rw [exB, Int.pow_succ]) one.length 0 ([], 1) .un (by omega) ⟨rfl, (Int.pow_zero y).symm⟩
  rw [if_neg (by omega)] at lpw
  refine (exB_nx (exS_loop rfl (rg1_ok (n := one.length) (z' := z2) (by simp -implicitDefEqProofs only [exS, freeze, froz, evE.eq_1, evE.eq_2, evE.eq_3, evE.eq_4, evE.eq_5, evE.eq_6, evE.eq_7, evE.eq_8, evE.eq_9, evE.eq_10, evE.eq_11, evE.eq_12, evE.eq_13, evE.eq_14, evE.eq_15, evE.eq_16, evE.eq_17, evE.eq_18, evRs, evO, evC, bd_some, bd_none, List.getElem?_cons_succ, List.getElem?_cons_zero, List.set_cons_succ, List.set_cons_zero, putR, setTs, setT, b_add, b_sub, b_band, c_lt, c_le, c_gt, c_ge, c_isn, c_notn, isn_int, isn_non, bi_abs, bi_int, bi_intb, bi_max2, bi_min2, toB_bl, toDs_nil, toDs_cons, R.toD, Option.map_some, Option.map_none, List.getD_cons_zero, List.getD_cons_succ, if_true, eq_int, ne_int, len_sh]) (by omega)) (by rw [rangeD_rgI]; exact lpw))).trans ?_
  rw [hsw1]
  generalize sw.2 = fac at *
  -- sizes
  have ai2 : ([D.int 1] : List D).all isI = true := rfl
  rw [exB]; simp -implicitDefEqProofs only [exS, freeze, froz, evE.eq_1, evE.eq_2, evE.eq_3, evE.eq_4, evE.eq_5, evE.eq_6, evE.eq_7, evE.eq_8, evE.eq_9, evE.eq_10, evE.eq_11, evE.eq_12, evE.eq_13, evE.eq_14, evE.eq_15, evE.eq_16, evE.eq_17, evE.eq_18, evRs, evO, evC, bd_some, bd_none, List.getElem?_cons_succ, List.getElem?_cons_zero, List.set_cons_succ, List.set_cons_zero, putR, setTs, setT, b_add, b_sub, b_band, c_lt, c_le, c_gt, c_ge, c_isn, c_notn, isn_int, isn_non, bi_abs, bi_int, bi_intb, bi_max2, bi_min2, toB_bl, toDs_nil, toDs_cons, R.toD, Option.map_some, Option.map_none, List.getD_cons_zero, List.getD_cons_succ, if_true, eq_int, ne_int, toDs, ai2]
  obtain ⟨ss, lps, hss1, hss2⟩ := range_inv2 (z := z2) (f := lpF C (.nm 3) (.cons (.app [11] 13 (.call 23 (.cons (.sub (.nvar 8) (.nvar 3)) (.cons (.tup (.cons (.var 11) (.cons (.lit (.int (1))) .nil))) .nil)))) (.cons (.asg [] 11 (.bin .mul (.nvar 11) (.nvar 2))) .nil)))
    (fun (s : List Rat × Int) x => [.sh (.ext ns), .sh .hd, .sh (.int y), x, .sh (pl one), .sh (pl two), .sh (pl third), .sh (.int n), .sh (lq (psL one n)), .sh (lq (psL two n)), .ow (il (wdG one y one.length)), .sh (.int s.2), .sh (.int ((one.length - 1 : Nat) : Int)), .ow (ql s.1), .un, .un, .un]) (fun k s => s.1 = ((List.range k).map fun j => (y : Rat) ^ j * ps one j) ∧ s.2 = y ^ k) n
    (by
      rintro k ⟨w, f⟩ x hk ⟨rfl, rfl⟩
      refine ⟨((List.range (k + 1)).map fun j => (y : Rat) ^ j * ps one j, y ^ (k + 1)), ?_, rfl, rfl⟩
      have by1 : (y ^ k).natAbs < 2 ^ 20 := by
        have := natAbs_pow_lt y2 k
        have h3 : 2 ^ (2 * k) ≤ 2 ^ 14 := Nat.pow_le_pow_right (by decide) (by omega)
        exact Nat.lt_of_le_of_lt (Nat.le_trans this h3) (by decide)
      have mo2 : mulOk (y ^ k) y = true := mr (by omega) (by omega)
      have e1 := F.lb z2 _ _ _ _ (b1 k (by omega)) (bd_c by1) (by omega)
      have e1' : C 23 [qd (ps one k), .tup [.int (y ^ k), .int 1]] z2 = some (Q ((y : Rat) ^ k * ps one k), z2) := by
        rw [← int_pow_cast, Rat.mul_comm]; exact e1
      have hlen : (ql ((List.range k).map fun j => (y : Rat) ^ j * ps one j)).length < 16777216 := by rw [ql_len]; simp; omega
      simp -implicitDefEqProofs only [lpF, setT, List.set_cons_succ, List.set_cons_zero]
      rw [exB]; simp -implicitDefEqProofs only [exS, freeze, froz, evE.eq_1, evE.eq_2, evE.eq_3, evE.eq_4, evE.eq_5, evE.eq_6, evE.eq_7, evE.eq_8, evE.eq_9, evE.eq_10, evE.eq_11, evE.eq_12, evE.eq_13, evE.eq_14, evE.eq_15, evE.eq_16, evE.eq_17, evE.eq_18, evRs, evO, evC, bd_some, bd_none, List.getElem?_cons_succ, List.getElem?_cons_zero, List.set_cons_succ, List.set_cons_zero, putR, setTs, setT, b_add, b_sub, b_band, c_lt, c_le, c_gt, c_ge, c_isn, c_notn, isn_int, isn_non, bi_abs, bi_int, bi_intb, bi_max2, bi_min2, toB_bl, toDs_nil, toDs_cons, R.toD, Option.map_some, Option.map_none, List.getD_cons_zero, List.getD_cons_succ, if_true, eq_int, ne_int, toDs, v1 z2 k hk, e1']
      rw [if_pos hlen]
      simp only
      rw [exB]; simp -implicitDefEqProofs only [exS, freeze, froz, evE.eq_1, evE.eq_2, evE.eq_3, evE.eq_4, evE.eq_5, evE.eq_6, evE.eq_7, evE.eq_8, evE.eq_9, evE.eq_10, evE.eq_11, evE.eq_12, evE.eq_13, evE.eq_14, evE.eq_15, evE.eq_16, evE.eq_17, evE.eq_18, evRs, evO, evC, bd_some, bd_none, List.getElem?_cons_succ, List.getElem?_cons_zero, List.set_cons_succ, List.set_cons_zero, putR, setTs, setT, b_add, b_sub, b_band, c_lt, c_le, c_gt, c_ge, c_isn, c_notn, isn_int, isn_non, bi_abs, bi_int, bi_intb, bi_max2, bi_min2, toB_bl, toDs_nil, toDs_cons, R.toD, Option.map_some, Option.map_none, List.getD_cons_zero, List.getD_cons_succ, if_true, eq_int, ne_int, b_mul mo2]
      rw [exB, Int.pow_succ, List.range_succ, List.map_append, ql_snoc]
      rfl) n 0 ([], 1) (.sh (.int ((one.length - 1 : Nat) : Int))) (by omega) ⟨rfl, (Int.pow_zero y).symm⟩
  rw [if_neg (by omega)] at lps
  refine (exB_nx (exS_loop rfl (rg1_ok (n := n) (z' := z2) (by simp -implicitDefEqProofs only [exS, freeze, froz, evE.eq_1, evE.eq_2, evE.eq_3, evE.eq_4, evE.eq_5, evE.eq_6, evE.eq_7, evE.eq_8, evE.eq_9, evE.eq_10, evE.eq_11, evE.eq_12, evE.eq_13, evE.eq_14, evE.eq_15, evE.eq_16, evE.eq_17, evE.eq_18, evRs, evO, evC, bd_some, bd_none, List.getElem?_cons_succ, List.getElem?_cons_zero, List.set_cons_succ, List.set_cons_zero, putR, setTs, setT, b_add, b_sub, b_band, c_lt, c_le, c_gt, c_ge, c_isn, c_notn, isn_int, isn_non, bi_abs, bi_int, bi_intb, bi_max2, bi_min2, toB_bl, toDs_nil, toDs_cons, R.toD, Option.map_some, Option.map_none, List.getD_cons_zero, List.getD_cons_succ, if_true, eq_int, ne_int]) (by omega)) (by rw [rangeD_rgI]; exact lps))).trans ?_
  rw [hss1]
  generalize ss.2 = fac2 at *
  -- wide ones
  obtain ⟨sw1, nw, pw⟩ := wd_sm h1 n1 y2 y0
  have pw1 := fun z => F.ps z (wdG one y one.length) n 8 sw1.tr nw (by have := sw1.len; omega) sw1.bt c1 (by omega) (by
    have : n * (8 + ((8 + 2) * n + 10) + 2) ≤ 7 * (8 + (10 * 7 + 10) + 2) := Nat.mul_le_mul c2 (by omega)
    omega)
  have E3 : psL (wdG one y one.length) n = (List.range n).map fun j => (y : Rat) ^ j * ps one j := psL_ext pw
  have q3 := ne_ql (x := .fr (ql (psL (wdG one y one.length) n))) (y := .vw (ql ((List.range n).map fun j => (y : Rat) ^ j * ps one j))) E3 rfl rfl
  obtain ⟨sf, nf, pf⟩ := four_sm h1 n1
  have pf1 := fun z => F.ps z (one.map fun x => x * 4) n 5 sf.tr nf (by have := sf.len; omega) sf.bt c1 (by omega) (by
    have : n * (5 + ((5 + 2) * n + 10) + 2) ≤ 7 * (5 + (7 * 7 + 10) + 2) := Nat.mul_le_mul c2 (by omega)
    omega)
  have E4 : psL (one.map fun x => x * 4) n = psL one n := by rw [psL_ext pf, psL_map]
  have q4 := ne_ql (x := .fr (ql (psL (one.map fun x => x * 4) n))) (y := .sh (lq (psL one n))) E4 rfl rfl
  have cm4 : evE C [.sh (.ext ns), .sh .hd, .sh (.int y), .sh (.int ((n - 1 : Nat) : Int)), .sh (pl one), .sh (pl two), .sh (pl third), .sh (.int n), .sh (lq (psL one n)), .sh (lq (psL two n)), .sh (pl (wdG one y one.length)), .sh (.int fac2), .sh (.int ((one.length - 1 : Nat) : Int)), .ow (ql ((List.range n).map fun j => (y : Rat) ^ j * ps one j)), .un, .un, .un] (.comp (.bin .mul (.nvar 16) (.lit (.int (4)))) (.nm 16) (.ls (.nvar 4)) .none [16]) z2 = some (.fr (il (one.map fun x => x * 4)), z2) :=
    comp_il (fun x => x * 4) rfl (ls_sh rfl) fun x _ => by
      have mo : mulOk x 4 = true := mr
      simp -implicitDefEqProofs only [wipeE, exS, freeze, froz, evE.eq_1, evE.eq_2, evE.eq_3, evE.eq_4, evE.eq_5, evE.eq_6, evE.eq_7, evE.eq_8, evE.eq_9, evE.eq_10, evE.eq_11, evE.eq_12, evE.eq_13, evE.eq_14, evE.eq_15, evE.eq_16, evE.eq_17, evE.eq_18, evRs, evO, evC, bd_some, bd_none, List.getElem?_cons_succ, List.getElem?_cons_zero, List.set_cons_succ, List.set_cons_zero, putR, setTs, setT, b_add, b_sub, b_band, c_lt, c_le, c_gt, c_ge, c_isn, c_notn, isn_int, isn_non, bi_abs, bi_int, bi_intb, bi_max2, bi_min2, toB_bl, toDs_nil, toDs_cons, R.toD, Option.map_some, Option.map_none, List.getD_cons_zero, List.getD_cons_succ, if_true, eq_int, ne_int, b_mul mo]
  rw [exB]; simp -implicitDefEqProofs only [exS, freeze, froz, evE.eq_1, evE.eq_2, evE.eq_3, evE.eq_4, evE.eq_5, evE.eq_6, evE.eq_7, evE.eq_8, evE.eq_9, evE.eq_10, evE.eq_11, evE.eq_12, evE.eq_13, evE.eq_14, evE.eq_15, evE.eq_16, evE.eq_17, evE.eq_18, evRs, evO, evC, bd_some, bd_none, List.getElem?_cons_succ, List.getElem?_cons_zero, List.set_cons_succ, List.set_cons_zero, putR, setTs, setT, b_add, b_sub, b_band, c_lt, c_le, c_gt, c_ge, c_isn, c_notn, isn_int, isn_non, bi_abs, bi_int, bi_intb, bi_max2, bi_min2, toB_bl, toDs_nil, toDs_cons, R.toD, Option.map_some, Option.map_none, List.getD_cons_zero, List.getD_cons_succ, if_true, eq_int, ne_int, toDs, pw1, q3]
  simp -implicitDefEqProofs only [exS, freeze, froz, evE.eq_1, evE.eq_2, evE.eq_3, evE.eq_4, evE.eq_5, evE.eq_6, evE.eq_7, evE.eq_8, evE.eq_9, evE.eq_10, evE.eq_11, evE.eq_12, evE.eq_13, evE.eq_14, evE.eq_15, evE.eq_16, evE.eq_17, evE.eq_18, evRs, evO, evC, bd_some, bd_none, List.getElem?_cons_succ, List.getElem?_cons_zero, List.set_cons_succ, List.set_cons_zero, putR, setTs, setT, b_add, b_sub, b_band, c_lt, c_le, c_gt, c_ge, c_isn, c_notn, isn_int, isn_non, bi_abs, bi_int, bi_intb, bi_max2, bi_min2, toB_bl, toDs_nil, toDs_cons, R.toD, Option.map_some, Option.map_none, List.getD_cons_zero, List.getD_cons_succ, if_true, eq_int, ne_int, toDs, cm4, pf1, q4]
  rw [exB]; simp only
  -- weighed
  have s3 : Sm 4 3 third := h3.mono (by omega) (by omega)
  have s2 : Sm 4 3 two := h2.mono (by omega) (by omega)
  have w3 := fun z => F.ws z one third n h1 n1 s3 c1 (by omega)
  have w2 := fun z => F.ws z one two n h1 n1 s2 c1 (by omega)
  rw [exB]; simp -implicitDefEqProofs only [exS, freeze, froz, evE.eq_1, evE.eq_2, evE.eq_3, evE.eq_4, evE.eq_5, evE.eq_6, evE.eq_7, evE.eq_8, evE.eq_9, evE.eq_10, evE.eq_11, evE.eq_12, evE.eq_13, evE.eq_14, evE.eq_15, evE.eq_16, evE.eq_17, evE.eq_18, evRs, evO, evC, bd_some, bd_none, List.getElem?_cons_succ, List.getElem?_cons_zero, List.set_cons_succ, List.set_cons_zero, putR, setTs, setT, b_add, b_sub, b_band, c_lt, c_le, c_gt, c_ge, c_isn, c_notn, isn_int, isn_non, bi_abs, bi_int, bi_intb, bi_max2, bi_min2, toB_bl, toDs_nil, toDs_cons, R.toD, Option.map_some, Option.map_none, List.getD_cons_zero, List.getD_cons_succ, if_true, eq_int, ne_int, toDs, w3, w2, setTg]
  have bw : ∀ (l : List Int), Sm 4 3 l → ∀ j, j ≤ 7 → Bd 300 (wS (ps one) l j) := fun l hl j hj => (wS_bd (M := 60) l j (fun u hu => hl.bt.mem hu) (fun i hi => (ps_bd h1.tr n1 h1.bt (by omega) i).mono (by have := hl.len; omega))).mono (by
    have := hl.len
    have : l.length * (3 + 60 + 2) ≤ 4 * 65 := Nat.mul_le_mul (by omega) (by omega)
    omega)
  have u1 : ∀ (z : Zs) (l : List Int) j, j < n → subR (.sh (lq (wL (ps one) l n))) (.sh (.int (j : Int))) z = some (Q (wS (ps one) l j)) := fun z l j hj => by
    have hl : j < (wL (ps one) l n).length := by rw [wL_len]; exact hj
    have : (wL (ps one) l n)[j] = wS (ps one) l j := by simp [wL]
    rw [sub_qsh hl, this]
  have sad : Sm 4 3 (addL third two) := ⟨tr_trim _, by have := add_len third two; omega, by rw [zp_add]; exact h3.bt.add h2.bt⟩
  have E5 : wL (ps one) (addL third two) n = (List.range n).map fun k => wS (ps one) third k + wS (ps one) two k := by
    unfold wL
    apply List.map_congr_left
    intro k _
    exact wS_add _ _ _ k
  have q5 := ne_ql (x := .fr (ql (wL (ps one) (addL third two) n))) (y := .fr (ql ((List.range n).map fun k => wS (ps one) third k + wS (ps one) two k))) E5 rfl rfl
  have cm5 : evE C [.sh (.ext ns), .sh .hd, .sh (.int y), .sh (.int ((n - 1 : Nat) : Int)), .sh (pl one), .sh (pl two), .sh (pl third), .sh (.int n), .sh (lq (psL one n)), .sh (lq (psL two n)), .sh (pl (wdG one y one.length)), .sh (.int fac2), .sh (.int ((one.length - 1 : Nat) : Int)), .ow (ql ((List.range n).map fun j => (y : Rat) ^ j * ps one j)), .sh (lq (wL (ps one) third n)), .sh (lq (wL (ps one) two n)), .un] (.comp (.call 22 (.cons (.sub (.nvar 14) (.nvar 3)) (.cons (.sub (.nvar 15) (.nvar 3)) .nil))) (.nm 3) (.rg1 (.nvar 7)) .none [3]) z2 = some (.fr (ql ((List.range n).map fun k => wS (ps one) third k + wS (ps one) two k)), z2) :=
    comp_rg (fun k => wS (ps one) third k + wS (ps one) two k) rfl rfl (by omega) fun j hj => by
      have := F.lp z2 _ _ _ _ (bw third s3 j (by omega)) (bw two s2 j (by omega)) (by omega)
      simp -implicitDefEqProofs only [wipeE, exS, freeze, froz, evE.eq_1, evE.eq_2, evE.eq_3, evE.eq_4, evE.eq_5, evE.eq_6, evE.eq_7, evE.eq_8, evE.eq_9, evE.eq_10, evE.eq_11, evE.eq_12, evE.eq_13, evE.eq_14, evE.eq_15, evE.eq_16, evE.eq_17, evE.eq_18, evRs, evO, evC, bd_some, bd_none, List.getElem?_cons_succ, List.getElem?_cons_zero, List.set_cons_succ, List.set_cons_zero, putR, setTs, setT, b_add, b_sub, b_band, c_lt, c_le, c_gt, c_ge, c_isn, c_notn, isn_int, isn_non, bi_abs, bi_int, bi_intb, bi_max2, bi_min2, toB_bl, toDs_nil, toDs_cons, R.toD, Option.map_some, Option.map_none, List.getD_cons_zero, List.getD_cons_succ, if_true, eq_int, ne_int, toDs, u1 z2 third j hj, u1 z2 two j hj, this]
  have sx : Sm 4 3 [0, 1] := ⟨tr_last (a := [0]) (by decide), by decide, Bt.of fun x hx => by
    simp only [List.mem_cons, List.not_mem_nil, or_false] at hx
    rcases hx with rfl | rfl <;> decide⟩
  have wx : ∀ z : Zs, C 14 [pl one, .lst [.int 0, .int 1], .int n] z = some (.fr (ql (wL (ps one) [0, 1] n)), z) := fun z => F.ws z one [0, 1] n h1 n1 sx c1 (by omega)
  have em : (n : Int) + 1 = ((n + 1 : Nat) : Int) := rfl
  have pn := fun z => F.ps z one (n + 1) 2 h1.tr n1 (by omega) h1.bt (by omega) (by omega) (by
    have : (n + 1) * (2 + ((2 + 2) * (n + 1) + 10) + 2) ≤ 8 * (2 + (4 * 8 + 10) + 2) := Nat.mul_le_mul (by omega) (by omega)
    omega)
  have E6 : wL (ps one) [0, 1] n = (psL one (n + 1)).drop 1 := by
    rw [psL_map, drop_map]
    unfold wL
    apply List.map_congr_left
    intro k _
    exact wS_one _ k
  have q6 := ne_ql (x := .fr (ql (wL (ps one) [0, 1] n))) (y := .fr (ql ((psL one (n + 1)).drop 1))) E6 rfl rfl
  rw [exB]; simp -implicitDefEqProofs only [exS, freeze, froz, evE.eq_1, evE.eq_2, evE.eq_3, evE.eq_4, evE.eq_5, evE.eq_6, evE.eq_7, evE.eq_8, evE.eq_9, evE.eq_10, evE.eq_11, evE.eq_12, evE.eq_13, evE.eq_14, evE.eq_15, evE.eq_16, evE.eq_17, evE.eq_18, evRs, evO, evC, bd_some, bd_none, List.getElem?_cons_succ, List.getElem?_cons_zero, List.set_cons_succ, List.set_cons_zero, putR, setTs, setT, b_add, b_sub, b_band, c_lt, c_le, c_gt, c_ge, c_isn, c_notn, isn_int, isn_non, bi_abs, bi_int, bi_intb, bi_max2, bi_min2, toB_bl, toDs_nil, toDs_cons, R.toD, Option.map_some, Option.map_none, List.getD_cons_zero, List.getD_cons_succ, if_true, eq_int, ne_int, toDs, F.ad z2 third two (by omega) (by omega), F.ws z2 one (addL third two) n h1 n1 sad c1 (by omega), cm5, q5]
  simp -implicitDefEqProofs only [exS, freeze, froz, evE.eq_1, evE.eq_2, evE.eq_3, evE.eq_4, evE.eq_5, evE.eq_6, evE.eq_7, evE.eq_8, evE.eq_9, evE.eq_10, evE.eq_11, evE.eq_12, evE.eq_13, evE.eq_14, evE.eq_15, evE.eq_16, evE.eq_17, evE.eq_18, evRs, evO, evC, bd_some, bd_none, List.getElem?_cons_succ, List.getElem?_cons_zero, List.set_cons_succ, List.set_cons_zero, putR, setTs, setT, b_add, b_sub, b_band, c_lt, c_le, c_gt, c_ge, c_isn, c_notn, isn_int, isn_non, bi_abs, bi_int, bi_intb, bi_max2, bi_min2, toB_bl, toDs_nil, toDs_cons, R.toD, Option.map_some, Option.map_none, List.getD_cons_zero, List.getD_cons_succ, if_true, eq_int, ne_int, toDs, wx, em, pn, R.items, cutq1, q6]
  rw [exB]; simp only
  -- powers
  have smx : Sm 4 3 (mulL [0, 1] third) := ⟨tr_mul _ _, by have := mul_len [0, 1] third; simp only [List.length_cons, List.length_nil] at this; omega, mulX_bt (h3.bt.mono (by omega))⟩
  have ox : okM [0, 1] third = true := sx.okM s3
  have tx : C 8 [.lst [.int 0, .int 1], pl third] z2 = some (.fr (il (mulL [0, 1] third)), z2) := F.tm z2 _ _ ox
  have E7 : wL (ps one) (mulL [0, 1] third) n = (wL (ps one) third (n + 1)).drop 1 := by
    unfold wL
    rw [drop_map]
    apply List.map_congr_left
    intro k _
    exact wS_X _ _ k
  have q7 := ne_ql (x := .fr (ql (wL (ps one) (mulL [0, 1] third) n))) (y := .fr (ql ((wL (ps one) third (n + 1)).drop 1))) E7 rfl rfl
  have wn := F.ws z2 one third (n + 1) h1 n1 s3 (by omega) (by omega)
  rw [exB]; simp -implicitDefEqProofs only [exS, freeze, froz, evE.eq_1, evE.eq_2, evE.eq_3, evE.eq_4, evE.eq_5, evE.eq_6, evE.eq_7, evE.eq_8, evE.eq_9, evE.eq_10, evE.eq_11, evE.eq_12, evE.eq_13, evE.eq_14, evE.eq_15, evE.eq_16, evE.eq_17, evE.eq_18, evRs, evO, evC, bd_some, bd_none, List.getElem?_cons_succ, List.getElem?_cons_zero, List.set_cons_succ, List.set_cons_zero, putR, setTs, setT, b_add, b_sub, b_band, c_lt, c_le, c_gt, c_ge, c_isn, c_notn, isn_int, isn_non, bi_abs, bi_int, bi_intb, bi_max2, bi_min2, toB_bl, toDs_nil, toDs_cons, R.toD, Option.map_some, Option.map_none, List.getD_cons_zero, List.getD_cons_succ, if_true, eq_int, ne_int, toDs, tx, F.ws z2 one (mulL [0, 1] third) n h1 n1 smx c1 (by omega), em, wn, R.items, cutq1, q7]
  rw [exB]; simp only
  -- the polynomial
  have pl1 := F.ps z2 one one.length 2 h1.tr n1 (by omega) h1.bt (by omega) (by omega) (by
    have : one.length * (2 + ((2 + 2) * one.length + 10) + 2) ≤ 4 * (2 + (4 * 4 + 10) + 2) := Nat.mul_le_mul (by omega) (by omega)
    omega)
  have q8 : cmpR .eq (.fr (il (primL one))) (.fr (il (primL one))) = some true := by
    rw [eq_il rfl rfl, _root_.decide_eq_true rfl]
  rw [exB]; simp -implicitDefEqProofs only [exS, freeze, froz, evE.eq_1, evE.eq_2, evE.eq_3, evE.eq_4, evE.eq_5, evE.eq_6, evE.eq_7, evE.eq_8, evE.eq_9, evE.eq_10, evE.eq_11, evE.eq_12, evE.eq_13, evE.eq_14, evE.eq_15, evE.eq_16, evE.eq_17, evE.eq_18, evRs, evO, evC, bd_some, bd_none, List.getElem?_cons_succ, List.getElem?_cons_zero, List.set_cons_succ, List.set_cons_zero, putR, setTs, setT, b_add, b_sub, b_band, c_lt, c_le, c_gt, c_ge, c_isn, c_notn, isn_int, isn_non, bi_abs, bi_int, bi_intb, bi_max2, bi_min2, toB_bl, toDs_nil, toDs_cons, R.toD, Option.map_some, Option.map_none, List.getD_cons_zero, List.getD_cons_succ, if_true, eq_int, ne_int, toDs, len_sh, pl1, R.items, cutq1, F.fs z2 one h1 n1, F.pr z2 one h1.okC, q8]
end Mn.k21

namespace Mn.k21
open PySem L2 Z
theorem pure_law : ∀ ns : List Int, ns.length ≤ 63 → ∃ z', exB (run (pOf 60 defs) 12) (compB 60 (ccOf (gOf 0 defs) (some "state") dL) (defBody dL.st)) (startE dL.N.length [.ext ns]) none = some (.ret (.sh (.bl true)), z') := by
  intro ns _
  have e1 : pOf 60 defs = PL := PP_eq
  have e2 : compB 60 (ccOf (gOf 0 defs) (some "state") dL) (defBody dL.st) = LB := lawB_eq
  rw [e1, e2]
  obtain ⟨v, hv⟩ := big_ok (P := PL) (K := 10) (i := 17) (jc := 16) rfl rfl ns 20 (by decide) none
  obtain ⟨r1, one, w1, t1, u1, h1, n1⟩ := lsome_ok (P := PL) (K := 9) (js := 25) (i := 24) (j := 20) (jt := 18) rfl rfl rfl rfl 3 3 2 (by decide) (by decide) (by decide) (by decide) (by decide) v
  obtain ⟨r2, two, w2, t2, u2, h2, n2⟩ := lsome_ok (P := PL) (K := 9) (js := 25) (i := 24) (j := 20) (jt := 18) rfl rfl rfl rfl 2 3 2 (by decide) (by decide) (by decide) (by decide) (by decide) w1
  obtain ⟨third, w3, t3, d3⟩ := lawp_ok (P := PL) (K := 10) (i := 24) (j := 20) (jt := 18) rfl rfl rfl 2 3 (by decide) (by decide) w2
  have t4 := take_ok (P := PL) (k := 11) (i := 18) (m := 7) (s := w3) rfl (by decide) (by decide)
  have t5 := take_ok (P := PL) (k := 11) (i := 18) (m := 2) (s := w3.fdiv 7) rfl (by decide) (by decide)
  obtain ⟨m0, m1⟩ := fmod_lt' w3 (b := 7) (by decide)
  obtain ⟨k0, k1⟩ := fmod_lt' (w3.fdiv 7) (b := 2) (by decide)
  have em : 1 + w3.fmod 7 = ((1 + w3.fmod 7).toNat : Int) := by omega
  have c1 : 1 ≤ (1 + w3.fmod 7).toNat := by omega
  have c2 : (1 + w3.fmod 7).toNat ≤ 7 := by omega
  refine ⟨some ((w3.fdiv 7).fdiv 2), ?_⟩
  have F : Fa (run PL 12) := fa 6
  have h3 : Sm 3 2 third := drp_sm d3 (by decide)
  have hy : ∃ y : Int, ((w3.fdiv 7).fmod 2 = 0 ∧ y = 2) ∨ ((w3.fdiv 7).fmod 2 = 1 ∧ y = -3) := by
    have : (w3.fdiv 7).fmod 2 = 0 ∨ (w3.fdiv 7).fmod 2 = 1 := by omega
    rcases this with e | e
    · exact ⟨2, .inl ⟨e, rfl⟩⟩
    · exact ⟨-3, .inr ⟨e, rfl⟩⟩
  obtain ⟨y, hy⟩ := hy
  generalize (1 + w3.fmod 7).toNat = c at *
  show exB (run PL 12) LB [.sh (.ext ns), .un, .un, .un, .un, .un, .un, .un, .un, .un, .un, .un, .un, .un, .un, .un, .un] none = _
  have hv' : run PL 12 17 [.ext ns, .int 0, .int 20] none = some (.fr [.int v], none) := hv
  have t1' : run PL 12 25 [.hd, .int 3, .int 3] (some v) = some (r1, some w1) := t1
  have t2' : run PL 12 25 [.hd, .int 2, .int 3] (some w1) = some (r2, some w2) := t2
  have t3' : run PL 12 24 [.hd, .int 2, .int 3] (some w2) = some (.fr (il third), some w3) := t3
  clear hv t1 t2 t3
  generalize run PL 12 = C at *
  have key := after (ns := ns) (s1 := .sh .hd) F h1 h2 h3 n1 n2 c1 c2 t5 hy rfl _ _ _ rfl
  unfold LB
  rw [exB]; simp -implicitDefEqProofs only [exS, freeze, froz, evE.eq_1, evE.eq_2, evE.eq_3, evE.eq_4, evE.eq_5, evE.eq_6, evE.eq_7, evE.eq_8, evE.eq_9, evE.eq_10, evE.eq_11, evE.eq_12, evE.eq_13, evE.eq_14, evE.eq_15, evE.eq_16, evE.eq_17, evE.eq_18, evRs, evO, evC, bd_some, bd_none, List.getElem?_cons_succ, List.getElem?_cons_zero, List.set_cons_succ, List.set_cons_zero, putR, setTs, setT, b_add, b_sub, b_band, c_lt, c_le, c_gt, c_ge, c_isn, c_notn, isn_int, isn_non, bi_abs, bi_int, bi_intb, bi_max2, bi_min2, toB_bl, toDs_nil, toDs_cons, R.toD, Option.map_some, Option.map_none, List.getD_cons_zero, List.getD_cons_succ, if_true, eq_int, ne_int, toDs, hv']
  rcases u1 with rfl | rfl <;> rcases u2 with rfl | rfl
  all_goals
    rw [exB]; simp -implicitDefEqProofs only [exS, freeze, froz, evE.eq_1, evE.eq_2, evE.eq_3, evE.eq_4, evE.eq_5, evE.eq_6, evE.eq_7, evE.eq_8, evE.eq_9, evE.eq_10, evE.eq_11, evE.eq_12, evE.eq_13, evE.eq_14, evE.eq_15, evE.eq_16, evE.eq_17, evE.eq_18, evRs, evO, evC, bd_some, bd_none, List.getElem?_cons_succ, List.getElem?_cons_zero, List.set_cons_succ, List.set_cons_zero, putR, setTs, setT, b_add, b_sub, b_band, c_lt, c_le, c_gt, c_ge, c_isn, c_notn, isn_int, isn_non, bi_abs, bi_int, bi_intb, bi_max2, bi_min2, toB_bl, toDs_nil, toDs_cons, R.toD, Option.map_some, Option.map_none, List.getD_cons_zero, List.getD_cons_succ, if_true, eq_int, ne_int, toDs, t1', t2', t3', t4, setTg, em]
    exact key
end Mn.k21

namespace Mn.k21
open PySem PySem.Spec PyProof.Rows L2
theorem sc0 : FnScope d0.N d0.ps (defScope d0.st) := ⟨rfl, rfl, rfl, by decide +kernel, rfl, by decide +kernel, by decide +kernel⟩
theorem sc1 : FnScope d1.N d1.ps (defScope d1.st) := ⟨rfl, rfl, rfl, by decide +kernel, rfl, by decide +kernel, by decide +kernel⟩
theorem sc2 : FnScope d2.N d2.ps (defScope d2.st) := ⟨rfl, rfl, rfl, by decide +kernel, rfl, by decide +kernel, by decide +kernel⟩
theorem sc3 : FnScope d3.N d3.ps (defScope d3.st) := ⟨rfl, rfl, rfl, by decide +kernel, rfl, by decide +kernel, by decide +kernel⟩
theorem sc4 : FnScope d4.N d4.ps (defScope d4.st) := ⟨rfl, rfl, rfl, by decide +kernel, rfl, by decide +kernel, by decide +kernel⟩
theorem sc5 : FnScope d5.N d5.ps (defScope d5.st) := ⟨rfl, rfl, rfl, by decide +kernel, rfl, by decide +kernel, by decide +kernel⟩
theorem sc6 : FnScope d6.N d6.ps (defScope d6.st) := ⟨rfl, rfl, rfl, by decide +kernel, rfl, by decide +kernel, by decide +kernel⟩
theorem sc7 : FnScope d7.N d7.ps (defScope d7.st) := ⟨rfl, rfl, rfl, by decide +kernel, rfl, by decide +kernel, by decide +kernel⟩
theorem sc8 : FnScope d8.N d8.ps (defScope d8.st) := ⟨rfl, rfl, rfl, by decide +kernel, rfl, by decide +kernel, by decide +kernel⟩
theorem sc9 : FnScope d9.N d9.ps (defScope d9.st) := ⟨rfl, rfl, rfl, by decide +kernel, rfl, by decide +kernel, by decide +kernel⟩
theorem sc10 : FnScope d10.N d10.ps (defScope d10.st) := ⟨rfl, rfl, rfl, by decide +kernel, rfl, by decide +kernel, by decide +kernel⟩
theorem sc11 : FnScope d11.N d11.ps (defScope d11.st) := ⟨rfl, rfl, rfl, by decide +kernel, rfl, by decide +kernel, by decide +kernel⟩
theorem sc12 : FnScope d12.N d12.ps (defScope d12.st) := ⟨rfl, rfl, rfl, by decide +kernel, rfl, by decide +kernel, by decide +kernel⟩
theorem sc13 : FnScope d13.N d13.ps (defScope d13.st) := ⟨rfl, rfl, rfl, by decide +kernel, rfl, by decide +kernel, by decide +kernel⟩
theorem sc14 : FnScope d14.N d14.ps (defScope d14.st) := ⟨rfl, rfl, rfl, by decide +kernel, rfl, by decide +kernel, by decide +kernel⟩
theorem sc15 : FnScope d15.N d15.ps (defScope d15.st) := ⟨rfl, rfl, rfl, by decide +kernel, rfl, by decide +kernel, by decide +kernel⟩
theorem sc16 : FnScope d16.N d16.ps (defScope d16.st) := ⟨rfl, rfl, rfl, by decide +kernel, rfl, by decide +kernel, by decide +kernel⟩
theorem sc17 : FnScope d17.N d17.ps (defScope d17.st) := ⟨rfl, rfl, rfl, by decide +kernel, rfl, by decide +kernel, by decide +kernel⟩
theorem sc18 : FnScope d18.N d18.ps (defScope d18.st) := ⟨rfl, rfl, rfl, by decide +kernel, rfl, by decide +kernel, by decide +kernel⟩
theorem sc19 : FnScope d19.N d19.ps (defScope d19.st) := ⟨rfl, rfl, rfl, by decide +kernel, rfl, by decide +kernel, by decide +kernel⟩
theorem sc20 : FnScope d20.N d20.ps (defScope d20.st) := ⟨rfl, rfl, rfl, by decide +kernel, rfl, by decide +kernel, by decide +kernel⟩
theorem sc21 : FnScope d21.N d21.ps (defScope d21.st) := ⟨rfl, rfl, rfl, by decide +kernel, rfl, by decide +kernel, by decide +kernel⟩
theorem sc22 : FnScope d22.N d22.ps (defScope d22.st) := ⟨rfl, rfl, rfl, by decide +kernel, rfl, by decide +kernel, by decide +kernel⟩
theorem sc23 : FnScope d23.N d23.ps (defScope d23.st) := ⟨rfl, rfl, rfl, by decide +kernel, rfl, by decide +kernel, by decide +kernel⟩
theorem sc24 : FnScope d24.N d24.ps (defScope d24.st) := ⟨rfl, rfl, rfl, by decide +kernel, rfl, by decide +kernel, by decide +kernel⟩
theorem sc25 : FnScope d25.N d25.ps (defScope d25.st) := ⟨rfl, rfl, rfl, by decide +kernel, rfl, by decide +kernel, by decide +kernel⟩
theorem sc26 : FnScope dL.N dL.ps (defScope dL.st) := ⟨rfl, rfl, rfl, by decide +kernel, rfl, by decide +kernel, by decide +kernel⟩
theorem all_mk {l : PySem.W.OpenLaw} {w : World} {K : PySem.W.Frag} {h : Heap} {mg : Str → Option Value} {fa f0 f1 f2 f3 f4 f5 f6 f7 f8 f9 f10 f11 f12 f13 f14 f15 f16 f17 f18 f19 f20 f21 f22 f23 f24 f25 f26 : Addr} (X : K.In h) (G : h.Ns mainGlobals mg) (hfa : mg "law" = some (.ref fa))
    {od0 an0 od1 an1 od2 an2 od3 an3 od4 an4 od5 an5 od6 an6 od7 an7 od8 an8 od9 an9 od10 an10 od11 an11 od12 an12 od13 an13 od14 an14 od15 an15 od16 an16 od17 an17 od18 an18 od19 an19 od20 an20 od21 an21 od22 an22 od23 an23 od24 an24 od25 an25 od26 an26 : Option Addr} {sl0 sl1 sl2 sl3 sl4 sl5 sl6 sl7 sl8 sl9 sl10 sl11 sl12 sl13 sl14 sl15 sl16 sl17 sl18 sl19 sl20 sl21 sl22 sl23 sl24 sl25 sl26 : Array (Option Value)} {oc0 kV0 dc0 pm0 cd0 ct0 oc1 kV1 dc1 pm1 cd1 ct1 oc2 kV2 dc2 pm2 cd2 ct2 oc3 kV3 dc3 pm3 cd3 ct3 oc4 kV4 dc4 pm4 cd4 ct4 oc5 kV5 dc5 pm5 cd5 ct5 oc6 kV6 dc6 pm6 cd6 ct6 oc7 kV7 dc7 pm7 cd7 ct7 oc8 kV8 dc8 pm8 cd8 ct8 oc9 kV9 dc9 pm9 cd9 ct9 oc10 kV10 dc10 pm10 cd10 ct10 oc11 kV11 dc11 pm11 cd11 ct11 oc12 kV12 dc12 pm12 cd12 ct12 oc13 kV13 dc13 pm13 cd13 ct13 oc14 kV14 dc14 pm14 cd14 ct14 oc15 kV15 dc15 pm15 cd15 ct15 oc16 kV16 dc16 pm16 cd16 ct16 oc17 kV17 dc17 pm17 cd17 ct17 oc18 kV18 dc18 pm18 cd18 ct18 oc19 kV19 dc19 pm19 cd19 ct19 oc20 kV20 dc20 pm20 cd20 ct20 oc21 kV21 dc21 pm21 cd21 ct21 oc22 kV22 dc22 pm22 cd22 ct22 oc23 kV23 dc23 pm23 cd23 ct23 oc24 kV24 dc24 pm24 cd24 ct24 oc25 kV25 dc25 pm25 cd25 ct25 oc26 kV26 dc26 pm26 cd26 ct26 : Value}
    (a0 : PySem.W.nsIn K mainGlobals "common_divisor" = some (some (.ref f0))) (l0 : K.lookup f0 = some ⟨oc0, od0, .func (PySem.W.fnOf "common_divisor" "common_divisor" (defArgs (st 4)) (defBody (st 4)) (defScope (st 4)) .none kV0 dc0 pm0 an0 cd0 ct0), sl0⟩) (c0 : PySem.W.codeIn K cd0 "common_divisor" = true) (k0 : PySem.W.keepIn K (.ref f0) = true)
    (a1 : PySem.W.nsIn K mainGlobals "ratio" = some (some (.ref f1))) (l1 : K.lookup f1 = some ⟨oc1, od1, .func (PySem.W.fnOf "ratio" "ratio" (defArgs (st 5)) (defBody (st 5)) (defScope (st 5)) .none kV1 dc1 pm1 an1 cd1 ct1), sl1⟩) (c1 : PySem.W.codeIn K cd1 "ratio" = true) (k1 : PySem.W.keepIn K (.ref f1) = true)
    (a2 : PySem.W.nsIn K mainGlobals "plus" = some (some (.ref f2))) (l2 : K.lookup f2 = some ⟨oc2, od2, .func (PySem.W.fnOf "plus" "plus" (defArgs (st 6)) (defBody (st 6)) (defScope (st 6)) .none kV2 dc2 pm2 an2 cd2 ct2), sl2⟩) (c2 : PySem.W.codeIn K cd2 "plus" = true) (k2 : PySem.W.keepIn K (.ref f2) = true)
    (a3 : PySem.W.nsIn K mainGlobals "times_ratios" = some (some (.ref f3))) (l3 : K.lookup f3 = some ⟨oc3, od3, .func (PySem.W.fnOf "times" "times" (defArgs (st 7)) (defBody (st 7)) (defScope (st 7)) .none kV3 dc3 pm3 an3 cd3 ct3), sl3⟩) (c3 : PySem.W.codeIn K cd3 "times" = true) (k3 : PySem.W.keepIn K (.ref f3) = true)
    (a4 : PySem.W.nsIn K mainGlobals "over" = some (some (.ref f4))) (l4 : K.lookup f4 = some ⟨oc4, od4, .func (PySem.W.fnOf "over" "over" (defArgs (st 9)) (defBody (st 9)) (defScope (st 9)) .none kV4 dc4 pm4 an4 cd4 ct4), sl4⟩) (c4 : PySem.W.codeIn K cd4 "over" = true) (k4 : PySem.W.keepIn K (.ref f4) = true)
    (a5 : PySem.W.nsIn K mainGlobals "trimmed" = some (some (.ref f5))) (l5 : K.lookup f5 = some ⟨oc5, od5, .func (PySem.W.fnOf "trimmed" "trimmed" (defArgs (st 11)) (defBody (st 11)) (defScope (st 11)) .none kV5 dc5 pm5 an5 cd5 ct5), sl5⟩) (c5 : PySem.W.codeIn K cd5 "trimmed" = true) (k5 : PySem.W.keepIn K (.ref f5) = true)
    (a6 : PySem.W.nsIn K mainGlobals "scaled" = some (some (.ref f6))) (l6 : K.lookup f6 = some ⟨oc6, od6, .func (PySem.W.fnOf "scaled" "scaled" (defArgs (st 12)) (defBody (st 12)) (defScope (st 12)) .none kV6 dc6 pm6 an6 cd6 ct6), sl6⟩) (c6 : PySem.W.codeIn K cd6 "scaled" = true) (k6 : PySem.W.keepIn K (.ref f6) = true)
    (a7 : PySem.W.nsIn K mainGlobals "times" = some (some (.ref f7))) (l7 : K.lookup f7 = some ⟨oc7, od7, .func (PySem.W.fnOf "times" "times" (defArgs (st 13)) (defBody (st 13)) (defScope (st 13)) .none kV7 dc7 pm7 an7 cd7 ct7), sl7⟩) (c7 : PySem.W.codeIn K cd7 "times" = true) (k7 : PySem.W.keepIn K (.ref f7) = true)
    (a8 : PySem.W.nsIn K mainGlobals "times_single" = some (some (.ref f8))) (l8 : K.lookup f8 = some ⟨oc8, od8, .func (PySem.W.fnOf "times" "times" (defArgs (st 13)) (defBody (st 13)) (defScope (st 13)) .none kV8 dc8 pm8 an8 cd8 ct8), sl8⟩) (c8 : PySem.W.codeIn K cd8 "times" = true) (k8 : PySem.W.keepIn K (.ref f8) = true)
    (a9 : PySem.W.nsIn K mainGlobals "content" = some (some (.ref f9))) (l9 : K.lookup f9 = some ⟨oc9, od9, .func (PySem.W.fnOf "content" "content" (defArgs (st 15)) (defBody (st 15)) (defScope (st 15)) .none kV9 dc9 pm9 an9 cd9 ct9), sl9⟩) (c9 : PySem.W.codeIn K cd9 "content" = true) (k9 : PySem.W.keepIn K (.ref f9) = true)
    (a10 : PySem.W.nsIn K mainGlobals "lowered" = some (some (.ref f10))) (l10 : K.lookup f10 = some ⟨oc10, od10, .func (PySem.W.fnOf "lowered" "lowered" (defArgs (st 16)) (defBody (st 16)) (defScope (st 16)) .none kV10 dc10 pm10 an10 cd10 ct10), sl10⟩) (c10 : PySem.W.codeIn K cd10 "lowered" = true) (k10 : PySem.W.keepIn K (.ref f10) = true)
    (a11 : PySem.W.nsIn K mainGlobals "primitive" = some (some (.ref f11))) (l11 : K.lookup f11 = some ⟨oc11, od11, .func (PySem.W.fnOf "primitive" "primitive" (defArgs (st 17)) (defBody (st 17)) (defScope (st 17)) .none kV11 dc11 pm11 an11 cd11 ct11), sl11⟩) (c11 : PySem.W.codeIn K cd11 "primitive" = true) (k11 : PySem.W.keepIn K (.ref f11) = true)
    (a12 : PySem.W.nsIn K mainGlobals "turned" = some (some (.ref f12))) (l12 : K.lookup f12 = some ⟨oc12, od12, .func (PySem.W.fnOf "turned" "turned" (defArgs (st 18)) (defBody (st 18)) (defScope (st 18)) .none kV12 dc12 pm12 an12 cd12 ct12), sl12⟩) (c12 : PySem.W.codeIn K cd12 "turned" = true) (k12 : PySem.W.keepIn K (.ref f12) = true)
    (a13 : PySem.W.nsIn K mainGlobals "power_sums" = some (some (.ref f13))) (l13 : K.lookup f13 = some ⟨oc13, od13, .func (PySem.W.fnOf "power_sums" "power_sums" (defArgs (st 20)) (defBody (st 20)) (defScope (st 20)) .none kV13 dc13 pm13 an13 cd13 ct13), sl13⟩) (c13 : PySem.W.codeIn K cd13 "power_sums" = true) (k13 : PySem.W.keepIn K (.ref f13) = true)
    (a14 : PySem.W.nsIn K mainGlobals "weighed_sums" = some (some (.ref f14))) (l14 : K.lookup f14 = some ⟨oc14, od14, .func (PySem.W.fnOf "weighed_sums" "weighed_sums" (defArgs (st 21)) (defBody (st 21)) (defScope (st 21)) .none kV14 dc14 pm14 an14 cd14 ct14), sl14⟩) (c14 : PySem.W.codeIn K cd14 "weighed_sums" = true) (k14 : PySem.W.keepIn K (.ref f14) = true)
    (a15 : PySem.W.nsIn K mainGlobals "from_sums" = some (some (.ref f15))) (l15 : K.lookup f15 = some ⟨oc15, od15, .func (PySem.W.fnOf "from_sums" "from_sums" (defArgs (st 22)) (defBody (st 22)) (defScope (st 22)) .none kV15 dc15 pm15 an15 cd15 ct15), sl15⟩) (c15 : PySem.W.codeIn K cd15 "from_sums" = true) (k15 : PySem.W.keepIn K (.ref f15) = true)
    (a16 : PySem.W.nsIn K mainGlobals "_law_cell" = some (some (.ref f16))) (l16 : K.lookup f16 = some ⟨oc16, od16, .func (PySem.W.fnOf "_law_cell" "_law_cell" (defArgs (st 24)) (defBody (st 24)) (defScope (st 24)) .none kV16 dc16 pm16 an16 cd16 ct16), sl16⟩) (c16 : PySem.W.codeIn K cd16 "_law_cell" = true) (k16 : PySem.W.keepIn K (.ref f16) = true)
    (a17 : PySem.W.nsIn K mainGlobals "_law_big" = some (some (.ref f17))) (l17 : K.lookup f17 = some ⟨oc17, od17, .func (PySem.W.fnOf "_law_big" "_law_big" (defArgs (st 25)) (defBody (st 25)) (defScope (st 25)) .none kV17 dc17 pm17 an17 cd17 ct17), sl17⟩) (c17 : PySem.W.codeIn K cd17 "_law_big" = true) (k17 : PySem.W.keepIn K (.ref f17) = true)
    (a18 : PySem.W.nsIn K mainGlobals "_law_take" = some (some (.ref f18))) (l18 : K.lookup f18 = some ⟨oc18, od18, .func (PySem.W.fnOf "_law_take" "_law_take" (defArgs (st 26)) (defBody (st 26)) (defScope (st 26)) .none kV18 dc18 pm18 an18 cd18 ct18), sl18⟩) (c18 : PySem.W.codeIn K cd18 "_law_take" = true) (k18 : PySem.W.keepIn K (.ref f18) = true)
    (a19 : PySem.W.nsIn K mainGlobals "_law_short" = some (some (.ref f19))) (l19 : K.lookup f19 = some ⟨oc19, od19, .func (PySem.W.fnOf "_law_short" "_law_short" (defArgs (st 27)) (defBody (st 27)) (defScope (st 27)) .none kV19 dc19 pm19 an19 cd19 ct19), sl19⟩) (c19 : PySem.W.codeIn K cd19 "_law_short" = true) (k19 : PySem.W.keepIn K (.ref f19) = true)
    (a20 : PySem.W.nsIn K mainGlobals "_law_add" = some (some (.ref f20))) (l20 : K.lookup f20 = some ⟨oc20, od20, .func (PySem.W.fnOf "_law_add" "_law_add" (defArgs (st 28)) (defBody (st 28)) (defScope (st 28)) .none kV20 dc20 pm20 an20 cd20 ct20), sl20⟩) (c20 : PySem.W.codeIn K cd20 "_law_add" = true) (k20 : PySem.W.keepIn K (.ref f20) = true)
    (a21 : PySem.W.nsIn K mainGlobals "_law_minus" = some (some (.ref f21))) (l21 : K.lookup f21 = some ⟨oc21, od21, .func (PySem.W.fnOf "_law_minus" "_law_minus" (defArgs (st 29)) (defBody (st 29)) (defScope (st 29)) .none kV21 dc21 pm21 an21 cd21 ct21), sl21⟩) (c21 : PySem.W.codeIn K cd21 "_law_minus" = true) (k21 : PySem.W.keepIn K (.ref f21) = true)
    (a22 : PySem.W.nsIn K mainGlobals "_law_plus" = some (some (.ref f22))) (l22 : K.lookup f22 = some ⟨oc22, od22, .func (PySem.W.fnOf "_law_plus" "_law_plus" (defArgs (st 30)) (defBody (st 30)) (defScope (st 30)) .none kV22 dc22 pm22 an22 cd22 ct22), sl22⟩) (c22 : PySem.W.codeIn K cd22 "_law_plus" = true) (k22 : PySem.W.keepIn K (.ref f22) = true)
    (a23 : PySem.W.nsIn K mainGlobals "_law_by" = some (some (.ref f23))) (l23 : K.lookup f23 = some ⟨oc23, od23, .func (PySem.W.fnOf "_law_by" "_law_by" (defArgs (st 31)) (defBody (st 31)) (defScope (st 31)) .none kV23 dc23 pm23 an23 cd23 ct23), sl23⟩) (c23 : PySem.W.codeIn K cd23 "_law_by" = true) (k23 : PySem.W.keepIn K (.ref f23) = true)
    (a24 : PySem.W.nsIn K mainGlobals "_law_p" = some (some (.ref f24))) (l24 : K.lookup f24 = some ⟨oc24, od24, .func (PySem.W.fnOf "_law_p" "_law_p" (defArgs (st 32)) (defBody (st 32)) (defScope (st 32)) .none kV24 dc24 pm24 an24 cd24 ct24), sl24⟩) (c24 : PySem.W.codeIn K cd24 "_law_p" = true) (k24 : PySem.W.keepIn K (.ref f24) = true)
    (a25 : PySem.W.nsIn K mainGlobals "_law_some" = some (some (.ref f25))) (l25 : K.lookup f25 = some ⟨oc25, od25, .func (PySem.W.fnOf "_law_some" "_law_some" (defArgs (st 33)) (defBody (st 33)) (defScope (st 33)) .none kV25 dc25 pm25 an25 cd25 ct25), sl25⟩) (c25 : PySem.W.codeIn K cd25 "_law_some" = true) (k25 : PySem.W.keepIn K (.ref f25) = true)
    (a26 : PySem.W.nsIn K mainGlobals "law" = some (some (.ref f26))) (l26 : K.lookup f26 = some ⟨oc26, od26, .func (PySem.W.fnOf "law" "law" (defArgs (st 34)) (defBody (st 34)) (defScope (st 34)) .none kV26 dc26 pm26 an26 cd26 ct26), sl26⟩) (c26 : PySem.W.codeIn K cd26 "law" = true) (k26 : PySem.W.keepIn K (.ref f26) = true)
    (z0 : PySem.W.nsIn K mainGlobals "len" = some none) (z1 : PySem.W.nsIn K mainGlobals "abs" = some none) (z2 : PySem.W.nsIn K mainGlobals "max" = some none) (z3 : PySem.W.nsIn K mainGlobals "min" = some none) (z4 : PySem.W.nsIn K mainGlobals "int" = some none) (z5 : PySem.W.nsIn K mainGlobals "list" = some none) (z6 : PySem.W.nsIn K mainGlobals "tuple" = some none) (z7 : PySem.W.nsIn K mainGlobals "sum" = some none) (z8 : PySem.W.nsIn K mainGlobals "range" = some none) (z9 : PySem.W.nsIn K mainGlobals "reversed" = some none) (z10 : PySem.W.nsIn K mainGlobals "enumerate" = some none) (z11 : PySem.W.nsIn K mainGlobals "zip" = some none) :
    ∃ fd : FuncData, (∀ (s : Shared) (v : Value), BindsTo s fd ⟨[v], []⟩ [("script", v)]) ∧ ∀ base : Heap, K.In base → base.Ns mainGlobals mg → FnOk l.prog w K mg base CX0 13 fa fd ["script"] (spLaw K) := by
  have e := hfa.symm.trans (PySem.W.mg_of X G a26)
  cases e
  have D0 : DeOk K mg d0 := de_ok X G d0 a0 l0 c0 k0 sc0 fun _ _ _ _ _ _ us hl => match us, hl with | [_, _], _ => rfl
  have D1 : DeOk K mg d1 := de_ok X G d1 a1 l1 c1 k1 sc1 fun _ _ _ _ _ _ us hl => match us, hl with | [_, _], _ => rfl
  have D2 : DeOk K mg d2 := de_ok X G d2 a2 l2 c2 k2 sc2 fun _ _ _ _ _ _ us hl => match us, hl with | [_, _], _ => rfl
  have D3 : DeOk K mg d3 := de_ok X G d3 a3 l3 c3 k3 sc3 fun _ _ _ _ _ _ us hl => match us, hl with | [_, _], _ => rfl
  have D4 : DeOk K mg d4 := de_ok X G d4 a4 l4 c4 k4 sc4 fun _ _ _ _ _ _ us hl => match us, hl with | [_, _], _ => rfl
  have D5 : DeOk K mg d5 := de_ok X G d5 a5 l5 c5 k5 sc5 fun _ _ _ _ _ _ us hl => match us, hl with | [_], _ => rfl
  have D6 : DeOk K mg d6 := de_ok X G d6 a6 l6 c6 k6 sc6 fun _ _ _ _ _ _ us hl => match us, hl with | [_, _], _ => rfl
  have D7 : DeOk K mg d7 := de_ok X G d7 a7 l7 c7 k7 sc7 fun _ _ _ _ _ _ us hl => match us, hl with | [_, _], _ => rfl
  have D8 : DeOk K mg d8 := de_ok X G d8 a8 l8 c8 k8 sc8 fun _ _ _ _ _ _ us hl => match us, hl with | [_, _], _ => rfl
  have D9 : DeOk K mg d9 := de_ok X G d9 a9 l9 c9 k9 sc9 fun _ _ _ _ _ _ us hl => match us, hl with | [_], _ => rfl
  have D10 : DeOk K mg d10 := de_ok X G d10 a10 l10 c10 k10 sc10 fun _ _ _ _ _ _ us hl => match us, hl with | [_], _ => rfl
  have D11 : DeOk K mg d11 := de_ok X G d11 a11 l11 c11 k11 sc11 fun _ _ _ _ _ _ us hl => match us, hl with | [_], _ => rfl
  have D12 : DeOk K mg d12 := de_ok X G d12 a12 l12 c12 k12 sc12 fun _ _ _ _ _ _ us hl => match us, hl with | [_], _ => rfl
  have D13 : DeOk K mg d13 := de_ok X G d13 a13 l13 c13 k13 sc13 fun _ _ _ _ _ _ us hl => match us, hl with | [_, _], _ => rfl
  have D14 : DeOk K mg d14 := de_ok X G d14 a14 l14 c14 k14 sc14 fun _ _ _ _ _ _ us hl => match us, hl with | [_, _, _], _ => rfl
  have D15 : DeOk K mg d15 := de_ok X G d15 a15 l15 c15 k15 sc15 fun _ _ _ _ _ _ us hl => match us, hl with | [_], _ => rfl
  have D16 : DeOk K mg d16 := de_ok X G d16 a16 l16 c16 k16 sc16 fun _ _ _ _ _ _ us hl => match us, hl with | [_, _], _ => rfl
  have D17 : DeOk K mg d17 := de_ok X G d17 a17 l17 c17 k17 sc17 fun _ _ _ _ _ _ us hl => match us, hl with | [_, _, _], _ => rfl
  have D18 : DeOk K mg d18 := de_ok X G d18 a18 l18 c18 k18 sc18 fun _ _ _ _ _ _ us hl => match us, hl with | [_, _], _ => rfl
  have D19 : DeOk K mg d19 := de_ok X G d19 a19 l19 c19 k19 sc19 fun _ _ _ _ _ _ us hl => match us, hl with | [_], _ => rfl
  have D20 : DeOk K mg d20 := de_ok X G d20 a20 l20 c20 k20 sc20 fun _ _ _ _ _ _ us hl => match us, hl with | [_, _], _ => rfl
  have D21 : DeOk K mg d21 := de_ok X G d21 a21 l21 c21 k21 sc21 fun _ _ _ _ _ _ us hl => match us, hl with | [_], _ => rfl
  have D22 : DeOk K mg d22 := de_ok X G d22 a22 l22 c22 k22 sc22 fun _ _ _ _ _ _ us hl => match us, hl with | [_, _], _ => rfl
  have D23 : DeOk K mg d23 := de_ok X G d23 a23 l23 c23 k23 sc23 fun _ _ _ _ _ _ us hl => match us, hl with | [_, _], _ => rfl
  have D24 : DeOk K mg d24 := de_ok X G d24 a24 l24 c24 k24 sc24 fun _ _ _ _ _ _ us hl => match us, hl with | [_, _, _], _ => rfl
  have D25 : DeOk K mg d25 := de_ok X G d25 a25 l25 c25 k25 sc25 fun _ _ _ _ _ _ us hl => match us, hl with | [_, _, _], _ => rfl
  have B : ∀ x ∈ bltNames, mg x = none := by
    intro x hx
    simp only [bltNames, List.mem_cons, List.not_mem_nil, or_false] at hx
    rcases hx with rfl | rfl | rfl | rfl | rfl | rfl | rfl | rfl | rfl | rfl | rfl | rfl
    · exact PySem.W.mg_none_of X G z0
    · exact PySem.W.mg_none_of X G z1
    · exact PySem.W.mg_none_of X G z2
    · exact PySem.W.mg_none_of X G z3
    · exact PySem.W.mg_none_of X G z4
    · exact PySem.W.mg_none_of X G z5
    · exact PySem.W.mg_none_of X G z6
    · exact PySem.W.mg_none_of X G z7
    · exact PySem.W.mg_none_of X G z8
    · exact PySem.W.mg_none_of X G z9
    · exact PySem.W.mg_none_of X G z10
    · exact PySem.W.mg_none_of X G z11
  have T : ∀ d ∈ defs, DeOk K mg d := by
    intro d hd
    simp only [defs, List.mem_cons, List.not_mem_nil, or_false] at hd
    rcases hd with rfl | rfl | rfl | rfl | rfl | rfl | rfl | rfl | rfl | rfl | rfl | rfl | rfl | rfl | rfl | rfl | rfl | rfl | rfl | rfl | rfl | rfl | rfl | rfl | rfl | rfl
    · exact D0
    · exact D1
    · exact D2
    · exact D3
    · exact D4
    · exact D5
    · exact D6
    · exact D7
    · exact D8
    · exact D9
    · exact D10
    · exact D11
    · exact D12
    · exact D13
    · exact D14
    · exact D15
    · exact D16
    · exact D17
    · exact D18
    · exact D19
    · exact D20
    · exact D21
    · exact D22
    · exact D23
    · exact D24
    · exact D25
  have FL := fun_mk (st := dL.st) l26 c26 k26
  exact ⟨_, fun s v => .of_eq rfl, fun base _ _ => law_fn 60 12 T B (d := dL) FL sc26 rfl pure_law⟩
end Mn.k21
open PySem PySem.W PyProof.Rows
set_option maxRecDepth 100000 in
set_option maxHeartbeats 0 in
theorem PySem.Challenge.cw_roothold_k21_sums_of_powers_of_products_holds : PySem.Challenge.rw_roothold_k21_sums_of_powers_of_products.Holds := by
  w_on; o_law; k_head; (case hw => w_witness2)
  k_fill
  refine Mn.law_walk (k := 13) (l := PySem.Challenge.rw_roothold_k21_sums_of_powers_of_products) rfl (by decide) rfl (fun w h Y => PySem.W.kIn_of Y) ?F
  case F =>
    intro w mg fa h KX G hmg
    refine' Mn.k21.all_mk KX G hmg ?a0 ?l0 ?c0 ?k0 ?a1 ?l1 ?c1 ?k1 ?a2 ?l2 ?c2 ?k2 ?a3 ?l3 ?c3 ?k3 ?a4 ?l4 ?c4 ?k4 ?a5 ?l5 ?c5 ?k5 ?a6 ?l6 ?c6 ?k6 ?a7 ?l7 ?c7 ?k7 ?a8 ?l8 ?c8 ?k8 ?a9 ?l9 ?c9 ?k9 ?a10 ?l10 ?c10 ?k10 ?a11 ?l11 ?c11 ?k11 ?a12 ?l12 ?c12 ?k12 ?a13 ?l13 ?c13 ?k13 ?a14 ?l14 ?c14 ?k14 ?a15 ?l15 ?c15 ?k15 ?a16 ?l16 ?c16 ?k16 ?a17 ?l17 ?c17 ?k17 ?a18 ?l18 ?c18 ?k18 ?a19 ?l19 ?c19 ?k19 ?a20 ?l20 ?c20 ?k20 ?a21 ?l21 ?c21 ?k21 ?a22 ?l22 ?c22 ?k22 ?a23 ?l23 ?c23 ?k23 ?a24 ?l24 ?c24 ?k24 ?a25 ?l25 ?c25 ?k25 ?a26 ?l26 ?c26 ?k26 ?z0 ?z1 ?z2 ?z3 ?z4 ?z5 ?z6 ?z7 ?z8 ?z9 ?z10 ?z11
    (case a0 => k_is)
    (case l0 => k_is)
    (case c0 => k_is)
    (case k0 => k_is)
    (case a1 => k_is)
    (case l1 => k_is)
    (case c1 => k_is)
    (case k1 => k_is)
    (case a2 => k_is)
    (case l2 => k_is)
    (case c2 => k_is)
    (case k2 => k_is)
    (case a3 => k_is)
    (case l3 => k_is)
    (case c3 => k_is)
    (case k3 => k_is)
    (case a4 => k_is)
    (case l4 => k_is)
    (case c4 => k_is)
    (case k4 => k_is)
    (case a5 => k_is)
    (case l5 => k_is)
    (case c5 => k_is)
    (case k5 => k_is)
    (case a6 => k_is)
    (case l6 => k_is)
    (case c6 => k_is)
    (case k6 => k_is)
    (case a7 => k_is)
    (case l7 => k_is)
    (case c7 => k_is)
    (case k7 => k_is)
    (case a8 => k_is)
    (case l8 => k_is)
    (case c8 => k_is)
    (case k8 => k_is)
    (case a9 => k_is)
    (case l9 => k_is)
    (case c9 => k_is)
    (case k9 => k_is)
    (case a10 => k_is)
    (case l10 => k_is)
    (case c10 => k_is)
    (case k10 => k_is)
    (case a11 => k_is)
    (case l11 => k_is)
    (case c11 => k_is)
    (case k11 => k_is)
    (case a12 => k_is)
    (case l12 => k_is)
    (case c12 => k_is)
    (case k12 => k_is)
    (case a13 => k_is)
    (case l13 => k_is)
    (case c13 => k_is)
    (case k13 => k_is)
    (case a14 => k_is)
    (case l14 => k_is)
    (case c14 => k_is)
    (case k14 => k_is)
    (case a15 => k_is)
    (case l15 => k_is)
    (case c15 => k_is)
    (case k15 => k_is)
    (case a16 => k_is)
    (case l16 => k_is)
    (case c16 => k_is)
    (case k16 => k_is)
    (case a17 => k_is)
    (case l17 => k_is)
    (case c17 => k_is)
    (case k17 => k_is)
    (case a18 => k_is)
    (case l18 => k_is)
    (case c18 => k_is)
    (case k18 => k_is)
    (case a19 => k_is)
    (case l19 => k_is)
    (case c19 => k_is)
    (case k19 => k_is)
    (case a20 => k_is)
    (case l20 => k_is)
    (case c20 => k_is)
    (case k20 => k_is)
    (case a21 => k_is)
    (case l21 => k_is)
    (case c21 => k_is)
    (case k21 => k_is)
    (case a22 => k_is)
    (case l22 => k_is)
    (case c22 => k_is)
    (case k22 => k_is)
    (case a23 => k_is)
    (case l23 => k_is)
    (case c23 => k_is)
    (case k23 => k_is)
    (case a24 => k_is)
    (case l24 => k_is)
    (case c24 => k_is)
    (case k24 => k_is)
    (case a25 => k_is)
    (case l25 => k_is)
    (case c25 => k_is)
    (case k25 => k_is)
    (case a26 => k_is)
    (case l26 => k_is)
    (case c26 => k_is)
    (case k26 => k_is)
    (case z0 => k_is)
    (case z1 => k_is)
    (case z2 => k_is)
    (case z3 => k_is)
    (case z4 => k_is)
    (case z5 => k_is)
    (case z6 => k_is)
    (case z7 => k_is)
    (case z8 => k_is)
    (case z9 => k_is)
    (case z10 => k_is)
    (case z11 => k_is)
