import PyProof.Rows.All
import Wide.All
import OpenK.AllK
import Wide.FinOn
import KE.DatumOrd
import KE.DataFind
import KE.SortData
import HandS.Base
import HandS.Call
import HandS.List
import HandS.Comp
import HandS.Ends
import HandS.Iter
import HandS.Words
import HandS.Exc
import HandS.ExcOwn
import HandS.CallSlots
import HandS.TryOnly
import HandS.TupAny
import HandS.TupLe
import HandS.Zip
import HandS.Wide
import HandS.WideBits
import HandS.IsInst
import HandS.Deep
import HandS.SortInts
import HandS.TupSets
import HandS.Lambda
import KE.GoesMore
import PyProof.ZipIter
import PyProof.CallType
import PyProof.Walk
import PyProof.WalkLemmas
import PyProof.TupleOfSeq
import HandS.RepeatKit
import HandS.Conv
import HandS.Star
import HandS.SortKw
import KE.KNest
import HandS.HeadHook4
import HandS.SortOrd
import PyProof.ReprRoads
import HandS.EndTab
import HandS.HeadWalk
import Lean
import HandS.Head0
import HandS.Head1
import HandS.Head2
import HandS.Head3
import HandS.HeadEnd
import PySem.Challenge.RW_lotbooks_k59_whole_covers_and_packings
set_option Elab.async false
set_option linter.all false
set_option maxRecDepth 100000
set_option exponentiation.threshold 5000
section
set_option maxHeartbeats 4000000
/-! PM, part A: a small interpreter for the part of Python that the laws use: data D, store M, own syntax, what it yields. No model in sight. -/
namespace PM
open PySem (Str)

inductive D where
  | non | bl (b : Bool) | int (i : Int) | str (x : Str) | tup (xs : List D) | lst (xs : List D) | ref (l : Nat) | fn (x : Str) | ty (n : String)
deriving Inhabited

mutual
/-- no store place, no def within -/
def D.pure : D → Bool
  | .tup xs => pureL xs
  | .lst xs => pureL xs
  | .ref _ => false
  | .fn _ => false
  | .ty _ => false
  | .non => true
  | .bl _ => true
  | .int _ => true
  | .str _ => true
def pureL : List D → Bool
  | [] => true
  | x :: xs => x.pure && pureL xs
end
@[simp] theorem pure_non : D.pure .non = true := by simp [D.pure]
@[simp] theorem pure_bl (b : Bool) : D.pure (.bl b) = true := by simp [D.pure]
@[simp] theorem pure_int (i : Int) : D.pure (.int i) = true := by simp [D.pure]
@[simp] theorem pure_str (x : Str) : D.pure (.str x) = true := by simp [D.pure]
@[simp] theorem pure_ref (l : Nat) : D.pure (.ref l) = false := by simp [D.pure]
@[simp] theorem pure_fn (x : Str) : D.pure (.fn x) = false := by simp [D.pure]
@[simp] theorem pure_ty (x : String) : D.pure (.ty x) = false := by simp [D.pure]
@[simp] theorem pure_tup (xs : List D) : D.pure (.tup xs) = pureL xs := by simp [D.pure]
@[simp] theorem pure_lst (xs : List D) : D.pure (.lst xs) = pureL xs := by simp [D.pure]
@[simp] theorem pureL_nil : pureL [] = true := by simp [pureL]
@[simp] theorem pureL_cons (x : D) (xs : List D) : pureL (x :: xs) = (x.pure && pureL xs) := by simp [pureL]
theorem pureL_all (xs : List D) : pureL xs = xs.all D.pure := by
  induction xs with
  | nil => simp
  | cons x xs ih => simp [ih]
theorem pureL_mem {xs : List D} : pureL xs = true ↔ ∀ x ∈ xs, x.pure = true := by rw [pureL_all]; exact List.all_eq_true
@[simp] theorem pureL_append (xs ys : List D) : pureL (xs ++ ys) = (pureL xs && pureL ys) := by simp only [pureL_all, List.all_append]
@[simp] theorem pureL_ints (xs : List Int) : pureL (xs.map D.int) = true := by
  rw [pureL_mem]; intro x hx; obtain ⟨i, _, rfl⟩ := List.mem_map.mp hx; simp

mutual
/-- == of Python -/
def D.eqv : D → D → Bool
  | .non, .non => true
  | .bl a, .bl b => a == b
  | .int a, .int b => a == b
  | .bl a, .int b => (if a then 1 else 0 : Int) == b
  | .int a, .bl b => a == (if b then 1 else 0 : Int)
  | .str a, .str b => a == b
  | .tup xs, .tup ys => eqvL xs ys
  | .lst xs, .lst ys => eqvL xs ys
  | _, _ => false
def eqvL : List D → List D → Bool
  | [], [] => true
  | x :: xs, y :: ys => x.eqv y && eqvL xs ys
  | _, _ => false
end

inductive Cell where
  | lst (xs : List D) | dct (kvs : List (D × D))
deriving Inhabited
abbrev M := List Cell
structure Ex where
  cls : Str
  val : Option D
deriving Inhabited

inductive Res (α : Type) where
  | ok (a : α) (m : M) | exc (x : Ex) (m : M) | bad
deriving Inhabited
def Res.bind {α β : Type} : Res α → (α → M → Res β) → Res β
  | .ok a m, f => f a m
  | .exc x m, _ => .exc x m
  | .bad, _ => .bad
@[simp] theorem Res.bind_ok {α β : Type} (a : α) (m : M) (f : α → M → Res β) : (Res.ok a m).bind f = f a m := rfl
@[simp] theorem Res.bind_exc {α β : Type} (x : Ex) (m : M) (f : α → M → Res β) : (Res.exc x m).bind f = .exc x m := rfl
@[simp] theorem Res.bind_bad {α β : Type} (f : α → M → Res β) : (Res.bad : Res α).bind f = .bad := rfl
def Res.nox {α : Type} : Res α → Res α
  | .exc _ _ => .bad
  | r => r
@[simp] theorem Res.nox_ok {α : Type} (a : α) (m : M) : (Res.ok a m).nox = .ok a m := rfl

abbrev Env := List (Option D)
def get (ρ : Env) (i : Nat) : Option D := (ρ[i]?).join
inductive ResS where
  | nx (ρ : Env) (m : M) | ret (d : D) (m : M) | brk (ρ : Env) (m : M) | cont (ρ : Env) (m : M) | exc (x : Ex) (ρ : Env) (m : M) | bad
deriving Inhabited

/-- what an operation gives: a value; a new list, a new tuple -/
inductive Raw where
  | val (d : D) | lst (xs : List D) | tup (xs : List D) | bad
deriving Inhabited
abbrev cap : Nat := 16777216
def Raw.out (c : Bool) : Raw → M → Res D
  | .val d, m => .ok d m
  | .lst xs, m => if xs.length ≤ cap then (if c then (if pureL xs then .ok (.ref m.length) (m ++ [.lst xs]) else .bad) else .ok (.lst xs) m) else .bad
  | .tup xs, m => if xs.length ≤ cap then .ok (.tup xs) m else .bad
  | .bad, _ => .bad

/-! ### own syntax -/
inductive BOp where
  | add | sub | mul | fdiv | mod | pow | shl | bxor | bor
deriving DecidableEq, Inhabited
inductive COp where
  | eq | ne | lt | le | gt | ge | is | isNot | inn | notIn
deriving DecidableEq, Inhabited
inductive Pr where
  | len | tuple | list | all | any | sum | max | min | abs | divmod | isinst | repr | sorted | int
deriving DecidableEq, Inhabited
mutual
inductive E where
  | v (i : Nat) | c (d : D) | g (x : Str) (d : D) | f (x : Str) | t (x : Str) (n : String)
  | tup (es : Es) | lst (c : Bool) (es : Es)
  | bin (op : BOp) (c : Bool) (a b : E) | neg (a : E) | not (a : E)
  | cmp (op : COp) (a b : E) | chain (o1 o2 : COp) (a b c : E)
  | and (a b : E) | or (a b : E) | ite (c a b : E)
  | ix (a i : E) | sl (c : Bool) (a : E) (lo hi : Eo)
  | comp (c : Bool) (own : List (Str × Nat)) (t : Tg) (it : It) (p : Eo) (e : E)
  | call (x : Str) (es : Es) | callK (x : Str) (es : Es) (ks : List Str) (vs : Es)
  | callL (x : Str) (e : E) (ps : List Nat) (b : E) | callC (i : Nat) (es : Es)
  | prim (p : Pr) (c : Bool) (es : Es) | sset (c : Bool) (e : E) | lrng (c : Bool) (e : E) | trng (e : E) | lset (e : E)
  | dsp (tup c : Bool) (ds : Eds) | mm (mx : Bool) (e d : E) | callV (i : Nat) (es : Es)
  | comp2 (c : Bool) (own : List (Str × Nat)) (t : Tg) (it : It) (p : Eo) (t1 : Tg) (it1 : It) (p1 : Eo) (e : E)
  | rep (es : Es) (k : E) | cnt (o e : E) | bad
inductive Es where
  | nil | cons (e : E) (r : Es)
inductive Eds where
  | nil | cons (e : E) (r : Eds) | star (e : E) (r : Eds)
inductive Eo where
  | no | yes (e : E)
inductive It where
  | seq (e : E) | rng (es : Es) | enum (e : E) | zip (a b : E) | comb (a k : E)
inductive Tg where
  | n (i : Nat) | sub (o i : E) | t (ts : Tgs)
inductive Tgs where
  | nil | cons (t : Tg) (r : Tgs)
end
mutual
inductive S where
  | set (t : Tg) (e : E) | par (ts : List Nat) (es : Es) | ex (e : E) | ret (e : E) | retN
  | ite (c : E) (a b : Ss) | for_ (t : Tg) (it : It) (b : Ss) | wh (n : Nat) (c : E) (b : Ss) | forR (n : Nat) (t : Tg) (e : E) (b : Ss) | brk | pass | append (l e : E) | extend (l e : E) | raise (x : Str) (e : Es) | bad
inductive Ss where
  | nil | cons (s : S) (r : Ss) | kill (is : List Nat) (r : Ss)
end
mutual
/-- the names of a target -/
def tgN : Tg → List Nat
  | .n i => [i]
  | .sub _ _ => []
  | .t ts => tgsN ts
def tgsN : Tgs → List Nat
  | .nil => []
  | .cons t r => tgN t ++ tgsN r
end
instance : Inhabited E := ⟨.c .non⟩
instance : Inhabited S := ⟨.pass⟩
instance : Inhabited Ss := ⟨.nil⟩

/-- a lambda made: what it gives -/
abbrev Clo := List D → M → Res D
/-- what a body may lean on: the defs -/
structure Fns where
  ps : Str → Option (List Str)
  call : Str → List D → M → Res D
  lam : Str → List D → Clo → M → Res D

/-! ### operations on values -/
def items (d : D) (m : M) : Option (List D) := match d with
  | .lst xs => some xs
  | .ref l => (match m[l]? with
    | some (.lst xs) => some xs
    | _ => none)
  | _ => none
@[simp] theorem items_lst (xs : List D) (m : M) : items (.lst xs) m = some xs := rfl
/-- a list or a tuple -/
def seqOf (d : D) (m : M) : Option (List D) := match d with
  | .tup xs => some xs
  | d => items d m
@[simp] theorem seqOf_tup (xs : List D) (m : M) : seqOf (.tup xs) m = some xs := rfl
@[simp] theorem seqOf_lst (xs : List D) (m : M) : seqOf (.lst xs) m = some xs := rfl
/-- store lists read as they stand -/
def deref (d : D) (m : M) : D := match items d m with
  | some xs => .lst xs
  | none => d
@[simp] theorem deref_int (i : Int) (m : M) : deref (.int i) m = .int i := rfl
@[simp] theorem deref_bl (i : Bool) (m : M) : deref (.bl i) m = .bl i := rfl
@[simp] theorem deref_str (i : Str) (m : M) : deref (.str i) m = .str i := rfl
@[simp] theorem deref_non (m : M) : deref .non m = .non := rfl
@[simp] theorem deref_tup (xs : List D) (m : M) : deref (.tup xs) m = .tup xs := rfl
@[simp] theorem deref_lst (xs : List D) (m : M) : deref (.lst xs) m = .lst xs := rfl
def asInt : D → Option Int
  | .int i => some i
  | _ => none
def asInts : List D → Option (List Int)
  | [] => some []
  | d :: ds => match asInt d, asInts ds with
    | some i, some is => some (i :: is)
    | _, _ => none
@[simp] theorem asInts_map (xs : List Int) : asInts (xs.map D.int) = some xs := by
  induction xs with
  | nil => rfl
  | cons x xs ih => simp [asInts, asInt, ih]
@[simp] theorem asInts_nil : asInts [] = some [] := rfl
def asBls : List D → Option (List Bool)
  | [] => some []
  | .bl b :: ds => match asBls ds with
    | some bs => some (b :: bs)
    | none => none
  | _ :: _ => none
@[simp] theorem asBls_map (xs : List Bool) : asBls (xs.map D.bl) = some xs := by
  induction xs with
  | nil => rfl
  | cons x xs ih => simp [asBls, ih]
def lexLt : List Int → List Int → Bool
  | [], [] => false
  | [], _ :: _ => true
  | _ :: _, [] => false
  | x :: xs, y :: ys => if x = y then lexLt xs ys else decide (x < y)
/-- data of a bounded depth, texts of real signs -/
def okd : Nat → D → Bool
  | _, .non => true
  | _, .bl _ => true
  | _, .int _ => true
  | _, .str x => x.cps.all fun c => decide (c < 0x110000)
  | n + 1, .tup xs => xs.all (okd n)
  | n + 1, .lst xs => xs.all (okd n)
  | _, _ => false
def ok8 (d : D) : Bool := okd 8 d
@[simp] theorem okd_non (n : Nat) : okd n .non = true := by cases n <;> rfl
@[simp] theorem okd_bl (n : Nat) (b : Bool) : okd n (.bl b) = true := by cases n <;> rfl
@[simp] theorem okd_int (n : Nat) (i : Int) : okd n (.int i) = true := by cases n <;> rfl
@[simp] theorem okd_tup (n : Nat) (xs : List D) : okd (n + 1) (.tup xs) = xs.all (okd n) := rfl
@[simp] theorem okd_lst (n : Nat) (xs : List D) : okd (n + 1) (.lst xs) = xs.all (okd n) := rfl
mutual
def D.py : D → PySem.PyData
  | .non => .none
  | .bl b => .bool b
  | .int i => .int i
  | .str x => .str x
  | .tup xs => .tuple (pyL xs)
  | .lst xs => .list (pyL xs)
  | _ => .none
def pyL : List D → List PySem.PyData
  | [] => []
  | x :: xs => x.py :: pyL xs
end
/-- data that can be told apart by <, one beside the other -/
def alkB (x y : D) : Bool := ok8 x && (ok8 y && (PySem.W.alike x.py y.py && match x with
  | .non => false
  | _ => true))
/-- < of alike data -/
def ltA (x y : D) : Bool := PySem.W.dataLt x.py y.py
def ltG (x y : D) : Option Bool := if alkB x y then some (ltA x y) else none
/-- < of ints, of tuples of ints, of alike data -/
def ltD : D → D → Option Bool
  | .int a, .int b => some (decide (a < b))
  | .tup xs, .tup ys => match asInts xs, asInts ys with
    | some a, some b => some (lexLt a b)
    | _, _ => ltG (.tup xs) (.tup ys)
  | x, y => ltG x y
@[simp] theorem ltD_int (a b : Int) : ltD (.int a) (.int b) = some (decide (a < b)) := rfl
@[simp] theorem ltD_tup (a b : List Int) : ltD (.tup (a.map .int)) (.tup (b.map .int)) = some (lexLt a b) := by simp [ltD]
def bop (op : BOp) (x y : D) (m : M) : Raw := match op, x, y with
  | .add, .int i, .int j => .val (.int (i + j))
  | .sub, .int i, .int j => .val (.int (i - j))
  | .mul, .int i, .int j => if (i.natAbs < 2 ^ 4000 ∧ j.natAbs < 2 ^ 4000) ∨ i.natAbs < 2 ^ 63 ∨ j.natAbs < 2 ^ 63 then .val (.int (i * j)) else .bad
  | .fdiv, .int i, .int j => if 0 < j ∧ j.natAbs < 2 ^ 4000 then .val (.int (i / j)) else .bad
  | .mod, .int i, .int j => if 0 < j then .val (.int (i % j)) else .bad
  | .pow, .int i, .int j => if 0 ≤ j ∧ j ≤ 1000000 ∧ i.natAbs < 2 ^ 64 then .val (.int (i ^ j.toNat)) else .bad
  | .shl, .int i, .int j => if 0 ≤ j ∧ j ≤ 1000000 ∧ i.natAbs < 2 ^ 64 then .val (.int (i * 2 ^ j.toNat)) else .bad
  | .bor, .int i, .int j => .val (.int (PySem.Builtin.bitOr i j))
  | .add, .tup xs, .tup ys => .tup (xs ++ ys)
  | .add, a, b => (match items a m, items b m with
    | some xs, some ys => .lst (xs ++ ys)
    | _, _ => .bad)
  | _, _, _ => .bad
/-- two texts -/
def txt2 : D → D → Option Bool
  | .str a, .str b => some (decide (a = b))
  | _, _ => none
def cop (op : COp) (x y : D) (m : M) : Option Bool := match op with
  | .eq => (match txt2 x y with
    | some b => some b
    | none => if ok8 (deref x m) && ok8 (deref y m) then some ((deref x m).eqv (deref y m)) else none)
  | .ne => (match txt2 x y with
    | some b => some (!b)
    | none => if ok8 (deref x m) && ok8 (deref y m) then some (!(deref x m).eqv (deref y m)) else none)
  | .lt => ltD x y
  | .gt => (match x, y with
    | .int a, .int b => some (decide (b < a))
    | x, y => if alkB x y then some (ltA y x) else none)
  | .le => (match x, y with
    | .int a, .int b => some (decide (a ≤ b))
    | x, y => if alkB x y then some (!ltA y x) else none)
  | .ge => (match x, y with
    | .int a, .int b => some (decide (b ≤ a))
    | x, y => if alkB x y then some (!ltA x y) else none)
  | .is => (match y with
    | .non => (match x with
      | .non => some true
      | _ => some false)
    | .bl b => (match x with
      | .bl a => some (decide (a = b))
      | _ => none)
    | _ => none)
  | .isNot => (match y with
    | .non => (match x with
      | .non => some false
      | _ => some true)
    | .bl b => (match x with
      | .bl a => some (!decide (a = b))
      | _ => none)
    | _ => none)
  | .inn => (match seqOf y m with
    | some ys => if ok8 (deref x m) && ys.all ok8 then some (ys.any fun z => z.eqv (deref x m)) else none
    | none => none)
  | .notIn => (match seqOf y m with
    | some ys => if ok8 (deref x m) && ys.all ok8 then some (!ys.any fun z => z.eqv (deref x m)) else none
    | none => none)
def ixN (n : Nat) (i : Int) : Option Nat := if 0 ≤ i then (if i < n then some i.toNat else none) else if -(n : Int) ≤ i then some (i + n).toNat else none
def ixD (a i : D) (m : M) : Option D := match i with
  | .int k => (match seqOf a m with
    | some xs => (ixN xs.length k).bind fun j => xs[j]?
    | none => none)
  | _ => none
def sIx (n d : Nat) : Option Int → Nat
  | none => d
  | some v => if v < 0 then ((v + n).toNat) else min v.toNat n
def cut {α : Type} (xs : List α) (lo hi : Option Int) : List α := (xs.drop (sIx xs.length 0 lo)).take (sIx xs.length xs.length hi - sIx xs.length 0 lo)
def slD (a : D) (lo hi : Option Int) (m : M) : Raw := match a with
  | .tup xs => .tup (cut xs lo hi)
  | a => (match items a m with
    | some xs => .lst (cut xs lo hi)
    | none => .bad)
def partD : Option D → Option (Option Int)
  | none => some none
  | some (.int i) => some (some i)
  | _ => none
/-- the kinds that isinstance asks for -/
def tyOf (d : D) : Option String := match d with
  | .non => some "NoneType"
  | .bl _ => some "bool"
  | .int _ => some "int"
  | .str _ => some "str"
  | .tup _ => some "tuple"
  | .lst _ => some "list"
  | .ref _ => none
  | .fn _ => none
  | .ty _ => none
def isTy (t n : String) : Bool := t == n || (t == "bool" && n == "int")
/-- insertion by <, stable -/
def insD (le : D → D → Bool) (x : D) : List D → List D
  | [] => [x]
  | y :: ys => if le x y then x :: y :: ys else y :: insD le x ys
def lot? : D → Option (List Int)
  | .tup xs => asInts xs
  | _ => none
def lots? : List D → Option (List (List Int))
  | [] => some []
  | d :: ds => match lot? d, lots? ds with
    | some i, some is => some (i :: is)
    | _, _ => none
def lotD (l : List Int) : D := .tup (l.map .int)
@[simp] theorem lot_lotD (l : List Int) : lot? (lotD l) = some l := by simp [lot?, lotD]
@[simp] theorem lots_map (ls : List (List Int)) : lots? (ls.map lotD) = some ls := by
  induction ls with
  | nil => rfl
  | cons x xs ih => simp [lots?, ih]
/-- the lots in order -/
def lexLe (a b : List Int) : Bool := !lexLt b a
def sortLots (ls : List (List Int)) : List (List Int) := ls.mergeSort lexLe
def dedup : List (List Int) → List (List Int)
  | [] => []
  | x :: xs => if x ∈ xs then dedup xs else x :: dedup xs
def mmL (mx : Bool) (l : List Int) (ls : List (List Int)) : List Int := ls.foldl (fun a y => if mx then (if lexLt a y then y else a) else (if lexLt y a then y else a)) l
def insZ (x : Int) : List Int → List Int
  | [] => [x]
  | y :: ys => if x ≤ y then x :: y :: ys else y :: insZ x ys
def sortZ (xs : List Int) : List Int := xs.foldr insZ []
def dedZ (xs : List Int) : List Int := xs.foldl (fun a x => if x ∈ a then a else a ++ [x]) []
def mmI (mx : Bool) (i : Int) (is : List Int) : Int := is.foldl (fun a y => if mx then (if a < y then y else a) else (if y < a then y else a)) i
theorem mmI_max : ∀ (is : List Int) (i : Int), (mmI true i is = i ∨ mmI true i is ∈ is) ∧ i ≤ mmI true i is ∧ ∀ x ∈ is, x ≤ mmI true i is
  | [], i => ⟨.inl rfl, Int.le_refl _, by simp⟩
  | y :: is, i => by
    have e : mmI true i (y :: is) = mmI true (if i < y then y else i) is := by simp [mmI]
    obtain ⟨h1, h2, h3⟩ := mmI_max is (if i < y then y else i)
    rw [e]
    refine ⟨?_, ?_, fun x hx => ?_⟩
    · rcases h1 with h1 | h1
      · rw [h1]; split <;> simp
      · exact .inr (List.mem_cons_of_mem _ h1)
    · refine Int.le_trans ?_ h2; split <;> omega
    · rcases List.mem_cons.mp hx with rfl | hx
      · refine Int.le_trans ?_ h2; split <;> omega
      · exact h3 x hx
theorem mmI_min : ∀ (is : List Int) (i : Int), (mmI false i is = i ∨ mmI false i is ∈ is) ∧ mmI false i is ≤ i ∧ ∀ x ∈ is, mmI false i is ≤ x
  | [], i => ⟨.inl rfl, Int.le_refl _, by simp⟩
  | y :: is, i => by
    have e : mmI false i (y :: is) = mmI false (if y < i then y else i) is := by simp [mmI]
    obtain ⟨h1, h2, h3⟩ := mmI_min is (if y < i then y else i)
    rw [e]
    refine ⟨?_, ?_, fun x hx => ?_⟩
    · rcases h1 with h1 | h1
      · rw [h1]; split <;> simp
      · exact .inr (List.mem_cons_of_mem _ h1)
    · refine Int.le_trans h2 ?_; split <;> omega
    · rcases List.mem_cons.mp hx with rfl | hx
      · refine Int.le_trans h2 ?_; split <;> omega
      · exact h3 x hx
/-- max, min of a list that is not empty: of ints, of lots -/
def mmG (mx : Bool) (d : D) (ds : List D) : D := ds.foldl (fun a y => if mx then (if ltA a y then y else a) else (if ltA y a then y else a)) d
/-- alike, all of them -/
def alkA (ds : List D) : Bool := ds.all fun x => ds.all fun y => alkB x y
def mmB (mx : Bool) (x : D) (m : M) : Option D := (seqOf x m).bind fun ds => match asInts ds with
  | some (i :: is) => some (.int (mmI mx i is))
  | some [] => none
  | none => match lots? ds with
    | some (l :: ls) => some (lotD (mmL mx l ls))
    | some [] => none
    | none => match ds with
      | d :: ds => if alkA (d :: ds) then some (mmG mx d ds) else none
      | [] => none
/-- sorted(..) asks this of alike data -/
def srtB (ds : List D) : Bool := alkA ds && ((ds.all fun d => match d with
  | .tup (_ :: _) => true
  | _ => false) || ds.all fun d => match d with
  | .tup _ => false
  | _ => true)
/-- alike data in order -/
def sortA (ds : List D) : List D := ds.mergeSort fun x y => !ltA y x
/-- how many are equal to it -/
def cntD (x y : D) (m : M) : Option Int := (items x m).bind fun ds => if ds.all ok8 && ok8 y then some ((ds.countP fun z => z.eqv y : Nat) : Int) else none
/-- what can be shown -/
def shB (d : D) : Bool := d.pure && (d.py.showable && (decide (d.py.depth ≤ 60) && decide (d.py.shown.length ≤ cap)))
def prim (p : Pr) (ds : List D) (m : M) : Raw := match p, ds with
  | .len, [d] => (match seqOf d m with
    | some xs => .val (.int xs.length)
    | none => .bad)
  | .tuple, [.tup xs] => .val (.tup xs)
  | .tuple, [d] => (match items d m with
    | some xs => .tup xs
    | none => .bad)
  | .list, [d] => (match seqOf d m with
    | some xs => .lst xs
    | none => .bad)
  | .all, [d] => (match (items d m).bind asBls with
    | some bs => .val (.bl (bs.all id))
    | none => .bad)
  | .any, [d] => (match (items d m).bind asBls with
    | some bs => .val (.bl (bs.any id))
    | none => .bad)
  | .sum, [d] => (match (items d m).bind asInts with
    | some is => .val (.int is.sum)
    | none => .bad)
  | .max, [.int i, .int j] => .val (.int (if j > i then j else i))
  | .min, [.int i, .int j] => .val (.int (if j < i then j else i))
  | .max, [d] => (match mmB true d m with
    | some z => .val z
    | none => .bad)
  | .min, [d] => (match mmB false d m with
    | some z => .val z
    | none => .bad)
  | .abs, [.int i] => .val (.int (if i < 0 then -i else i))
  | .int, [.int i] => .val (.int i)
  | .int, [.bl b] => .val (.int (if b then 1 else 0))
  | .divmod, [.int i, .int j] => if 0 < j ∧ j < 1073741824 then .tup [.int (i / j), .int (i % j)] else .bad
  | .isinst, [d, .ty n] => (match tyOf d with
    | some t => if n ∈ ["int", "bool", "str", "tuple", "list"] then .val (.bl (isTy t n)) else .bad
    | none => .bad)
  | .repr, [d] => if shB (deref d m) then .val (.str (deref d m).py.shown) else .bad
  | .sorted, [d] => (match (items d m).bind lots? with
    | some ls => .lst ((sortLots ls).map lotD)
    | none => (match (items d m).bind asInts with
      | some is => if is.length < 64 then .lst ((sortZ is).map .int) else .bad
      | none => (match items d m with
        | some xs => if srtB xs then .lst (sortA xs) else .bad
        | none => .bad)))
  | _, _ => .bad

def allSome {α : Type} : List (Option α) → Option (List α)
  | [] => some []
  | some a :: r => (allSome r).map (a :: ·)
  | none :: _ => none
/-- positional ones first, the others by their names -/
def bindP {α : Type} (ps : List Str) (ds : List α) (kws : List (Str × α)) : Option (List α) :=
  if ds.length + kws.length = ps.length then (allSome ((ps.drop ds.length).map fun x => kws.lookup x)).map (ds ++ ·) else none
/-! ### the evaluator -/
def setMany (ρ : Env) : List Nat → List D → Option Env
  | [], [] => some ρ
  | i :: is, d :: ds => setMany (ρ.set i (some d)) is ds
  | _, _ => none
def wipe (ρ : Env) : List Nat → Env
  | [] => ρ
  | i :: is => (wipe ρ is).set i none
def compL (bt : D → M → Res Env) (cnd : Env → M → Res Bool) (elt : Env → M → Res D) : List D → M → Res (List D)
  | [], m => .ok [] m
  | d :: ds, m => (bt d m).bind fun ρ m => (cnd ρ m).bind fun b m =>
      if b then (elt ρ m).bind fun y m => (compL bt cnd elt ds m).bind fun ys m => .ok (y :: ys) m
      else compL bt cnd elt ds m
/-- two clauses: what the inner one gives, one after the other -/
def compF (bt : D → M → Res Env) (cnd : Env → M → Res Bool) (inner : Env → M → Res (List D)) : List D → M → Res (List D)
  | [], m => .ok [] m
  | d :: ds, m => (bt d m).bind fun ρ m => (cnd ρ m).bind fun b m =>
      if b then (inner ρ m).bind fun ys m => (compF bt cnd inner ds m).bind fun zs m => .ok (ys ++ zs) m
      else compF bt cnd inner ds m
/-- max(xs, default=y), min(xs, default=y), xs of ints -/
def mmD (mx : Bool) (x y : D) (m : M) : Option D := match items x m with
  | some [] => some y
  | some (_ :: _) => mmB mx x m
  | none => none
def boolOf : D → M → Res Bool
  | .bl b, m => .ok b m
  | _, _ => .bad
@[simp] theorem boolOf_bl (b : Bool) (m : M) : boolOf (.bl b) m = .ok b m := rfl
def opt {α : Type} : Option α → M → Res α
  | some a, m => .ok a m
  | none, _ => .bad
@[simp] theorem opt_some {α : Type} (a : α) (m : M) : opt (some a) m = .ok a m := rfl
@[simp] theorem opt_none {α : Type} (m : M) : opt (none : Option α) m = .bad := rfl
def rngL (lo hi : Int) : List D := (List.range (hi - lo).toNat).map fun (i : Nat) => D.int (lo + (i : Int))
def enumL : Nat → List D → List D
  | _, [] => []
  | i, x :: xs => .tup [.int i, x] :: enumL (i + 1) xs
def zipL : List D → List D → List D
  | x :: xs, y :: ys => .tup [x, y] :: zipL xs ys
  | _, _ => []
def rngOf : List D → Option (List D)
  | [.int j] => if -(2 ^ 62) ≤ j ∧ j < 2 ^ 62 then some (rngL 0 j) else none
  | [.int i, .int j] => if (-(2 ^ 62) ≤ i ∧ i < 2 ^ 62) ∧ (-(2 ^ 62) ≤ j ∧ j < 2 ^ 62) then some (rngL i j) else none
  | _ => none
/-- k places of n, one after the other: the last place that can still be raised; the places behind it -/
def raisable (n : Nat) (idx : List Nat) : Option Nat := (List.range idx.length).reverse.find? fun i => idx.getD i 0 != i + n - idx.length
def nextC (n : Nat) (idx : List Nat) : Option (List Nat) := match raisable n idx with
  | none => none
  | some i => some (idx.take i ++ (List.range (idx.length - i)).map fun j => idx.getD i 0 + 1 + j)
def runC (n : Nat) : Nat → List Nat → Option (List (List Nat))
  | 0, _ => none
  | f + 1, idx => match nextC n idx with
    | none => some [idx]
    | some j => (runC n f j).map (idx :: ·)
def combI (n k : Nat) : Option (List (List Nat)) := if k > n then some [] else runC n 5000 (List.range k)
def combK (n k : Nat) : Option (List (List Nat)) := (combI n k).bind fun ls => if ls.all fun a => decide (a.length ≤ 1000) && a.all fun j => decide (j < n) then some ls else none
def combD (xs : List D) (i : Int) : Option (List D) := if 0 ≤ i ∧ i ≤ 1000 then (combK xs.length i.toNat).map fun ls => ls.map fun idx => .tup (idx.map fun j => xs.getD j .non) else none
def putL (o i d : D) (m : M) : Option M := match o, i with
  | .ref l, .int k => (match m[l]? with
    | some (.lst xs) => (match ixN xs.length k with
      | some j => if d.pure then some (m.set l (.lst (xs.set j d))) else none
      | none => none)
    | _ => none)
  | _, _ => none
section
variable (F : Fns) (cl : Option (Nat × Clo))
mutual
def ev : E → Env → M → Res D
  | .v i, ρ, m => opt (get ρ i) m
  | .c d, _, m => .ok d m
  | .g _ d, _, m => .ok d m
  | .f x, _, m => .ok (.fn x) m
  | .t _ n, _, m => .ok (.ty n) m
  | .tup es, ρ, m => (evs es ρ m).bind fun ds m => (Raw.tup ds).out false m
  | .lst c es, ρ, m => (evs es ρ m).bind fun ds m => (Raw.lst ds).out c m
  | .bin op c a b, ρ, m => (ev a ρ m).bind fun x m => (ev b ρ m).bind fun y m => (bop op x y m).out c m
  | .neg a, ρ, m => (ev a ρ m).bind fun x m => (match x with
    | .int i => .ok (.int (-i)) m
    | _ => .bad)
  | .not a, ρ, m => (ev a ρ m).bind fun x m => (boolOf x m).bind fun b m => .ok (.bl (!b)) m
  | .cmp op a b, ρ, m => (ev a ρ m).bind fun x m => (ev b ρ m).bind fun y m => (opt (cop op x y m) m).bind fun b m => .ok (.bl b) m
  | .chain o1 o2 a b c, ρ, m => (ev a ρ m).bind fun x m => (ev b ρ m).bind fun y m => (opt (cop o1 x y m) m).bind fun k m =>
      if k then (ev c ρ m).bind fun z m => (opt (cop o2 y z m) m).bind fun b m => .ok (.bl b) m else .ok (.bl false) m
  | .and a b, ρ, m => (ev a ρ m).bind fun x m => (boolOf x m).bind fun k m => if k then ev b ρ m else .ok (.bl false) m
  | .or a b, ρ, m => (ev a ρ m).bind fun x m => (boolOf x m).bind fun k m => if k then .ok (.bl true) m else ev b ρ m
  | .ite c a b, ρ, m => (ev c ρ m).bind fun x m => (boolOf x m).bind fun k m => if k then ev a ρ m else ev b ρ m
  | .ix a i, ρ, m => (ev a ρ m).bind fun x m => (ev i ρ m).bind fun y m => opt (ixD x y m) m
  | .sl c a lo hi, ρ, m => (ev a ρ m).bind fun x m => (evo lo ρ m).bind fun l m => (opt (partD l) m).bind fun l m => (evo hi ρ m).bind fun h m => (opt (partD h) m).bind fun h m => (slD x l h m).out c m
  | .comp c own t it p e, ρ, m => (evi it ρ m).bind fun ds m => if ds.length ≤ cap then
      (compL (fun d m => bt t d (wipe ρ (own.map (·.2))) m) (fun ρ m => match p with
        | .no => .ok true m
        | .yes p => (ev p ρ m).bind boolOf) (fun ρ m => ev e ρ m) ds m).nox.bind fun ys m => (Raw.lst ys).out c m
      else .bad
  | .call x es, ρ, m => (evs es ρ m).bind fun ds m => F.call x ds m
  | .callK x es ks vs, ρ, m => (evs es ρ m).bind fun ds m => (evs vs ρ m).bind fun ws m => (opt ((F.ps x).bind fun ps => bindP ps ds (ks.zip ws)) m).bind fun as m => F.call x as m
  | .callL x e ps b, ρ, m => (ev e ρ m).bind fun d m => (F.lam x [d] (fun as m => match setMany ρ ps as with
    | some ρ' => ev b ρ' m
    | none => .bad) m).nox
  | .callC i es, ρ, m => (evs es ρ m).bind fun ds m => (match cl with
    | some (j, c) => if i = j then (c ds m).nox else .bad
    | none => .bad)
  | .prim p c es, ρ, m => (evs es ρ m).bind fun ds m => (prim p ds m).out c m
  | .sset c e, ρ, m => (ev e ρ m).bind fun d m => (match (items d m).bind lots? with
    | some ls => if ls.length < 64 then (Raw.lst ((sortLots (dedup ls)).map lotD)).out c m else .bad
    | none => .bad)
  | .lrng c e, ρ, m => (ev e ρ m).bind fun d m => (opt (rngOf [d]) m).bind fun xs m => (Raw.lst xs).out c m
  | .lset e, ρ, m => (ev e ρ m).bind fun d m => (match (items d m).bind asInts with
    | some is => if is.length < 64 then .ok (.int ((dedZ is).length : Nat)) m else .bad
    | none => (match (items d m).bind lots? with
      | some ls => if ls.length < 64 then .ok (.int ((dedup ls).length : Nat)) m else .bad
      | none => .bad))
  | .rep es k, ρ, m => (evs es ρ m).bind fun ds m => if ds.length ≤ cap then (ev k ρ m).bind fun y m => (match y with
    | .int j => if -(2 ^ 62) ≤ j ∧ j < 2 ^ 62 ∧ ds.length * j.toNat ≤ cap then (Raw.lst (List.replicate j.toNat ds).flatten).out false m else .bad
    | _ => .bad) else .bad
  | .cnt o e, ρ, m => (ev o ρ m).bind fun x m => (match items x m with
    | some _ => (ev e ρ m).bind fun y m => (opt (cntD x y m) m).bind fun i m => .ok (.int i) m
    | none => .bad)
  | .bad, _, _ => .bad
  | .trng e, ρ, m => (ev e ρ m).bind fun d m => (opt (rngOf [d]) m).bind fun xs m => (Raw.tup xs).out false m
  | .dsp tup c ds, ρ, m => (evd ds ρ m).bind fun xs m => if tup then (Raw.tup xs).out false m else (Raw.lst xs).out c m
  | .mm mx e d, ρ, m => (ev e ρ m).bind fun x m => (ev d ρ m).bind fun y m => opt (mmD mx x y m) m
  | .callV i es, ρ, m => (match get ρ i with
    | some (.fn x) => if (F.ps x).isSome then (evs es ρ m).bind fun ds m => F.call x ds m else .bad
    | _ => .bad)
  | .comp2 c own t it p t1 it1 p1 e, ρ, m => (evi it ρ m).bind fun ds m => if ds.length ≤ cap then
      (compF (fun d m => bt t d (wipe ρ (own.map (·.2))) m) (fun ρ m => match p with
        | .no => .ok true m
        | .yes p => (ev p ρ m).bind boolOf) (fun ρ m => (evi it1 ρ m).bind fun es m => if es.length ≤ cap then
          compL (fun d m => bt t1 d (wipe ρ (tgN t1)) m) (fun ρ m => match p1 with
            | .no => .ok true m
            | .yes p => (ev p ρ m).bind boolOf) (fun ρ m => ev e ρ m) es m else .bad) ds m).nox.bind fun ys m => (Raw.lst ys).out c m
      else .bad
def evs : Es → Env → M → Res (List D)
  | .nil, _, m => .ok [] m
  | .cons e r, ρ, m => (ev e ρ m).bind fun d m => (evs r ρ m).bind fun ds m => .ok (d :: ds) m
def evd : Eds → Env → M → Res (List D)
  | .nil, _, m => .ok [] m
  | .cons e r, ρ, m => (ev e ρ m).bind fun d m => (evd r ρ m).bind fun ds m => .ok (d :: ds) m
  | .star e r, ρ, m => (ev e ρ m).bind fun d m => (opt (seqOf d m) m).bind fun xs m => (evd r ρ m).bind fun ds m => .ok (xs ++ ds) m
def evo : Eo → Env → M → Res (Option D)
  | .no, _, m => .ok none m
  | .yes e, ρ, m => (ev e ρ m).bind fun d m => .ok (some d) m
def evi : It → Env → M → Res (List D)
  | .seq e, ρ, m => (ev e ρ m).bind fun d m => (match d with
    | .tup xs => .ok xs m
    | .lst xs => .ok xs m
    | _ => .bad)
  | .rng es, ρ, m => (evs es ρ m).bind fun ds m => opt (rngOf ds) m
  | .enum e, ρ, m => (ev e ρ m).bind fun d m => (match d with
    | .tup xs => .ok (enumL 0 xs) m
    | .lst xs => .ok (enumL 0 xs) m
    | _ => .bad)
  | .zip a b, ρ, m => (ev a ρ m).bind fun x m => (ev b ρ m).bind fun y m => (match x, y with
    | .tup xs, .tup ys => .ok (zipL xs ys) m
    | .lst xs, .lst ys => .ok (zipL xs ys) m
    | _, _ => .bad)
  | .comb a k, ρ, m => (ev a ρ m).bind fun x m => (ev k ρ m).bind fun y m => (match x, y with
    | .tup xs, .int i => opt (combD xs i) m
    | .lst xs, .int i => opt (combD xs i) m
    | _, _ => .bad)
def bt : Tg → D → Env → M → Res Env
  | .n i, d, ρ, m => .ok (ρ.set i (some d)) m
  | .sub o i, d, ρ, m => (ev o ρ m).bind fun x m => (ev i ρ m).bind fun y m => (opt (putL x y d m) m).bind fun m' _ => .ok ρ m'
  | .t ts, d, ρ, m => (match d with
    | .tup xs => bts ts xs ρ m
    | _ => .bad)
def bts : Tgs → List D → Env → M → Res Env
  | .nil, [], ρ, m => .ok ρ m
  | .cons t r, d :: ds, ρ, m => (bt t d ρ m).bind fun ρ m => bts r ds ρ m
  | _, _, _, _ => .bad
end
def ResS.of {α : Type} (ρ : Env) : Res α → (α → M → ResS) → ResS
  | .ok a m, f => f a m
  | .exc x m, _ => .exc x ρ m
  | .bad, _ => .bad
def ResS.seq : ResS → (Env → M → ResS) → ResS
  | .nx ρ m, f => f ρ m
  | r, _ => r
def forL (b1 : D → Env → M → Res Env) (body : Env → M → ResS) : List D → Env → M → ResS
  | [], ρ, m => .nx ρ m
  | d :: ds, ρ, m => ResS.of ρ (b1 d ρ m).nox fun ρ1 m1 => (match body ρ1 m1 with
    | .nx ρ2 m2 => forL b1 body ds ρ2 m2
    | .cont ρ2 m2 => forL b1 body ds ρ2 m2
    | .brk ρ2 m2 => .nx ρ2 m2
    | r => r)
/-- through a list of the store, as it stands at each turn -/
def forI (b1 : D → Env → M → Res Env) (body : Env → M → ResS) (l : Nat) : Nat → Nat → Env → M → ResS
  | 0, _, _, _ => .bad
  | n + 1, i, ρ, m => (match m[l]? with
    | some (.lst xs) => (match xs[i]? with
      | none => .nx ρ m
      | some d => ResS.of ρ (b1 d ρ m).nox fun ρ1 m1 => (match body ρ1 m1 with
        | .nx ρ2 m2 => forI b1 body l n (i + 1) ρ2 m2
        | .cont ρ2 m2 => forI b1 body l n (i + 1) ρ2 m2
        | .brk ρ2 m2 => .nx ρ2 m2
        | r => r))
    | _ => .bad)
def whL (c : Env → M → Res Bool) (body : Env → M → ResS) : Nat → Env → M → ResS
  | 0, _, _ => .bad
  | n + 1, ρ, m => ResS.of ρ (c ρ m) fun k m => if k then (match body ρ m with
    | .nx ρ2 m2 => whL c body n ρ2 m2
    | .cont ρ2 m2 => whL c body n ρ2 m2
    | .brk ρ2 m2 => .nx ρ2 m2
    | r => r) else .nx ρ m
mutual
def exS : S → Env → M → ResS
  | .set t e, ρ, m => ResS.of ρ (ev F cl e ρ m) fun d m => ResS.of ρ (bt F cl t d ρ m).nox fun ρ m => .nx ρ m
  | .par ts es, ρ, m => ResS.of ρ (evs F cl es ρ m) fun ds m => (match setMany ρ ts ds with
    | some ρ => .nx ρ m
    | none => .bad)
  | .ex e, ρ, m => ResS.of ρ (ev F cl e ρ m) fun _ m => .nx ρ m
  | .ret e, ρ, m => ResS.of ρ (ev F cl e ρ m) fun d m => .ret d m
  | .retN, _, m => .ret .non m
  | .ite c a b, ρ, m => ResS.of ρ ((ev F cl c ρ m).bind boolOf) fun k m => if k then exSs a ρ m else exSs b ρ m
  | .for_ t it b, ρ, m => ResS.of ρ (evi F cl it ρ m) fun ds m => forL (fun d ρ m => bt F cl t d ρ m) (fun ρ m => exSs b ρ m) ds ρ m
  | .wh n c b, ρ, m => whL (fun ρ m => (ev F cl c ρ m).bind boolOf) (fun ρ m => exSs b ρ m) n ρ m
  | .forR n t e b, ρ, m => ResS.of ρ (ev F cl e ρ m) fun d m => (match d with
    | .ref l => forI (fun d ρ m => bt F cl t d ρ m) (fun ρ m => exSs b ρ m) l n 0 ρ m
    | _ => .bad)
  | .brk, ρ, m => .brk ρ m
  | .pass, ρ, m => .nx ρ m
  | .append l e, ρ, m => ResS.of ρ (ev F cl l ρ m) fun o m => (match o with
    | .ref k => ResS.of ρ (ev F cl e ρ m) fun d m => (match m[k]? with
      | some (.lst xs) => if d.pure && decide (xs.length < cap) then .nx ρ (m.set k (.lst (xs ++ [d]))) else .bad
      | _ => .bad)
    | _ => .bad)
  | .extend l e, ρ, m => ResS.of ρ (ev F cl l ρ m) fun o m => (match o with
    | .ref k => ResS.of ρ (ev F cl e ρ m) fun d m => (match d with
      | .lst ys => (match m[k]? with
        | some (.lst xs) => if pureL ys && decide (xs.length + ys.length ≤ cap) then .nx ρ (m.set k (.lst (xs ++ ys))) else .bad
        | _ => .bad)
      | _ => .bad)
    | _ => .bad)
  | .raise _ _, _, _ => .bad
  | .bad, _, _ => .bad
def exSs : Ss → Env → M → ResS
  | .nil, ρ, m => .nx ρ m
  | .cons s r, ρ, m => (exS s ρ m).seq fun ρ m => exSs r ρ m
  | .kill is r, ρ, m => exSs r (wipe ρ is) m
end
end

/-! ### defs -/
structure Def where
  name : Str
  ps : List Str
  N : List Str
  /-- a list made and given is given away -/
  frz : Bool
  /-- its last parameter is a lambda -/
  lamP : Bool
  /-- lambdas are made in it -/
  tab : Bool
  body : Ss
deriving Inhabited
/-- a def's answer: what it made in the store and nobody names any more is let go -/
def close (frz : Bool) (n : Nat) (d : D) (m : M) : Res D :=
  match (if frz then (match d with
    | .ref l => if n ≤ l then (match m[l]? with
      | some (.lst xs) => some (D.lst xs)
      | _ => none) else some d
    | d => some d) else some d) with
  | some d' => (match d' with
    | .ref l => if l < n then .ok d' (m.take n) else .ok d' m
    | d' => if d'.pure then .ok d' (m.take n) else .bad)
  | none => .bad
def finish (frz : Bool) (n : Nat) : ResS → Res D
  | .nx _ m => close frz n .non m
  | .ret d m => close frz n d m
  | .exc x _ m => if (match x.val with
    | none => true
    | some d => d.pure) then .exc x (m.take n) else .bad
  | _ => .bad
def start (N : List Str) (ds : List D) : Env := ds.map some ++ List.replicate (N.length - ds.length) none
def find (P : List Def) (x : Str) : Option Def := P.find? fun d => d.name == x
def fns (P : List Def) : Nat → Fns
  | 0 => ⟨fun x => (find P x).map (·.ps), fun _ _ _ => .bad, fun _ _ _ _ => .bad⟩
  | n + 1 =>
    { ps := fun x => (find P x).map (·.ps)
      call := fun x ds m => match find P x with
        | some d => if ds.length = d.ps.length ∧ d.lamP = false then finish d.frz m.length (exSs (fns P n) none d.body (start d.N ds) m) else .bad
        | none => .bad
      lam := fun x ds c m => match find P x with
        | some d => if ds.length + 1 = d.ps.length ∧ d.lamP = true then finish d.frz m.length (exSs (fns P n) (some (ds.length, c)) d.body (start d.N ds) m) else .bad
        | none => .bad }
end PM

end

section
set_option maxHeartbeats 4000000
/-! PM, part B: what stands for data in the layer's abstract heap; what is wanted behind a step. -/
namespace PM
open PySem PySem.Spec PyProof.Rows L2

structure Wd where
  K : PySem.W.Frag
  G : Str → Option Addr
  T : List (Addr × Str)

/-- a list of the text's own -/
def KL (K : PySem.W.Frag) (a : Addr) (xs : List V) : Prop := ∃ (o : Obj) (its : Array Value) (n : Nat), K.lookup a = some o ∧ o.cls = .type "list" ∧ o.dict = none ∧ o.data = .seq its n ∧ its.size ≤ sizeLine ∧ Vals xs its.toList
mutual
/-- v stands for d: L the store's addresses, R addresses kept apart -/
inductive Rep (w : Wd) (L R : List Addr) (H : Hp) : V → D → Prop
  | non : Rep w L R H .non .non
  | bl (b : Bool) : Rep w L R H (.bl b) (.bl b)
  | int (i : Int) : Rep w L R H (.int i) (.int i)
  | str (x : Str) : Rep w L R H (.str x) (.str x)
  | ty (n : String) : Rep w L R H (.ty n) (.ty n)
  | fn {x : Str} {a : Addr} : w.G x = some a → Rep w L R H (.ref a) (.fn x)
  | tup {a : Addr} {xs : List V} {ds : List D} : SqT w.K H a xs → RepL w L R H xs ds → Rep w L R H (.ref a) (.tup ds)
  | lst {a : Addr} {xs : List V} {ds : List D} : Rd H a (.lst xs) → a ∉ L → a ∉ R → RepL w L R H xs ds → Rep w L R H (.ref a) (.lst ds)
  | klst {a : Addr} {xs : List V} {ds : List D} : KL w.K a xs → RepL w L R H xs ds → Rep w L R H (.ref a) (.lst ds)
  | ref {l : Nat} {a : Addr} : L[l]? = some a → Rep w L R H (.ref a) (.ref l)
inductive RepL (w : Wd) (L R : List Addr) (H : Hp) : List V → List D → Prop
  | nil : RepL w L R H [] []
  | cons {v : V} {d : D} {vs : List V} {ds : List D} : Rep w L R H v d → RepL w L R H vs ds → RepL w L R H (v :: vs) (d :: ds)
end

section
variable {w : Wd} {L R : List Addr} {H : Hp}
theorem RepL.length : ∀ {vs : List V} {ds : List D}, RepL w L R H vs ds → vs.length = ds.length
  | _, _, .nil => rfl
  | _, _, .cons _ t => by simp [RepL.length t]
theorem RepL.get : ∀ {vs : List V} {ds : List D} {i : Nat} {d : D}, RepL w L R H vs ds → ds[i]? = some d → ∃ v, vs[i]? = some v ∧ Rep w L R H v d
  | _, _, _, _, .nil, e => by simp at e
  | _, _, 0, _, .cons r _, e => by simp at e; subst e; exact ⟨_, rfl, r⟩
  | _, _, i + 1, d, .cons _ t, e => by
    obtain ⟨u, h1, h2⟩ := RepL.get (i := i) (d := d) t (by simpa using e)
    exact ⟨u, by simpa using h1, h2⟩
theorem RepL.getV : ∀ {vs : List V} {ds : List D} {i : Nat} {v : V}, RepL w L R H vs ds → vs[i]? = some v → ∃ d, ds[i]? = some d ∧ Rep w L R H v d
  | _, _, _, _, .nil, e => by simp at e
  | _, _, 0, _, .cons r _, e => by simp at e; subst e; exact ⟨_, rfl, r⟩
  | _, _, i + 1, d, .cons _ t, e => by
    obtain ⟨u, h1, h2⟩ := RepL.getV (i := i) t (by simpa using e)
    exact ⟨u, by simpa using h1, h2⟩
theorem RepL.append : ∀ {vs ws : List V} {ds es : List D}, RepL w L R H vs ds → RepL w L R H ws es → RepL w L R H (vs ++ ws) (ds ++ es)
  | _, _, _, _, .nil, s => s
  | _, _, _, _, .cons r t, s => .cons r (RepL.append t s)
theorem RepL.take : ∀ {vs : List V} {ds : List D} (n : Nat), RepL w L R H vs ds → RepL w L R H (vs.take n) (ds.take n)
  | _, _, 0, _ => .nil
  | _, _, _ + 1, .nil => .nil
  | _, _, n + 1, .cons r t => .cons r (RepL.take n t)
theorem RepL.drop : ∀ {vs : List V} {ds : List D} (n : Nat), RepL w L R H vs ds → RepL w L R H (vs.drop n) (ds.drop n)
  | _, _, 0, r => r
  | _, _, _ + 1, .nil => .nil
  | _, _, n + 1, .cons _ t => RepL.drop n t
theorem RepL.set {x : V} {d : D} (r : Rep w L R H x d) : ∀ {vs : List V} {ds : List D} (i : Nat), RepL w L R H vs ds → RepL w L R H (vs.set i x) (ds.set i d)
  | _, _, _, .nil => .nil
  | _, _, 0, .cons _ t => .cons r t
  | _, _, i + 1, .cons q t => .cons q (RepL.set r i t)
theorem RepL.ints : ∀ {vs : List V} {is : List Int}, RepL w L R H vs (is.map D.int) → vs = is.map V.int
  | _, [], h => by cases h; rfl
  | _, i :: is, h => by
    have h' : RepL w L R H _ (D.int i :: is.map D.int) := h
    cases h' with
    | cons r t => cases r; rw [RepL.ints t]; rfl
theorem RepL.of_ints : ∀ is : List Int, RepL w L R H (is.map V.int) (is.map D.int)
  | [] => .nil
  | i :: is => .cons (.int i) (RepL.of_ints is)
theorem asInts_some : ∀ {ds : List D} {is : List Int}, asInts ds = some is → ds = is.map D.int
  | [], is, h => by simp [asInts] at h; subst h; rfl
  | d :: ds, is, h => by
    unfold asInts at h
    cases d with
    | int i =>
      cases e : asInts ds with
      | none => simp [asInt, e] at h
      | some js =>
        simp [asInt, e] at h
        subst h
        rw [asInts_some e]; rfl
    | _ => simp [asInt] at h
theorem asBls_some : ∀ {ds : List D} {is : List Bool}, asBls ds = some is → ds = is.map D.bl
  | [], is, h => by simp [asBls] at h; subst h; rfl
  | d :: ds, is, h => by
    cases d with
    | bl i =>
      unfold asBls at h
      cases e : asBls ds with
      | none => simp [e] at h
      | some js =>
        simp [e] at h
        subst h
        rw [asBls_some e]; rfl
    | _ => simp [asBls] at h
theorem RepL.bls : ∀ {vs : List V} {is : List Bool}, RepL w L R H vs (is.map D.bl) → vs = is.map V.bl
  | _, [], h => by cases h; rfl
  | _, i :: is, h => by
    have h' : RepL w L R H _ (D.bl i :: is.map D.bl) := h
    cases h' with
    | cons r t => cases r; rw [RepL.bls t]; rfl
end

/-- the heap has grown: the store has got places, all that was tracked but the store's lists and the tables stands -/
structure Grow (L : List Addr) (H : Hp) (L' : List Addr) (H' : Hp) : Prop where
  pre : ∃ t, L' = L ++ t ∧ ∀ a ∈ t, a ∉ L → ∀ o, H a = some o → ∃ ps, o = .tbl ps
  keep : ∀ a o, H a = some o → a ∉ L → (∀ ps, o ≠ .tbl ps) → H' a = some o
theorem Grow.refl (L : List Addr) (H : Hp) : Grow L H L H := ⟨⟨[], by simp, by simp⟩, fun _ _ h _ _ => h⟩
theorem Grow.notin {L L' : List Addr} {H H' : Hp} (g : Grow L H L' H') {a : Addr} {o : HO} (h : H a = some o) (n : a ∉ L) (ht : ∀ ps, o ≠ .tbl ps) : a ∉ L' := fun z => by
  obtain ⟨t, e, hf⟩ := g.pre
  rw [e] at z
  rcases List.mem_append.mp z with z | z
  · exact n z
  · obtain ⟨ps, e⟩ := hf a z n o h
    exact ht ps e
theorem Grow.trans {L L1 L2 : List Addr} {H H1 H2 : Hp} (a : Grow L H L1 H1) (b : Grow L1 H1 L2 H2) : Grow L H L2 H2 := by
  obtain ⟨t, e, ht⟩ := id a.pre
  obtain ⟨t2, e2, ht2⟩ := b.pre
  refine ⟨⟨t ++ t2, by rw [e2, e, List.append_assoc], fun x hx hn o ho => ?_⟩, fun x o hx hn hp => b.keep x o (a.keep x o hx hn hp) (a.notin hx hn hp) hp⟩
  rcases List.mem_append.mp hx with hx | hx
  · exact ht x hx hn o ho
  · exact Classical.byContradiction fun z => by
      have z' : ∀ ps, o ≠ .tbl ps := fun ps e => z ⟨ps, e⟩
      exact z (ht2 x hx (a.notin ho hn z') o (a.keep x o ho hn z'))
theorem Grow.get {L L' : List Addr} {H H' : Hp} (g : Grow L H L' H') {l : Nat} {a : Addr} (h : L[l]? = some a) : L'[l]? = some a := by
  obtain ⟨t, e, _⟩ := g.pre
  rw [e, List.getElem?_append_left (List.getElem?_eq_some_iff.mp h).1]; exact h
theorem Grow.mem {L L' : List Addr} {H H' : Hp} (g : Grow L H L' H') {a : Addr} (h : a ∈ L) : a ∈ L' := by
  obtain ⟨t, e, _⟩ := g.pre
  rw [e]; exact List.mem_append_left _ h
theorem Grow.new {L : List Addr} {H : Hp} {p : Addr} {o : HO} (hp : H p = none) : Grow L H L (upd H p o) :=
  ⟨⟨[], by simp, by simp⟩, fun a _ h _ _ => by rw [upd_ne (ne_of_none h hp)]; exact h⟩
theorem Grow.cell {L : List Addr} {H : Hp} {p : Addr} {o : HO} (hp : H p = none) : Grow L H (L ++ [p]) (upd H p o) :=
  ⟨⟨[p], rfl, fun a h _ o ho => by rw [List.mem_singleton.mp h, hp] at ho; cases ho⟩, (Grow.new hp).keep⟩
theorem Grow.put {L : List Addr} {H : Hp} {p : Addr} {o : HO} (hp : p ∈ L) : Grow L H L (upd H p o) :=
  ⟨⟨[], by simp, by simp⟩, fun a _ h n _ => by rw [upd_ne (fun e => n (by rw [e]; exact hp))]; exact h⟩

def CellOk (w : Wd) (L R : List Addr) (H : Hp) (a : Addr) : Cell → Prop
  | .lst xs => pureL xs = true ∧ ∃ ys, H a = some (.lst ys) ∧ RepL w L R H ys xs
  | .dct _ => False
structure StOk (w : Wd) (L R : List Addr) (m : M) (H : Hp) : Prop where
  len : L.length = m.length
  nd : L.Nodup
  cells : ∀ (l : Nat) (a : Addr) (c : Cell), L[l]? = some a → m[l]? = some c → CellOk w L R H a c
  rs : ∀ a ∈ R, ∃ xs, H a = some (.lst xs)
  rl : ∀ a ∈ R, a ∉ L
  tabs : LamX.Tabs w.T H
section
variable {w : Wd} {L R L' : List Addr} {H H' : Hp} {m m' : M}
theorem StOk.at (S : StOk w L R m H) {a : Addr} (h : a ∈ L) : ∃ ys, H a = some (.lst ys) := by
  obtain ⟨l, hl⟩ := List.getElem?_of_mem h
  have h1 : l < m.length := by rw [← S.len]; exact (List.getElem?_eq_some_iff.mp hl).1
  have q := S.cells l a _ hl (List.getElem?_eq_getElem h1)
  cases e : m[l] with
  | lst xs =>
    rw [e] at q
    obtain ⟨_, ys, h2, _⟩ := q
    exact ⟨ys, h2⟩
  | dct _ =>
    rw [e] at q
    exact q.elim
theorem StOk.notin (S : StOk w L R m H) {a : Addr} {o : HO} (h : H a = some o) (n : ∀ ys, o ≠ .lst ys) : a ∉ L := fun z => by
  obtain ⟨ys, e⟩ := S.at z
  rw [h] at e
  exact n ys (Option.some.inj e)
mutual
theorem Rep.mono {R₀ : List Addr} (S : StOk w L R₀ m H) (g : Grow L H L' H') : ∀ {v : V} {d : D}, Rep w L R H v d → Rep w L' R H' v d
  | _, _, .non => .non
  | _, _, .bl b => .bl b
  | _, _, .int i => .int i
  | _, _, .str x => .str x
  | _, _, .ty n => .ty n
  | _, _, .fn h => .fn h
  | _, _, .ref h => .ref (g.get h)
  | _, _, .tup h t => by
    refine .tup ?_ (RepL.mono S g t)
    rcases h with (h | ⟨o, h⟩) | h
    · exact .inl (.inl (g.keep _ _ h (S.notin h fun _ z => by cases z) fun _ z => by cases z))
    · exact .inl (.inr ⟨o, g.keep _ _ h (S.notin h fun _ z => by cases z) fun _ z => by cases z⟩)
    · exact .inr h
  | _, _, .lst (a := a) h h1 h2 t => by
    refine .lst ?_ ?_ h2 (RepL.mono S g t)
    · rcases h with h | ⟨o, h⟩
      · exact .inl (g.keep _ _ h h1 fun _ z => by cases z)
      · exact .inr ⟨o, g.keep _ _ h h1 fun _ z => by cases z⟩
    · rcases h with h | ⟨o, h⟩ <;> exact g.notin h h1 fun _ z => by cases z
  | _, _, .klst q t => .klst q (RepL.mono S g t)
theorem RepL.mono {R₀ : List Addr} (S : StOk w L R₀ m H) (g : Grow L H L' H') : ∀ {vs : List V} {ds : List D}, RepL w L R H vs ds → RepL w L' R H' vs ds
  | _, _, .nil => .nil
  | _, _, .cons r t => .cons (Rep.mono S g r) (RepL.mono S g t)
end
mutual
/-- with other addresses kept apart -/
theorem Rep.res {R' : List Addr} (h : ∀ a, H a ≠ none → a ∈ R' → a ∈ R) : ∀ {v : V} {d : D}, Rep w L R H v d → Rep w L R' H v d
  | _, _, .non => .non
  | _, _, .bl b => .bl b
  | _, _, .int i => .int i
  | _, _, .str x => .str x
  | _, _, .ty n => .ty n
  | _, _, .fn q => .fn q
  | _, _, .ref q => .ref q
  | _, _, .tup q t => .tup q (RepL.res h t)
  | _, _, .lst q h1 h2 t => .lst q h1 (fun z => h2 (h _ (by rcases q with q | ⟨_, q⟩ <;> rw [q] <;> exact Option.some_ne_none _) z)) (RepL.res h t)
  | _, _, .klst q t => .klst q (RepL.res h t)
theorem RepL.res {R' : List Addr} (h : ∀ a, H a ≠ none → a ∈ R' → a ∈ R) : ∀ {vs : List V} {ds : List D}, RepL w L R H vs ds → RepL w L R' H vs ds
  | _, _, .nil => .nil
  | _, _, .cons r t => .cons (Rep.res h r) (RepL.res h t)
end
mutual
/-- pure data name no place of the store -/
theorem Rep.low {L₀ : List Addr} (h : ∀ a ∈ L₀, a ∈ L) : ∀ {v : V} {d : D}, d.pure = true → Rep w L R H v d → Rep w L₀ R H v d
  | _, _, _, .non => .non
  | _, _, _, .bl b => .bl b
  | _, _, _, .int i => .int i
  | _, _, _, .str x => .str x
  | _, .ty _, p, _ => by simp at p
  | _, .fn _, p, _ => by simp at p
  | _, .ref _, p, _ => by simp at p
  | _, _, p, .tup q t => .tup q (RepL.low h (by simpa using p) t)
  | _, _, p, .lst q h1 h2 t => .lst q (fun z => h1 (h _ z)) h2 (RepL.low h (by simpa using p) t)
  | _, _, p, .klst q t => .klst q (RepL.low h (by simpa using p) t)
theorem RepL.low {L₀ : List Addr} (h : ∀ a ∈ L₀, a ∈ L) : ∀ {vs : List V} {ds : List D}, pureL ds = true → RepL w L R H vs ds → RepL w L₀ R H vs ds
  | _, _, _, .nil => .nil
  | _, _, p, .cons r t => by
    simp only [pureL_cons, Bool.and_eq_true] at p
    exact .cons (Rep.low h p.1 r) (RepL.low h p.2 t)
end
theorem StOk.step (S : StOk w L R m H) (g : Grow L H L H') (hc : ∀ a ∈ L, H' a = H a) (ht : LamX.Tabs w.T H') : StOk w L R m H' := by
  refine ⟨S.len, S.nd, fun l a c h1 h2 => ?_, fun a ha => ?_, S.rl, ht⟩
  · have q := S.cells l a c h1 h2
    cases c with
    | lst xs =>
      obtain ⟨p, ys, h3, h4⟩ := q
      exact ⟨p, ys, (hc a (List.mem_of_getElem? h1)).trans h3, h4.mono S g⟩
    | dct _ => exact q.elim
  · obtain ⟨xs, e⟩ := S.rs a ha
    exact ⟨xs, g.keep _ _ e (S.rl a ha) fun _ z => by cases z⟩
theorem StOk.new {p : Addr} {o : HO} (S : StOk w L R m H) (hp : H p = none) : StOk w L R m (upd H p o) :=
  S.step (Grow.new hp) (fun a ha => upd_ne (by obtain ⟨ys, e⟩ := S.at ha; exact ne_of_none e hp)) (S.tabs.ext fun b o h => by rw [upd_ne (ne_of_none h hp)]; exact h)
theorem StOk.cell {p : Addr} {xs : List V} {ds : List D} (S : StOk w L R m H) (hp : H p = none) (hpu : pureL ds = true) (r : RepL w L R H xs ds) : StOk w (L ++ [p]) R (m ++ [.lst ds]) (upd H p (.lst xs)) := by
  have g : Grow L H (L ++ [p]) (upd H p (.lst xs)) := Grow.cell hp
  have pn : p ∉ L := fun z => by obtain ⟨ys, e⟩ := S.at z; rw [hp] at e; cases e
  refine ⟨by simp [S.len], ?_, fun l a c h1 h2 => ?_, fun a ha => ?_, fun a ha z => ?_, S.tabs.ext fun b o h => by rw [upd_ne (ne_of_none h hp)]; exact h⟩
  · rw [List.nodup_append]
    refine ⟨S.nd, by simp, fun a ha b hb => ?_⟩
    simp at hb; subst hb
    exact fun e => pn (e ▸ ha)
  · by_cases hl : l < L.length
    · rw [List.getElem?_append_left hl] at h1
      rw [List.getElem?_append_left (by rw [← S.len]; exact hl)] at h2
      have q := S.cells l a c h1 h2
      cases c with
      | lst zs =>
        obtain ⟨pz, ys, h3, h4⟩ := q
        exact ⟨pz, ys, by rw [upd_ne (ne_of_none h3 hp)]; exact h3, h4.mono S g⟩
      | dct _ => exact q.elim
    · have e : l = L.length := by
        have := (List.getElem?_eq_some_iff.mp h1).1
        simp at this
        omega
      subst e
      rw [List.getElem?_append_right (Nat.le_refl _)] at h1
      rw [S.len, List.getElem?_append_right (Nat.le_refl _)] at h2
      simp at h1 h2
      subst h1 h2
      exact ⟨hpu, xs, upd_same, r.mono S g⟩
  · obtain ⟨ys, e⟩ := S.rs a ha
    exact ⟨ys, by rw [upd_ne (ne_of_none e hp)]; exact e⟩
  · rcases List.mem_append.mp z with z | z
    · exact S.rl a ha z
    · simp at z; subst z
      obtain ⟨ys, e⟩ := S.rs a ha
      rw [hp] at e; cases e
/-- a store list changed -/
theorem StOk.put {l : Nat} {a : Addr} {xs : List V} {ds : List D} (S : StOk w L R m H) (hl : L[l]? = some a) (hpu : pureL ds = true) (r : RepL w L R H xs ds) : StOk w L R (m.set l (.lst ds)) (upd H a (.lst xs)) := by
  have ha := List.mem_of_getElem? hl
  have g : Grow L H L (upd H a (.lst xs)) := Grow.put ha
  obtain ⟨zs, ez⟩ := S.at ha
  refine ⟨by simp [S.len], S.nd, fun k b c h1 h2 => ?_, fun b hb => ?_, S.rl, fun p hp => ?_⟩
  · by_cases e : k = l
    · subst e
      rw [h1] at hl; cases hl
      have hk : k < m.length := by rw [← S.len]; exact (List.getElem?_eq_some_iff.mp h1).1
      rw [List.getElem?_set_self hk] at h2
      cases h2
      exact ⟨hpu, xs, upd_same, r.mono S g⟩
    · rw [List.getElem?_set_ne (Ne.symm e)] at h2
      have q := S.cells k b c h1 h2
      cases c with
      | lst ys =>
        obtain ⟨pz, us, h3, h4⟩ := q
        refine ⟨pz, us, ?_, h4.mono S g⟩
        rw [upd_ne (fun z => e ?_)]
        · exact h3
        · subst z
          obtain ⟨h5, h6⟩ := List.getElem?_eq_some_iff.mp h1
          obtain ⟨h7, h8⟩ := List.getElem?_eq_some_iff.mp hl
          exact (List.getElem_inj S.nd).mp (h6.trans h8.symm)
      | dct _ => exact q.elim
  · obtain ⟨ys, e⟩ := S.rs b hb
    exact ⟨ys, by rw [upd_ne (fun z => S.rl b hb (by rw [z]; exact ha))]; exact e⟩
  · obtain ⟨ps, h1, h2, h3⟩ := S.tabs p hp
    refine ⟨ps, by rw [upd_ne (ne_of h1 ez (fun z => by cases z))]; exact h1, h2, fun pos cv hc => ?_⟩
    obtain ⟨c, e1, e2⟩ := h3 pos cv hc
    exact ⟨c, e1, by rw [upd_ne (ne_of e2 ez (fun z => by unfold LamX.CodeO at z; cases z))]; exact e2⟩
/-- an address kept apart -/
theorem StOk.keepApart {p : Addr} {xs : List V} (S : StOk w L R m H) (hp : H p = none) : StOk w L (p :: R) m (upd H p (.lst xs)) := by
  have S' := S.new (o := .lst xs) hp
  have hr : ∀ a, (upd H p (.lst xs)) a ≠ none → a ∈ R → a ∈ R := fun _ _ h => h
  have pn : p ∉ L := fun z => by obtain ⟨ys, e⟩ := S.at z; rw [hp] at e; cases e
  refine ⟨S.len, S.nd, fun l a c h1 h2 => ?_, fun a ha => ?_, fun a ha => ?_, S'.tabs⟩
  · have q := S.cells l a c h1 h2
    cases c with
    | lst zs =>
      obtain ⟨pz, ys, h3, h4⟩ := q
      have h5 : RepL w L (p :: R) H ys zs := h4.res fun a ha hm => by
        rcases List.mem_cons.mp hm with e | hm
        · subst e; exact absurd hp ha
        · exact hm
      exact ⟨pz, ys, by rw [upd_ne (ne_of_none h3 hp)]; exact h3, RepL.mono S (Grow.new hp) h5⟩
    | dct _ => exact q.elim
  · rcases List.mem_cons.mp ha with e | ha
    · subst e; exact ⟨xs, upd_same⟩
    · exact S'.rs a ha
  · rcases List.mem_cons.mp ha with e | ha
    · subst e; exact pn
    · exact S.rl a ha
end
end PM

end

section
set_option maxHeartbeats 4000000
/-! PM, part C: what is wanted behind a step; the operations' rules. -/
namespace PM
open PySem PySem.Spec PyProof.Rows L2

abbrev XW := Value → Option Addr → Hp → Prop
/-- an error of the class x.cls, its own dict holding x.val -/
def ExR (w : Wd) (L R : List Addr) (H : Hp) (cls : Value) (dx : Option Addr) (x : Ex) : Prop :=
  ∃ C, w.G x.cls = some C ∧ cls = .ref C ∧ match x.val with
    | none => dx = none
    | some d => ∃ (dd : Addr) (v : V) (f : Str), dx = some dd ∧ H dd = some (.xd [(f, v)]) ∧ Rep w L R H v d
abbrev PR (α β : Type) := List Addr → List Addr → Hp → β → α → Prop
def Post {α β : Type} (w : Wd) (P : PR α β) (L R : List Addr) (H : Hp) (r : Res α) (Q : β → Hp → Prop) (W : XW) : Prop :=
  match r with
  | .ok a m => ∀ L' b H', Grow L H L' H' → StOk w L' R m H' → P L' R H' b a → Q b H'
  | .exc x m => ∀ L' H' cls dx, Grow L H L' H' → StOk w L' R m H' → ExR w L' R H' cls dx x → W cls dx H'
  | .bad => False
abbrev PB : PR Bool Bool := fun _ _ _ b a => b = a
section
variable {α β γ δ : Type} {w : Wd} {P : PR α β} {P' : PR γ δ} {L R : List Addr} {H : Hp} {W : XW}
theorem Post.mono {r : Res α} {Q Q' : β → Hp → Prop} {W' : XW} (h : Post w P L R H r Q W) (k : ∀ b H', Q b H' → Q' b H') (kw : ∀ c d H', W c d H' → W' c d H') : Post w P L R H r Q' W' := by
  cases r with
  | ok a m => exact fun L' b H' g S p => k _ _ (h L' b H' g S p)
  | exc x m => exact fun L' H' c d g S p => kw _ _ _ (h L' H' c d g S p)
  | bad => exact h
theorem Post.later {r : Res α} {Q : β → Hp → Prop} {L1 : List Addr} {H1 : Hp} (h : Post w P L R H r Q W) (g : Grow L H L1 H1) : Post w P L1 R H1 r Q W := by
  cases r with
  | ok a m => exact fun L' b H' g' S p => h L' b H' (g.trans g') S p
  | exc x m => exact fun L' H' c d g' S p => h L' H' c d (g.trans g') S p
  | bad => exact h
theorem Post.of_nox {r : Res α} {Q : β → Hp → Prop} (h : Post w P L R H r.nox Q W) {W' : XW} : Post w P L R H r Q W' := by
  cases r with
  | ok a m => exact h
  | exc x m => exact False.elim h
  | bad => exact h
/-- what a step must reach so that the rest can go on -/
theorem Post.bind {r : Res α} {g : α → M → Res γ} {Q : δ → Hp → Prop} (h : Post w P' L R H (r.bind g) Q W) :
    Post w P L R H r (fun b H1 => ∃ L1 m1 a, Grow L H L1 H1 ∧ StOk w L1 R m1 H1 ∧ P L1 R H1 b a ∧ Post w P' L1 R H1 (g a m1) Q W) W := by
  cases r with
  | ok a m => exact fun L' b H' gr S p => ⟨L', m, a, gr, S, p, h.later gr⟩
  | exc x m => exact h
  | bad => exact h
theorem Post.opt {r : Option α} {m : M} {g : α → M → Res γ} {Q : δ → Hp → Prop} (h : Post w P' L R H ((opt r m).bind g) Q W) : ∃ a, r = some a ∧ Post w P' L R H (g a m) Q W := by
  cases r with
  | some a => exact ⟨a, rfl, h⟩
  | none => exact False.elim h
theorem Post.boolOf {d : D} {m : M} {g : Bool → M → Res γ} {Q : δ → Hp → Prop} (h : Post w P' L R H ((boolOf d m).bind g) Q W) : ∃ b, d = .bl b ∧ Post w P' L R H (g b m) Q W := by
  cases d with
  | bl b => exact ⟨b, rfl, h⟩
  | _ => exact False.elim h
theorem Post.out {d : D} {m : M} {v : V} {Q : V → Hp → Prop} (h : Post w (Rep w) L R H (.ok d m) Q W) (S : StOk w L R m H) (r : Rep w L R H v d) : Q v H := h L v H (Grow.refl L H) S r
theorem Post.tup {ds : List D} {m : M} {c : Bool} {xs : List V} {Q : V → Hp → Prop} (h : Post w (Rep w) L R H ((Raw.tup ds).out c m) Q W) (S : StOk w L R m H) (r : RepL w L R H xs ds) :
    xs.length ≤ sizeLine ∧ ∀ p, H p = none → Q (.ref p) (upd H p (.tup xs)) := by
  simp only [Raw.out] at h
  split at h
  · rename_i hl
    refine ⟨by rw [r.length, sizeLine_eq]; exact hl, fun p hp => h L _ _ (Grow.new hp) (S.new hp) (.tup (.inl (.inl upd_same)) (r.mono S (Grow.new hp)))⟩
  · exact False.elim h
theorem Post.tup0 {ds : List D} {m : M} {c : Bool} {v : V} {Q : V → Hp → Prop} (h : Post w (Rep w) L R H ((Raw.tup ds).out c m) Q W) (S : StOk w L R m H) (r : Rep w L R H v (.tup ds)) : Q v H := by
  simp only [Raw.out] at h
  split at h
  · exact h.out S r
  · exact False.elim h
theorem Post.lst {ds : List D} {m : M} {c : Bool} {xs : List V} {Q : V → Hp → Prop} (h : Post w (Rep w) L R H ((Raw.lst ds).out c m) Q W) (S : StOk w L R m H) (r : RepL w L R H xs ds) :
    xs.length ≤ sizeLine ∧ ∀ p, H p = none → Q (.ref p) (upd H p (.lst xs)) := by
  simp only [Raw.out] at h
  split at h
  · rename_i hl
    refine ⟨by rw [r.length, sizeLine_eq]; exact hl, fun p hp => ?_⟩
    have pl : p ∉ L := fun z => by obtain ⟨ys, e⟩ := S.at z; rw [hp] at e; cases e
    have pr : p ∉ R := fun z => by obtain ⟨ys, e⟩ := S.rs p z; rw [hp] at e; cases e
    split at h
    · split at h
      · rename_i hpu
        exact h (L ++ [p]) _ _ (Grow.cell hp) (S.cell hp hpu r) (.ref (by rw [← S.len]; simp))
      · exact False.elim h
    · exact h L _ _ (Grow.new hp) (S.new hp) (.lst (.inl upd_same) pl pr (r.mono S (Grow.new hp)))
  · exact False.elim h
end

/-! ### reading -/
section
variable {w : Wd} {L R : List Addr} {m : M} {H : Hp}
theorem Rep.int_inv {v : V} {i : Int} (r : Rep w L R H v (.int i)) : v = .int i := by cases r; rfl
theorem Rep.bl_inv {v : V} {i : Bool} (r : Rep w L R H v (.bl i)) : v = .bl i := by cases r; rfl
theorem Rep.str_inv {v : V} {i : Str} (r : Rep w L R H v (.str i)) : v = .str i := by cases r; rfl
theorem Rep.non_inv {v : V} (r : Rep w L R H v .non) : v = .non := by cases r; rfl
theorem Rep.tup_inv {v : V} {ds : List D} (r : Rep w L R H v (.tup ds)) : ∃ a xs, v = .ref a ∧ SqT w.K H a xs ∧ RepL w L R H xs ds := by
  cases r with
  | tup h t => exact ⟨_, _, rfl, h, t⟩
/-- a list read: pure, or of the store -/
theorem items_inv {v : V} {d : D} {ds : List D} (S : StOk w L R m H) (r : Rep w L R H v d) (h : items d m = some ds) : ∃ a xs, v = .ref a ∧ SqL w.K H a xs ∧ RepL w L R H xs ds := by
  cases d with
  | lst xs =>
    cases r with
    | lst h1 _ _ t =>
      have e : xs = ds := Option.some.inj h
      exact ⟨_, _, rfl, .inl h1, by rw [← e]; exact t⟩
    | klst h1 t =>
      have e : xs = ds := Option.some.inj h
      exact ⟨_, _, rfl, .inr h1, by rw [← e]; exact t⟩
  | ref l =>
    cases r with
    | ref hl =>
      have h' : (match m[l]? with
        | some (.lst xs) => some xs
        | _ => none) = some ds := h
      cases e : m[l]? with
      | none => rw [e] at h'; cases h'
      | some c =>
        rw [e] at h'
        cases c with
        | lst zs =>
          have e2 : zs = ds := Option.some.inj h'
          obtain ⟨_, ys, h3, h4⟩ := S.cells l _ _ hl e
          exact ⟨_, ys, rfl, .inl (.inl h3), by rw [← e2]; exact h4⟩
        | dct _ => cases h'
  | _ => cases h
theorem seqOf_inv {v : V} {d : D} {ds : List D} (S : StOk w L R m H) (r : Rep w L R H v d) (h : seqOf d m = some ds) : ∃ a xs, v = .ref a ∧ (SqL w.K H a xs ∨ SqT w.K H a xs) ∧ RepL w L R H xs ds := by
  cases d with
  | tup xs =>
    obtain ⟨a, ys, e, h1, t⟩ := r.tup_inv
    have e' : xs = ds := Option.some.inj h
    exact ⟨a, ys, e, .inr h1, by rw [← e']; exact t⟩
  | lst xs =>
    obtain ⟨a, ys, e, h1, t⟩ := items_inv S r (ds := ds) h
    exact ⟨a, ys, e, .inl h1, t⟩
  | ref l =>
    obtain ⟨a, ys, e, h1, t⟩ := items_inv S r (ds := ds) h
    exact ⟨a, ys, e, .inl h1, t⟩
  | _ => cases h

/-! ### deep data -/
mutual
theorem Rep.dp : ∀ {v : V} {d : D}, d.pure = true → Rep w L R H v d → Dp w.K H v d.py
  | _, _, _, .non => by unfold D.py; exact .non
  | _, _, _, .bl b => by unfold D.py; exact .bl b
  | _, _, _, .int i => by unfold D.py; exact .int i
  | _, _, _, .str x => by unfold D.py; exact .str x
  | _, .ty _, p, _ => by simp at p
  | _, .fn _, p, _ => by simp at p
  | _, .ref _, p, _ => by simp at p
  | _, _, p, .tup q t => by unfold D.py; exact .tup q (RepL.dp (by simpa using p) t)
  | _, _, p, .lst q h1 h2 t => by unfold D.py; exact .lst (.inl q) (RepL.dp (by simpa using p) t)
  | _, _, p, .klst q t => by unfold D.py; exact .lst (.inr q) (RepL.dp (by simpa using p) t)
theorem RepL.dp : ∀ {vs : List V} {ds : List D}, pureL ds = true → RepL w L R H vs ds → DpAll w.K H vs (pyL ds)
  | _, _, _, .nil => by unfold pyL; exact .nil
  | _, _, p, .cons r t => by
    simp only [pureL_cons, Bool.and_eq_true] at p
    unfold pyL
    exact .cons (Rep.dp p.1 r) (RepL.dp p.2 t)
end
/-- read through the store -/
theorem Rep.dpr {v : V} {d : D} (S : StOk w L R m H) (p : (deref d m).pure = true) (r : Rep w L R H v d) : Dp w.K H v (deref d m).py := by
  unfold deref at p ⊢
  cases e : items d m with
  | some xs =>
    rw [e] at p
    obtain ⟨a, ys, rfl, h1, t⟩ := items_inv S r e
    show Dp w.K H (.ref a) (D.lst xs).py
    unfold D.py
    exact .lst h1 (RepL.dp (by simpa using p) t)
  | none =>
    rw [e] at p
    exact r.dp p
end
end PM

end

section
set_option maxHeartbeats 1000000
/-! PM, part D: operators, comparisons, subscripts, slices, built-ins keep what the evaluator says. -/
namespace PM
open PySem PySem.Spec PyProof.Rows L2

theorem OpR.imp {X : Cx} {f : Value → Value → Sem Value} {r r' : R2} (h : OpR X f r) (k : ∀ x y H Q, r' x y H Q → r x y H Q) : OpR X f r' :=
  fun pins s σ H x y v u Q I rx ry q => h pins s σ H x y v u Q I rx ry (k x y H Q q)
theorem CallR.imp {X : Cx} {f : Value} {r r' : List V → Hp → VK → Prop} (h : CallR X f r) (k : ∀ xs H Q, r' xs H Q → r xs H Q) : CallR X f r' :=
  fun pins s σ H xs us Q I r q => h pins s σ H xs us Q I r (k xs H Q q)
/-- by cases on what the premise knows -/
theorem OpR.by {X : Cx} {f : Value → Value → Sem Value} {r' : R2} {ι : Type} {r : ι → R2} (h : ∀ i, OpR X f (r i)) (k : ∀ x y H Q, r' x y H Q → ∃ i, r i x y H Q) : OpR X f r' :=
  fun pins s σ H x y v u Q I rx ry q => by
    obtain ⟨i, q⟩ := k x y H Q q
    exact h i pins s σ H x y v u Q I rx ry q
theorem CallR.by {X : Cx} {f : Value} {r' : List V → Hp → VK → Prop} {ι : Type} {r : ι → List V → Hp → VK → Prop} (h : ∀ i, CallR X f (r i)) (k : ∀ xs H Q, r' xs H Q → ∃ i, r i xs H Q) : CallR X f r' :=
  fun pins s σ H xs us Q I rx q => by
    obtain ⟨i, q⟩ := k xs H Q q
    exact h i pins s σ H xs us Q I rx q

/-- an operation of two data -/
def r2 (w : Wd) (f : D → D → M → Res D) : R2 := fun x y H Q => ∃ (L R : List Addr) (m : M) (a b : D) (W : XW), StOk w L R m H ∧ Rep w L R H x a ∧ Rep w L R H y b ∧ Post w (Rep w) L R H (f a b m) Q W
def opOf : BOp → Operator
  | .add => .Add | .sub => .Sub | .mul => .Mult | .fdiv => .FloorDiv | .mod => .Mod | .pow => .Pow | .shl => .LShift | .bxor => .BitXor | .bor => .BitOr
def copOf : COp → CmpOp
  | .eq => .Eq | .ne => .NotEq | .lt => .Lt | .le => .LtE | .gt => .Gt | .ge => .GtE | .is => .Is | .isNot => .IsNot | .inn => .In | .notIn => .NotIn

section
variable {X : Cx} {w : Wd} {c : Bool}
/-- xs + ys, of lists that are read -/
def rCatL (K : PySem.W.Frag) : R2 := fun x y H Q => ∃ l b xs zs, x = .ref l ∧ y = .ref b ∧ SqL K H l xs ∧ SqL K H b zs ∧ xs.length + zs.length ≤ sizeLine ∧ ∀ p, H p = none → Q (.ref p) (upd H p (.lst (xs ++ zs)))
theorem op_catL : OpR X (binaryOp .Add) (rCatL X.K) := by
  intro pins s σ H x y v u Q I rx ry h
  obtain ⟨l, b, xs, zs, rfl, rfl, hH, hB, hz, q⟩ := h
  cases rx
  cases ry
  obtain ⟨its, r, ⟨⟨cl1, dd1, da1, sl1⟩, n1, e1, c1, _, d1⟩, _⟩ := I.list hH
  obtain ⟨jts, r2, ⟨⟨cl2, dd2, da2, sl2⟩, n2, e2, c2, _, d2⟩, _⟩ := I.list hB
  simp only at c1 d1 c2 d2
  subst c1 d1 c2 d2
  have hl := r.length
  have hl2 := r2.length
  refine concat_meets ⟨_, e1, rfl⟩ ⟨_, e2, rfl⟩ noFill_list_add seq_list_add PySem.F.slot_list_add PySem.F.entry_list_add (PySem.F.args_list_add_2 _ _) (list_addW l b its.toArray jts.toArray n1 n2 dd1 dd2 sl1 sl2 (by rw [List.size_toArray, List.size_toArray]; omega)) ⟨e1, e2, ?_⟩
  rw [show its.toArray ++ jts.toArray = (its ++ jts).toArray by simp]
  exact ⟨.ref _, _, I.lnew (t' := s.toks) (r.append r2) (by rw [List.length_append]; omega), rfl, q _ I.fresh⟩

theorem Post.val {d : D} {m : M} {L R : List Addr} {H : Hp} {W : XW} {v : V} {Q : V → Hp → Prop} (h : Post w (Rep w) L R H ((Raw.val d).out c m) Q W) (S : StOk w L R m H) (r : Rep w L R H v d) : Q v H := Post.out h S r

theorem op_bop (hK : X.K = w.K) (op : BOp) : OpR X (binaryOp (opOf op)) (r2 w fun x y m => (bop op x y m).out c m) := by
  intro pins s σ H x y v u Q I rx ry h
  obtain ⟨L, R, m, a, b, W, S, ra, rb, q⟩ := h
  -- ints
  have ii : ∀ (i j : Int), a = .int i → b = .int j → wpAny (model X.prog X.w) X.A (binaryOp (opOf op) v u) (EP X pins σ Q) X.xe s := by
    intro i j ea eb
    subst ea eb
    cases ra; cases rb
    cases op with
    | add => exact op_add pins s σ H _ _ v u Q I rx ry ⟨i, j, rfl, rfl, Post.val q S (.int _)⟩
    | sub => exact op_sub pins s σ H _ _ v u Q I rx ry ⟨i, j, rfl, rfl, Post.val q S (.int _)⟩
    | mul =>
      simp only [bop] at q
      split at q
      · rename_i hb
        rcases hb with hb | hb | hb
        · exact op_mulW pins s σ H _ _ v u Q I rx ry ⟨i, j, rfl, rfl, wide_mul hb.1 hb.2 (by decide) (by decide) (by decide), Post.val q S (.int _)⟩
        · exact op_mul pins s σ H _ _ v u Q I rx ry ⟨i, j, rfl, rfl, .inl ⟨by omega, by omega⟩, Post.val q S (.int _)⟩
        · exact op_mul pins s σ H _ _ v u Q I rx ry ⟨i, j, rfl, rfl, .inr ⟨by omega, by omega⟩, Post.val q S (.int _)⟩
      · exact q.elim
    | fdiv =>
      simp only [bop] at q
      split at q
      · rename_i hb
        exact op_fdivW pins s σ H _ _ v u Q I rx ry ⟨i, j, rfl, rfl, wide_div hb.1 hb.2 (by decide) (by decide), Post.val q S (.int _)⟩
      · exact q.elim
    | mod =>
      simp only [bop] at q
      split at q
      · rename_i hb
        exact op_mod pins s σ H _ _ v u Q I rx ry ⟨i, j, rfl, rfl, hb, Post.val q S (.int _)⟩
      · exact q.elim
    | pow =>
      simp only [bop] at q
      split at q
      · rename_i hb
        exact op_pow pins s σ H _ _ v u Q I rx ry ⟨i, j, rfl, rfl, hb, Post.val q S (.int _)⟩
      · exact q.elim
    | shl =>
      simp only [bop] at q
      split at q
      · rename_i hb
        exact op_shl pins s σ H _ _ v u Q I rx ry ⟨i, j, rfl, rfl, hb, Post.val q S (.int _)⟩
      · exact q.elim
    | bxor => exact q.elim
    | bor => exact op_or pins s σ H _ _ v u Q I rx ry ⟨i, j, rfl, rfl, Post.val q S (.int _)⟩
  by_cases hi : (∃ i, a = .int i) ∧ ∃ j, b = .int j
  · obtain ⟨⟨i, ea⟩, j, eb⟩ := hi
    exact ii i j ea eb
  · cases op with
    | add =>
      by_cases ht : (∃ xs, a = .tup xs) ∧ ∃ ys, b = .tup ys
      · obtain ⟨⟨xs, rfl⟩, ys, rfl⟩ := ht
        obtain ⟨p1, us, rfl, h1, t1⟩ := ra.tup_inv
        obtain ⟨p2, ws, rfl, h2, t2⟩ := rb.tup_inv
        have q' : Post w (Rep w) L R H ((Raw.tup (xs ++ ys)).out c m) Q W := q
        obtain ⟨z, q2⟩ := q'.tup S (t1.append t2)
        refine op_catA pins s σ H _ _ v u Q I rx ry ⟨p1, p2, us, ws, rfl, rfl, by rw [hK]; exact h1, by rw [hK]; exact h2, by rw [← List.length_append]; exact z, fun e => ?_, fun _ e => ?_, fun _ _ => q2⟩
        · subst e
          have e2 : xs = [] := List.eq_nil_of_length_eq_zero (by rw [← t1.length]; rfl)
          subst e2
          exact q'.tup0 S rb
        · subst e
          have e2 : ys = [] := List.eq_nil_of_length_eq_zero (by rw [← t2.length]; rfl)
          subst e2
          rw [List.append_nil] at q'
          exact q'.tup0 S ra
      · have q' : Post w (Rep w) L R H ((match items a m, items b m with
          | some xs, some ys => Raw.lst (xs ++ ys)
          | _, _ => .bad).out c m) Q W := by
          have e : bop .add a b m = (match items a m, items b m with
            | some xs, some ys => Raw.lst (xs ++ ys)
            | _, _ => .bad) := by
            cases a <;> cases b <;> first | rfl | exact absurd ⟨⟨_, rfl⟩, _, rfl⟩ hi | exact absurd ⟨⟨_, rfl⟩, _, rfl⟩ ht
          rw [← e]; exact q
        cases e1 : items a m with
        | none => rw [e1] at q'; exact q'.elim
        | some xs =>
          cases e2 : items b m with
          | none => rw [e1, e2] at q'; exact q'.elim
          | some ys =>
            rw [e1, e2] at q'
            obtain ⟨p1, us, rfl, h1, t1⟩ := items_inv S ra e1
            obtain ⟨p2, ws, rfl, h2, t2⟩ := items_inv S rb e2
            obtain ⟨z, q2⟩ := q'.lst S (t1.append t2)
            exact op_catL pins s σ H _ _ v u Q I rx ry ⟨p1, p2, us, ws, rfl, rfl, by rw [hK]; exact h1, by rw [hK]; exact h2, by rw [← List.length_append]; exact z, q2⟩
    | _ =>
      cases a <;> cases b <;> first | exact q.elim | exact absurd ⟨⟨_, rfl⟩, _, rfl⟩ hi

/-! ### comparisons -/
theorem eqv_py : ∀ (d e : D), d.pure = true → e.pure = true → PyData.eqv d.py e.py = d.eqv e := by
  intro d
  induction d using D.rec (motive_2 := fun ds => ∀ es, pureL ds = true → pureL es = true → PyData.eqvAll (pyL ds) (pyL es) = eqvL ds es) with
  | non => intro e _ pe; cases e <;> first | (simp at pe; done) | (simp [D.py, PyData.eqv, D.eqv]; done)
  | bl b => intro e _ pe; cases e <;> first | (simp at pe; done) | (simp [D.py, PyData.eqv, D.eqv]; done)
  | int i => intro e _ pe; cases e <;> first | (simp at pe; done) | (simp [D.py, PyData.eqv, D.eqv]; done)
  | str x => intro e _ pe; cases e <;> first | (simp at pe; done) | (simp [D.py, PyData.eqv, D.eqv]; done)
  | tup xs ih => intro e pd pe; cases e <;> first | (simp at pe; done) | (simp [D.py, PyData.eqv, D.eqv]; exact ih _ (by simpa using pd) (by simpa using pe)) | (simp [D.py, PyData.eqv, D.eqv]; done)
  | lst xs ih => intro e pd pe; cases e <;> first | (simp at pe; done) | (simp [D.py, PyData.eqv, D.eqv]; exact ih _ (by simpa using pd) (by simpa using pe)) | (simp [D.py, PyData.eqv, D.eqv]; done)
  | ref l => intro e pd _; simp at pd
  | fn x => intro e pd _; simp at pd
  | ty n => intro e pd _; simp at pd
  | nil => rename_i es _ pe; cases es <;> simp [pyL, PyData.eqvAll, eqvL]
  | cons x xs ih1 ih2 =>
    rename_i es pd pe
    cases es with
    | nil => simp [pyL, PyData.eqvAll, eqvL]
    | cons e es =>
      simp only [pureL_cons, Bool.and_eq_true] at pd pe
      simp [pyL, PyData.eqvAll, eqvL, ih1 e pd.1 pe.1, ih2 es pd.2 pe.2]
theorem okd_spec : ∀ (d : D) (n : Nat), okd n d = true → d.pure = true ∧ d.py.canLay0 = true ∧ d.py.depth ≤ n := by
  intro d
  induction d using D.rec (motive_2 := fun ds => ∀ n, ds.all (okd n) = true → pureL ds = true ∧ PyData.canLayAll0 (pyL ds) = true ∧ PyData.depthAll (pyL ds) ≤ n) with
  | non => intro n _; simp [D.py, PyData.canLay0, PyData.depth]
  | bl b => intro n _; simp [D.py, PyData.canLay0, PyData.depth]
  | int i => intro n _; simp [D.py, PyData.canLay0, PyData.depth]
  | str x => intro n h; cases n <;> simpa [D.py, PyData.canLay0, PyData.depth, PyData.strOk, okd] using h
  | tup xs ih =>
    intro n h
    cases n with
    | zero => simp [okd] at h
    | succ n =>
      obtain ⟨h1, h2, h3⟩ := ih n (by simpa [okd] using h)
      exact ⟨by simpa using h1, by simpa [D.py, PyData.canLay0] using h2, by simp [D.py, PyData.depth]; omega⟩
  | lst xs ih =>
    intro n h
    cases n with
    | zero => simp [okd] at h
    | succ n =>
      obtain ⟨h1, h2, h3⟩ := ih n (by simpa [okd] using h)
      exact ⟨by simpa using h1, by simpa [D.py, PyData.canLay0] using h2, by simp [D.py, PyData.depth]; omega⟩
  | ref l => intro n h; cases n <;> simp [okd] at h
  | fn x => intro n h; cases n <;> simp [okd] at h
  | ty x => intro n h; cases n <;> simp [okd] at h
  | nil => simp [pyL, PyData.canLayAll0, PyData.depthAll]
  | cons x xs ih1 ih2 =>
    rename_i n h
    simp only [List.all_cons, Bool.and_eq_true] at h
    obtain ⟨h1, h2, h3⟩ := ih1 n h.1
    obtain ⟨h4, h5, h6⟩ := ih2 n h.2
    exact ⟨by simp [h1, h4], by simp [pyL, PyData.canLayAll0, h2, h5], by simp [pyL, PyData.depthAll]; omega⟩
theorem ok8_pure {d : D} (h : ok8 d = true) : d.pure = true := (okd_spec d 8 h).1
theorem ok8_shaped {d : D} (h : ok8 d = true) : SeqAt.shaped d.py = true := by
  obtain ⟨_, h2, h3⟩ := okd_spec d 8 h
  unfold SeqAt.shaped
  rw [h2, decide_eq_true (by omega)]
  rfl
end
end PM

end

section
set_option maxHeartbeats 1000000
/-! PM, part E: comparisons, subscripts, slices, built-ins. -/
namespace PM
open PySem PySem.Spec PyProof.Rows L2
section
variable {X : Cx} {w : Wd} {c : Bool}
def rInT (K : PySem.W.Frag) (neg : Bool) : R2 := fun x y H Q => ∃ d ds, Dp K H x d ∧ Dp K H y (.tuple ds) ∧ SeqAt.shaped d = true ∧ SeqAt.shaped (.tuple ds) = true ∧ Q (.bl (if neg then !ds.any fun z => PyData.eqv z d else ds.any fun z => PyData.eqv z d)) H
theorem op_inT (hu : X.A.units + 65 < cLine) : OpR X (compareOp .In) (rInT X.K false) := by
  intro pins s σ H x y v u Q I rx ry h
  obtain ⟨d, ds, hd, he, sd, se, q⟩ := h
  obtain ⟨as, r1⟩ := Dp.reads I d x v hd rx
  obtain ⟨bs, r2⟩ := Dp.reads I (.tuple ds) y u he ry
  exact SeqAt.in_tuple_reads r2 r1 (SeqAt.canLay_of_shaped se) (SeqAt.canLay_of_shaped sd) (room_in_shaped sd hu) ⟨.bl _, H, I, rfl, q⟩
theorem op_notInT (hu : X.A.units + 65 < cLine) : OpR X (compareOp .NotIn) (rInT X.K true) := by
  intro pins s σ H x y v u Q I rx ry h
  obtain ⟨d, ds, hd, he, sd, se, q⟩ := h
  obtain ⟨as, r1⟩ := Dp.reads I d x v hd rx
  obtain ⟨bs, r2⟩ := Dp.reads I (.tuple ds) y u he ry
  exact SeqAt.notIn_tuple_reads r2 r1 (SeqAt.canLay_of_shaped se) (SeqAt.canLay_of_shaped sd) (room_in_shaped sd hu) ⟨.bl _, H, I, rfl, q⟩
theorem any_py (e : D) (pe : e.pure = true) : ∀ (ds : List D), pureL ds = true → ((pyL ds).any fun z => PyData.eqv z e.py) = ds.any fun z => z.eqv e
  | [], _ => rfl
  | d :: ds, h => by
    simp only [pureL_cons, Bool.and_eq_true] at h
    unfold pyL
    rw [List.any_cons, List.any_cons, eqv_py d e h.1 pe, any_py e pe ds h.2]
theorem all8 {ds : List D} (h : ds.all ok8 = true) : pureL ds = true := by
  rw [pureL_mem]; intro x hx
  exact ok8_pure (List.all_eq_true.mp h x hx)
theorem all8_shaped {ds : List D} (h : ds.all ok8 = true) : SeqAt.shaped (.list (pyL ds)) = true ∧ SeqAt.shaped (.tuple (pyL ds)) = true := by
  have q : okd 9 (.lst ds) = true := by simpa [okd, ok8] using h
  have q2 : okd 9 (.tup ds) = true := by simpa [okd, ok8] using h
  obtain ⟨_, h2, h3⟩ := okd_spec _ _ q
  obtain ⟨_, h5, h6⟩ := okd_spec _ _ q2
  unfold D.py at h2 h3 h5 h6
  unfold SeqAt.shaped
  exact ⟨by rw [h2, decide_eq_true (by omega)]; rfl, by rw [h5, decide_eq_true (by omega)]; rfl⟩

theorem op_in (hK : X.K = w.K) (hu : X.A.units + 65 < cLine) (neg : Bool) : OpR X (compareOp (if neg then .NotIn else .In)) fun x y H Q => ∃ (L R : List Addr) (m : M) (a b : D) (ys : List D), StOk w L R m H ∧ Rep w L R H x a ∧ Rep w L R H y b ∧
    seqOf b m = some ys ∧ ok8 (deref a m) = true ∧ ys.all ok8 = true ∧ Q (.bl (if neg then !ys.any fun z => z.eqv (deref a m) else ys.any fun z => z.eqv (deref a m))) H := by
  intro pins s σ H x y v u Q I rx ry h
  obtain ⟨L, R, m, a, b, ys, S, ra, rb, hs, h8, h9, q⟩ := h
  have hd := Rep.dpr S (ok8_pure h8) ra
  have e := any_py _ (ok8_pure h8) ys (all8 h9)
  rw [← e] at q
  rw [← hK] at hd
  obtain ⟨p, us, rfl, h1, t1⟩ := seqOf_inv S rb hs
  have hall := RepL.dp (all8 h9) t1
  rw [← hK] at h1 hall
  rcases h1 with h1 | h1
  · cases neg with
    | false => exact op_inD hu pins s σ H _ _ v u Q I rx ry ⟨_, _, hd, .lst h1 hall, ok8_shaped h8, (all8_shaped h9).1, q⟩
    | true => exact op_notInD hu pins s σ H _ _ v u Q I rx ry ⟨_, _, hd, .lst h1 hall, ok8_shaped h8, (all8_shaped h9).1, q⟩
  · cases neg with
    | false => exact op_inT hu pins s σ H _ _ v u Q I rx ry ⟨_, _, hd, .tup h1 hall, ok8_shaped h8, (all8_shaped h9).2, q⟩
    | true => exact op_notInT hu pins s σ H _ _ v u Q I rx ry ⟨_, _, hd, .tup h1 hall, ok8_shaped h8, (all8_shaped h9).2, q⟩
/-- a comparison of two data -/
def rc (w : Wd) (op : COp) : R2 := fun x y H Q => ∃ (L R : List Addr) (m : M) (a b : D) (k : Bool), StOk w L R m H ∧ Rep w L R H x a ∧ Rep w L R H y b ∧ cop op a b m = some k ∧ Q (.bl k) H
theorem lex_eq : ∀ a b : List Int, HT.lexLt a b = lexLt a b
  | [], [] => rfl
  | [], _ :: _ => rfl
  | _ :: _, [] => rfl
  | x :: xs, y :: ys => by
    show (if x = y then HT.lexLt xs ys else decide (x < y)) = (if x = y then lexLt xs ys else decide (x < y))
    rw [lex_eq xs ys]
theorem rep_ne {L R : List Addr} {H : Hp} {v : V} {d : D} (r : Rep w L R H v d) : decide (v = .non) = (match d with
    | .non => true
    | _ => false) := by
  cases r <;> rfl
theorem txt2_some {a b : D} {k : Bool} (h : txt2 a b = some k) : ∃ i j, a = .str i ∧ b = .str j ∧ k = decide (i = j) := by
  cases a with
  | str i =>
    cases b with
    | str j => exact ⟨i, j, rfl, rfl, (Option.some.inj h).symm⟩
    | _ => cases h
  | _ => cases h
theorem alk_spec {a b : D} (h : alkB a b = true) : ok8 a = true ∧ ok8 b = true ∧ PySem.W.alike a.py b.py = true ∧ a.py ≠ .none := by
  unfold alkB at h
  simp only [Bool.and_eq_true] at h
  obtain ⟨h1, h2, h3, h4⟩ := h
  refine ⟨h1, h2, h3, fun e => ?_⟩
  have hp := ok8_pure h1
  cases a <;> first | (cases h4; done) | (simp [D.py] at e; done) | (simp at hp; done)
theorem op_ord (hK : X.K = w.K) (hu : X.A.units + 65 < cLine) {pins : List (Addr × Obj)} {σ : L2.St} {H : Hp} {s : Shared} {x y : V} {v u : Value} {Q : VK} {L R : List Addr} {a b : D} (I : Inv X pins σ H s) (rx : RelV x v) (ry : RelV y u) (ra : Rep w L R H x a) (rb : Rep w L R H y b) (h : alkB a b = true) :
    (Q (.bl (ltA a b)) H → wpAny (model X.prog X.w) X.A (compareOp .Lt v u) (EP X pins σ Q) X.xe s) ∧ (Q (.bl (ltA b a)) H → wpAny (model X.prog X.w) X.A (compareOp .Gt v u) (EP X pins σ Q) X.xe s) ∧
    (Q (.bl (!ltA b a)) H → wpAny (model X.prog X.w) X.A (compareOp .LtE v u) (EP X pins σ Q) X.xe s) ∧ (Q (.bl (!ltA a b)) H → wpAny (model X.prog X.w) X.A (compareOp .GtE v u) (EP X pins σ Q) X.xe s) := by
  obtain ⟨h1, h2, h3, h4⟩ := alk_spec h
  have d1 := Rep.dp (ok8_pure h1) ra
  have d2 := Rep.dp (ok8_pure h2) rb
  rw [← hK] at d1 d2
  obtain ⟨as, r1⟩ := Dp.reads I _ _ _ d1 rx
  obtain ⟨bs, r2⟩ := Dp.reads I _ _ _ d2 ry
  have dp := (okd_spec _ _ h1).2.2
  have hu' : X.A.units + min a.py.depth b.py.depth < cLine := by omega
  exact ⟨fun q => PySem.W.lt_data r1 r2 h3 h4 hu' ⟨.bl _, H, I, rfl, q⟩, fun q => PySem.W.gt_data r1 r2 h3 h4 hu' ⟨.bl _, H, I, rfl, q⟩, fun q => PySem.W.le_data r1 r2 h3 h4 hu' ⟨.bl _, H, I, rfl, q⟩, fun q => PySem.W.ge_data r1 r2 h3 h4 hu' ⟨.bl _, H, I, rfl, q⟩⟩
theorem op_cop (hK : X.K = w.K) (hu : X.A.units + 65 < cLine) (op : COp) : OpR X (compareOp (copOf op)) (rc w op) := by
  intro pins s σ H x y v u Q I rx ry h
  obtain ⟨L, R, m, a, b, k, S, ra, rb, hc, q⟩ := h
  cases op with
  | eq =>
    simp only [cop] at hc
    cases hst : txt2 a b with
    | some b' =>
      rw [hst] at hc
      obtain ⟨i, j, rfl, rfl, rfl⟩ := txt2_some hst
      cases ra
      cases rb
      cases hc
      refine op_eq pins s σ H _ _ v u Q I rx ry ⟨rfl, ?_⟩
      rw [show decide (V.str i = V.str j) = decide (i = j) from by by_cases h : i = j <;> simp [h]]
      exact q
    | none =>
    rw [hst] at hc
    simp only at hc
    split at hc
    · rename_i h8
      simp only [Bool.and_eq_true] at h8
      refine op_eqD (by omega) pins s σ H x y v u Q I rx ry ⟨_, _, by rw [hK]; exact Rep.dpr S (ok8_pure h8.1) ra, by rw [hK]; exact Rep.dpr S (ok8_pure h8.2) rb, ok8_shaped h8.1, ok8_shaped h8.2, ?_⟩
      rw [eqv_py _ _ (ok8_pure h8.1) (ok8_pure h8.2), Option.some.inj hc]
      exact q
    · cases hc
  | ne =>
    simp only [cop] at hc
    cases hst : txt2 a b with
    | some b' =>
      rw [hst] at hc
      obtain ⟨i, j, rfl, rfl, rfl⟩ := txt2_some hst
      cases ra
      cases rb
      cases hc
      refine op_ne pins s σ H _ _ v u Q I rx ry ⟨rfl, ?_⟩
      rw [show decide (V.str i = V.str j) = decide (i = j) from by by_cases h : i = j <;> simp [h]]
      exact q
    | none =>
    rw [hst] at hc
    simp only at hc
    split at hc
    · rename_i h8
      simp only [Bool.and_eq_true] at h8
      refine op_neD (by omega) pins s σ H x y v u Q I rx ry ⟨_, _, by rw [hK]; exact Rep.dpr S (ok8_pure h8.1) ra, by rw [hK]; exact Rep.dpr S (ok8_pure h8.2) rb, ok8_shaped h8.1, ok8_shaped h8.2, ?_⟩
      rw [eqv_py _ _ (ok8_pure h8.1) (ok8_pure h8.2), Option.some.inj hc]
      exact q
    · cases hc
  | lt =>
    have hc' : ltD a b = some k := hc
    have gen : ltG a b = some k → wpAny (model X.prog X.w) X.A (compareOp .Lt v u) (EP X pins σ Q) X.xe s := fun z => by
      unfold ltG at z
      split at z
      · rename_i hb
        have e := Option.some.inj z
        exact (op_ord hK hu I rx ry ra rb hb).1 (by rw [e]; exact q)
      · cases z
    cases a with
    | int i =>
      cases b with
      | int j =>
        cases ra; cases rb
        have e : decide (i < j) = k := Option.some.inj hc'
        exact op_lt pins s σ H _ _ v u Q I rx ry ⟨i, j, rfl, rfl, by subst e; exact q⟩
      | _ => exact gen hc'
    | tup xs =>
      cases b with
      | tup ys =>
        simp only [ltD] at hc'
        cases e1 : asInts xs with
        | none => rw [e1] at hc'; exact gen hc'
        | some is =>
          cases e2 : asInts ys with
          | none => rw [e1, e2] at hc'; exact gen hc'
          | some js =>
            rw [e1, e2] at hc'
            have e : lexLt is js = k := Option.some.inj hc'
            obtain ⟨p1, us, rfl, h1, t1⟩ := ra.tup_inv
            obtain ⟨p2, ws, rfl, h2, t2⟩ := rb.tup_inv
            rw [asInts_some e1] at t1
            rw [asInts_some e2] at t2
            rw [t1.ints, ← hK] at h1
            rw [t2.ints, ← hK] at h2
            exact op_ltT (by omega) pins s σ H _ _ v u Q I rx ry ⟨p1, p2, is, js, rfl, rfl, h1, h2, by rw [lex_eq, e]; exact q⟩
      | _ => exact gen hc'
    | _ => cases b <;> exact gen hc'
  | le =>
    by_cases hi : (∃ i, a = .int i) ∧ ∃ j, b = .int j
    · obtain ⟨⟨i, rfl⟩, j, rfl⟩ := hi
      cases ra; cases rb
      cases hc
      exact op_le pins s σ H _ _ v u Q I rx ry ⟨_, _, rfl, rfl, q⟩
    · have z : (if alkB a b then some (!ltA b a) else none) = some k := by
        cases a <;> cases b <;> first | exact hc | exact absurd ⟨⟨_, rfl⟩, _, rfl⟩ hi
      split at z
      · rename_i hb
        have e := Option.some.inj z
        exact (op_ord hK hu I rx ry ra rb hb).2.2.1 (by rw [e]; exact q)
      · cases z
  | gt =>
    by_cases hi : (∃ i, a = .int i) ∧ ∃ j, b = .int j
    · obtain ⟨⟨i, rfl⟩, j, rfl⟩ := hi
      cases ra; cases rb
      cases hc
      exact op_gt pins s σ H _ _ v u Q I rx ry ⟨_, _, rfl, rfl, q⟩
    · have z : (if alkB a b then some (ltA b a) else none) = some k := by
        cases a <;> cases b <;> first | exact hc | exact absurd ⟨⟨_, rfl⟩, _, rfl⟩ hi
      split at z
      · rename_i hb
        have e := Option.some.inj z
        exact (op_ord hK hu I rx ry ra rb hb).2.1 (by rw [e]; exact q)
      · cases z
  | ge =>
    by_cases hi : (∃ i, a = .int i) ∧ ∃ j, b = .int j
    · obtain ⟨⟨i, rfl⟩, j, rfl⟩ := hi
      cases ra; cases rb
      cases hc
      exact op_ge pins s σ H _ _ v u Q I rx ry ⟨_, _, rfl, rfl, q⟩
    · have z : (if alkB a b then some (!ltA a b) else none) = some k := by
        cases a <;> cases b <;> first | exact hc | exact absurd ⟨⟨_, rfl⟩, _, rfl⟩ hi
      split at z
      · rename_i hb
        have e := Option.some.inj z
        exact (op_ord hK hu I rx ry ra rb hb).2.2.2 (by rw [e]; exact q)
      · cases z
  | is =>
    cases b with
    | non =>
      cases rb
      refine op_isN pins s σ H _ _ v u Q I rx ry ⟨rfl, ?_⟩
      rw [rep_ne ra]
      cases a <;> (have e := Option.some.inj hc; subst e; exact q)
    | bl j =>
      cases a with
      | bl i =>
        cases ra; cases rb
        exact op_is_bl pins s σ H _ _ v u Q I rx ry ⟨i, j, rfl, rfl, by cases hc; exact q⟩
      | _ => cases hc
    | _ => cases hc
  | isNot =>
    cases b with
    | non =>
      cases rb
      refine op_notN pins s σ H _ _ v u Q I rx ry ⟨rfl, ?_⟩
      rw [rep_ne ra]
      cases a <;> (have e := Option.some.inj hc; subst e; exact q)
    | bl j =>
      cases a with
      | bl i =>
        cases ra; cases rb
        exact op_isnot_bl pins s σ H _ _ v u Q I rx ry ⟨i, j, rfl, rfl, by cases hc; exact q⟩
      | _ => cases hc
    | _ => cases hc
  | inn =>
    simp only [cop] at hc
    cases e : seqOf b m with
    | none => rw [e] at hc; cases hc
    | some ys =>
      rw [e] at hc
      split at hc
      · rename_i ys' h8
        cases h8
        split at hc
        · rename_i h8
          simp only [Bool.and_eq_true] at h8
          exact op_in hK hu false pins s σ H x y v u Q I rx ry ⟨L, R, m, a, b, ys, S, ra, rb, e, h8.1, h8.2, by rw [if_neg (by decide)]; rw [Option.some.inj hc]; exact q⟩
        · cases hc
      · cases hc
  | notIn =>
    simp only [cop] at hc
    cases e : seqOf b m with
    | none => rw [e] at hc; cases hc
    | some ys =>
      rw [e] at hc
      split at hc
      · rename_i ys' h8
        cases h8
        split at hc
        · rename_i h8
          simp only [Bool.and_eq_true] at h8
          exact op_in hK hu true pins s σ H x y v u Q I rx ry ⟨L, R, m, a, b, ys, S, ra, rb, e, h8.1, h8.2, by rw [if_pos rfl]; rw [Option.some.inj hc]; exact q⟩
        · cases hc
      · cases hc

/-! ### subscripts, slices -/
theorem ixN_eq (n : Nat) (i : Int) : L2.ixN n i = ixN n i := rfl
def rix (w : Wd) : R2 := fun x y H Q => ∃ (L R : List Addr) (m : M) (a b d : D), StOk w L R m H ∧ Rep w L R H x a ∧ Rep w L R H y b ∧ ixD a b m = some d ∧ ∀ v, Rep w L R H v d → Q v H
theorem ix_d (hK : X.K = w.K) : IxR X (rix w) := by
  intro value slice pins s σ H x y v u Q I rx ry h hs
  obtain ⟨L, R, m, a, b, d, S, ra, rb, hd, q⟩ := h
  cases b with
  | int k =>
    simp only [ixD] at hd
    cases e : seqOf a m with
    | none => rw [e] at hd; cases hd
    | some xs =>
      rw [e] at hd
      obtain ⟨p, us, rfl, h1, t1⟩ := seqOf_inv S ra e
      cases rb
      cases e2 : ixN xs.length k with
      | none => simp only [e2] at hd; cases hd
      | some j =>
        simp only [e2, Option.bind_some] at hd
        obtain ⟨z, hz, rz⟩ := t1.get hd
        have hat : atI us k = some z := by
          unfold atI
          rw [ixN_eq, t1.length, e2]
          exact hz
        rw [← hK] at h1
        rcases h1 with h1 | h1
        · exact ix_list value slice pins s σ H _ _ v u Q I rx ry ⟨p, us, k, z, rfl, rfl, h1, hat, q z rz⟩ hs
        · exact ix_tup value slice pins s σ H _ _ v u Q I rx ry ⟨p, us, k, z, rfl, rfl, h1, hat, q z rz⟩ hs
  | _ => cases hd
theorem sIx_eq (n d : Nat) (o : Option Int) : HT.sIx n d o = sIx n d o := by
  cases o <;> rfl
theorem cut_rep {L R : List Addr} {H : Hp} {vs : List V} {ds : List D} (r : RepL w L R H vs ds) (lo hi : Option Int) : RepL w L R H (cutV vs lo hi) (cut ds lo hi) := by
  unfold cutV cut
  rw [sIx_eq, sIx_eq, r.length]
  exact (r.drop _).take _
def rsl (w : Wd) (c : Bool) : V → Option Int → Option Int → Hp → VK → Prop := fun x lo hi H Q => ∃ (L R : List Addr) (m : M) (a : D) (W : XW), StOk w L R m H ∧ Rep w L R H x a ∧ Post w (Rep w) L R H ((slD a lo hi m).out c m) Q W
theorem sl_d (hK : X.K = w.K) : SlR X (rsl w c) := by
  intro pins s σ H x v vl vu lo hi sl Q I rx hsl pl pu h
  obtain ⟨L, R, m, a, W, S, ra, q⟩ := h
  by_cases ht : ∃ xs, a = .tup xs
  · obtain ⟨xs, rfl⟩ := ht
    obtain ⟨p, us, rfl, h1, t1⟩ := ra.tup_inv
    have q' : Post w (Rep w) L R H ((Raw.tup (cut xs lo hi)).out c m) Q W := q
    obtain ⟨z, q2⟩ := q'.tup S (cut_rep t1 lo hi)
    refine sl_tupA pins s σ H _ v vl vu lo hi sl Q I rx hsl pl pu ⟨p, us, rfl, by rw [hK]; exact h1, fun e => ?_, fun _ => q2⟩
    have e2 : cut xs lo hi = xs := by
      unfold cut
      rw [sIx_eq, sIx_eq, t1.length] at e
      rw [e.1, e.2]
      simp
    rw [e2] at q'
    exact q'.tup0 S ra
  · have q' : Post w (Rep w) L R H ((match items a m with
      | some xs => Raw.lst (cut xs lo hi)
      | none => .bad).out c m) Q W := by
      have e : slD a lo hi m = (match items a m with
        | some xs => Raw.lst (cut xs lo hi)
        | none => .bad) := by
        cases a <;> first | rfl | exact absurd ⟨_, rfl⟩ ht
      rw [← e]; exact q
    cases e1 : items a m with
    | none => rw [e1] at q'; exact q'.elim
    | some xs =>
      rw [e1] at q'
      obtain ⟨p, us, rfl, h1, t1⟩ := items_inv S ra e1
      obtain ⟨_, q2⟩ := q'.lst S (cut_rep t1 lo hi)
      exact sl_list pins s σ H _ v vl vu lo hi sl Q I rx hsl pl pu ⟨p, us, rfl, by rw [hK]; exact h1, q2⟩
end
end PM

end

section
set_option maxHeartbeats 1000000
/-! PM, part F: built-ins. -/
namespace PM
open PySem PySem.Spec PyProof.Rows L2
def Pr.name : Pr → Str
  | .len => "len" | .tuple => "tuple" | .list => "list" | .all => "all" | .any => "any" | .sum => "sum" | .max => "max" | .min => "min" | .abs => "abs" | .divmod => "divmod" | .isinst => "isinstance" | .repr => "repr" | .sorted => "sorted" | .int => "int"
def Pr.val : Pr → Value
  | .len => .builtin "len" | .tuple => .type "tuple" | .list => .type "list" | .all => .builtin "all" | .any => .builtin "any" | .sum => .builtin "sum" | .max => .builtin "max" | .min => .builtin "min" | .abs => .builtin "abs" | .divmod => .builtin "divmod" | .isinst => .builtin "isinstance" | .repr => .builtin "repr" | .sorted => .builtin "sorted" | .int => .type "int"
theorem Pr.boot (p : Pr) : bootBuiltins p.name = some p.val := by cases p <;> decide +kernel
/-- a built-in called with data -/
def rp (w : Wd) (f : List D → M → Res D) : List V → Hp → VK → Prop := fun xs H Q => ∃ (L R : List Addr) (m : M) (ds : List D) (W : XW), StOk w L R m H ∧ RepL w L R H xs ds ∧ Post w (Rep w) L R H (f ds m) Q W
section
variable {X : Cx} {w : Wd} {c : Bool}
theorem RepL.nil_inv {L R : List Addr} {H : Hp} {vs : List V} (r : RepL w L R H vs []) : vs = [] := by cases r; rfl
theorem RepL.one {L R : List Addr} {H : Hp} {vs : List V} {d : D} (r : RepL w L R H vs [d]) : ∃ v, vs = [v] ∧ Rep w L R H v d := by
  cases r with
  | cons a t => cases t; exact ⟨_, rfl, a⟩
theorem RepL.two {L R : List Addr} {H : Hp} {vs : List V} {d e : D} (r : RepL w L R H vs [d, e]) : ∃ v u, vs = [v, u] ∧ Rep w L R H v d ∧ Rep w L R H u e := by
  cases r with
  | cons a t =>
    cases t with
    | cons b t => cases t; exact ⟨_, _, rfl, a, b⟩
theorem kit_all : ∀ t ∈ ["NoneType", "bool", "int", "str", "tuple", "list"], ∀ n ∈ ["int", "bool", "str", "tuple", "list"], kitB t n = some (isTy t n) := by decide +kernel
theorem tyX_of {L R : List Addr} {m : M} {H : Hp} {v : V} {d : D} {t : String} (r : Rep w L R H v d) (h : tyOf d = some t) : TyX w.K H v (.type t) ∧ t ∈ ["NoneType", "bool", "int", "str", "tuple", "list"] := by
  cases r with
  | non => cases h; exact ⟨.base .non, by decide⟩
  | bl b => cases h; exact ⟨.base (.bl b), by decide⟩
  | int i => cases h; exact ⟨.base (.int i), by decide⟩
  | str x => cases h; exact ⟨.base (.str x), by decide⟩
  | tup q _ =>
    cases h
    rcases q with (q | ⟨o, q⟩) | ⟨o, its, n, q1, q2, _⟩
    · exact ⟨.base (.tup q), by decide⟩
    · exact ⟨.fTuple q, by decide⟩
    · exact ⟨.kTuple q1 q2, by decide⟩
  | lst q _ _ _ =>
    cases h
    rcases q with q | ⟨o, q⟩
    · exact ⟨.base (.lst q), by decide⟩
    · exact ⟨.base (.frz q), by decide⟩
  | klst q _ =>
    cases h
    obtain ⟨o, _, _, q1, q2, _⟩ := q
    exact ⟨.kList q1 q2, by decide⟩
  | fn _ => cases h
  | ty _ => cases h
  | ref _ => cases h
theorem prim_ok (hK : X.K = w.K) (hc : X.calm = true) (p : Pr) (hp : p ≠ .repr ∧ p ≠ .sorted ∧ p ≠ .max ∧ p ≠ .min) : CallR X p.val (rp w fun ds m => (prim p ds m).out c m) := by
  intro pins s σ H xs us Q I rr h
  obtain ⟨L, R, m, ds, W, S, r, q⟩ := h
  replace q : Post w (Rep w) L R H ((prim p ds m).out c m) Q W := q
  cases p with
  | repr => exact absurd rfl hp.1
  | sorted => exact absurd rfl hp.2.1
  | len =>
    rcases ds with _ | ⟨d, _ | ⟨e, t⟩⟩
    · exact q.elim
    · obtain ⟨v, rfl, ra⟩ := r.one
      simp only [prim] at q
      cases e : seqOf d m with
      | none => rw [e] at q; exact q.elim
      | some zs =>
        rw [e] at q
        obtain ⟨a, ys, rfl, h1, t1⟩ := seqOf_inv S ra e
        refine call_len_seq pins s σ H _ us Q I rr ⟨a, ys, rfl, by rw [hK]; exact h1, ?_⟩
        rw [t1.length]
        exact Post.val q S (.int _)
    · exact q.elim
  | tuple =>
    rcases ds with _ | ⟨d, _ | ⟨e, t⟩⟩
    · exact q.elim
    · obtain ⟨v, rfl, ra⟩ := r.one
      by_cases ht : ∃ zs, d = .tup zs
      · obtain ⟨zs, rfl⟩ := ht
        obtain ⟨a, ys, rfl, h1, t1⟩ := ra.tup_inv
        exact call_tuple_of pins s σ H _ us Q I rr ⟨a, ys, rfl, .inr ⟨by rw [hK]; exact h1, Post.val q S ra⟩⟩
      · have e : prim .tuple [d] m = (match items d m with
          | some xs => .tup xs
          | none => .bad) := by cases d <;> first | rfl | exact absurd ⟨_, rfl⟩ ht
        rw [e] at q
        cases e1 : items d m with
        | none => rw [e1] at q; exact q.elim
        | some zs =>
          rw [e1] at q
          obtain ⟨a, ys, rfl, h1, t1⟩ := items_inv S ra e1
          exact call_tuple_of pins s σ H _ us Q I rr ⟨a, ys, rfl, .inl ⟨by rw [hK]; exact h1, (Post.tup q S t1).2⟩⟩
    · rcases d <;> exact q.elim
  | list =>
    rcases ds with _ | ⟨d, _ | ⟨e, t⟩⟩
    · exact q.elim
    · obtain ⟨v, rfl, ra⟩ := r.one
      simp only [prim] at q
      cases e : seqOf d m with
      | none => rw [e] at q; exact q.elim
      | some zs =>
        rw [e] at q
        obtain ⟨a, ys, rfl, h1, t1⟩ := seqOf_inv S ra e
        exact call_list_of pins s σ H _ us Q I rr ⟨a, ys, rfl, by rw [hK]; exact h1, (Post.lst q S t1).2⟩
    · exact q.elim
  | all =>
    rcases ds with _ | ⟨d, _ | ⟨e, t⟩⟩
    · exact q.elim
    · obtain ⟨v, rfl, ra⟩ := r.one
      simp only [prim] at q
      cases e : items d m with
      | none => rw [e] at q; exact q.elim
      | some zs =>
        rw [e] at q
        cases e2 : asBls zs with
        | none => simp only [Option.bind_some, e2] at q; exact q.elim
        | some bs =>
          simp only [Option.bind_some, e2] at q
          obtain ⟨a, ys, rfl, h1, t1⟩ := items_inv S ra e
          rw [asBls_some e2] at t1
          rw [t1.bls] at h1
          exact cr_all hc pins s σ H _ us Q I rr ⟨a, bs, rfl, by rw [hK]; exact h1, Post.val q S (.bl _)⟩
    · exact q.elim
  | any =>
    rcases ds with _ | ⟨d, _ | ⟨e, t⟩⟩
    · exact q.elim
    · obtain ⟨v, rfl, ra⟩ := r.one
      simp only [prim] at q
      cases e : items d m with
      | none => rw [e] at q; exact q.elim
      | some zs =>
        rw [e] at q
        cases e2 : asBls zs with
        | none => simp only [Option.bind_some, e2] at q; exact q.elim
        | some bs =>
          simp only [Option.bind_some, e2] at q
          obtain ⟨a, ys, rfl, h1, t1⟩ := items_inv S ra e
          rw [asBls_some e2] at t1
          rw [t1.bls] at h1
          exact cr_any hc pins s σ H _ us Q I rr ⟨a, bs, rfl, by rw [hK]; exact h1, Post.val q S (.bl _)⟩
    · exact q.elim
  | sum =>
    rcases ds with _ | ⟨d, _ | ⟨e, t⟩⟩
    · exact q.elim
    · obtain ⟨v, rfl, ra⟩ := r.one
      simp only [prim] at q
      cases e : items d m with
      | none => rw [e] at q; exact q.elim
      | some zs =>
        rw [e] at q
        cases e2 : asInts zs with
        | none => simp only [Option.bind_some, e2] at q; exact q.elim
        | some bs =>
          simp only [Option.bind_some, e2] at q
          obtain ⟨a, ys, rfl, h1, t1⟩ := items_inv S ra e
          rw [asInts_some e2] at t1
          rw [t1.ints] at h1
          exact cr_sum hc pins s σ H _ us Q I rr ⟨a, bs, rfl, by rw [hK]; exact h1, Post.val q S (.int _)⟩
    · exact q.elim
  | max => exact absurd rfl hp.2.2.1
  | min => exact absurd rfl hp.2.2.2
  | abs =>
    rcases ds with _ | ⟨d, _ | ⟨e, t⟩⟩
    · exact q.elim
    · obtain ⟨v, rfl, ra⟩ := r.one
      cases d <;> try exact q.elim
      cases ra
      exact call_abs pins s σ H _ us Q I rr ⟨_, rfl, Post.val q S (.int _)⟩
    · rcases d <;> exact q.elim
  | int =>
    rcases ds with _ | ⟨d, _ | ⟨e, t⟩⟩
    · exact q.elim
    · obtain ⟨v, rfl, ra⟩ := r.one
      cases d <;> try exact q.elim
      · cases ra
        exact call_int1 pins s σ H _ us Q I rr (.inr ⟨_, rfl, Post.val q S (.int _)⟩)
      · cases ra
        exact call_int1 pins s σ H _ us Q I rr (.inl ⟨_, rfl, Post.val q S (.int _)⟩)
    · rcases d <;> exact q.elim
  | divmod =>
    rcases ds with _ | ⟨d, _ | ⟨e, _ | ⟨f, t⟩⟩⟩
    · exact q.elim
    · rcases d <;> exact q.elim
    · obtain ⟨v, u, rfl, ra, rb⟩ := r.two
      cases d <;> try exact q.elim
      cases e <;> try exact q.elim
      cases ra; cases rb
      simp only [prim] at q
      split at q
      · rename_i hb
        exact call_divmod pins s σ H _ us Q I rr ⟨_, _, rfl, hb, (Post.tup q S (.cons (.int _) (.cons (.int _) .nil))).2⟩
      · exact q.elim
    · rcases d <;> rcases e <;> exact q.elim
  | isinst =>
    rcases ds with _ | ⟨d, _ | ⟨e, _ | ⟨f, t⟩⟩⟩
    · exact q.elim
    · exact q.elim
    · obtain ⟨v, u, rfl, ra, rb⟩ := r.two
      cases e <;> try exact q.elim
      rename_i n
      cases rb
      simp only [prim] at q
      cases e1 : tyOf d with
      | none => rw [e1] at q; exact q.elim
      | some t =>
        rw [e1] at q
        split at q
        · rename_i t' e2
          cases e2
          split at q
          · rename_i hn
            obtain ⟨h1, h2⟩ := tyX_of (m := m) ra e1
            exact call_isi pins s σ H _ us Q I rr ⟨v, .ty n, .type t, .type n, isTy t n, rfl, .ty n, by rw [hK]; exact h1, kit_ty (kit_all t h2 n hn), Post.val q S (.bl _)⟩
          · exact q.elim
        · exact q.elim
    · rcases e <;> exact q.elim
end
end PM

end

section
set_option maxHeartbeats 1000000
/-! PM, part G: own syntax beside the row's: the checker; the context. -/
namespace PM
open PySem PySem.Spec PyProof.Rows L2

structure Ck where
  /-- names of the module that no def of it hides: built-ins -/
  free : List Str
  /-- the module's constants -/
  gls : List (Str × D)
  /-- how defs are called: name, positional ones, keywords -/
  shapes : List (Str × List Str)
def visB (sc : Scope) (x : Str) : Bool := match sc.names.lookup x with
  | some .local => true
  | some .cell => true
  | some .free => true
  | _ => false
def glB (sc : Scope) (x : Str) : Bool := decide (sc.names.lookup x = some .globalImplicit) && !(x == ("__debug__" : Str))
mutual
def D.same : D → D → Bool
  | .non, .non => true
  | .bl a, .bl b => a == b
  | .int a, .int b => a == b
  | .str a, .str b => a == b
  | .tup xs, .tup ys => sameL xs ys
  | .lst xs, .lst ys => sameL xs ys
  | .ref a, .ref b => a == b
  | .fn a, .fn b => a == b
  | .ty a, .ty b => a == b
  | _, _ => false
def sameL : List D → List D → Bool
  | [], [] => true
  | x :: xs, y :: ys => x.same y && sameL xs ys
  | _, _ => false
end
def okC : D → Const → Bool
  | .non, .none => true
  | .bl b, .bool c => b == c
  | .int i, .int j => i == j
  | .str x, .str y => x == y
  | _, _ => false
def okBop : BOp → Operator → Bool
  | o, p => decide (opOf o = p)
def okCop : COp → CmpOp → Bool
  | o, p => decide (copOf o = p)
def okParams : List Str → Arguments → Bool
  | ps, a => a.posonlyargs.isEmpty && decide (a.args.map (·.arg) = ps) && a.vararg.isNone && a.kwonlyargs.isEmpty && a.kw_defaults.isEmpty && a.kwarg.isNone && a.defaults.isEmpty
/-- what may stand as a test -/
def tOk : E → Bool
  | .bad => false
  | .ite .. => false
  | .not a => tOk a
  | .and a b => tOk a && tOk b
  | .or a b => tOk a && tOk b
  | _ => true
/-- where an expression stands: the def's names, the scope, the block's own scope, the lambda got, whether lambdas can be made -/
structure Pl where
  N : List Str
  sc : Scope
  fb : Option Scope
  clo : Option Nat
  tab : Bool
def Pl.own (p : Pl) (x : Str) : Bool := decide (p.sc.names.lookup x = some .local) || (decide (p.sc.names.lookup x = some .cell) && match p.fb with
  | none => true
  | some s => s.names.lookup x == some .cell)
def Pl.nm (p : Pl) (i : Nat) (x : Str) : Bool := decide (p.N[i]? = some x) && (!decide (p.clo = some i) && (!(x == ("__debug__" : Str)) && !(x == ("__classdict__" : Str))))
def Pl.blk (p : Pl) (scope : Scope) : Pl := ⟨p.N, relS scope p.sc, some scope, p.clo, false⟩
/-- within a lambda's body -/
def Pl.lam (p : Pl) (scope : Scope) : Pl := ⟨p.N, scope, some scope, none, false⟩
def isTupE : Expr → Bool
  | .Tuple .. => true
  | _ => false
def freeB (ck : Ck) (x : Str) : Bool := ck.free.any fun q => decide (q = x)
/-- a lambda's names: its parameters' slots, what it captures -/
def lamB (N : List Str) (sc scope : Scope) (own : List (Str × Nat)) : Bool :=
  decide (scope.kind = .function) && (!scope.isCoroutine && (!scope.isGenerator && ((scope.names.all fun y => decide (scope.names.lookup y.1 = some y.2)) && ((own.all fun q => decide (N[q.2]? = some q.1) && decide (scope.names.lookup q.1 = some .local)) &&
    (scope.names.all fun y => match y.2 with
      | .local => decide (y.1 ∈ own.map (·.1)) || decide (y.1 ∉ N)
      | .cell => false
      | .free => decide (sc.names.lookup y.1 = some .cell) || decide (sc.names.lookup y.1 = some .free)
      | _ => true)))))
/-- what may stand for nothing: never a mark of its own -/
def badB : Expr → Bool
  | .Starred _ _ => false
  | .Set _ _ _ => false
  | .Slice _ _ _ _ => false
  | .Call _ [] _ _ => false
  | .ListComp .. => false
  | _ => true
mutual
def okE (ck : Ck) : E → Pl → Expr → Bool
  | .v i, p, e' => (match e' with
    | .Name x _ => p.nm i x && visB p.sc x
    | _ => false)
  | .c d, _, e' => (match e' with
    | .Constant k _ _ => okC d k
    | _ => false)
  | .g x d, p, e' => (match e' with
    | .Name y _ => decide (x = y) && (glB p.sc x && ck.gls.any fun q => decide (q.1 = x) && q.2.same d)
    | _ => false)
  | .f x, p, e' => (match e' with
    | .Name y _ => decide (x = y) && (glB p.sc x && ck.shapes.any fun q => decide (q = (x, [])))
    | _ => false)
  | .t x n, p, e' => (match e' with
    | .Name y _ => decide (x = y) && (glB p.sc x && (decide (bootBuiltins x = some (.type n)) && (!(x == ("__name__" : Str)) && freeB ck x)))
    | _ => false)
  | .tup es, p, e' => (match e' with
    | .Tuple es' _ _ => okEs ck es p es'
    | _ => false)
  | .lst _ es, p, e' => (match e' with
    | .List es' _ => okEs ck es p es'
    | _ => false)
  | .bin op _ a b, p, e' => (match e' with
    | .BinOp a' o b' _ => decide (opOf op = o) && (okE ck a p a' && okE ck b p b')
    | _ => false)
  | .neg a, p, e' => (match e' with
    | .UnaryOp .USub a' _ => okE ck a p a'
    | _ => false)
  | .not a, p, e' => (match e' with
    | .UnaryOp .Not a' _ => okE ck a p a'
    | _ => false)
  | .cmp op a b, p, e' => (match e' with
    | .Compare a' [o] [b'] _ => decide (copOf op = o) && (!behindInMarks o b' && (okE ck a p a' && okE ck b p b'))
    | _ => false)
  | .chain o1 o2 a b c, p, e' => (match e' with
    | .Compare a' [p1, p2] [b', c'] _ => decide (copOf o1 = p1) && (decide (copOf o2 = p2) && (!behindInMarks p2 c' && (okE ck a p a' && (okE ck b p b' && okE ck c p c'))))
    | _ => false)
  | .and a b, p, e' => (match e' with
    | .BoolOp .And [a', b'] _ => okE ck a p a' && okE ck b p b'
    | .BoolOp .And (a' :: b' :: c' :: r) pos => okE ck a p a' && okE ck b p (.BoolOp .And (b' :: c' :: r) pos)
    | _ => false)
  | .or a b, p, e' => (match e' with
    | .BoolOp .Or [a', b'] _ => okE ck a p a' && okE ck b p b'
    | .BoolOp .Or (a' :: b' :: c' :: r) pos => okE ck a p a' && okE ck b p (.BoolOp .Or (b' :: c' :: r) pos)
    | _ => false)
  | .ite c a b, p, e' => (match e' with
    | .IfExp c' a' b' _ => tOk c && (okE ck c p c' && (okE ck a p a' && okE ck b p b'))
    | _ => false)
  | .ix a i, p, e' => (match e' with
    | .Subscript a' i' _ => okE ck a p a' && okE ck i p i'
    | _ => false)
  | .sl _ a lo hi, p, e' => (match e' with
    | .Subscript a' (.Slice l h none _) _ => okE ck a p a' && (okEo ck lo p l && okEo ck hi p h)
    | _ => false)
  | .comp _ own t it c e, p, e' => (match e' with
    | .ListComp elt [⟨tg, iter, ifs, 0⟩] scope _ => blkC p.N p.sc scope own && (own.all (fun q => !decide (p.clo = some q.2)) && (okI ck it p tg iter && (okT ck t (p.blk scope) tg && ((tgN t).all (fun i => (own.map (·.2)).any fun j => i == j) && (okIf ck c (p.blk scope) ifs && okE ck e (p.blk scope) elt)))))
    | _ => false)
  | .call x es, p, e' => (match e' with
    | .Call (.Name y _) (a' :: r') [] _ => decide (x = y) && (glB p.sc x && (okEs ck es p (a' :: r') && ck.shapes.any fun q => decide (q = (x, []))))
    | _ => false)
  | .callK x es ks vs, p, e' => (match e' with
    | .Call (.Name y _) es' (k' :: kws) _ => decide (x = y) && (glB p.sc x && (okEs ck es p es' && (okKs ck vs p ks (k' :: kws) && ck.shapes.any fun q => decide (q = (x, ks)))))
    | _ => false)
  | .callL x es ps b, p, e' => (match e' with
    | .Call (.Name y _) [a', .Lambda args body scope _] [] _ => decide (x = y) && (glB p.sc x && (p.tab && (p.fb.isNone && (p.clo.isNone && (okE ck es p a' && (okParams (ps.map fun i => p.N.getD i "") args && (lamB p.N p.sc scope ((ps.map fun i => p.N.getD i "").zip ps) && (decide ps.Nodup && (okE ck b (p.lam scope) body && ck.shapes.any fun q => decide (q = (x, [])))))))))))
    | _ => false)
  | .callC i es, p, e' => (match e' with
    | .Call (.Name y _) (a' :: r') [] _ => decide (p.N[i]? = some y) && (decide (p.clo = some i) && (p.fb.isNone && (visB p.sc y && (!(y == ("__debug__" : Str)) && (!(y == ("__classdict__" : Str)) && okEs ck es p (a' :: r'))))))
    | _ => false)
  | .lset e, p, e' => (match e' with
    | .Call (.Name y _) [.Call (.Name z _) [a'] [] _] [] _ => decide (y = ("len" : Str)) && (decide (z = ("set" : Str)) && (glB p.sc y && (glB p.sc z && (okE ck e p a' && (freeB ck y && freeB ck z)))))
    | _ => false)
  | .trng e, p, e' => (match e' with
    | .Call (.Name y _) [.Call (.Name z _) [a'] [] _] [] _ => decide (y = ("tuple" : Str)) && (decide (z = ("range" : Str)) && (glB p.sc y && (glB p.sc z && (okE ck e p a' && (freeB ck y && freeB ck z)))))
    | _ => false)
  | .dsp tup _ ds, p, e' => (match e' with
    | .Tuple es' _ _ => tup && okEd ck ds p es'
    | .List es' _ => !tup && okEd ck ds p es'
    | _ => false)
  | .mm mx e d, p, e' => (match e' with
    | .Call (.Name y _) [a'] [⟨k', d', _⟩] _ => decide (y = (if mx then "max" else "min" : Str)) && (decide (k' = some ("default" : Str)) && (glB p.sc y && (okE ck e p a' && (okE ck d p d' && freeB ck y))))
    | _ => false)
  | .callV i es, p, e' => (match e' with
    | .Call (.Name y _) (a' :: r') [] _ => p.nm i y && (visB p.sc y && okEs ck es p (a' :: r'))
    | _ => false)
  | .comp2 _ own t it c t1 it1 c1 e, p, e' => (match e' with
    | .ListComp elt [⟨tg, iter, ifs, 0⟩, ⟨tg1, iter1, ifs1, 0⟩] scope _ => blkC p.N p.sc scope own && (own.all (fun q => !decide (p.clo = some q.2)) && (okI ck it p tg iter && (okT ck t (p.blk scope) tg && ((tgN t).all (fun i => (own.map (·.2)).any fun j => i == j) && (okIf ck c (p.blk scope) ifs &&
        (okI ck it1 (p.blk scope) tg1 iter1 && (okT ck t1 (p.blk scope) tg1 && ((tgN t1).all (fun i => (own.map (·.2)).any fun j => i == j) && (okIf ck c1 (p.blk scope) ifs1 && okE ck e (p.blk scope) elt)))))))))
    | _ => false)
  | .rep es k, p, e' => (match e' with
    | .BinOp (.List es' _) .Mult k' _ => okEs ck es p es' && okE ck k p k'
    | _ => false)
  | .cnt o e, p, e' => (match e' with
    | .Call (.Attribute o' a apos) [a'] [] cpos => decide (a = ("count" : Str)) && ((apos.endLine == cpos.line) && (okE ck o p o' && okE ck e p a'))
    | _ => false)
  | .bad, _, e' => badB e'
  | .prim q _ es, p, e' => (match e' with
    | .Call (.Name y _) (a' :: r') [] _ => decide (q.name = y) && (glB p.sc y && (okEs ck es p (a' :: r') && freeB ck y))
    | _ => false)
  | .sset _ e, p, e' => (match e' with
    | .Call (.Name y _) [.Call (.Name z _) [a'] [] _] [] _ => decide (y = ("sorted" : Str)) && (decide (z = ("set" : Str)) && (glB p.sc y && (glB p.sc z && (okE ck e p a' && (freeB ck y && freeB ck z)))))
    | _ => false)
  | .lrng _ e, p, e' => (match e' with
    | .Call (.Name y _) [.Call (.Name z _) [a'] [] _] [] _ => decide (y = ("list" : Str)) && (decide (z = ("range" : Str)) && (glB p.sc y && (glB p.sc z && (okE ck e p a' && (freeB ck y && freeB ck z)))))
    | _ => false)
def okEs (ck : Ck) : Es → Pl → List Expr → Bool
  | .nil, _, es' => es'.isEmpty
  | .cons e r, p, es' => (match es' with
    | e' :: r' => okE ck e p e' && okEs ck r p r'
    | [] => false)
def okEd (ck : Ck) : Eds → Pl → List Expr → Bool
  | .nil, _, es' => es'.isEmpty
  | .cons e r, p, es' => (match es' with
    | e' :: r' => okE ck e p e' && okEd ck r p r'
    | [] => false)
  | .star e r, p, es' => (match es' with
    | .Starred e' _ :: r' => okE ck e p e' && okEd ck r p r'
    | _ => false)
def okKs (ck : Ck) : Es → Pl → List Str → List Keyword → Bool
  | .nil, _, ks, kws => ks.isEmpty && kws.isEmpty
  | .cons e r, p, ks, kws => (match ks, kws with
    | k :: ks, ⟨nm, e', _⟩ :: kws => decide (nm = some k) && (okE ck e p e' && okKs ck r p ks kws)
    | _, _ => false)
def okEo (ck : Ck) : Eo → Pl → Option Expr → Bool
  | .no, _, e' => e'.isNone
  | .yes e, p, e' => (match e' with
    | some e' => okE ck e p e'
    | none => false)
def okIf (ck : Ck) : Eo → Pl → List Expr → Bool
  | .no, _, es' => es'.isEmpty
  | .yes e, p, es' => (match es' with
    | [e'] => tOk e && okE ck e p e'
    | _ => false)
def okI (ck : Ck) : It → Pl → Expr → Expr → Bool
  | .rng es, p, _, e' => (match e' with
    | .Call (.Name y _) [a'] [] _ => decide (y = ("range" : Str)) && (glB p.sc y && (okEs ck es p [a'] && freeB ck y))
    | .Call (.Name y _) [a', b'] [] _ => decide (y = ("range" : Str)) && (glB p.sc y && (okEs ck es p [a', b'] && freeB ck y))
    | _ => false)
  | .enum e, p, tg, e' => isTupE tg && (match e' with
    | .Call (.Name y _) [a'] [] _ => decide (y = ("enumerate" : Str)) && (glB p.sc y && (okE ck e p a' && freeB ck y))
    | _ => false)
  | .zip a b, p, tg, e' => isTupE tg && (match e' with
    | .Call (.Name y _) [a', b'] [] _ => decide (y = ("zip" : Str)) && (glB p.sc y && (okE ck a p a' && (okE ck b p b' && freeB ck y)))
    | _ => false)
  | .comb a k, p, _, e' => (match e' with
    | .Call (.Name y _) [a', k'] [] _ => decide (y = ("combinations" : Str)) && (glB p.sc y && ((ck.gls.any fun q => decide (q.1 = y) && q.2.same (.ty "itertools.combinations")) && (okE ck a p a' && okE ck k p k')))
    | _ => false)
  | .seq e, p, _, e' => okE ck e p e'
def okT (ck : Ck) : Tg → Pl → Expr → Bool
  | .n i, p, e' => (match e' with
    | .Name x _ => p.nm i x && p.own x
    | _ => false)
  | .sub o i, p, e' => (match e' with
    | .Subscript o' i' _ => okE ck o p o' && okE ck i p i'
    | _ => false)
  | .t ts, p, e' => (match e' with
    | .Tuple ts' _ _ => okTs ck ts p ts'
    | _ => false)
def okTs (ck : Ck) : Tgs → Pl → List Expr → Bool
  | .nil, _, ts' => ts'.isEmpty
  | .cons t r, p, ts' => (match ts' with
    | t' :: r' => okT ck t p t' && okTs ck r p r'
    | [] => false)
end
def pick (c1 c2 c3 c4 c5 : Bool) (ns : List Str) : Option (Option (List Str)) :=
  if c1 then some none else if c2 then some none else if c3 then some none else if c4 then some none else if c5 then none else some (some ns)
def swpN (sc : Scope) (ts : List Expr) : List Str := ts.filterMap fun
  | .Name id pos => if sc.names.lookup id == some .local && pos.line == (ts.head?.map (·.pos.line)).getD 0 then some id else none
  | _ => none
/-- what a, b = x, y does with its stores -/
def swp (sc : Scope) (ts vs : List Expr) : Option (Option (List Str)) :=
  pick (!(ts.length == 2 || ts.length == 3) || vs.length != ts.length || (if sc.kind.isAnnotationScope then ScopeKind.function else sc.kind) != .function) (vs.any fun | .Starred .. => true | _ => false)
    ((swpN sc ts).length != ts.length || (swpN sc ts).eraseDups.length != (swpN sc ts).length) (vs.all (foldedForSure 8)) (vs.all (constantsAlone 8)) (swpN sc ts)
def isComp : Expr → Bool
  | .ListComp .. => true
  | .SetComp .. => true
  | .DictComp .. => true
  | _ => false
/-- y = [..] stores within the comprehension's frame -/
def swOn (sc : Scope) (x : Str) (px : Pos) : Expr → Bool
  | .ListComp _ _ scope pos => decide (sc.names.lookup x = some .local) && (px.line == pos.line && !(scope.names.any fun (n, k) => n == x && (k == .local || k == .cell)))
  | _ => false
/-- what a plain store of such a value asks -/
def setB (sc : Scope) (tg e' : Expr) : Bool := match e' with
  | .Tuple vs _ _ => (match tg with
    | .Tuple ts _ _ => decide (swp sc ts vs = some none)
    | _ => true)
  | .ListComp _ _ scope pos => (match tg with
    | .Name x px => !(decide (sc.names.lookup x = some .local) && (px.line == pos.line && !(scope.names.any fun (n, k) => n == x && (k == .local || k == .cell))))
    | .Tuple .. => true
    | _ => false)
  | _ => !isComp e'
mutual
def okS (ck : Ck) : S → Pl → Stmt → Bool
  | .set t e, p, s' => (match s' with
    | .Assign [tg] e' _ => okT ck t p tg && (okE ck e p e' && (setB p.sc tg e' || (match tg with
      | .Name x px => swOn p.sc x px e'
      | _ => false)))
    | _ => false)
  | .par is es, p, s' => (match is, s' with
    | [i, j], .Assign [.Tuple [.Name x px, .Name y py] _ _] (.Tuple [a', b'] _ _) _ => p.nm i x && (p.nm j y && (decide (p.sc.names.lookup x = some .local) && (decide (p.sc.names.lookup y = some .local) && (!decide (i = j) && (okEs ck es p [a', b'] && decide (swp p.sc [.Name x px, .Name y py] [a', b'] = some (some [x, y])))))))
    | _, _ => false)
  | .ex e, p, s' => (match s' with
    | .Expr e' _ => okE ck e p e' && !isComp e'
    | _ => false)
  | .ret e, p, s' => (match s' with
    | .Return (some e') _ => okE ck e p e'
    | _ => false)
  | .retN, _, s' => (match s' with
    | .Return none _ => true
    | _ => false)
  | .ite c a b, p, s' => (match s' with
    | .If c' a' b' _ => tOk c && (okE ck c p c' && (okSs ck a p a' && okSs ck b p b'))
    | _ => false)
  | .for_ t it b, p, s' => (match s' with
    | .For tg iter b' [] _ => okI ck it p tg iter && (okT ck t p tg && okSs ck b p b')
    | _ => false)
  | .forR _ t e b, p, s' => (match s' with
    | .For tg iter b' [] _ => okE ck e p iter && (okT ck t p tg && okSs ck b p b')
    | _ => false)
  | .wh _ c b, p, s' => (match s' with
    | .While c' b' [] _ => tOk c && (okE ck c p c' && okSs ck b p b')
    | _ => false)
  | .brk, _, s' => (match s' with
    | .Break _ => true
    | _ => false)
  | .pass, _, s' => (match s' with
    | .Pass _ => true
    | _ => false)
  | .append l e, p, s' => (match s' with
    | .Expr (.Call (.Attribute l' a apos) [e'] [] cpos) _ => decide (a = ("append" : Str)) && ((apos.endLine == cpos.line) && (okE ck l p l' && okE ck e p e'))
    | _ => false)
  | .extend l e, p, s' => (match s' with
    | .Expr (.Call (.Attribute l' a apos) [e'] [] cpos) _ => decide (a = ("extend" : Str)) && ((apos.endLine == cpos.line) && (okE ck l p l' && okE ck e p e'))
    | _ => false)
  | .bad, _, _ => true
  | .raise _ _, _, s' => (match s' with
    | .Raise _ _ _ => true
    | _ => false)
def okSs (ck : Ck) : Ss → Pl → List Stmt → Bool
  | .nil, _, ss => ss.isEmpty
  | .cons s r, p, ss => (match ss with
    | s' :: r' => okS ck s p s' && okSs ck r p r'
    | [] => false)
  | .kill is r, p, ss => is.all (fun i => !decide (p.clo = some i)) && okSs ck r p ss
end
end PM

end

section
set_option maxHeartbeats 1000000
/-! PM, part H: the context; each kind of expression. -/
namespace PM
open PySem PySem.Spec PyProof.Rows L2

structure Cf where
  F : Fns
  cl : Option (Nat × Clo)
  /-- the lambda got; its maker's slots; its code object -/
  fa : Addr
  cσ : L2.St
  cρ : Env
  cc : Addr
  cq : Str
  /-- how many frames the defs called may ask for -/
  k : Nat
/-- a def keeps what the evaluator says of it -/
def spOf (w : Wd) (F : Fns) (x : Str) (ps : List Str) : Sp := fun vs H Q E => ∃ (L R : List Addr) (m : M) (ds : List D), StOk w L R m H ∧ RepL w L R H vs ds ∧ ds.length = ps.length ∧ Post w (Rep w) L R H (F.call x ds m) Q E
def BindOk (K : PySem.W.Frag) (ck : Ck) (x : Str) (ps : List Str) (fd : FuncData) : Prop := ∀ ks, (ks = [] ∨ (x, ks) ∈ ck.shapes) → ∀ (s : Shared) (us ws as : List Value), K.In s.heap → ws.length = ks.length → bindP ps us (ks.zip ws) = some as → BindsTo s fd ⟨us, ks.zip ws⟩ (ps.zip as)
/-- a def called where no repr is under way -/
structure FnG (P : Program) (w0 : World) (K : PySem.W.Frag) (mg : Str → Option Value) (base : Heap) (k : Nat) (f : Addr) (fd : FuncData) (ps : List Str) (sp : Sp) : Prop where
  run : ∀ (A : Around) (outer : List PySem.Env) (s : Shared) (H : Hp) (args : Args) (us : List Value) (vs : List V) (Q : VK) (E : XK), Room k A → A.guards = some [] → Env0 P w0 K mg base A outer s H → BindsTo s fd args (ps.zip us) → Vals vs us → sp vs H Q E →
    codeAny (model P w0) A (.call (.ref f) args) (CR (L2.CX P w0) outer P w0 H s Q E) s
def FOk (X : Cx) (w : Wd) (ck : Ck) (cf : Cf) (x : Str) (ps : List Str) : Prop :=
  ∃ (a : Addr) (fd : FuncData), X.mg x = some (.ref a) ∧ PySem.W.keepIn X.K (.ref a) = true ∧ FnG X.prog X.w X.K X.mg X.base cf.k a fd ps (spOf w cf.F x ps) ∧ BindOk X.K ck x ps fd ∧ w.G x = some a
/-- the maker's slots as they stand for the closure's data -/
structure ClE (w : Wd) (cf : Cf) (L R : List Addr) (H : Hp) : Prop where
  len : cf.cσ.length = cf.cρ.length
  sl : ∀ (i : Nat) (d : D), cf.cρ[i]? = some (some d) → ∃ v, cf.cσ[i]? = some (some v) ∧ Rep w L R H v d
  code : H cf.cc = some (LamX.CodeO cf.cc cf.cq)
/-- the lambda got, called -/
def ActOk (X : Cx) (w : Wd) (cf : Cf) (j : Nat) (c : Clo) : Prop := ∀ (a : Str) (e' : Expr) (r' : List Expr) (tA : TA) (pp pos : Pos), X.N[j]? = some a → Vis X.env.scope a → (a == ("__debug__" : Str)) = false → (a == ("__classdict__" : Str)) = false → PA X (e' :: r') tA →
  starEach (e' :: r') X.env = (false, eval e' X.env) :: starEach r' X.env → (backTo pos (starEach r' X.env)).any (·.1) = false →
    PE X (.Call (.Name a pp) (e' :: r') [] pos) (fun σ H Q => σ[j]? = some (some (.ref cf.fa)) ∧ tA σ H fun vs H1 => ∃ (L R : List Addr) (m : M) (ds : List D), StOk w L R m H1 ∧ ClE w cf L R H1 ∧ RepL w L R H1 vs ds ∧ Post w (Rep w) L R H1 (c ds m).nox Q (fun _ _ _ => False))
abbrev Cf.with (cf : Cf) (j : Nat) (c : Clo) (fa : Addr) (cσ : L2.St) (cρ : Env) (cc : Addr) (cq : Str) : Cf := ⟨cf.F, some (j, c), fa, cσ, cρ, cc, cq, cf.k⟩
/-- a def called with data and a lambda -/
def LamOk (X : Cx) (w : Wd) (ck : Ck) (cf : Cf) (x : Str) (ps : List Str) : Prop :=
  ∃ (g : Addr), X.mg x = some (.ref g) ∧ PySem.W.keepIn X.K (.ref g) = true ∧ ∀ (pins : List (Addr × Obj)) (σ : L2.St) (H : Hp) (s : Shared) (us : List Value) (vs : List V) (L R : List Addr) (m : M) (ds : List D) (f : Addr) (c : Clo) (cσ : L2.St) (cρ : Env) (cc : Addr) (cq : Str) (Q : VK),
    Inv X pins σ H s → Vals vs us → StOk w L R m H → RepL w L R H vs ds → ClE w (cf.with ds.length c f cσ cρ cc cq) L R H →
    (∀ (F' : Fns) (k' : Nat) (Ng : List Str) (qg : Str) (sg : Scope) (cdv : Value), Room (cf.k + 1) (X.A.deeper (envOfC qg sg s.heap.objs.size g cdv)) → ActOk (cxOf (L2.CX X.prog X.w) X.prog X.w X.K X.mg X.base Ng qg sg g cdv X.A X.stack s H fun _ _ _ => False) w ⟨F', some (ds.length, c), f, cσ, cρ, cc, cq, k'⟩ ds.length c) →
    Post w (Rep w) L R H (cf.F.lam x ds c m) Q (fun _ _ _ => False) → codeAny (model X.prog X.w) X.A (.call (.ref g) ⟨us ++ [.ref f], []⟩) (CR (L2.CX X.prog X.w) X.stack X.prog X.w H s Q fun _ _ _ => False) s
structure Cok (X : Cx) (w : Wd) (ck : Ck) (cf : Cf) (W : WX) (p : Pl) : Prop where
  K : X.K = w.K
  N : X.N = p.N
  sc : X.env.scope = p.sc
  calm : X.calm = true
  nd : X.N.Nodup
  u : X.A.units + 100 < cLine
  fn : ∀ x, p.own x = true → X.fn x = true ∨ X.env.scope.names.lookup x = some .local
  free : ∀ x ∈ ck.free, X.mg x = none
  gls : ∀ q ∈ ck.gls, ∃ v u, X.mg q.1 = some u ∧ RelV v u ∧ ∀ L R H, Rep w L R H v q.2
  rm : Room cf.k X.A
  gd : X.A.guards = some []
  fok : ∀ x ps, cf.F.ps x = some ps → FOk X w ck cf x ps
  fno : ∀ x ds m, (∀ ps, cf.F.ps x = some ps → ds.length ≠ ps.length) → cf.F.call x ds m = .bad
  shp : ∀ x ks, (x, ks) ∈ ck.shapes → ∃ ps, cf.F.ps x = some ps
  tk : Takes X W
  tabs : p.tab = true → ∃ c P, LamX.TabB X.base X.mg c P ∧ X.env.code = .ref c ∧ (P, X.env.qual ++ "<lambda>") ∈ w.T ∧ ∀ q ∈ w.T, q.1 = P → q.2 = X.env.qual ++ "<lambda>"
  lam : p.tab = true → Room (cf.k + 2) X.A ∧ ∀ x ps, cf.F.ps x = some ps → LamOk X w ck cf x ps
  po : p.fb = none → PassesOwn (model X.prog X.w) X.A X.env X.xe
  clo : p.clo = cf.cl.map (·.1)
  act : p.fb = none → ∀ j c, cf.cl = some (j, c) → ActOk X w cf j c

structure Rel (w : Wd) (cf : Cf) (L R : List Addr) (m : M) (ρ : Env) (σ : L2.St) (H : Hp) : Prop where
  st : StOk w L R m H
  len : σ.length = ρ.length
  sl : ∀ (i : Nat) (d : D), ρ[i]? = some (some d) → ∃ v, σ[i]? = some (some v) ∧ Rep w L R H v d
  cl : ∀ j c, cf.cl = some (j, c) → σ[j]? = some (some (.ref cf.fa)) ∧ ClE w cf L R H
theorem ClE.then {w : Wd} {cf : Cf} {L R L1 R' : List Addr} {m : M} {H H1 : Hp} (c : ClE w cf L R H) (S : StOk w L R m H) (g : Grow L H L1 H1) (hr : ∀ a, H a ≠ none → a ∈ R' → a ∈ R) : ClE w cf L1 R' H1 :=
  ⟨c.len, fun i d h => by obtain ⟨v, h1, h2⟩ := c.sl i d h; exact ⟨v, h1, (h2.res hr).mono S g⟩, g.keep _ _ c.code (S.notin c.code fun _ z => by unfold LamX.CodeO at z; cases z) fun _ z => by unfold LamX.CodeO at z; cases z⟩
section
variable {w : Wd} {cf : Cf} {W : WX} {L R L1 : List Addr} {m m1 : M} {ρ : Env} {σ : L2.St} {H H1 : Hp} {α β γ δ : Type} {P : PR α β} {P' : PR γ δ}
theorem Rel.later (r : Rel w cf L R m ρ σ H) (g : Grow L H L1 H1) (S : StOk w L1 R m1 H1) : Rel w cf L1 R m1 ρ σ H1 :=
  ⟨S, r.len, fun i d h => by obtain ⟨v, h1, h2⟩ := r.sl i d h; exact ⟨v, h1, h2.mono r.st g⟩, fun j c h => ⟨(r.cl j c h).1, (r.cl j c h).2.then r.st g fun _ _ z => z⟩⟩
def tR (w : Wd) (cf : Cf) (W : WX) (P : PR α β) (r : Env → M → Res α) : L2.St → Hp → (β → Hp → Prop) → Prop := fun σ H Q =>
  ∃ (L R : List Addr) (m : M) (ρ : Env), Rel w cf L R m ρ σ H ∧ Post w P L R H (r ρ m) Q fun c d H' => W c d σ H'
abbrev tE (w : Wd) (cf : Cf) (W : WX) (e : E) : TE := tR w cf W (Rep w) (ev cf.F cf.cl e)
abbrev tEs (w : Wd) (cf : Cf) (W : WX) (es : Es) : TA := tR w cf W (RepL w) (evs cf.F cf.cl es)
abbrev tT (w : Wd) (cf : Cf) (W : WX) (e : E) : TT := tR w cf W PB (fun ρ m => (ev cf.F cf.cl e ρ m).bind boolOf)
/-- a step, then the rest -/
theorem tR_bind {r : Env → M → Res α} {g : α → M → Res γ} {Q : δ → Hp → Prop} {Wx : XW} (rel : Rel w cf L R m ρ σ H) (h : Post w P' L R H ((r ρ m).bind g) Q Wx) (hW : ∀ c d H', Wx c d H' → W c d σ H')
    {Q1 : β → Hp → Prop} (k : ∀ b H1 L1 m1 a, Grow L H L1 H1 → Rel w cf L1 R m1 ρ σ H1 → P L1 R H1 b a → Post w P' L1 R H1 (g a m1) Q Wx → Q1 b H1) : tR w cf W P r σ H Q1 :=
  ⟨L, R, m, ρ, rel, (Post.bind (P := P) h).mono (fun b H1 ⟨L1, m1, a, g1, S1, p1, q1⟩ => k b H1 L1 m1 a g1 (rel.later g1 S1) p1 q1) hW⟩
theorem tR_end {r : Env → M → Res α} {Q : β → Hp → Prop} {Wx : XW} (rel : Rel w cf L R m ρ σ H) (h : Post w P L R H (r ρ m) Q Wx) (hW : ∀ c d H', Wx c d H' → W c d σ H') : tR w cf W P r σ H Q := ⟨L, R, m, ρ, rel, h.mono (fun _ _ q => q) hW⟩
theorem _root_.L2.PE.imp {X : Cx} {e : Expr} {t t' : TE} (h : PE X e t) (k : ∀ σ H Q, t' σ H Q → t σ H Q) : PE X e t' := ⟨fun pins s σ H Q I q => h.run pins s σ H Q I (k σ H Q q)⟩
theorem _root_.L2.PT.imp {X : Cx} {e : Expr} {t t' : TT} (h : PT X e t) (k : ∀ σ H Q, t' σ H Q → t σ H Q) : PT X e t' := ⟨fun pins s σ H Q I q => h.run pins s σ H Q I (k σ H Q q)⟩
theorem _root_.L2.PW.imp {X : Cx} {e : Expr} {t t' : TT} (h : PW X e t) (k : ∀ σ H Q, t' σ H Q → t σ H Q) : PW X e t' := ⟨fun wh pins s σ H Q I q => h.run wh pins s σ H Q I (k σ H Q q)⟩
theorem _root_.L2.PA.imp {X : Cx} {e : List Expr} {t t' : TA} (h : PA X e t) (k : ∀ σ H Q, t' σ H Q → t σ H Q) : PA X e t' := ⟨fun pos pins s σ H Q I q => h.run pos pins s σ H Q I (k σ H Q q)⟩
theorem _root_.L2.PS.imp {X : Cx} {e : Stmt} {t t' : TS} (h : PS X e t) (k : ∀ D σ H, t' D σ H → t D σ H) : PS X e t' := ⟨fun pins s σ H D I q => h.run pins s σ H D I (k D σ H q)⟩
theorem _root_.L2.PSs.imp {X : Cx} {e : List Stmt} {t t' : TS} (h : PSs X e t) (k : ∀ D σ H, t' D σ H → t D σ H) : PSs X e t' := ⟨fun pins s σ H D I q => h.run pins s σ H D I (k D σ H q)⟩
theorem _root_.L2.PG.imp {X : Cx} {e : Expr} {t t' : TG} (h : PG X e t) (k : ∀ v σ H Q, t' v σ H Q → t v σ H Q) : PG X e t' := ⟨fun pins s σ H v u Q I r q => h.run pins s σ H v u Q I r (k v σ H Q q)⟩
theorem _root_.L2.PGs.imp {X : Cx} {e : List Expr} {t t' : TGs} (h : PGs X e t) (k : ∀ v σ H Q, t' v σ H Q → t v σ H Q) : PGs X e t' := ⟨fun pins s σ H v u Q I r q => h.run pins s σ H v u Q I r (k v σ H Q q)⟩
theorem _root_.L2.PI.imp {X : Cx} {tg e : Expr} {t t' : TI} (h : PI X tg e t) (k : ∀ σ H R, t' σ H R → t σ H R) : PI X tg e t' := ⟨fun pins s σ H R I q => h.run pins s σ H R I (k σ H R q)⟩

theorem Res.bind_assoc {α β γ : Type} (r : Res α) (f : α → M → Res β) (g : β → M → Res γ) : (r.bind f).bind g = r.bind fun a m => (f a m).bind g := by cases r <;> rfl
theorem same_eq : ∀ (a b : D), a.same b = true → a = b := by
  intro a
  induction a using D.rec (motive_2 := fun xs => ∀ ys, sameL xs ys = true → xs = ys) with
  | non => intro b h; cases b <;> first | rfl | (simp [D.same] at h; done)
  | bl x => intro b h; cases b <;> first | (simp [D.same] at h; rw [h]; done) | (simp [D.same] at h; done)
  | int x => intro b h; cases b <;> first | (simp [D.same] at h; rw [h]; done) | (simp [D.same] at h; done)
  | str x => intro b h; cases b <;> first | (simp [D.same] at h; rw [h]; done) | (simp [D.same] at h; done)
  | ref x => intro b h; cases b <;> first | (simp [D.same] at h; rw [h]; done) | (simp [D.same] at h; done)
  | fn x => intro b h; cases b <;> first | (simp [D.same] at h; rw [h]; done) | (simp [D.same] at h; done)
  | ty x => intro b h; cases b <;> first | (simp [D.same] at h; rw [h]; done) | (simp [D.same] at h; done)
  | tup xs ih => intro b h; cases b <;> first | (simp [D.same] at h; rw [ih _ h]; done) | (simp [D.same] at h; done)
  | lst xs ih => intro b h; cases b <;> first | (simp [D.same] at h; rw [ih _ h]; done) | (simp [D.same] at h; done)
  | nil => rename_i ys h; cases ys <;> first | rfl | (simp [sameL] at h; done)
  | cons x xs ih1 ih2 =>
    rename_i ys h
    cases ys with
    | nil => simp [sameL] at h
    | cons y ys =>
      simp only [sameL, Bool.and_eq_true] at h
      rw [ih1 y h.1, ih2 ys h.2]
end
section
variable {X : Cx} {w : Wd} {ck : Ck} {cf : Cf} {W : WX} {p : Pl} (C : Cok X w ck cf W p)
include C
theorem vis_of {x : Str} (h : visB p.sc x = true) : Vis X.env.scope x := by
  unfold visB at h
  rw [C.sc]
  split at h
  · exact .inl (by assumption)
  · exact .inr (.inl (by assumption))
  · exact .inr (.inr (by assumption))
  · cases h
theorem gl_of {x : Str} (h : glB p.sc x = true) : Gl X x ∧ (x == ("__debug__" : Str)) = false := by
  unfold glB at h
  simp only [Bool.and_eq_true, decide_eq_true_eq, Bool.not_eq_true'] at h
  refine ⟨?_, h.2⟩
  show X.env.scope.names.lookup x = some .globalImplicit
  rw [C.sc]; exact h.1
theorem free_of {x : Str} (h : (ck.free.any fun q => decide (q = x)) = true) : X.mg x = none := by
  obtain ⟨q, hq, e⟩ := List.any_eq_true.mp h
  have e' := of_decide_eq_true e
  subst e'
  exact C.free _ hq
theorem nm_of {i : Nat} {x : Str} (h : p.nm i x = true) : X.N[i]? = some x ∧ (x == ("__debug__" : Str)) = false ∧ (x == ("__classdict__" : Str)) = false ∧ p.clo ≠ some i := by
  unfold Pl.nm at h
  simp only [Bool.and_eq_true, decide_eq_true_eq, Bool.not_eq_true', decide_eq_false_iff_not] at h
  rw [C.N]
  exact ⟨h.1, h.2.2.1, h.2.2.2, h.2.1⟩
theorem own_of {x : Str} (h : p.own x = true) : Loc X.env.scope x := by
  unfold Pl.own at h
  rw [C.sc]
  simp only [Bool.or_eq_true, Bool.and_eq_true, decide_eq_true_eq] at h
  rcases h with h | ⟨h, _⟩
  · exact .inl h
  · exact .inr h

theorem c_v {i : Nat} {x : Str} {pos : Pos} (h1 : p.nm i x = true) (h2 : visB p.sc x = true) : PE X (.Name x pos) (tE w cf W (.v i)) := by
  obtain ⟨a1, a2, a3, _⟩ := nm_of C h1
  refine (pe_var (i := i) a1 (vis_of C h2) a2 a3).imp fun σ H Q ⟨L, R, m, ρ, rel, hp⟩ => ?_
  unfold ev at hp
  cases e : get ρ i with
  | none => rw [e] at hp; exact hp.elim
  | some d =>
    rw [e] at hp
    unfold get at e
    have e' : ρ[i]? = some (some d) := by
      cases q : ρ[i]? with
      | none => rw [q] at e; cases e
      | some o => rw [q] at e; simp at e; rw [e]
    obtain ⟨v, h3, h4⟩ := rel.sl i d e'
    exact ⟨v, h3, Post.out hp rel.st h4⟩
theorem c_c {d : D} {k : Const} {j : Nat} {pos : Pos} (h : okC d k = true) : PE X (.Constant k j pos) (tE w cf W (.c d)) := by
  have fin : ∀ {v : V} {t : TE}, (∀ L R H, Rep w L R H v d) → ∀ σ H Q, tE w cf W (.c d) σ H Q → tC v σ H Q := fun hr σ H Q ⟨L, R, m, ρ, rel, hp⟩ => by
    unfold ev at hp
    exact Post.out hp rel.st (hr _ _ _)
  cases d <;> cases k <;> first | (simp [okC] at h; done) | skip
  · exact pe_non.imp (fin (t := tC .non) fun _ _ _ => .non)
  · simp [okC] at h; subst h; exact pe_bl.imp (fin (t := tC .non) fun _ _ _ => .bl _)
  · simp [okC] at h; subst h; exact pe_int.imp (fin (t := tC .non) fun _ _ _ => .int _)
  · simp [okC] at h; subst h; exact pe_str.imp (fin (t := tC .non) fun _ _ _ => .str _)
theorem c_g {x : Str} {d : D} {pos : Pos} (h1 : glB p.sc x = true) (h2 : (ck.gls.any fun q => decide (q.1 = x) && q.2.same d) = true) : PE X (.Name x pos) (tE w cf W (.g x d)) := by
  obtain ⟨q, hq, e⟩ := List.any_eq_true.mp h2
  simp only [Bool.and_eq_true, decide_eq_true_eq] at e
  obtain ⟨e1, e2⟩ := e
  have e3 := same_eq _ _ e2
  obtain ⟨v, u, h3, h4, h5⟩ := C.gls q hq
  rw [e1] at h3
  rw [e3] at h5
  obtain ⟨g1, g2⟩ := gl_of C h1
  refine (pe_glob g1 h3 h4 g2).imp fun σ H Q ⟨L, R, m, ρ, rel, hp⟩ => ?_
  unfold ev at hp
  exact Post.out hp rel.st (h5 _ _ _)
theorem c_t {x : Str} {n : String} {pos : Pos} (h1 : glB p.sc x = true) (h2 : bootBuiltins x = some (.type n)) (h3 : (x == ("__name__" : Str)) = false) (h4 : (ck.free.any fun q => decide (q = x)) = true) : PE X (.Name x pos) (tE w cf W (.t x n)) := by
  obtain ⟨g1, g2⟩ := gl_of C h1
  refine (pe_bltn (v := .ty n) g1 (free_of C h4) h2 rfl (by simpa using h3) g2).imp fun σ H Q ⟨L, R, m, ρ, rel, hp⟩ => ?_
  unfold ev at hp
  exact Post.out hp rel.st (.ty n)
theorem c_tup {es : Es} {es' : List Expr} {j : Nat} {pos : Pos} (h : PA X es' (tEs w cf W es)) : PE X (.Tuple es' j pos) (tE w cf W (.tup es)) := by
  refine (pe_tup h).imp fun σ H Q ⟨L, R, m, ρ, rel, hp⟩ => ?_
  unfold ev at hp
  exact tR_bind (P := RepL w) rel hp (fun _ _ _ q => q) fun xs H1 L1 m1 ds g1 rel1 r1 q1 => q1.tup rel1.st r1
theorem c_lst {c : Bool} {es : Es} {es' : List Expr} {pos : Pos} (h : PA X es' (tEs w cf W es)) : PE X (.List es' pos) (tE w cf W (.lst c es)) := by
  refine (pe_lst h).imp fun σ H Q ⟨L, R, m, ρ, rel, hp⟩ => ?_
  unfold ev at hp
  exact tR_bind (P := RepL w) rel hp (fun _ _ _ q => q) fun xs H1 L1 m1 ds g1 rel1 r1 q1 => q1.lst rel1.st r1
omit C in
/-- two parts, then what is to be done with them -/
theorem two {a b : E} {f : D → D → M → Res D} {σ : L2.St} {H : Hp} {Q : V → Hp → Prop} {L R : List Addr} {m : M} {ρ : Env} (rel : Rel w cf L R m ρ σ H)
    (hp : Post w (Rep w) L R H ((ev cf.F cf.cl a ρ m).bind fun x m => (ev cf.F cf.cl b ρ m).bind fun y m => f x y m) Q fun c d H' => W c d σ H')
    {K : V → V → Hp → Prop} (k : ∀ x y H2 L2 m2 dx dy, Rel w cf L2 R m2 ρ σ H2 → Rep w L2 R H2 x dx → Rep w L2 R H2 y dy → Post w (Rep w) L2 R H2 (f dx dy m2) Q (fun c d H' => W c d σ H') → K x y H2) :
    tE w cf W a σ H fun x H1 => tE w cf W b σ H1 fun y H2 => K x y H2 :=
  tR_bind (P := Rep w) rel hp (fun _ _ _ q => q) fun x H1 L1 m1 dx g1 rel1 r1 q1 =>
    tR_bind (P := Rep w) rel1 q1 (fun _ _ _ q => q) fun y H2 L2 m2 dy g2 rel2 r2 q2 => k x y H2 L2 m2 dx dy rel2 (r1.mono rel1.st g2) r2 q2
theorem c_bin {op : BOp} {c : Bool} {a b : E} {a' b' : Expr} {pos : Pos} (ha : PE X a' (tE w cf W a)) (hb : PE X b' (tE w cf W b)) : PE X (.BinOp a' (opOf op) b' pos) (tE w cf W (.bin op c a b)) := by
  refine (pe_op (op_bop (c := c) C.K op) ha hb).imp fun σ H Q ⟨L, R, m, ρ, rel, hp⟩ => ?_
  unfold ev at hp
  exact two rel hp fun x y H2 L2 m2 dx dy rel2 r1 r2 q => ⟨L2, R, m2, dx, dy, _, rel2.st, r1, r2, q⟩
theorem c_neg {a : E} {a' : Expr} {pos : Pos} (ha : PE X a' (tE w cf W a)) : PE X (.UnaryOp .USub a' pos) (tE w cf W (.neg a)) := by
  refine (pe_un un_neg ha).imp fun σ H Q ⟨L, R, m, ρ, rel, hp⟩ => ?_
  unfold ev at hp
  refine tR_bind (P := Rep w) rel hp (fun _ _ _ q => q) fun x H1 L1 m1 dx g1 rel1 r1 q1 => ?_
  cases dx <;> first | exact q1.elim | skip
  cases r1
  exact ⟨_, rfl, Post.out q1 rel1.st (.int _)⟩
theorem c_not {a : E} {a' : Expr} {pos : Pos} (ha : PE X a' (tE w cf W a)) : PE X (.UnaryOp .Not a' pos) (tE w cf W (.not a)) := by
  refine (pe_not ha).imp fun σ H Q ⟨L, R, m, ρ, rel, hp⟩ => ?_
  unfold ev at hp
  refine tR_bind (P := Rep w) rel hp (fun _ _ _ q => q) fun x H1 L1 m1 dx g1 rel1 r1 q1 => ?_
  obtain ⟨b, rfl, q2⟩ := q1.boolOf
  cases r1
  exact ⟨b, rfl, Post.out q2 rel1.st (.bl _)⟩
theorem c_cmp {op : COp} {a b : E} {a' b' : Expr} {pos : Pos} (hm : behindInMarks (copOf op) b' = false) (ha : PE X a' (tE w cf W a)) (hb : PE X b' (tE w cf W b)) : PE X (.Compare a' [copOf op] [b'] pos) (tE w cf W (.cmp op a b)) := by
  refine (pe_cmpR (op_cop C.K (by have := C.u; omega) op) ha hb hm).imp fun σ H Q ⟨L, R, m, ρ, rel, hp⟩ => ?_
  unfold ev at hp
  refine two rel hp fun x y H2 L2 m2 dx dy rel2 r1 r2 q => ?_
  obtain ⟨k, hk, q2⟩ := q.opt
  exact ⟨L2, R, m2, dx, dy, k, rel2.st, r1, r2, hk, Post.out q2 rel2.st (.bl _)⟩
theorem t_cmp {op : COp} {a b : E} {a' b' : Expr} {pos : Pos} (hm : behindInMarks (copOf op) b' = false) (ha : PE X a' (tE w cf W a)) (hb : PE X b' (tE w cf W b)) : PT X (.Compare a' [copOf op] [b'] pos) (tT w cf W (.cmp op a b)) := by
  refine (pt_cmpR (op_cop C.K (by have := C.u; omega) op) ha hb hm).imp fun σ H Q ⟨L, R, m, ρ, rel, hp⟩ => ?_
  simp only [ev, Res.bind_assoc] at hp
  refine tR_bind (P := Rep w) rel hp (fun _ _ _ q => q) fun x H1 L1 m1 dx g1 rel1 r1 q1 => ?_
  refine tR_bind (P := Rep w) rel1 q1 (fun _ _ _ q => q) fun y H2 L2 m2 dy g2 rel2 r2 q2 => ?_
  cases e : cop op dx dy m2 with
  | none => rw [e] at q2; exact q2.elim
  | some k =>
    rw [e] at q2
    exact ⟨L2, R, m2, dx, dy, k, rel2.st, r1.mono rel1.st g2, r2, e, k, rfl, q2 L2 k H2 (Grow.refl _ _) rel2.st rfl⟩
theorem c_chain {o1 o2 : COp} {a b c : E} {a' b' c' : Expr} {pos : Pos} (hm : behindInMarks (copOf o2) c' = false) (ha : PE X a' (tE w cf W a)) (hb : PE X b' (tE w cf W b)) (hc : PE X c' (tE w cf W c)) : PE X (.Compare a' [copOf o1, copOf o2] [b', c'] pos) (tE w cf W (.chain o1 o2 a b c)) := by
  have hu : X.A.units + 65 < cLine := by have := C.u; omega
  refine (pe_chain (op_cop C.K hu o1) (op_cop C.K hu o2) ha hb hc hm).imp fun σ H Q ⟨L, R, m, ρ, rel, hp⟩ => ?_
  unfold ev at hp
  refine two rel hp fun x y H2 L2 m2 dx dy rel2 r1 r2 q => ?_
  obtain ⟨k, hk, q2⟩ := q.opt
  refine ⟨L2, R, m2, dx, dy, k, rel2.st, r1, r2, hk, k, rfl, ?_⟩
  cases k with
  | true =>
    rw [if_pos rfl]
    refine tR_bind (P := Rep w) rel2 q2 (fun _ _ _ q => q) fun z H3 L3 m3 dz g3 rel3 r3 q3 => ?_
    obtain ⟨j, hj, q4⟩ := q3.opt
    exact ⟨L3, R, m3, dy, dz, j, rel3.st, r2.mono rel2.st g3, r3, hj, Post.out q4 rel3.st (.bl _)⟩
  | false =>
    rw [if_neg (by decide)]
    exact Post.out q2 rel2.st (.bl _)
end
end PM

end

section
set_option maxHeartbeats 1000000
/-! PM, part I: and, or, if; subscripts; calls; targets; what is walked. -/
namespace PM
open PySem PySem.Spec PyProof.Rows L2
section
variable {X : Cx} {w : Wd} {ck : Ck} {cf : Cf} {W : WX} {p : Pl} (C : Cok X w ck cf W p)
include C
theorem c_and {a b : E} {a' b' : Expr} {r : List Expr} {pos : Pos} (ha : PE X a' (tE w cf W a)) (hb : PE X (.BoolOp .And (b' :: r) pos) (tE w cf W b)) : PE X (.BoolOp .And (a' :: b' :: r) pos) (tE w cf W (.and a b)) := by
  refine (pe_and ha hb).imp fun σ H Q ⟨L, R, m, ρ, rel, hp⟩ => ?_
  unfold ev at hp
  refine tR_bind (P := Rep w) rel hp (fun _ _ _ q => q) fun x H1 L1 m1 dx g1 rel1 r1 q1 => ?_
  obtain ⟨k, rfl, q2⟩ := q1.boolOf
  cases r1
  refine ⟨k, rfl, ?_⟩
  cases k with
  | true => exact iteT (tR_end rel1 q2 fun _ _ _ q => q)
  | false => exact iteF (Post.out q2 rel1.st (.bl _))
theorem c_or {a b : E} {a' b' : Expr} {r : List Expr} {pos : Pos} (ha : PE X a' (tE w cf W a)) (hb : PE X (.BoolOp .Or (b' :: r) pos) (tE w cf W b)) : PE X (.BoolOp .Or (a' :: b' :: r) pos) (tE w cf W (.or a b)) := by
  refine (pe_or ha hb).imp fun σ H Q ⟨L, R, m, ρ, rel, hp⟩ => ?_
  unfold ev at hp
  refine tR_bind (P := Rep w) rel hp (fun _ _ _ q => q) fun x H1 L1 m1 dx g1 rel1 r1 q1 => ?_
  obtain ⟨k, rfl, q2⟩ := q1.boolOf
  cases r1
  refine ⟨k, rfl, ?_⟩
  cases k with
  | true => exact iteT (Post.out q2 rel1.st (.bl _))
  | false => exact iteF (tR_end rel1 q2 fun _ _ _ q => q)
theorem w_and {a b : E} {a' b' : Expr} {r : List Expr} {pos : Pos} (ha : PT X a' (tT w cf W a)) (hb : PW X (.BoolOp .And (b' :: r) pos) (tT w cf W b)) : PW X (.BoolOp .And (a' :: b' :: r) pos) (tT w cf W (.and a b)) := by
  refine (pw_and ha hb).imp fun σ H Q ⟨L, R, m, ρ, rel, hp⟩ => ?_
  simp only [ev, Res.bind_assoc] at hp
  show tT w cf W a σ H _
  refine tR_bind (r := fun ρ m => (ev cf.F cf.cl a ρ m).bind boolOf) (P := PB) (g := fun k m => (if k then ev cf.F cf.cl b ρ m else .ok (.bl false) m).bind boolOf) rel (by rw [Res.bind_assoc]; exact hp) (fun _ _ _ q => q) fun k H1 L1 m1 k' g1 rel1 e q2 => ?_
  obtain rfl : k = k' := e
  cases k with
  | true => exact iteT (tR_end rel1 q2 fun _ _ _ q => q)
  | false => exact iteF (q2 L1 false H1 (Grow.refl _ _) rel1.st rfl)
theorem w_or {a b : E} {a' b' : Expr} {r : List Expr} {pos : Pos} (ha : PT X a' (tT w cf W a)) (hb : PW X (.BoolOp .Or (b' :: r) pos) (tT w cf W b)) : PW X (.BoolOp .Or (a' :: b' :: r) pos) (tT w cf W (.or a b)) := by
  refine (pw_or ha hb).imp fun σ H Q ⟨L, R, m, ρ, rel, hp⟩ => ?_
  simp only [ev, Res.bind_assoc] at hp
  show tT w cf W a σ H _
  refine tR_bind (r := fun ρ m => (ev cf.F cf.cl a ρ m).bind boolOf) (P := PB) (g := fun k m => (if k then .ok (.bl true) m else ev cf.F cf.cl b ρ m).bind boolOf) rel (by rw [Res.bind_assoc]; exact hp) (fun _ _ _ q => q) fun k H1 L1 m1 k' g1 rel1 e q2 => ?_
  obtain rfl : k = k' := e
  cases k with
  | true => exact iteT (q2 L1 true H1 (Grow.refl _ _) rel1.st rfl)
  | false => exact iteF (tR_end rel1 q2 fun _ _ _ q => q)
theorem t_not {a : E} {a' : Expr} {pos : Pos} (ha : PT X a' (tT w cf W a)) : PT X (.UnaryOp .Not a' pos) (tT w cf W (.not a)) := by
  refine (pt_not ha).imp fun σ H Q ⟨L, R, m, ρ, rel, hp⟩ => ?_
  simp only [ev, Res.bind_assoc] at hp
  show tT w cf W a σ H _
  refine tR_bind (r := fun ρ m => (ev cf.F cf.cl a ρ m).bind boolOf) (P := PB) (g := fun k m => (Res.ok (D.bl !k) m).bind boolOf) rel (by rw [Res.bind_assoc]; exact hp) (fun _ _ _ q => q) fun k H1 L1 m1 k' g1 rel1 e q2 => ?_
  obtain rfl : k = k' := e
  exact q2 L1 _ H1 (Grow.refl _ _) rel1.st rfl
/-- a value that is a truth, as a test -/
theorem t_val {e : E} {e' : Expr} (h : PE X e' (tE w cf W e)) (he : ∀ whole, isTrue e' X.env whole = (do let v ← whole; standAt e'.pos; holding [v] (truthy v))) : PT X e' (tT w cf W e) := by
  refine (pt_val h he).imp fun σ H Q ⟨L, R, m, ρ, rel, hp⟩ => ?_
  show tE w cf W e σ H _
  refine tR_bind (P := Rep w) rel hp (fun _ _ _ q => q) fun x H1 L1 m1 dx g1 rel1 r1 q1 => ?_
  have q1' : Post w PB L1 R H1 ((boolOf dx m1).bind fun b m => .ok b m) Q fun c d H' => W c d σ H' := by
    cases dx <;> first | exact q1 | exact q1.elim
  obtain ⟨k, rfl, q2⟩ := q1'.boolOf
  cases r1
  exact ⟨k, rfl, q2 L1 k H1 (Grow.refl _ _) rel1.st rfl⟩
theorem c_ite {c a b : E} {c' a' b' : Expr} {pos : Pos} (hc : PT X c' (tT w cf W c)) (ha : PE X a' (tE w cf W a)) (hb : PE X b' (tE w cf W b)) : PE X (.IfExp c' a' b' pos) (tE w cf W (.ite c a b)) := by
  refine (pe_ifExp hc ha hb).imp fun σ H Q ⟨L, R, m, ρ, rel, hp⟩ => ?_
  simp only [ev] at hp
  show tT w cf W c σ H _
  refine tR_bind (r := fun ρ m => (ev cf.F cf.cl c ρ m).bind boolOf) (P := PB) (g := fun k m => if k then ev cf.F cf.cl a ρ m else ev cf.F cf.cl b ρ m) rel (by rw [Res.bind_assoc]; exact hp) (fun _ _ _ q => q) fun k H1 L1 m1 k' g1 rel1 e q2 => ?_
  obtain rfl : k = k' := e
  cases k with
  | true => exact iteT (tR_end rel1 q2 fun _ _ _ q => q)
  | false => exact iteF (tR_end rel1 q2 fun _ _ _ q => q)
theorem c_ix {a i : E} {a' i' : Expr} {pos : Pos} (hs : PlainIx i') (ha : PE X a' (tE w cf W a)) (hi : PE X i' (tE w cf W i)) : PE X (.Subscript a' i' pos) (tE w cf W (.ix a i)) := by
  refine (pe_ix (ix_d C.K) ha hi hs).imp fun σ H Q ⟨L, R, m, ρ, rel, hp⟩ => ?_
  unfold ev at hp
  refine two rel hp fun x y H2 L2 m2 dx dy rel2 r1 r2 q => ?_
  cases e : ixD dx dy m2 with
  | none => rw [e] at q; exact q.elim
  | some d =>
    rw [e] at q
    exact ⟨L2, R, m2, dx, dy, d, rel2.st, r1, r2, e, fun v hv => Post.out q rel2.st hv⟩
abbrev PO' : PR (Option D) (Option Int) := fun _ _ _ o d => match d with
  | none => o = none
  | some (.int i) => o = some i
  | _ => True
omit C in
theorem c_po {eo : Eo} {e' : Option Expr} (h : match eo, e' with
    | .no, none => True
    | .yes e, some e' => PE X e' (tE w cf W e)
    | _, _ => False) : PO X e' fun σ H Q => tR w cf W (fun (L R : List Addr) (H : Hp) (o : Option Int) (d : Option D) => partD d = some o) (fun ρ m => (evo cf.F cf.cl eo ρ m).bind fun d m => (opt (partD d) m).bind fun _ m => .ok d m) σ H Q := by
  cases eo with
  | no =>
    cases e' with
    | none =>
      refine ⟨fun pins s σ H Q I q => po_none.run pins s σ H Q I ?_⟩
      obtain ⟨L, R, m, ρ, rel, hp⟩ := q
      exact hp L none H (Grow.refl _ _) rel.st rfl
    | some _ => exact h.elim
  | yes e =>
    cases e' with
    | none => exact h.elim
    | some e' =>
      refine ⟨fun pins s σ H Q I q => (po_some h).run pins s σ H Q I ?_⟩
      obtain ⟨L, R, m, ρ, rel, hp⟩ := q
      simp only [evo, Res.bind_assoc] at hp
      show tE w cf W e σ H _
      refine tR_bind (P := Rep w) rel hp (fun _ _ _ q => q) fun x H1 L1 m1 dx g1 rel1 r1 q1 => ?_
      obtain ⟨o, ho, q2⟩ := Post.opt (r := partD (some dx)) q1
      cases dx <;> first | cases ho | skip
      cases r1
      exact ⟨_, rfl, q2 L1 _ H1 (Grow.refl _ _) rel1.st rfl⟩
theorem c_sl {c : Bool} {a : E} {lo hi : Eo} {a' : Expr} {l h : Option Expr} {p2 pos : Pos} (ha : PE X a' (tE w cf W a)) (hl : match lo, l with
    | .no, none => True
    | .yes e, some e' => PE X e' (tE w cf W e)
    | _, _ => False) (hh : match hi, h with
    | .no, none => True
    | .yes e, some e' => PE X e' (tE w cf W e)
    | _, _ => False) : PE X (.Subscript a' (.Slice l h none p2) pos) (tE w cf W (.sl c a lo hi)) := by
  refine (pe_slice (sl_d (c := c) C.K) ha (c_po hl) (c_po hh)).imp fun σ H Q ⟨L, R, m, ρ, rel, hp⟩ => ?_
  unfold ev at hp
  show tE w cf W a σ H _
  refine tR_bind (P := Rep w) rel hp (fun _ _ _ q => q) fun x H1 L1 m1 dx g1 rel1 r1 q1 => ?_
  -- the lower bound
  refine tR_bind (r := fun ρ m => (evo cf.F cf.cl lo ρ m).bind fun d m => (opt (partD d) m).bind fun _ m => .ok d m) (g := fun d m => (opt (partD d) m).bind fun l m => (evo cf.F cf.cl hi ρ m).bind fun h m => (opt (partD h) m).bind fun h m => (slD dx l h m).out c m) rel1 (by
    rw [Res.bind_assoc]
    cases e : evo cf.F cf.cl lo ρ m1 with
    | ok d m =>
      rw [e] at q1
      simp only [Res.bind_ok] at q1 ⊢
      cases e2 : partD d with
      | none => rw [e2] at q1; exact q1.elim
      | some o => rw [e2] at q1; simp only [opt_some, Res.bind_ok, e2] at q1 ⊢; exact q1
    | exc x m => rw [e] at q1; exact q1
    | bad => rw [e] at q1; exact q1) (fun _ _ _ q => q) fun l' H2 L2 m2 dl g2 rel2 el q2 => ?_
  have el' : partD dl = some l' := el
  rw [el'] at q2
  simp only [opt_some, Res.bind_ok] at q2
  refine tR_bind (r := fun ρ m => (evo cf.F cf.cl hi ρ m).bind fun d m => (opt (partD d) m).bind fun _ m => .ok d m) (g := fun d m => (opt (partD d) m).bind fun h m => (slD dx l' h m).out c m) rel2 (by
    rw [Res.bind_assoc]
    cases e : evo cf.F cf.cl hi ρ m2 with
    | ok d m =>
      rw [e] at q2
      simp only [Res.bind_ok] at q2 ⊢
      cases e2 : partD d with
      | none => rw [e2] at q2; exact q2.elim
      | some o => rw [e2] at q2; simp only [opt_some, Res.bind_ok, e2] at q2 ⊢; exact q2
    | exc x m => rw [e] at q2; exact q2
    | bad => rw [e] at q2; exact q2) (fun _ _ _ q => q) fun h' H3 L3 m3 dh g3 rel3 eh q3 => ?_
  have eh' : partD dh = some h' := eh
  rw [eh'] at q3
  simp only [opt_some, Res.bind_ok] at q3
  exact ⟨L3, R, m3, dx, _, rel3.st, (r1.mono rel1.st g2).mono rel2.st g3, q3⟩
/-! ### arguments -/
omit C in
theorem a_nil : PA X [] (tEs w cf W .nil) := pa_nil.imp fun σ H Q ⟨L, R, m, ρ, rel, hp⟩ => by
  unfold evs at hp
  exact hp L [] H (Grow.refl _ _) rel.st .nil
omit C in
theorem a_cons {e : E} {r : Es} {e' : Expr} {r' : List Expr} (he : PE X e' (tE w cf W e)) (hr : PA X r' (tEs w cf W r)) (hs : starEach (e' :: r') X.env = (false, eval e' X.env) :: starEach r' X.env) : PA X (e' :: r') (tEs w cf W (.cons e r)) := by
  refine (pa_cons he hr hs).imp fun σ H Q ⟨L, R, m, ρ, rel, hp⟩ => ?_
  unfold evs at hp
  show tE w cf W e σ H _
  refine tR_bind (P := Rep w) rel hp (fun _ _ _ q => q) fun x H1 L1 m1 dx g1 rel1 r1 q1 => ?_
  refine tR_bind (P := RepL w) rel1 q1 (fun _ _ _ q => q) fun xs H2 L2 m2 ds g2 rel2 r2 q2 => ?_
  exact q2 L2 _ H2 (Grow.refl _ _) rel2.st (.cons (r1.mono rel1.st g2) r2)
omit C in
theorem k_nil : PK X [] (tEs w cf W .nil) := ⟨fun pos pins s σ H Q I ⟨L, R, m, ρ, rel, hp⟩ => by
  unfold evs at hp
  exact pk_nil.run pos pins s σ H Q I (hp L [] H (Grow.refl _ _) rel.st .nil)⟩
omit C in
theorem k_cons {e : E} {r : Es} {nm : Option Str} {e' : Expr} {kpos : Pos} {r' : List Keyword} (he : PE X e' (tE w cf W e)) (hr : PK X r' (tEs w cf W r)) : PK X (⟨nm, e', kpos⟩ :: r') (tEs w cf W (.cons e r)) :=
  ⟨fun pos pins s σ H Q I ⟨L, R, m, ρ, rel, hp⟩ => by
    refine (pk_cons he hr).run pos pins s σ H Q I ?_
    unfold evs at hp
    show tE w cf W e σ H _
    refine tR_bind (P := Rep w) rel hp (fun _ _ _ q => q) fun x H1 L1 m1 dx g1 rel1 r1 q1 => ?_
    refine tR_bind (P := RepL w) rel1 q1 (fun _ _ _ q => q) fun xs H2 L2 m2 ds g2 rel2 r2 q2 => ?_
    exact q2 L2 _ H2 (Grow.refl _ _) rel2.st (.cons (r1.mono rel1.st g2) r2)⟩
/-! ### calls -/
theorem bindP_pos {α : Type} {ps : List Str} {ds as : List α} (h : bindP ps ds [] = some as) : as = ds ∧ ds.length = ps.length := by
  unfold bindP at h
  split at h
  · rename_i hl
    have hl : ds.length = ps.length := by simpa using hl
    rw [List.drop_eq_nil_of_le (by omega)] at h
    simp [allSome] at h
    exact ⟨h.symm, hl⟩
  · cases h
omit C in
theorem bindP_pos' {α : Type} {ps : List Str} {ds : List α} (h : ds.length = ps.length) : bindP ps ds [] = some ds := by
  unfold bindP
  rw [if_pos (by simpa using h), List.drop_eq_nil_of_le (by omega)]
  simp [allSome]
omit C in
theorem RepL.paired {L R : List Addr} {H : Hp} : ∀ {vs : List V} {ds : List D}, RepL w L R H vs ds → Paired (fun v d => Rep w L R H v d) vs ds
  | _, _, .nil => .nil
  | _, _, .cons r t => .cons r (RepL.paired t)
omit C in
theorem RepL.of_paired {L R : List Addr} {H : Hp} : ∀ {vs : List V} {ds : List D}, Paired (fun v d => Rep w L R H v d) vs ds → RepL w L R H vs ds
  | _, _, .nil => .nil
  | _, _, .cons r t => .cons r (RepL.of_paired t)
omit C in
theorem lookup_rel {α β : Type} {T : α → β → Prop} (x : Str) : ∀ {ks : List Str} {ws : List α} {zs : List β}, Paired T ws zs → match (ks.zip ws).lookup x, (ks.zip zs).lookup x with
    | some a, some b => T a b
    | none, none => True
    | _, _ => False
  | [], _, _, _ => by simp
  | _ :: _, _, _, .nil => by simp
  | k :: ks, _, _, .cons r t => by
    simp only [List.zip_cons_cons, List.lookup_cons]
    cases (x == k) with
    | true => exact r
    | false => exact lookup_rel x t
omit C in
theorem allSome_rel {α β : Type} {T : α → β → Prop} {xs : List (Option α)} {ys : List (Option β)} (h : Paired (fun a b => match a, b with
    | some a, some b => T a b
    | none, none => True
    | _, _ => False) xs ys) : match allSome xs, allSome ys with
    | some a, some b => Paired T a b
    | none, none => True
    | _, _ => False := by
  induction h with
  | nil => exact .nil
  | @cons a b l l' r t ih =>
    cases a with
    | none =>
      cases b with
      | none => trivial
      | some b => exact r.elim
    | some a =>
      cases b with
      | none => exact r.elim
      | some b =>
        simp only [allSome]
        cases e1 : allSome l with
        | none =>
          cases e2 : allSome l' with
          | none => trivial
          | some y => rw [e1, e2] at ih; exact ih.elim
        | some x =>
          cases e2 : allSome l' with
          | none => rw [e1, e2] at ih; exact ih.elim
          | some y => rw [e1, e2] at ih; exact .cons r ih
omit C in
theorem paired_map {α β γ : Type} {T : α → β → Prop} {f : γ → α} {g : γ → β} (h : ∀ c, T (f c) (g c)) : ∀ l : List γ, Paired T (l.map f) (l.map g)
  | [] => .nil
  | c :: l => .cons (h c) (paired_map h l)
omit C in
theorem paired_app {α β : Type} {T : α → β → Prop} {a b : List α} {c d : List β} (h : Paired T a c) (k : Paired T b d) : Paired T (a ++ b) (c ++ d) := by
  induction h with
  | nil => exact k
  | cons r _ ih => exact .cons r ih
omit C in
theorem bindP_rel {α β : Type} {T : α → β → Prop} {ps ks : List Str} {us : List α} {vs : List β} {ws : List α} {zs : List β} (h1 : Paired T us vs) (h2 : Paired T ws zs) : match bindP ps us (ks.zip ws), bindP ps vs (ks.zip zs) with
    | some a, some b => Paired T a b
    | none, none => True
    | _, _ => False := by
  have l1 := Paired.length h1
  have l2 := Paired.length h2
  unfold bindP
  rw [List.length_zip, List.length_zip, l1, l2]
  by_cases hc : vs.length + min ks.length zs.length = ps.length
  · rw [if_pos hc, if_pos hc]
    have q := allSome_rel (T := T) (paired_map (f := fun x => (ks.zip ws).lookup x) (g := fun x => (ks.zip zs).lookup x) (fun x => lookup_rel x h2) (ps.drop vs.length))
    revert q
    cases allSome ((ps.drop vs.length).map fun x => (ks.zip ws).lookup x) <;> cases allSome ((ps.drop vs.length).map fun x => (ks.zip zs).lookup x) <;> intro q
    · trivial
    · exact q.elim
    · exact q.elim
    · exact paired_app h1 q
  · rw [if_neg hc, if_neg hc]
    trivial
/-- a def called with values that stand for data -/
theorem run_d {x : Str} {ps : List Str} (hps : cf.F.ps x = some ps) {a : Addr} {fd : FuncData} (hF : FnG X.prog X.w X.K X.mg X.base cf.k a fd ps (spOf w cf.F x ps)) {ks : List Str}
    (hb : ∀ (s : Shared) (us ws as : List Value), X.K.In s.heap → ws.length = ks.length → bindP ps us (ks.zip ws) = some as → BindsTo s fd ⟨us, ks.zip ws⟩ (ps.zip as))
    {pins : List (Addr × Obj)} {σ : L2.St} {H : Hp} {s : Shared} {us ws : List Value} {vs zs : List V} {ds es as : List D} {L R : List Addr} {m : M} {Q : VK} (I : Inv X pins σ H s) (r : Vals vs us) (rz : Vals zs ws) (hwl : ws.length = ks.length) (S : StOk w L R m H) (rd : RepL w L R H vs ds) (re : RepL w L R H zs es)
    (hbd : bindP ps ds (ks.zip es) = some as) (hp : Post w (Rep w) L R H (cf.F.call x as m) Q fun c d H' => W c d σ H') : wpAny (model X.prog X.w) X.A (call (.ref a) us (ks.zip ws)) (EP X pins σ Q) X.xe s := by
  have q1 := bindP_rel (ps := ps) (ks := ks) (RepL.paired rd) (RepL.paired re)
  rw [hbd] at q1
  cases e1 : bindP ps vs (ks.zip zs) with
  | none => rw [e1] at q1; exact q1.elim
  | some av =>
    rw [e1] at q1
    have q2 := bindP_rel (ps := ps) (ks := ks) r rz
    rw [e1] at q2
    cases e2 : bindP ps us (ks.zip ws) with
    | none => rw [e2] at q2; exact q2.elim
    | some au =>
      rw [e2] at q2
      have rl := RepL.of_paired q1
      have hlen : as.length = ps.length := Classical.byContradiction fun z => by
        rw [C.fno x as m (fun ps' e => by rw [hps] at e; cases e; exact z)] at hp
        exact hp.elim
      refine wpAny_call (codeAny_mono (hF.run X.A X.stack s H ⟨us, ks.zip ws⟩ au av Q (WE W σ) C.rm C.gd I.env0 (hb s us ws au I.kIn hwl e2) q2 ⟨L, R, m, as, S, rl, hlen, hp⟩) fun rr s' hq => ?_)
      cases rr with
      | error e => exact passAt C.tk σ pins H s e s' I hq
      | ok fl =>
        cases fl with
        | ret u => exact I.after hq
        | next => exact False.elim hq
        | brk => exact False.elim hq
        | cont => exact False.elim hq
omit C in
theorem call_kw0 {f : Value} {us : List Value} : call f us = call f us [] := rfl
theorem c_call {x : Str} {es : Es} {e' : Expr} {r' : List Expr} {pp pos : Pos} (hg : glB p.sc x = true) (ha : PA X (e' :: r') (tEs w cf W es)) (hsh : (x, []) ∈ ck.shapes)
    (he : starEach (e' :: r') X.env = (false, eval e' X.env) :: starEach r' X.env) (hpl : (backTo pos (starEach r' X.env)).any (·.1) = false) : PE X (.Call (.Name x pp) (e' :: r') [] pos) (tE w cf W (.call x es)) := by
  obtain ⟨g1, g2⟩ := gl_of C hg
  obtain ⟨ps, eps⟩ := C.shp x [] hsh
  obtain ⟨a, fd, hm, hk, hF, hb, _⟩ := C.fok x ps eps
  refine ⟨fun pins s σ H Q I ⟨L, R, m, ρ, rel, hp⟩ => ?_⟩
  unfold ev at hp
  refine wpAny_Call_Name_kw (ld_glob I g1 hm ?_ g2)
  refine PySem.W.callWith_K (h₀ := X.base) I.ok.mod.kin hk (thn (ha.run pos pins s σ H _ I (tR_bind (P := RepL w) rel hp (fun _ _ _ q => q)
    (Q1 := fun vs H1 => ∃ L1 m1 ds, StOk w L1 R m1 H1 ∧ RepL w L1 R H1 vs ds ∧ Post w (Rep w) L1 R H1 (cf.F.call x ds m1) Q fun c d H' => W c d σ H') fun vs H1 L1 m1 ds g1 rel1 r1 q1 => ⟨L1, m1, ds, rel1.st, r1, q1⟩)) fun us s1 ⟨vs, H1, I1, r, L1, m1, ds, S1, r1, q1⟩ => ⟨I1.kIn, ?_⟩) he hpl
  have hlen : ds.length = ps.length := Classical.byContradiction fun z => by
    rw [C.fno x ds m1 (fun ps' e => by rw [eps] at e; cases e; exact z)] at q1
    exact q1.elim
  exact run_d C eps hF (ks := []) (hb [] (.inl rfl)) (ws := []) (zs := []) (es := []) I1 r .nil rfl S1 r1 .nil (bindP_pos' hlen) q1
theorem c_callK {x : Str} {es vs' : Es} {ks : List Str} {as' : List Expr} {kws : List Keyword} {pp pos : Pos} (hg : glB p.sc x = true) (ha : PA X as' (tEs w cf W es)) (hkw : PK X kws (tEs w cf W vs')) (hsh : (x, ks) ∈ ck.shapes)
    (hall : (backToKw pos (keywordEach kws X.env)).all (·.1.isSome) = true) (hks : (backToKw pos (keywordEach kws X.env)).filterMap (·.1) = ks) (hnil : as' = [] → es = .nil) (hkl : ∀ ρ m ds m', evs cf.F cf.cl vs' ρ m = .ok ds m' → ds.length = ks.length)
    (he : ∀ e r, as' = e :: r → starEach (e :: r) X.env = (false, eval e X.env) :: starEach r X.env) (hpl : ((backTo pos (starEach as' X.env)).any (·.1) || (backToKw pos (keywordEach kws X.env)).any (·.1.isNone)) = false) : PE X (.Call (.Name x pp) as' kws pos) (tE w cf W (.callK x es ks vs')) := by
  obtain ⟨g1, g2⟩ := gl_of C hg
  obtain ⟨ps, eps⟩ := C.shp x ks hsh
  obtain ⟨a, fd, hm, hk, hF, hb, _⟩ := C.fok x ps eps
  refine ⟨fun pins s σ H Q I ⟨L, R, m, ρ, rel, hp⟩ => ?_⟩
  unfold ev at hp
  refine wpAny_Call_Name_kw (ld_glob I g1 hm ?_ g2)
  -- the keywords behind the positional ones
  have kwd : ∀ (s1 : Shared) (H1 : Hp) (us : List Value) (vs : List V) (L1 : List Addr) (m1 : M) (ds : List D), Inv X pins σ H1 s1 → Vals vs us → Rel w cf L1 R m1 ρ σ H1 → RepL w L1 R H1 vs ds →
      Post w (Rep w) L1 R H1 ((evs cf.F cf.cl vs' ρ m1).bind fun ws m => (opt ((cf.F.ps x).bind fun ps => bindP ps ds (ks.zip ws)) m).bind fun as m => cf.F.call x as m) Q (fun c d H' => W c d σ H') →
      wpAny (model X.prog X.w) X.A (evalAll ((backToKw pos (keywordEach kws X.env)).map (·.2))) (fun ks' s₂ => X.K.In s₂.heap ∧ wpAny (model X.prog X.w) X.A (call (.ref a) us (((backToKw pos (keywordEach kws X.env)).filterMap (·.1)).zip ks')) (EP X pins σ Q) X.xe s₂) X.xe s1 := by
    intro s1 H1 us vs L1 m1 ds I1 r rel1 r1 q1
    refine thn (hkw.run pos pins s1 σ H1 _ I1 ?_) fun ws s2 ⟨zs, H2, I2, rz, (q2 : ∃ L2 m2 es, ks.length = es.length ∧ StOk w L2 R m2 H2 ∧ RepL w L2 R H2 vs ds ∧ RepL w L2 R H2 zs es ∧ Post w (Rep w) L2 R H2 ((opt ((cf.F.ps x).bind fun ps => bindP ps ds (ks.zip es)) m2).bind fun as m => cf.F.call x as m) Q fun c d H' => W c d σ H')⟩ => ⟨I2.kIn, ?_⟩
    · refine ⟨L1, R, m1, ρ, rel1, ?_⟩
      revert q1
      cases e : evs cf.F cf.cl vs' ρ m1 with
      | ok es m2 => exact fun q1 L' zs H' g S rz => ⟨L', m2, es, (hkl _ _ _ _ e).symm, S, r1.mono rel1.st g, rz, q1.later g⟩
      | exc x m => exact fun q1 => q1
      | bad => exact fun q1 => q1
    · obtain ⟨L2, m2, es, hl, S2, r2, re, q3⟩ := q2
      obtain ⟨as, hbd, q4⟩ := q3.opt
      rw [eps] at hbd
      rw [hks]
      exact run_d C eps hF (hb ks (.inr hsh)) I2 r rz (by rw [← rz.length, re.length, hl]) S2 r2 re hbd q4
  cases as' with
  | nil =>
    refine PySem.W.callWith_KW0 (h₀ := X.base) I.ok.mod.kin hk hall ?_ hpl
    have e0 : evs cf.F cf.cl .nil ρ m = .ok [] m := by simp [evs]
    rw [hnil rfl, e0] at hp
    exact kwd s H [] [] L m [] I .nil rel .nil hp
  | cons e r' =>
    refine PySem.W.callWith_KW (h₀ := X.base) I.ok.mod.kin hk hall (thn (ha.run pos pins s σ H _ I (tR_bind (P := RepL w) rel hp (fun _ _ _ q => q)
      (Q1 := fun vs H1 => ∃ L1 m1 ds, Rel w cf L1 R m1 ρ σ H1 ∧ RepL w L1 R H1 vs ds ∧ Post w (Rep w) L1 R H1 ((evs cf.F cf.cl vs' ρ m1).bind fun ws m => (opt ((cf.F.ps x).bind fun ps => bindP ps ds (ks.zip ws)) m).bind fun as m => cf.F.call x as m) Q fun c d H' => W c d σ H') fun vs H1 L1 m1 ds g1 rel1 r1 q1 => ⟨L1, m1, ds, rel1, r1, q1⟩)) fun us s1 ⟨vs, H1, I1, r, L1, m1, ds, rel1, r1, q1⟩ => ?_) hpl (he e r' rfl)
    exact kwd s1 H1 us vs L1 m1 ds I1 r rel1 r1 q1
end
end PM

end

section
set_option maxHeartbeats 1000000
/-! PM, part J: built-ins called; targets; what is walked. -/
namespace PM
open PySem PySem.Spec PyProof.Rows L2
section
variable {X : Cx} {w : Wd} {ck : Ck} {cf : Cf} {W : WX} {p : Pl} (C : Cok X w ck cf W p)
include C
theorem c_prim {q : Pr} {c : Bool} {es : Es} {e' : Expr} {r' : List Expr} {pp pos : Pos} (hcr : CallR X q.val (rp w fun ds m => (prim q ds m).out c m)) (hg : glB p.sc q.name = true) (hm : X.mg q.name = none) (ha : PA X (e' :: r') (tEs w cf W es))
    (he : starEach (e' :: r') X.env = (false, eval e' X.env) :: starEach r' X.env) (hpl : (backTo pos (starEach r' X.env)).any (·.1) = false) : PE X (.Call (.Name q.name pp) (e' :: r') [] pos) (tE w cf W (.prim q c es)) := by
  obtain ⟨g1, g2⟩ := gl_of C hg
  have hn : q.name ≠ "__name__" := by cases q <;> decide
  have fin : ∀ σ H Q, tE w cf W (.prim q c es) σ H Q → tCB (rp w fun ds m => (prim q ds m).out c m) (tEs w cf W es) σ H Q := fun σ H Q ⟨L, R, m, ρ, rel, hp⟩ => by
    unfold ev at hp
    exact tR_bind (P := RepL w) rel hp (fun _ _ _ q => q) fun vs H1 L1 m1 ds g1 rel1 r1 q1 => ⟨L1, R, m1, ds, _, rel1.st, r1, q1⟩
  have hb := q.boot
  cases hv : q.val with
  | builtin id =>
    rw [hv] at hcr hb
    exact (pe_callB hcr g1 hm hb ha hn g2 he hpl).imp fin
  | type T =>
    rw [hv] at hcr hb
    exact (pe_callTy hcr g1 hm hb ha hn g2 he hpl).imp fin
  | _ => cases q <;> cases hv

/-! ### targets -/
def SBut (ts : List Nat) (σ σ' : L2.St) : Prop := σ'.length = σ.length ∧ ∀ i, i ∉ ts → σ'[i]? = σ[i]?
omit C in
theorem SBut.refl (ts : List Nat) (σ : L2.St) : SBut ts σ σ := ⟨rfl, fun _ _ => rfl⟩
omit C in
theorem SBut.trans {ts us : List Nat} {σ σ1 σ2 : L2.St} (a : SBut ts σ σ1) (b : SBut us σ1 σ2) : SBut (ts ++ us) σ σ2 :=
  ⟨b.1.trans a.1, fun i h => by rw [List.mem_append, not_or] at h; rw [b.2 i h.2, a.2 i h.1]⟩
def PostT (w : Wd) (cf : Cf) (L R : List Addr) (H : Hp) (σ : L2.St) (ts : List Nat) (r : Res Env) (K : L2.St → Hp → Prop) : Prop := match r with
  | .ok ρ' m' => ∀ L' σ' H', Grow L H L' H' → Rel w cf L' R m' ρ' σ' H' → SBut ts σ σ' → K σ' H'
  | _ => False
def tG (w : Wd) (cf : Cf) (t : Tg) : TG := fun v σ H K => ∃ (L R : List Addr) (m : M) (ρ : Env) (d : D), Rel w cf L R m ρ σ H ∧ Rep w L R H v d ∧ PostT w cf L R H σ (tgN t) (bt cf.F cf.cl t d ρ m) K
def tGs (w : Wd) (cf : Cf) (ts : Tgs) : TGs := fun vs σ H K => ∃ (L R : List Addr) (m : M) (ρ : Env) (ds : List D), Rel w cf L R m ρ σ H ∧ RepL w L R H vs ds ∧ PostT w cf L R H σ (tgsN ts) (bts cf.F cf.cl ts ds ρ m) K
omit C in
theorem PostT.later {L R L1 : List Addr} {H H1 : Hp} {σ : L2.St} {ts : List Nat} {r : Res Env} {K : L2.St → Hp → Prop} (h : PostT w cf L R H σ ts r K) (g : Grow L H L1 H1) : PostT w cf L1 R H1 σ ts r K := by
  cases r with
  | ok ρ m => exact fun L' σ' H' g' rel s => h L' σ' H' (g.trans g') rel s
  | exc x m => exact h
  | bad => exact h
theorem Rel.set {L R : List Addr} {m : M} {ρ : Env} {σ : L2.St} {H : Hp} {i : Nat} {v : V} {d : D} (rel : Rel w cf L R m ρ σ H) (hi : p.clo ≠ some i) (r : Rep w L R H v d) : Rel w cf L R m (ρ.set i (some d)) (σ.set i (some v)) H := by
  refine ⟨rel.st, by simp [rel.len], fun j e h => ?_, fun j c h => ?_⟩
  · by_cases hj : j = i
    · subst hj
      have hl : j < ρ.length := by
        have := (List.getElem?_eq_some_iff.mp h).1
        simpa using this
      rw [List.getElem?_set_self hl] at h
      cases h
      exact ⟨v, List.getElem?_set_self (by rw [rel.len]; exact hl), r⟩
    · rw [List.getElem?_set_ne (Ne.symm hj)] at h
      rw [List.getElem?_set_ne (Ne.symm hj)]
      exact rel.sl j e h
  · have hj : j ≠ i := fun z => hi (by rw [C.clo, h, z]; rfl)
    rw [List.getElem?_set_ne (Ne.symm hj)]
    exact rel.cl j c h
theorem g_n {i : Nat} {x : Str} {pos : Pos} (h1 : p.nm i x = true) (h2 : p.own x = true) : PG X (.Name x pos) (tG w cf (.n i)) := by
  obtain ⟨a1, _, _, a4⟩ := nm_of C h1
  refine (pg_name C.nd a1 (own_of C h2) (C.fn x h2)).imp fun v σ H K ⟨L, R, m, ρ, d, rel, r, hp⟩ => ?_
  unfold bt at hp
  exact hp L _ H (Grow.refl _ _) (rel.set C a4 r) ⟨by simp, fun j hj => List.getElem?_set_ne (by simpa [tgN, eq_comm] using hj)⟩
theorem g_sub {o i : E} {o' i' : Expr} {pos : Pos} (ho : PE X o' (tE w cf W o)) (hi : PE X i' (tE w cf W i)) (ha : ∀ v, assign (.Subscript o' i' pos) X.env v = (do
      let ov ← holding [v] (eval o' X.env)
      let iv ← holding [v, ov] (eval i' X.env)
      standAt pos
      holding [v, ov, iv] (setItem ov iv v)
      release [v, ov, iv] [])) : PG X (.Subscript o' i' pos) (tG w cf (.sub o i)) := by
  refine (pg_sub ho hi set_list ha).imp fun v σ H K ⟨L, R, m, ρ, d, rel, r, hp⟩ => ?_
  unfold bt at hp
  cases e1 : ev cf.F cf.cl o ρ m with
  | exc x m => rw [e1] at hp; exact hp.elim
  | bad => rw [e1] at hp; exact hp.elim
  | ok x m1 =>
    rw [e1] at hp
    simp only [Res.bind_ok] at hp
    refine ⟨L, R, m, ρ, rel, ?_⟩
    rw [e1]
    intro L1 vo H1 g1 S1 r1
    have rel1 := rel.later g1 S1
    cases e2 : ev cf.F cf.cl i ρ m1 with
    | exc x m => rw [e2] at hp; exact hp.elim
    | bad => rw [e2] at hp; exact hp.elim
    | ok y m2 =>
      rw [e2] at hp
      simp only [Res.bind_ok] at hp
      refine ⟨L1, R, m1, ρ, rel1, ?_⟩
      rw [e2]
      intro L2 vi H2 g2 S2 r2
      have rel2 := rel1.later g2 S2
      have r1' := r1.mono S1 g2
      have r' := (r.mono rel.st g1).mono S1 g2
      cases e3 : putL x y d m2 with
      | none => rw [e3] at hp; exact hp.elim
      | some m3 =>
        rw [e3] at hp
        simp only [opt_some, Res.bind_ok] at hp
        cases x with
        | ref l =>
          cases y with
          | int k =>
            simp only [putL] at e3
            cases e4 : m2[l]? with
            | none => rw [e4] at e3; cases e3
            | some cell =>
              rw [e4] at e3
              cases cell with
              | dct _ => cases e3
              | lst xs =>
                simp only at e3
                cases e5 : ixN xs.length k with
                | none => rw [e5] at e3; cases e3
                | some j =>
                  rw [e5] at e3
                  simp only at e3
                  split at e3
                  · rename_i hpu
                    cases e3
                    cases r1' with
                    | ref hl =>
                      cases r2
                      obtain ⟨pz, ys, h3, h4⟩ := S2.cells l _ _ hl e4
                      refine ⟨_, ys, k, j, rfl, rfl, h3, by rw [ixN_eq, h4.length]; exact e5, ?_⟩
                      have pj : pureL (xs.set j d) = true := by
                        rw [pureL_mem] at pz ⊢
                        intro z hz
                        rcases List.mem_or_eq_of_mem_set hz with h | h
                        · exact pz z h
                        · rw [h]; exact hpu
                      have S3 := S2.put hl pj (h4.set r' j)
                      have g3 : Grow L2 H2 L2 _ := Grow.put (o := .lst (ys.set j v)) (List.mem_of_getElem? hl)
                      exact hp L2 σ _ ((g1.trans g2).trans g3) (rel2.later g3 S3) (SBut.refl _ _)
                  · cases e3
          | _ => cases e3
        | _ => cases e3
omit C in
theorem gs_nil : PGs X [] (tGs w cf .nil) := pgs_nil.imp fun vs σ H K ⟨L, R, m, ρ, ds, rel, r, hp⟩ => by
  cases ds with
  | cons _ _ => unfold bts at hp; exact hp.elim
  | nil =>
    cases r
    unfold bts at hp
    exact ⟨rfl, hp L σ H (Grow.refl _ _) rel (SBut.refl _ _)⟩
omit C in
theorem gs_cons {t : Tg} {r : Tgs} {t' : Expr} {r' : List Expr} (ht : PG X t' (tG w cf t)) (hr : PGs X r' (tGs w cf r)) (hs : (assignEach (t' :: r') X.env).map (·.2) = assign t' X.env :: (assignEach r' X.env).map (·.2)) : PGs X (t' :: r') (tGs w cf (.cons t r)) :=
  (pgs_cons ht hr hs).imp fun vs σ H K ⟨L, R, m, ρ, ds, rel, rr, hp⟩ => by
    cases ds with
    | nil => unfold bts at hp; exact hp.elim
    | cons d ds =>
      cases rr with
      | cons r1 r2 =>
        unfold bts at hp
        refine ⟨_, _, rfl, L, R, m, ρ, d, rel, r1, ?_⟩
        cases e : bt cf.F cf.cl t d ρ m with
        | exc x m => rw [e] at hp; exact hp.elim
        | bad => rw [e] at hp; exact hp.elim
        | ok ρ1 m1 =>
          rw [e] at hp
          simp only [Res.bind_ok] at hp
          intro L1 σ1 H1 g1 rel1 s1
          refine ⟨L1, R, m1, ρ1, ds, rel1, r2.mono rel.st g1, ?_⟩
          revert hp
          cases bts cf.F cf.cl r ds ρ1 m1 with
          | exc x m => exact id
          | bad => exact id
          | ok ρ2 m2 => exact fun hp L2 σ2 H2 g2 rel2 s2 => hp L2 σ2 H2 (g1.trans g2) rel2 (by unfold tgsN; exact s1.trans s2)
theorem g_t {ts : Tgs} {ts' : List Expr} {k : Nat} {pos : Pos} (h : PGs X ts' (tGs w cf ts)) (hl : ∀ ds ρ m ρ' m', bts cf.F cf.cl ts ds ρ m = .ok ρ' m' → ds.length = ts'.length) (hn : (assignEach ts' X.env).length = ts'.length)
    (hst : (assignEach ts' X.env).findIdx? (·.1) = none) : PG X (.Tuple ts' k pos) (tG w cf (.t ts)) :=
  (pg_tup C.calm h hn hst).imp fun v σ H K ⟨L, R, m, ρ, d, rel, r, hp⟩ => by
    unfold bt at hp
    cases d with
    | tup ds => ?_
    | _ => exact False.elim hp
    obtain ⟨a, xs, rfl, h1, t1⟩ := r.tup_inv
    refine ⟨a, xs, rfl, by rw [C.K]; exact h1, ?_, L, R, m, ρ, ds, rel, t1, ?_⟩
    · cases e : bts cf.F cf.cl ts ds ρ m with
      | exc x m => simp only [e] at hp; exact hp.elim
      | bad => simp only [e] at hp; exact hp.elim
      | ok ρ' m' => rw [t1.length]; exact hl _ _ _ _ _ e
    · unfold tgN at hp; exact hp

end
end PM

end

section
set_option maxHeartbeats 1000000
/-! PM, part K: what is walked. -/
namespace PM
open PySem PySem.Spec PyProof.Rows L2

/-! ### enumerate over a tuple -/
theorem new_enumT {v : Value} {o : Obj} {H : Heap → Prop} (B : Begins v o H) :
    Meets (Builtin.«enumerate.__new__» ⟨[.type "enumerate", v], []⟩) (fun _ R s => H s.heap ∧
      R (.ok (.ret (.ref (s.heap.push o).objs.size))) { s with heap := (s.heap.push o).push { cls := .type "enumerate", data := .fields #[.none, .bool false, .ref s.heap.objs.size, rawInt 0, .none, .none] } }) :=
  .of_wp fun prog w A R s hh => by
    obtain ⟨hp, gg, dd, tk, os⟩ := s
    obtain ⟨b1, fin⟩ := hh
    have below := sub_enumerate
    have itq : ∀ {A' : Around} {E : Value → Shared → Prop} {Q : Value → Shared → Prop}, Q (.ref hp.objs.size) ⟨hp.push o, gg, dd, tk, os⟩ → wpAny (model prog w) A' (pyIter v) Q E ⟨hp, gg, dd, tk, os⟩ := fun q => B.iter prog w _ _ ⟨hp, gg, dd, tk, os⟩ _ b1 q
    wp_walk using itq
    refine wpAny_stack_any fun _ => wpAny_pure ?_
    split
    · rename_i c _ _ _ _ _
      cases (c == Value.type "enumerate") <;> (wp_walk using itq; exact ⟨_, rfl, fin⟩)
    · wp_walk using itq
      exact ⟨_, rfl, fin⟩
section
variable {prog : Program} {w : World} {A : Around} {E : Value → Shared → Prop} {s : Shared}
theorem call_enumT {a : Addr} {items : Array Value} {Q : Value → Shared → Prop} (hL : s.heap.IsTuple a items)
    (fin : ∀ h', IsEnum h' (s.heap.objs.size + 1) s.heap.objs.size 0 .none → h'.IsTupleIter s.heap.objs.size a 0 →
      (∀ b o, s.heap.get? b = some o → h'.get? b = some o) → Q (.ref (s.heap.objs.size + 1)) { s with heap := h' }) : wpAny (model prog w) A (call (.type "enumerate") [.ref a]) Q E s := by
  refine callType_new F.called_enumerate (by decide) (F.typeCall_enumerate_1 _) (F.newCall_enumerate_1 _) (fun ob => F.args_object_init_2 ob _) F.entry_enumerate_new (new_enumT (begins_tuple a items)) ⟨hL, ?_⟩
  generalize ho : ({ cls := .type "tuple_iterator", data := .fields #[.ref a, .int 0 0] } : Obj) = o
  have hf : o.isFreed = false := by subst ho; rfl
  have hz : (s.heap.push o).objs.size = s.heap.objs.size + 1 := Heap.size_push ..
  show _ ∧ _
  rw [hz]
  generalize hq : ({ cls := .type "enumerate", data := .fields #[.none, .bool false, .ref s.heap.objs.size, rawInt 0, .none, .none] } : Obj) = q
  have hqf : q.isFreed = false := by subst hq; rfl
  have e1 : ((s.heap.push o).push q).get? (s.heap.objs.size + 1) = some q := by
    have := Heap.get?_push_size (s.heap.push o) hqf
    rwa [hz] at this
  have e2 : ((s.heap.push o).push q).get? s.heap.objs.size = some o := Heap.get?_push_of_some _ (Heap.get?_push_size _ hf)
  have he : IsEnum ((s.heap.push o).push q) (s.heap.objs.size + 1) s.heap.objs.size 0 .none := by subst hq; exact e1
  exact ⟨⟨_, he, rfl⟩, fin _ he (by subst ho; exact ⟨_, e2, rfl, rfl⟩) fun b ob x => Heap.get?_push_of_some _ (Heap.get?_push_of_some _ x)⟩
theorem enumT_end {e it a : Addr} {i : Nat} {items : Array Value} {old : Value} {Q : Option Value → Shared → Prop} (hh : A.handled = none) (he : IsEnum s.heap e it i old) (hit : s.heap.IsTupleIter it a i) (ha : s.heap.IsTuple a items) (hx : items[i]? = none)
    (fin : ∀ h', Heap.ExtBut it s.heap h' → Q none { s with heap := h' }) : wpAny (model prog w) A (pyNext (.ref e)) Q E s := by
  have ty : s.TypeIs (.ref e) "enumerate" := ⟨_, he, rfl⟩
  have body : wpAny (model prog w) A.in1 (Builtin.«enumerate.__next__» ⟨[.ref e], []⟩) (fun _ _ => False) (fun v s1 => wpAny (model prog w) A (isInstance v (.type "StopIteration")) (fun b s2 => b = true ∧ Q none s2) E s1) s := by
    show wpAny _ _ (field (.ref e) 2 >>= _) _ _ _
    refine wpAny_bind (wpAny_field he rfl (x := .ref it) rfl (wpAny_bind (wpAny_nextOf_tuple_end hh hit ha hx fun h' x k ⟨ob, h1, h2⟩ => ?_)))
    exact wpAny_isInstance (T := "StopIteration") (b := true) ⟨ob, h1, h2⟩ isSubtype_stop ⟨rfl, fin _ k⟩
  unfold pyNext
  refine wpAny_bind (wpAny_attempt (wpAny_callSpecial?_slot (name := Str.ofString "__next__") ty F.slot_enumerate_next (wpAny_call_entry F.slot_enumerate_next ty F.entry_enumerate_next (wpAny_mono body (fun _ _ z => z.elim) fun v s1 q => ?_) (F.args_enumerate_next_1 _))))
  exact wpAny_bind (wpAny_mono q (fun b s2 ⟨hb, q2⟩ => by subst hb; exact wpAny_pure q2) fun _ _ z => z)
end
/-- the tuple at a at each turn, each item in a new pair -/
def IteT (K : PySem.W.Frag) (a : Addr) : L2.It :=
  ⟨fun i H => ∃ (xs : List V) (x : V), SqT K H a xs ∧ xs[i]? = some x, fun i H v H' => ∃ T x, v = .ref T ∧ H T = none ∧ H' = upd H T (.tup [.int (i : Nat), x]) ∧ ∀ xs, SqT K H a xs → xs[i]? = some x, fun i H => ∃ xs : List V, SqT K H a xs ∧ xs.length ≤ i⟩
theorem turn_enumT {P : Program} {w : World} {K : PySem.W.Frag} {elts : List Expr} {kk : Nat} {tpos : Pos} (a e it : Addr) (nea : a ≠ it) :
    Turn P w K (.Tuple elts kk tpos) (IteT K a) [e, it] e (fun i h => (∃ old, IsEnum h e it ((i : Nat) : Int) old) ∧ h.IsTupleIter it a i ∧ e ≠ it ∧ e ≠ a) where
  mem := List.mem_cons_self ..
  obj := fun i h ⟨⟨old, he⟩, ⟨o, ho, _, hd⟩, _⟩ b hb => by
    rcases List.mem_cons.mp hb with z | z
    · subst z; exact ⟨_, he, fun v q => nomatch q⟩
    · rw [List.mem_singleton.mp z]; exact ⟨o, ho, fun v q => by rw [hd] at q; cases q⟩
  keep := fun i h h' ⟨⟨old, he⟩, hi, hne⟩ k => ⟨⟨old, k e (List.mem_cons_self ..) _ he⟩, hi.at fun o q => k it (by simp) o q, hne⟩
  item := by
    intro X hP hw hK hc i pins s σ H E I hf st hg
    subst hP hw hK
    obtain ⟨⟨old, he⟩, hit, hne, hea⟩ := st
    obtain ⟨xs, x, hq, hx⟩ := hg
    obtain ⟨its, rv, p, _⟩ := I.tuple hq
    obtain ⟨u, hu, ru⟩ := rv.get hx
    have hel := Heap.lt_size he
    have hil : it < s.heap.objs.size := let ⟨_, q, _⟩ := hit; Heap.lt_size q
    have lt : i < its.toArray.size := by
      have := (List.getElem?_eq_some_iff.mp hu).1
      simpa using this
    refine wpAny_pyNext_enum_itemD (Draws.tuple (A := X.A.in1) (show X.A.in1.handled = none from I.ok.hd hc) it a nea its.toArray) he ⟨hit, show s.heap.IsTuple a its.toArray from p⟩ lt hne (by simp [hne, hea]) fun y h' tk hP ho st' hT _ hk => ?_
    have ey : y = u := by
      have hP : its.toArray[i]? = some y := hP
      rw [List.getElem?_toArray, hu] at hP
      exact (Option.some.inj hP).symm
    subst ey
    refine ⟨_, rfl, wpAny_letOwnedTupleGo_enum (s := { s with heap := h', toks := tk + 1 }) ho fun h'' he' sb => ?_⟩
    have hT2 : h''.get? s.heap.objs.size = some { cls := .type "tuple", data := .seq #[.int i tk, y] } := (sb.2 _ (Nat.ne_of_gt hel)).trans hT
    have new : ObjOk X.prog X.w (upd H s.heap.objs.size (.tup [.int (i : Nat), x])) h'' s.heap.objs.size (.tup [.int (i : Nat), x]) := ⟨by show 2 ≤ sizeLine; decide, [.int i tk, y], .cons ⟨_, rfl⟩ (.cons ru .nil), ⟨_, hT2, rfl, _, rfl⟩⟩
    have I1 := I.turnedNew (t' := tk + 1) (h' := h'') (ch := [e, it]) (fun b ob hb q => (sb.2 b (fun z => hb (by simp [z]))).trans (hk b ob (fun z => hb (by simp [z])) (fun z => hb (by simp [z])) q)) hf (Nat.le_refl _) new
    refine ⟨.ref s.heap.objs.size, _, I1, rfl, ⟨_, x, rfl, I.hok.fresh (Nat.le_refl _), rfl, fun ys hy => by rw [I.tuple_inj hy hq]; exact hx⟩, ⟨⟨y, ?_⟩, st'.1.at fun o q => (sb.2 it (Ne.symm hne)).trans q, hne, hea⟩, fun b hb => ?_⟩
    · rw [show ((i + 1 : Nat) : Int) = (i : Int) + 1 by omega]; exact he'
    · have lb : b < s.heap.objs.size := by
        rcases List.mem_cons.mp hb with z | z
        · subst z; exact hel
        · rw [List.mem_singleton.mp z]; exact hil
      rw [upd_ne (Nat.ne_of_lt lb)]
      exact (hf b hb).1
  done := by
    intro X hP hw hK hc i pins s σ H E I hf st hg
    subst hP hw hK
    obtain ⟨⟨old, he⟩, hit, hne, hea⟩ := st
    obtain ⟨xs, hq, hx⟩ := hg
    obtain ⟨its, rv, p, _⟩ := I.tuple hq
    have hl := rv.length
    obtain ⟨f0, f1, f2, f3, f4, f5⟩ := hf it (by simp)
    exact enumT_end (I.ok.hd hc) he hit (show s.heap.IsTuple a its.toArray from p) (by simp; omega) fun h' eb => ⟨rfl, I.turned (t' := s.toks) (fun b o hb q => eb b o hb q) f0 f1 f3 f4 f5⟩
  self := fun A i s Q E ⟨⟨_, he⟩, _⟩ h => wpAny_pyIter_enum he h

def iEnumT (K : PySem.W.Frag) (ta : TA) : TI := fun σ H R => ta σ H fun vs H1 => ∃ a xs, vs = [.ref a] ∧ SqT K H1 a xs ∧ R (IteT K a) H1
theorem pi_enumT {X : Cx} {e : Expr} {ta : TA} {p pos tpos : Pos} {elts : List Expr} {kk : Nat} (hg : Gl X "enumerate") (hm : X.mg "enumerate" = none) (ha : PA X [e] ta) (hs : starEach [e] X.env = [(false, eval e X.env)]) :
    PI X (.Tuple elts kk tpos) (.Call (.Name "enumerate" p) [e] [] pos) (iEnumT X.K ta) := by
  refine ⟨fun pins s σ H R I h => Call_ (ld_blt I hg hm boot_enumerate (PyProof.Rows.callWith_type1 (thn (ha.run pos pins s σ H _ I h) fun us s1 ⟨vs, H1, I1, r1, a, xs, ex, hq, q⟩ => ?_) hs rfl))⟩
  subst ex
  cases r1 with
  | cons r rr =>
    cases rr
    cases r
    obtain ⟨its, rv, p', hz⟩ := I1.tuple hq
    refine call_enumT (show s1.heap.IsTuple a its.toArray from p') fun h' he hit hk => wpAny_pyIter_enum he ?_
    have la : a < s1.heap.objs.size := by obtain ⟨o, ho, _⟩ := p'; exact Heap.lt_size ho
    refine ⟨s1.heap.objs.size + 1, [s1.heap.objs.size + 1, s1.heap.objs.size], _, _, H1, rfl, I1.kept (t' := s1.toks) hk, turn_enumT a _ _ (Nat.ne_of_lt la), ⟨⟨.none, he⟩, hit, Nat.succ_ne_self _, Nat.ne_of_gt (Nat.lt_succ_of_lt la)⟩, fun b hb => ?_, q⟩
    have hle : s1.heap.objs.size ≤ b := by
      rcases List.mem_cons.mp hb with z | z
      · rw [z]; exact Nat.le_add_right _ _
      · rw [List.mem_singleton.mp z]; exact Nat.le_refl _
    exact I1.fpOk hle (I1.hok.fresh hle)

/-- the same, but lists kept apart may have changed -/
structure GrowR (L R : List Addr) (H : Hp) (L' : List Addr) (H' : Hp) : Prop where
  pre : ∃ t, L' = L ++ t ∧ ∀ a ∈ t, a ∉ L → a ∉ R → ∀ o, H a = some o → ∃ ps, o = .tbl ps
  keep : ∀ a o, H a = some o → a ∉ L → a ∉ R → (∀ ps, o ≠ .tbl ps) → H' a = some o
theorem Grow.toR {L R L' : List Addr} {H H' : Hp} (g : Grow L H L' H') : GrowR L R H L' H' := ⟨by obtain ⟨t, e, h⟩ := g.pre; exact ⟨t, e, fun a h1 h2 _ => h a h1 h2⟩, fun a o h n _ z => g.keep a o h n z⟩
theorem GrowR.refl (L R : List Addr) (H : Hp) : GrowR L R H L H := (Grow.refl L H).toR
theorem GrowR.notin {L R L' : List Addr} {H H' : Hp} (g : GrowR L R H L' H') {a : Addr} {o : HO} (h : H a = some o) (n : a ∉ L) (nr : a ∉ R) (ht : ∀ ps, o ≠ .tbl ps) : a ∉ L' := fun z => by
  obtain ⟨t, e, hf⟩ := g.pre
  rw [e] at z
  rcases List.mem_append.mp z with z | z
  · exact n z
  · obtain ⟨ps, e⟩ := hf a z n nr o h
    exact ht ps e
theorem GrowR.get {L R L' : List Addr} {H H' : Hp} (g : GrowR L R H L' H') {l : Nat} {a : Addr} (h : L[l]? = some a) : L'[l]? = some a := by
  obtain ⟨t, e, _⟩ := g.pre
  rw [e, List.getElem?_append_left (List.getElem?_eq_some_iff.mp h).1]; exact h
theorem GrowR.trans {L R L1 L2 : List Addr} {H H1 H2 : Hp} (a : GrowR L R H L1 H1) (b : Grow L1 H1 L2 H2) : GrowR L R H L2 H2 := by
  obtain ⟨t, e, ht⟩ := id a.pre
  obtain ⟨t2, e2, ht2⟩ := b.pre
  refine ⟨⟨t ++ t2, by rw [e2, e, List.append_assoc], fun x hx hn hr o ho => ?_⟩, fun x o hx hn hr hp => b.keep x o (a.keep x o hx hn hr hp) (a.notin hx hn hr hp) hp⟩
  rcases List.mem_append.mp hx with hx | hx
  · exact ht x hx hn hr o ho
  · refine Classical.byContradiction fun z => ?_
    have z' : ∀ ps, o ≠ .tbl ps := fun ps e => z ⟨ps, e⟩
    exact z (ht2 x hx (a.notin ho hn hr z') o (a.keep x o ho hn hr z'))
theorem GrowR.put {L R L1 : List Addr} {H H1 : Hp} {B : Addr} {o : HO} (a : GrowR L R H L1 H1) (h : B ∈ R) : GrowR L R H L1 (upd H1 B o) :=
  ⟨a.pre, fun x o' hx hn hr hp => by
    have ne : x ≠ B := fun e => by subst e; exact hr h
    rw [upd_ne ne]; exact a.keep x o' hx hn hr hp⟩
theorem StOk.notR {w : Wd} {L R : List Addr} {m : M} {H : Hp} (S : StOk w L R m H) {a : Addr} {o : HO} (h : H a = some o) (n : ∀ ys, o ≠ .lst ys) : a ∉ R := fun z => by
  obtain ⟨ys, e⟩ := S.rs a z
  rw [h] at e
  exact n ys (Option.some.inj e)
section
variable {w : Wd} {L R R' L' : List Addr} {m : M} {H H' : Hp}
mutual
theorem Rep.thenR (S : StOk w L R m H) (g : GrowR L R H L' H') (hr : ∀ a, H a ≠ none → a ∈ R' → a ∈ R) : ∀ {v : V} {d : D}, Rep w L R H v d → Rep w L' R' H' v d
  | _, _, .non => .non
  | _, _, .bl b => .bl b
  | _, _, .int i => .int i
  | _, _, .str x => .str x
  | _, _, .ty n => .ty n
  | _, _, .fn h => .fn h
  | _, _, .ref h => .ref (g.get h)
  | _, _, .tup h t => by
    refine .tup ?_ (RepL.thenR S g hr t)
    rcases h with (h | ⟨o, h⟩) | h
    · exact .inl (.inl (g.keep _ _ h (S.notin h fun _ z => by cases z) (S.notR h fun _ z => by cases z) fun _ z => by cases z))
    · exact .inl (.inr ⟨o, g.keep _ _ h (S.notin h fun _ z => by cases z) (S.notR h fun _ z => by cases z) fun _ z => by cases z⟩)
    · exact .inr h
  | _, _, .lst (a := a) h h1 h2 t => by
    refine .lst ?_ ?_ (fun z => h2 (hr _ (by rcases h with q | ⟨_, q⟩ <;> rw [q] <;> exact Option.some_ne_none _) z)) (RepL.thenR S g hr t)
    · rcases h with h | ⟨o, h⟩
      · exact .inl (g.keep _ _ h h1 h2 fun _ z => by cases z)
      · exact .inr ⟨o, g.keep _ _ h h1 h2 fun _ z => by cases z⟩
    · rcases h with h | ⟨o, h⟩ <;> exact g.notin h h1 h2 fun _ z => by cases z
  | _, _, .klst q t => .klst q (RepL.thenR S g hr t)
theorem RepL.thenR (S : StOk w L R m H) (g : GrowR L R H L' H') (hr : ∀ a, H a ≠ none → a ∈ R' → a ∈ R) : ∀ {vs : List V} {ds : List D}, RepL w L R H vs ds → RepL w L' R' H' vs ds
  | _, _, .nil => .nil
  | _, _, .cons r t => .cons (Rep.thenR S g hr r) (RepL.thenR S g hr t)
end
end
/-- an iterator that yields these, whatever has been done in between -/
def ItOk (w : Wd) (J : L2.It) (L R : List Addr) (H : Hp) (ds : List D) : Prop := ∀ (L' R' : List Addr) (m' : M) (H' : Hp) (i : Nat), GrowR L R H L' H' → (∀ a, H a ≠ none → a ∈ R' → a ∈ R) → StOk w L' R' m' H' →
  (∀ d, ds[i]? = some d → J.go i H' ∧ ∀ x H2, J.yld i H' x H2 → Grow L' H' L' H2 ∧ StOk w L' R' m' H2 ∧ Rep w L' R' H2 x d) ∧ (i = ds.length → J.stop i H')
abbrev ItP (w : Wd) : PR (List D) L2.It := fun L R H J ds => ItOk w J L R H ds
def tI (w : Wd) (cf : Cf) (W : WX) (it : It) : TI := tR w cf W (ItP w) (evi cf.F cf.cl it)
section
variable {w : Wd} {L R : List Addr} {m : M} {H : Hp}
theorem sqT_grow {a : Addr} {xs : List V} {L' : List Addr} {H' : Hp} (S : StOk w L R m H) (h : SqT w.K H a xs) (g : GrowR L R H L' H') : SqT w.K H' a xs := by
  rcases h with (h | ⟨o, h⟩) | h
  · exact .inl (.inl (g.keep _ _ h (S.notin h fun _ z => by cases z) (S.notR h fun _ z => by cases z) fun _ z => by cases z))
  · exact .inl (.inr ⟨o, g.keep _ _ h (S.notin h fun _ z => by cases z) (S.notR h fun _ z => by cases z) fun _ z => by cases z⟩)
  · exact .inr h
theorem rd_grow {a : Addr} {xs : List V} {L' : List Addr} {H' : Hp} (h : Rd H a (.lst xs)) (n : a ∉ L) (n2 : a ∉ R) (g : GrowR L R H L' H') : Rd H' a (.lst xs) := by
  rcases h with h | ⟨o, h⟩
  · exact .inl (g.keep _ _ h n n2 fun _ z => by cases z)
  · exact .inr ⟨o, g.keep _ _ h n n2 fun _ z => by cases z⟩
theorem RepL.then {R' L' : List Addr} {H' : Hp} {vs : List V} {ds : List D} (S : StOk w L R m H) (r : RepL w L R H vs ds) (g : GrowR L R H L' H') (hr : ∀ a, H a ≠ none → a ∈ R' → a ∈ R) : RepL w L' R' H' vs ds := RepL.thenR S g hr r
theorem lst_grow {v : V} {ds : List D} (r : Rep w L R H v (.lst ds)) : ∃ a xs, v = .ref a ∧ (∀ L' H', GrowR L R H L' H' → SqL w.K H' a xs) ∧ RepL w L R H xs ds := by
  cases r with
  | @lst a xs _ h1 h2 h3 t => exact ⟨a, xs, rfl, fun L' H' g => .inl (rd_grow h1 h2 h3 g), t⟩
  | @klst a xs _ h1 t => exact ⟨a, xs, rfl, fun _ _ _ => .inr h1, t⟩
theorem it_lst {v : V} {ds : List D} (S : StOk w L R m H) (r : Rep w L R H v (.lst ds)) : ∃ a xs, v = .ref a ∧ SqL w.K H a xs ∧ ItOk w (Itl w.K a) L R H ds := by
  obtain ⟨a, xs, rfl, hs, t⟩ := lst_grow r
  refine ⟨a, xs, rfl, hs L H (GrowR.refl _ _ _), fun L' R' m' H' i g hr S' => ⟨fun d hd => ?_, fun hi => ⟨xs, hs _ _ g, by rw [t.length]; exact Nat.le_of_eq hi.symm⟩⟩⟩
  obtain ⟨x, hx, rx⟩ := (t.then S g hr).get hd
  refine ⟨⟨xs, x, hs _ _ g, hx⟩, fun y H2 hy => ?_⟩
  obtain ⟨e, hy⟩ := hy
  subst e
  have q := hy xs (hs _ _ g)
  rw [hx] at q
  cases q
  exact ⟨Grow.refl _ _, S', rx⟩
theorem it_tup {v : V} {ds : List D} (S : StOk w L R m H) (r : Rep w L R H v (.tup ds)) : ∃ a xs, v = .ref a ∧ SqT w.K H a xs ∧ ItOk w (Itt w.K a) L R H ds := by
  obtain ⟨a, xs, rfl, h1, t⟩ := r.tup_inv
  refine ⟨a, xs, rfl, h1, fun L' R' m' H' i g hr S' => ⟨fun d hd => ?_, fun hi => ⟨xs, sqT_grow S h1 g, by rw [t.length]; exact Nat.le_of_eq hi.symm⟩⟩⟩
  obtain ⟨x, hx, rx⟩ := (t.then S g hr).get hd
  refine ⟨⟨xs, x, sqT_grow S h1 g, hx⟩, fun y H2 hy => ?_⟩
  obtain ⟨e, hy⟩ := hy
  subst e
  have q := hy xs (sqT_grow S h1 g)
  rw [hx] at q
  cases q
  exact ⟨Grow.refl _ _, S', rx⟩
theorem it_rng {lo hi : Int} : ItOk w (Itr lo (hi - lo).toNat) L R H (rngL lo hi) := fun L' R' m' H' i g hr S' => by
  refine ⟨fun d hd => ?_, fun hl => ?_⟩
  · unfold rngL at hd
    obtain ⟨hl, _⟩ := List.getElem?_eq_some_iff.mp hd
    have hl : i < (hi - lo).toNat := by simpa using hl
    rw [List.getElem?_map, List.getElem?_range hl] at hd
    cases hd
    refine ⟨hl, fun x H2 hy => ?_⟩
    obtain ⟨e1, e2⟩ := hy
    subst e1 e2
    exact ⟨Grow.refl _ _, S', .int _⟩
  · have e : i = _ := hl
    simp only [rngL, List.length_map, List.length_range] at e
    exact Nat.le_of_eq e.symm
theorem enumL_get : ∀ (k : Nat) (ds : List D) (i : Nat), (enumL k ds)[i]? = (ds[i]?).map fun d => .tup [.int ((k + i : Nat) : Int), d]
  | _, [], _ => by simp [enumL]
  | k, x :: xs, 0 => by simp [enumL]
  | k, x :: xs, i + 1 => by
    show (enumL (k + 1) xs)[i]? = _
    rw [enumL_get (k + 1) xs i]
    simp only [List.getElem?_cons_succ]
    rw [show k + 1 + i = k + (i + 1) by omega]
theorem enumL_len (k : Nat) (ds : List D) : (enumL k ds).length = ds.length := by
  induction ds generalizing k with
  | nil => rfl
  | cons x xs ih => simp [enumL, ih]
theorem it_en {Sq : Hp → Addr → List V → Prop} {J : L2.It} {a : Addr} {xs : List V} {ds : List D} (hgo : ∀ i H, J.go i H = ∃ (xs : List V) (x : V), Sq H a xs ∧ xs[i]? = some x) (hy : ∀ i H v H', J.yld i H v H' = ∃ T x, v = .ref T ∧ H T = none ∧ H' = upd H T (.tup [.int (i : Nat), x]) ∧ ∀ xs, Sq H a xs → xs[i]? = some x)
    (hst : ∀ i H, J.stop i H = ∃ xs : List V, Sq H a xs ∧ xs.length ≤ i) (gr : ∀ L' H', GrowR L R H L' H' → Sq H' a xs) (S : StOk w L R m H) (t : RepL w L R H xs ds) : ItOk w J L R H (enumL 0 ds) := fun L' R' m' H' i g hr S' => by
  refine ⟨fun d hd => ?_, fun hi => ?_⟩
  · rw [enumL_get] at hd
    cases e : ds[i]? with
    | none => rw [e] at hd; cases hd
    | some d0 =>
      rw [e] at hd
      simp only [Option.map_some, Nat.zero_add, Option.some.injEq] at hd
      subst hd
      obtain ⟨x, hx, rx⟩ := (t.then S g hr).get e
      rw [hgo]
      refine ⟨⟨xs, x, gr _ _ g, hx⟩, fun y H2 q => ?_⟩
      rw [hy] at q
      obtain ⟨T, x', rfl, hT, rfl, q⟩ := q
      have q := q xs (gr _ _ g)
      rw [hx] at q
      cases q
      exact ⟨Grow.new hT, S'.new hT, .tup (.inl (.inl upd_same)) (.cons (.int _) (.cons (rx.mono S' (Grow.new hT)) .nil))⟩
  · rw [hst]
    exact ⟨xs, gr _ _ g, by rw [t.length, hi, enumL_len]; exact Nat.le_refl _⟩
theorem zipL_get : ∀ (xs ys : List D) (i : Nat), (zipL xs ys)[i]? = match xs[i]?, ys[i]? with
    | some x, some y => some (.tup [x, y])
    | _, _ => none
  | [], ys, i => by simp [zipL]
  | x :: xs, [], i => by simp only [zipL, List.getElem?_nil]; split <;> simp_all
  | x :: xs, y :: ys, 0 => by simp [zipL]
  | x :: xs, y :: ys, i + 1 => by
    show (zipL xs ys)[i]? = _
    rw [zipL_get xs ys i]
    rfl
theorem zipL_len : ∀ xs ys : List D, (zipL xs ys).length = min xs.length ys.length
  | [], ys => by simp [zipL]
  | x :: xs, [] => by simp [zipL]
  | x :: xs, y :: ys => by simp [zipL, zipL_len xs ys]
theorem it_zp {Sq : Hp → Addr → List V → Prop} {J : L2.It} {a b : Addr} {xs ys : List V} {ds es : List D} (hgo : ∀ i H, J.go i H = ∃ (xs ys : List V) (x y : V), Sq H a xs ∧ Sq H b ys ∧ xs[i]? = some x ∧ ys[i]? = some y)
    (hy : ∀ i H v H', J.yld i H v H' = ∃ T x y, v = .ref T ∧ H T = none ∧ H' = upd H T (.tup [x, y]) ∧ (∀ xs, Sq H a xs → xs[i]? = some x) ∧ ∀ ys, Sq H b ys → ys[i]? = some y) (hst : ∀ i H, J.stop i H = ∃ xs ys : List V, Sq H a xs ∧ Sq H b ys ∧ (xs.length ≤ i ∨ ys.length ≤ i))
    (gr : ∀ L' H', GrowR L R H L' H' → Sq H' a xs ∧ Sq H' b ys) (S : StOk w L R m H) (t : RepL w L R H xs ds) (u : RepL w L R H ys es) : ItOk w J L R H (zipL ds es) := fun L' R' m' H' i g hr S' => by
  refine ⟨fun d hd => ?_, fun hi => ?_⟩
  · rw [zipL_get] at hd
    cases e : ds[i]? with
    | none => rw [e] at hd; cases hd
    | some d0 =>
      cases e2 : es[i]? with
      | none => rw [e, e2] at hd; cases hd
      | some d1 =>
        rw [e, e2] at hd
        simp only [Option.some.injEq] at hd
        subst hd
        obtain ⟨x, hx, rx⟩ := (t.then S g hr).get e
        obtain ⟨y, hy', ry⟩ := (u.then S g hr).get e2
        rw [hgo]
        refine ⟨⟨xs, ys, x, y, (gr _ _ g).1, (gr _ _ g).2, hx, hy'⟩, fun z H2 q => ?_⟩
        rw [hy] at q
        obtain ⟨T, x', y', rfl, hT, rfl, q1, q2⟩ := q
        have q1 := q1 xs (gr _ _ g).1
        have q2 := q2 ys (gr _ _ g).2
        rw [hx] at q1
        rw [hy'] at q2
        cases q1
        cases q2
        exact ⟨Grow.new hT, S'.new hT, .tup (.inl (.inl upd_same)) (.cons (rx.mono S' (Grow.new hT)) (.cons (ry.mono S' (Grow.new hT)) .nil))⟩
  · rw [hst]
    refine ⟨xs, ys, (gr _ _ g).1, (gr _ _ g).2, ?_⟩
    rw [t.length, u.length, hi, zipL_len]
    omega
end
section
variable {X : Cx} {w : Wd} {ck : Ck} {cf : Cf} {W : WX} {p : Pl} (C : Cok X w ck cf W p)
include C
theorem i_seq {e : E} {tg e' : Expr} (he : PE X e' (tE w cf W e)) : PI X tg e' (tI w cf W (.seq e)) := by
  refine ⟨fun pins s σ H K I ⟨L, R, m, ρ, rel, hp⟩ => ?_⟩
  unfold evi at hp
  cases e0 : ev cf.F cf.cl e ρ m with
  | bad => rw [e0] at hp; exact hp.elim
  | exc x m' => exact (pi_list he).run pins s σ H K I ⟨L, R, m, ρ, rel, by rw [e0] at hp ⊢; exact hp⟩
  | ok d m' =>
    rw [e0] at hp
    simp only [Res.bind_ok] at hp
    cases d with
    | lst ds => exact (pi_list he).run pins s σ H K I ⟨L, R, m, ρ, rel, by
        rw [e0, C.K]
        intro L' v H' g S r
        obtain ⟨a, xs, rfl, h1, it⟩ := it_lst S r
        exact ⟨a, rfl, ⟨xs, h1⟩, hp L' _ H' g S it⟩⟩
    | tup ds => exact (pi_tup he).run pins s σ H K I ⟨L, R, m, ρ, rel, by
        rw [e0, C.K]
        intro L' v H' g S r
        obtain ⟨a, xs, rfl, h1, it⟩ := it_tup S r
        exact ⟨a, rfl, ⟨xs, h1⟩, hp L' _ H' g S it⟩⟩
    | _ => exact hp.elim
omit C in
theorem evs_one {F : Fns} {cl : Option (Nat × Clo)} {e : E} {ρ : Env} {m : M} : evs F cl (.cons e .nil) ρ m = (ev F cl e ρ m).bind fun d m => .ok [d] m := by
  simp only [evs, Res.bind_ok]
omit C in
theorem evs_two {F : Fns} {cl : Option (Nat × Clo)} {a b : E} {ρ : Env} {m : M} : evs F cl (.cons a (.cons b .nil)) ρ m = (ev F cl a ρ m).bind fun x m => (ev F cl b ρ m).bind fun y m => .ok [x, y] m := by
  simp only [evs, Res.bind_ok, Res.bind_assoc]
theorem i_rng1 {es : Es} {a : Expr} {tg : Expr} {pp pos : Pos} (hg : glB p.sc ("range" : Str) = true) (hm : X.mg "range" = none) (ha : PA X [a] (tEs w cf W es)) (hs : starEach [a] X.env = [(false, eval a X.env)]) (hl : ∀ ρ m ds m', evs cf.F cf.cl es ρ m = .ok ds m' → ds.length = 1) : PI X tg (.Call (.Name "range" pp) [a] [] pos) (tI w cf W (.rng es)) := by
  obtain ⟨g1, _⟩ := gl_of C hg
  refine ⟨fun pins s σ H K I ⟨L, R, m, ρ, rel, hp⟩ => (pi_range1 g1 hm ha hs).run pins s σ H K I ⟨L, R, m, ρ, rel, ?_⟩⟩
  unfold evi at hp
  cases e0 : evs cf.F cf.cl es ρ m with
  | bad => rw [e0] at hp; exact hp.elim
  | exc x m' => rw [e0] at hp; exact hp
  | ok ds m' =>
    rw [e0] at hp
    simp only [Res.bind_ok] at hp
    intro L' vs H' g S r
    match ds, hl _ _ _ _ e0, r, hp with
    | [d], _, r, hp =>
      obtain ⟨v, rfl, ra⟩ := r.one
      cases d with
      | int j =>
        cases ra
        by_cases hj : -(2 ^ 62) ≤ j ∧ j < 2 ^ 62
        · rw [show rngOf [.int j] = some (rngL 0 j) from if_pos hj] at hp
          refine ⟨j, rfl, hj.1, hj.2, ?_⟩
          have q := hp L' (Itr 0 (j - 0).toNat) H' g S it_rng
          rwa [Int.sub_zero] at q
        · rw [show rngOf [.int j] = none from if_neg hj] at hp
          exact hp.elim
      | _ => exact hp.elim
theorem i_rng2 {es : Es} {a b : Expr} {tg : Expr} {pp pos : Pos} (hg : glB p.sc ("range" : Str) = true) (hm : X.mg "range" = none) (ha : PA X [a, b] (tEs w cf W es)) (hs : starEach [a, b] X.env = [(false, eval a X.env), (false, eval b X.env)]) (hs2 : starEach [b] X.env = [(false, eval b X.env)]) (hl : ∀ ρ m ds m', evs cf.F cf.cl es ρ m = .ok ds m' → ds.length = 2) : PI X tg (.Call (.Name "range" pp) [a, b] [] pos) (tI w cf W (.rng es)) := by
  obtain ⟨g1, _⟩ := gl_of C hg
  refine ⟨fun pins s σ H K I ⟨L, R, m, ρ, rel, hp⟩ => (pi_range2 g1 hm ha hs hs2).run pins s σ H K I ⟨L, R, m, ρ, rel, ?_⟩⟩
  unfold evi at hp
  cases e0 : evs cf.F cf.cl es ρ m with
  | bad => rw [e0] at hp; exact hp.elim
  | exc x m' => rw [e0] at hp; exact hp
  | ok ds m' =>
    rw [e0] at hp
    simp only [Res.bind_ok] at hp
    intro L' vs H' g S r
    match ds, hl _ _ _ _ e0, r, hp with
    | [d, d'], _, r, hp =>
      obtain ⟨v, u, rfl, ra, rb⟩ := r.two
      cases d with
      | int i =>
        cases d' with
        | int j =>
          cases ra
          cases rb
          by_cases hj : (-(2 ^ 62) ≤ i ∧ i < 2 ^ 62) ∧ (-(2 ^ 62) ≤ j ∧ j < 2 ^ 62)
          · rw [show rngOf [.int i, .int j] = some (rngL i j) from if_pos hj] at hp
            exact ⟨_, _, rfl, ⟨hj.1.1, hj.1.2, hj.2.1, hj.2.2⟩, hp L' _ H' g S it_rng⟩
          · rw [show rngOf [.int i, .int j] = none from if_neg hj] at hp
            exact hp.elim
        | _ => exact hp.elim
      | _ => cases d' <;> exact hp.elim
theorem i_enum {e : E} {e' : Expr} {elts : List Expr} {kk : Nat} {tpos pp pos : Pos} (hg : glB p.sc ("enumerate" : Str) = true) (hm : X.mg "enumerate" = none) (he : PA X [e'] (tEs w cf W (.cons e .nil))) (hs : starEach [e'] X.env = [(false, eval e' X.env)]) : PI X (.Tuple elts kk tpos) (.Call (.Name "enumerate" pp) [e'] [] pos) (tI w cf W (.enum e)) := by
  obtain ⟨g1, _⟩ := gl_of C hg
  refine ⟨fun pins s σ H K I ⟨L, R, m, ρ, rel, hp⟩ => ?_⟩
  unfold evi at hp
  have e1 : evs cf.F cf.cl (.cons e .nil) ρ m = _ := evs_one
  cases e0 : ev cf.F cf.cl e ρ m with
  | bad => rw [e0] at hp; exact hp.elim
  | exc x m' => exact (pi_enum g1 hm he hs).run pins s σ H K I ⟨L, R, m, ρ, rel, by rw [e1, e0]; rw [e0] at hp; exact hp⟩
  | ok d m' =>
    rw [e0] at hp
    simp only [Res.bind_ok] at hp
    rw [e0] at e1
    simp only [Res.bind_ok] at e1
    cases d with
    | lst ds => exact (pi_enum g1 hm he hs).run pins s σ H K I ⟨L, R, m, ρ, rel, by
        rw [e1, C.K]
        intro L' vs H' g S r
        obtain ⟨v, rfl, ra⟩ := r.one
        obtain ⟨a, xs, rfl, hs, t⟩ := lst_grow ra
        exact ⟨a, xs, rfl, hs L' H' (GrowR.refl _ _ _), hp L' _ H' g S (it_en (J := Ite w.K a) (Sq := SqL w.K) (fun _ _ => rfl) (fun _ _ _ _ => rfl) (fun _ _ => rfl) hs S t)⟩⟩
    | tup ds => exact (pi_enumT g1 hm he hs).run pins s σ H K I ⟨L, R, m, ρ, rel, by
        rw [e1, C.K]
        intro L' vs H' g S r
        obtain ⟨v, rfl, ra⟩ := r.one
        obtain ⟨a, xs, rfl, h1, t⟩ := ra.tup_inv
        exact ⟨a, xs, rfl, h1, hp L' _ H' g S (it_en (J := IteT w.K a) (Sq := SqT w.K) (fun _ _ => rfl) (fun _ _ _ _ => rfl) (fun _ _ => rfl) (fun _ _ g => sqT_grow S h1 g) S t)⟩⟩
    | _ => exact hp.elim
theorem i_zip {a b : E} {a' b' : Expr} {elts : List Expr} {kk : Nat} {tpos pp pos : Pos} (hg : glB p.sc ("zip" : Str) = true) (hm : X.mg "zip" = none) (he : PA X [a', b'] (tEs w cf W (.cons a (.cons b .nil)))) (hs : starEach [a', b'] X.env = (false, eval a' X.env) :: starEach [b'] X.env) (hpl : (backTo pos (starEach [b'] X.env)).any (·.1) = false) : PI X (.Tuple elts kk tpos) (.Call (.Name "zip" pp) [a', b'] [] pos) (tI w cf W (.zip a b)) := by
  obtain ⟨g1, _⟩ := gl_of C hg
  refine ⟨fun pins s σ H K I ⟨L, R, m, ρ, rel, hp⟩ => (RZ.pi_zipA g1 hm he hs hpl).run pins s σ H K I ⟨L, R, m, ρ, rel, ?_⟩⟩
  unfold evi at hp
  rw [evs_two]
  cases e0 : ev cf.F cf.cl a ρ m with
  | bad => rw [e0] at hp; exact hp.elim
  | exc x m' => rw [e0] at hp; exact hp
  | ok d m' =>
    rw [e0] at hp
    simp only [Res.bind_ok] at hp ⊢
    cases e1 : ev cf.F cf.cl b ρ m' with
    | bad => rw [e1] at hp; exact hp.elim
    | exc x m' => rw [e1] at hp; exact hp
    | ok d2 m2 =>
      rw [e1] at hp
      simp only [Res.bind_ok] at hp ⊢
      intro L' vs H' g S r
      obtain ⟨v, u, rfl, ra, rb⟩ := r.two
      rw [C.K]
      cases d <;> cases d2 <;> first | exact hp.elim | skip
      · obtain ⟨a, xs, rfl, h1, t⟩ := ra.tup_inv
        obtain ⟨a2, xs2, rfl, h12, t2⟩ := rb.tup_inv
        exact ⟨a, a2, xs, xs2, rfl, .inr ⟨h1, h12, hp L' _ H' g S (it_zp (J := RZ.ItzT w.K a a2) (Sq := SqT w.K) (fun _ _ => rfl) (fun _ _ _ _ => rfl) (fun _ _ => rfl) (fun _ _ g => ⟨sqT_grow S h1 g, sqT_grow S h12 g⟩) S t t2)⟩⟩
      · obtain ⟨a, xs, rfl, hs, t⟩ := lst_grow ra
        obtain ⟨a2, xs2, rfl, hs2, t2⟩ := lst_grow rb
        exact ⟨a, a2, xs, xs2, rfl, .inl ⟨hs L' H' (GrowR.refl _ _ _), hs2 L' H' (GrowR.refl _ _ _), hp L' _ H' g S (it_zp (J := Itz w.K a a2) (Sq := SqL w.K) (fun _ _ => rfl) (fun _ _ _ _ => rfl) (fun _ _ => rfl) (fun _ _ g => ⟨hs _ _ g, hs2 _ _ g⟩) S t t2)⟩⟩
end
end PM

end

section
set_option maxHeartbeats 2000000
/-! PM, part Xa: itertools.combinations(xs, k), at the library's level. -/
namespace PMC
open PySem PySem.Spec
open Sem (wp)
theorem mro_co : mroOf (.type "itertools.combinations") = pure [.type "itertools.combinations", .type "object"] := by rw [mroOf_type]; kernel_rfl
theorem lookup_co_new : typeLookup (.type "itertools.combinations") "__new__" = pure (some (.builtin "itertools.combinations.__new__")) := by rw [typeLookup_type, builtinLookup_eq_fast]; kernel_rfl
theorem slot_co_init : Slot "itertools.combinations" "__init__" "object.__init__" :=
  .of (owner := "object") (n := "__init__") (by rw [typeLookup_type, builtinLookup_eq_fast]; kernel_rfl) (by decide +kernel) (by decide +kernel) (by decide +kernel) (by first | exact .inl (by decide +kernel) | exact .inr (by decide +kernel)) (by rw [isSubtype_type]; kernel_rfl)
theorem sub_co : isSubtype (.type "itertools.combinations") (.type "itertools.combinations") = pure true := by rw [isSubtype_type]; kernel_rfl
theorem called_co : TypeCalled "itertools.combinations" "itertools.combinations.__new__" "object.__init__" :=
  ⟨by decide +kernel, by decide +kernel, ⟨_, _, mro_co⟩, madeBy_type mro_co lookup_co_new (by decide +kernel), by decide +kernel, sub_co, slot_co_init⟩
theorem typeCall_co_2 (a b : Value) : checkTypeCall "itertools.combinations" ⟨[a, b], []⟩ = pure () := by kernel_rfl
theorem newCall_co_2 (a b : Value) : checkBuiltinCall "itertools.combinations.__new__" ⟨[.type "itertools.combinations", a, b], []⟩ = pure () := by kernel_rfl
theorem entry_co_new : entryFor table "itertools.combinations.__new__" = some Builtin.«itertools.combinations.__new__» := entryFor_of_tree (by kernel_rfl)
theorem slot_co_iter : Slot "itertools.combinations" "__iter__" "itertools.combinations.__iter__" :=
  .of (owner := "itertools.combinations") (n := "__iter__") (by rw [typeLookup_type, builtinLookup_eq_fast]; kernel_rfl) (by decide +kernel) (by decide +kernel) (by decide +kernel) (by first | exact .inl (by decide +kernel) | exact .inr (by decide +kernel)) sub_co
theorem slot_co_next : Slot "itertools.combinations" "__next__" "itertools.combinations.__next__" :=
  .of (owner := "itertools.combinations") (n := "__next__") (by rw [typeLookup_type, builtinLookup_eq_fast]; kernel_rfl) (by decide +kernel) (by decide +kernel) (by decide +kernel) (by first | exact .inl (by decide +kernel) | exact .inr (by decide +kernel)) sub_co
theorem entry_co_iter : entryFor table "itertools.combinations.__iter__" = some Builtin.«dict_keyiterator.__iter__» :=
  entryFor_alias (id' := "dict_keyiterator.__iter__") (by kernel_rfl) (by first | rfl | decide +kernel | (unfold String.splitOn; simp +decide [String.splitOnAux])) (by decide +kernel) (by kernel_rfl)
theorem entry_co_next : entryFor table "itertools.combinations.__next__" = some Builtin.«itertools.combinations.__next__» := entryFor_of_tree (by kernel_rfl)
theorem noDict_co : typeHasDict (.type "itertools.combinations") = false := by decide +kernel
theorem noClose_co : typeLookup (.type "itertools.combinations") "close" = pure none := by rw [typeLookup_type, builtinLookup_eq_fast]; kernel_rfl
theorem owner_co : Manifest.owners.lookup (String.ofList ['s', 'n', 'o', 'i', 't', 'a', 'n', 'i', 'b', 'm', 'o', 'c', '.', 's', 'l', 'o', 'o', 't', 'r', 'e', 't', 'i'].reverse) = some Manifest.sig_itertools_combinations := by kernel_rfl
theorem args_co_iter (a : Value) : argsOk "itertools.combinations.__iter__" ⟨[a], []⟩ := by
  unfold argsOk; rw [signature?_of (id := "itertools.combinations.__iter__") (n := ['_', '_', 'r', 'e', 't', 'i', '_', '_']) (o := ['s', 'n', 'o', 'i', 't', 'a', 'n', 'i', 'b', 'm', 'o', 'c', '.', 's', 'l', 'o', 'o', 't', 'r', 'e', 't', 'i']) (by kernel_rfl) owner_co]; kernel_rfl
theorem args_co_next (a : Value) : argsOk "itertools.combinations.__next__" ⟨[a], []⟩ := by
  unfold argsOk; rw [signature?_of (id := "itertools.combinations.__next__") (n := ['_', '_', 't', 'x', 'e', 'n', '_', '_']) (o := ['s', 'n', 'o', 'i', 't', 'a', 'n', 'i', 'b', 'm', 'o', 'c', '.', 's', 'l', 'o', 'o', 't', 'r', 'e', 't', 'i']) (by kernel_rfl) owner_co]; kernel_rfl
end PMC

end

section
set_option maxHeartbeats 2000000
/-! PM, part Xc: the turns of combinations. -/
namespace PMC
open PySem PySem.Spec PM
open Sem (wp)
/-- a combinations object: the pool's tuple, how far (0, 1, 2), what was handed out last, the places -/
abbrev IsComb (h : Heap) (it : Addr) (pool : Value) (st : Int) (last : Value) (idx : List Nat) : Prop := h.get? it = some { cls := .type "itertools.combinations", dict := none, data := .fields ([pool, rawInt st, last] ++ idx.map fun (i : Nat) => rawInt i).toArray, slots := #[] }
def pickV (items : Array Value) (idx : List Nat) : List Value := idx.map fun i => items.getD i .none
section
variable {prog : Program} {w : World} {A : Around} {E : Value → Shared → Prop} {s : Shared}
theorem fld {it : Addr} {pool last : Value} {st : Int} {idx : List Nat} {i : Nat} {x : Value} {Q : Value → Shared → Prop} (hit : IsComb s.heap it pool st last idx) (hx : ([pool, rawInt st, last] : List Value)[i]? = some x) (h : Q x s) : wpAny (model prog w) A (field (.ref it) i) Q E s := by
  refine wpAny_field hit rfl (x := x) ?_ h
  have hi : i < 3 := by
    have := (List.getElem?_eq_some_iff.mp hx).1
    simpa using this
  rw [List.getElem?_toArray, List.getElem?_append_left (by simpa using hi)]
  exact hx
theorem nums {it : Addr} {pool last : Value} {st : Int} {idx : List Nat} {Q : List Nat → Shared → Prop} (hit : IsComb s.heap it pool st last idx) (h : Q idx s) : wpAny (model prog w) A (Builtin.Itertools.itNumbersFrom (.ref it) 3) Q E s := by
  unfold Builtin.Itertools.itNumbersFrom
  refine wpAny_bind (wpAny_load hit ?_)
  refine wpAny_pure ?_
  have e : (([pool, rawInt st, last] ++ idx.map fun (i : Nat) => rawInt i).toArray.toList.drop 3).map (fun | .int n _ => n.toNat | _ => 0) = idx := by
    simp only [List.cons_append, List.nil_append, List.drop_succ_cons, List.drop_zero, List.map_map]
    refine (List.map_congr_left fun i _ => ?_).trans (List.map_id idx)
    rfl
  refine Eq.mp (congrArg (fun z => Q z s) (Eq.symm ?_)) h
  exact e
theorem handOut {it pl : Addr} {items : Array Value} {last : Value} {st : Int} {idx idx2 : List Nat} {Q : Fin → Shared → Prop} (hit : IsComb s.heap it (.ref pl) st last idx) (hp : s.heap.IsTuple pl items) (hidx : idx2.length ≤ 1000)
    (h : ∀ h', IsComb h' it (.ref pl) st (.ref s.heap.objs.size) idx → h'.get? s.heap.objs.size = some { cls := .type "tuple", data := .seq (pickV items idx2).toArray } → (∀ b o, b ≠ it → s.heap.get? b = some o → h'.get? b = some o) → Q (.done (.ret (.ref s.heap.objs.size))) { s with heap := h' }) :
    wpAny (model prog w) A (do
      let result ← (do
        let items ← Builtin.Itertools.itPoolItems (.ref pl)
        newTuple (idx2.map fun i => items.getD i .none))
      let before ← field (.ref it) 2
      setField (.ref it) 2 result
      letGo [before] [result]
      ret result) Q E s := by
  obtain ⟨o, ho, hc, n, hd⟩ := hp
  refine wpAny_bind (wpAny_bind ?_)
  unfold Builtin.Itertools.itPoolItems
  refine wpAny_bind (wpAny_seqItems ho hd ?_)
  refine wpAny_pure ?_
  simp only [newTuple]
  refine wpAny_newObj_type ?_ (by show _ ≤ sizeLine; rw [sizeLine_eq]; simp; omega)
  generalize hob : ({ cls := .type "tuple", data := .seq (List.map (fun i => items.getD i Value.none) idx2).toArray } : Obj) = ob
  have hobf : ob.isFreed = false := by subst hob; rfl
  have hit2 : IsComb (s.heap.push ob) it (.ref pl) st last idx := Heap.get?_push_of_some _ hit
  refine wpAny_bind (fld hit2 (i := 2) rfl ?_)
  refine wpAny_bind (wpAny_setField hit2 rfl (by simp) ?_)
  refine wpAny_bind (wpAny_letGo ?_)
  refine wpAny_pure ?_
  have hnew : (s.heap.push ob).get? s.heap.objs.size = some ob := Heap.get?_push_size _ hobf
  have hlt : it < s.heap.objs.size := Heap.lt_size hit
  refine h _ ?_ ?_ fun b o hb q => ?_
  · refine (Heap.get?_update_self _ hit2 rfl).trans ?_
    simp [Obj.mapFields]
  · rw [Heap.get?_update_other _ _ (Nat.ne_of_lt hlt), hnew, ← hob]; rfl
  · rw [Heap.get?_update_other _ _ (Ne.symm hb)]
    exact Heap.get?_push_of_some _ q
theorem intF {it : Addr} {pool last : Value} {st : Int} {idx : List Nat} {Q : Int → Shared → Prop} (hit : IsComb s.heap it pool st last idx) (h : Q st s) : wpAny (model prog w) A (Builtin.Itertools.itIntField (.ref it) 1) Q E s := by
  unfold Builtin.Itertools.itIntField
  exact wpAny_bind (fld hit (i := 1) rfl (wpAny_pure h))
/-- one turn -/
theorem comb_item {it pl : Addr} {items : Array Value} {last : Value} {st : Int} {idx idx2 : List Nat} {Q : Option Value → Shared → Prop} (hit : IsComb s.heap it (.ref pl) st last idx) (hp : s.heap.IsTuple pl items) (hne : it ≠ pl) (hidx : idx2.length ≤ 1000)
    (hst : (st = 0 ∧ idx2 = idx) ∨ (st = 1 ∧ nextC items.size idx = some idx2))
    (h : ∀ h' T, IsComb h' it (.ref pl) 1 (.ref T) idx2 → h'.get? T = some { cls := .type "tuple", data := .seq (pickV items idx2).toArray } → T = s.heap.objs.size → (∀ b o, b ≠ it → s.heap.get? b = some o → h'.get? b = some o) → Q (some (.ref T)) { s with heap := h' }) :
    wpAny (model prog w) A (pyNext (.ref it)) Q E s := by
  have hT : s.TypeIs (.ref it) "itertools.combinations" := ⟨_, hit, rfl⟩
  unfold pyNext
  refine wpAny_bind (wpAny_attempt (wpAny_callSpecial?_slot (name := Str.ofString "__next__") hT slot_co_next (wpAny_call_entry slot_co_next hT entry_co_next ?_ (args_co_next _))))
  show wpAny _ _ (field (.ref it) 0 >>= _) _ _ s
  refine wpAny_bind (fld hit (i := 0) rfl ?_)
  refine wpAny_bind (nums hit ?_)
  refine wpAny_bind (intF hit ?_)
  rcases hst with ⟨rfl, rfl⟩ | ⟨rfl, hnx⟩
  · refine wpAny_bind (wpAny_setField hit rfl (by simp) ?_)
    have hit1 : IsComb (s.heap.update it (Obj.mapFields fun x => x.setIfInBounds 1 (rawInt 1))) it (.ref pl) 1 last idx2 := by
      refine (Heap.get?_update_self _ hit rfl).trans ?_
      simp [Obj.mapFields]
    have hp1 : (s.heap.update it (Obj.mapFields fun x => x.setIfInBounds 1 (rawInt 1))).IsTuple pl items := by
      obtain ⟨o, ho, hc, n, hd⟩ := hp
      exact ⟨o, by rw [Heap.get?_update_other _ _ hne]; exact ho, hc, n, hd⟩
    have hsz : (s.heap.update it (Obj.mapFields fun x => x.setIfInBounds 1 (rawInt 1))).objs.size = s.heap.objs.size := Heap.size_update ..
    refine handOut (s := { s with heap := s.heap.update it (Obj.mapFields fun x => x.setIfInBounds 1 (rawInt 1)) }) hit1 hp1 hidx fun h' a b c => ?_
    refine ⟨_, rfl, ?_⟩
    rw [show ({ s with heap := s.heap.update it (Obj.mapFields fun x => x.setIfInBounds 1 (rawInt 1)) } : Shared).heap.objs.size = s.heap.objs.size from hsz] at a b ⊢
    exact wpAny_pure (h h' _ a b rfl fun b o hb q => c b o hb (by
      show (s.heap.update it (Obj.mapFields fun x => x.setIfInBounds 1 (rawInt 1))).get? b = some o
      rw [Heap.get?_update_other _ _ (Ne.symm hb)]; exact q))
  · obtain ⟨o, ho, hc, n, hd⟩ := id hp
    refine wpAny_bind ?_
    unfold Builtin.Itertools.itPoolItems
    refine wpAny_bind (wpAny_seqItems ho hd ?_)
    refine wpAny_pure ?_
    split
    · rename_i nx heq
      have h2 : nextC items.size idx = some nx := heq
      rw [hnx] at h2
      cases h2
      unfold Builtin.Itertools.itSetNumbersFrom
      refine wpAny_bind (wpAny_updateFields hit rfl ?_ (hz := by rw [sizeLine_eq]; simp; omega))
      generalize hf : (s.heap.update it _) = h1
      have hit1 : IsComb h1 it (.ref pl) 1 last idx2 := by
        subst hf
        refine (Heap.get?_update_self _ hit rfl).trans ?_
        simp [Obj.mapFields]
      have hp1 : h1.IsTuple pl items := by
        subst hf
        exact ⟨o, by rw [Heap.get?_update_other _ _ hne]; exact ho, hc, n, hd⟩
      have hsz : h1.objs.size = s.heap.objs.size := by subst hf; exact Heap.size_update ..
      refine handOut (s := { s with heap := h1 }) hit1 hp1 hidx fun h' a b c => ?_
      refine ⟨_, rfl, ?_⟩
      rw [show ({ s with heap := h1 } : Shared).heap.objs.size = s.heap.objs.size from hsz] at a b ⊢
      exact wpAny_pure (h h' _ a b rfl fun b o hb q => c b o hb (by
        subst hf
        rw [Heap.get?_update_other _ _ (Ne.symm hb)]; exact q))
    · rename_i heq
      have h2 : nextC items.size idx = none := heq
      rw [hnx] at h2
      cases h2
/-- behind the last one -/
theorem comb_end {it pl : Addr} {items : Array Value} {last : Value} {st : Int} {idx : List Nat} {Q : Option Value → Shared → Prop} (hh : A.handled = none) (hit : IsComb s.heap it (.ref pl) st last idx) (hp : s.heap.IsTuple pl items)
    (hst : st = 2 ∨ (st = 1 ∧ nextC items.size idx = none)) (hQ : ∀ h', Heap.ExtBut it s.heap h' → Q none { s with heap := h' }) : wpAny (model prog w) A (pyNext (.ref it)) Q E s := by
  have hT : s.TypeIs (.ref it) "itertools.combinations" := ⟨_, hit, rfl⟩
  unfold pyNext
  refine wpAny_bind (wpAny_attempt (wpAny_callSpecial?_slot (name := Str.ofString "__next__") hT slot_co_next (wpAny_call_entry slot_co_next hT entry_co_next ?_ (args_co_next _))))
  show wpAny _ _ (field (.ref it) 0 >>= _) _ _ s
  refine wpAny_bind (fld hit (i := 0) rfl ?_)
  refine wpAny_bind (nums hit ?_)
  refine wpAny_bind (intF hit ?_)
  have stop : ∀ (h1 : Heap) (Q1 : Fin → Shared → Prop) (E1 : Value → Shared → Prop), Heap.ExtBut it s.heap h1 → (∀ a o h', h'.get? a = some o → o.cls = .type "StopIteration" → Heap.ExtBut it s.heap h' → E1 (.ref a) { s with heap := h' }) → wpAny (model prog w) A.in1 (Builtin.Itertools.itStop : Sem Fin) Q1 E1 { s with heap := h1 } := fun h1 Q1 E1 hx k => by
    unfold Builtin.Itertools.itStop
    refine wpAny_bind ?_
    simp only [newExc, newTuple]
    refine wpAny_bind (wpAny_newObj_type ?_ (by size_fits))
    refine wpAny_bind (m := firstArgMember _ _) (wpAny_of_eq (a := .none) (by first | rfl | (simp only [firstArgMember]; rfl)) ?_)
    refine wpAny_newObj_type ?_ (by size_fits)
    simp only [raiseNew]
    refine wpAny_bind (wpAny_handled ?_)
    first | rw [show A.in1.handled = none from hh] | rw [hh]
    refine wpAny_bind (wpAny_pure (wpAny_throw ?_))
    exact k _ _ _ (Heap.get?_push_size _ rfl) rfl ((hx.push _).push _)
  have fin : ∀ a o h', h'.get? a = some o → o.cls = .type "StopIteration" → Heap.ExtBut it s.heap h' → wpAny (model prog w) A (isInstance (.ref a) (.type "StopIteration")) (fun b s2 => wpAny (model prog w) A (if b = true then pure none else throw (.ref a)) Q E s2) E { s with heap := h' } := fun a o h' h1 h2 k =>
    wpAny_isInstance (T := "StopIteration") (b := true) ⟨o, h1, h2⟩ isSubtype_stop (wpAny_ite_true rfl (wpAny_pure (hQ h' k)))
  rcases hst with rfl | ⟨rfl, hnx⟩
  · refine wpAny_bind (wpAny_rule ?_)
    exact stop _ _ _ (Heap.ExtBut.refl it s.heap) fun a o h' h1 h2 k => wpAny_bind (fin a o h' h1 h2 k)
  · obtain ⟨o, ho, hc, n, hd⟩ := id hp
    refine wpAny_bind ?_
    unfold Builtin.Itertools.itPoolItems
    refine wpAny_bind (wpAny_seqItems ho hd ?_)
    refine wpAny_pure ?_
    split
    · rename_i nx heq
      have h2 : nextC items.size idx = some nx := heq
      rw [hnx] at h2
      cases h2
    · refine wpAny_bind (wpAny_setField hit rfl (by simp) ?_)
      exact stop _ _ _ ((Heap.SameBut.update ..).extBut) fun a o h' h1 h2 k => wpAny_bind (fin a o h' h1 h2 k)
theorem comb_iter {it : Addr} {pool last : Value} {st : Int} {idx : List Nat} {Q : Value → Shared → Prop} (hit : IsComb s.heap it pool st last idx) (h : Q (.ref it) s) : wpAny (model prog w) A (pyIter (.ref it)) Q E s := by
  have hT : s.TypeIs (.ref it) "itertools.combinations" := ⟨_, hit, rfl⟩
  refine wpAny_pyIter_slot hT slot_co_iter (wpAny_call_entry slot_co_iter hT entry_co_iter ?_ (args_co_iter _))
  show wpAny _ _ (ret (.ref it)) _ _ s
  exact wpAny_pure ⟨_, rfl, "itertools.combinations", _, hT, slot_co_next.lookup, h⟩
end
end PMC

end

section
set_option maxHeartbeats 2000000
/-! PM, part Xb: combinations(xs, k) called. -/
namespace PMC
open PySem PySem.Spec
open Sem (wp)
section
variable {prog : Program} {w : World} {A : Around} {E : Value → Shared → Prop} {s : Shared}
theorem call_comb {a : Addr} {T : String} {o : Obj} {items : Array Value} {n : Nat} {k : Nat} {t : Tok} {Q : Value → Shared → Prop} (hT : T = "list" ∨ T = "tuple") (ho : s.heap.get? a = some o) (hc : o.cls = .type T) (hd : o.data = .seq items n) (hsz : items.size ≤ sizeLine) (hk : k ≤ 1000)
    (h : ∀ (mid h' : Heap), (∀ b o, s.heap.get? b = some o → mid.get? b = some o) → IsComb h' (mid.objs.size + 1) (.ref mid.objs.size) (if k > items.size then 2 else 0) .none (List.range k) → h'.IsTuple mid.objs.size items → (∀ b o, mid.get? b = some o → h'.get? b = some o) → Q (.ref (mid.objs.size + 1)) { s with heap := h' }) :
    wpAny (model prog w) A (call (.type "itertools.combinations") [.ref a, .int k t]) Q E s := by
  refine callType_new called_co (by decide +kernel) (typeCall_co_2 _ _) (newCall_co_2 _ _) (fun obj => F.args_object_init_3 obj _ _) entry_co_new (Meets.of_wp (S := fun _ R s => s.heap.get? a = some o ∧ ∀ (mid h' : Heap), (∀ b o, s.heap.get? b = some o → mid.get? b = some o) → IsComb h' (mid.objs.size + 1) (.ref mid.objs.size) (if k > items.size then 2 else 0) .none (List.range k) → h'.IsTuple mid.objs.size items → (∀ b o, mid.get? b = some o → h'.get? b = some o) → R (.ok (.ret (.ref (mid.objs.size + 1)))) { s with heap := h' }) fun prog w A R s h => ?_) ?_
  · obtain ⟨hp, g, dd, tk, os⟩ := s
    obtain ⟨ho, h⟩ := h
    have hsub := sub_co
    have hdc := noDict_co
    repeat (first
      | wp_step
      | simp only [List.head?_cons, Option.some_or, List.getElem?_cons_succ, List.getElem?_cons_zero, List.length_cons, List.length_nil, List.forIn_nil])
    rw [show ("itertools." ++ "combinations") = "itertools.combinations" from by decide +kernel, hsub]
    have hn : ((k : Int) < 0) = False := by simp
    have hb1 : decide ((k : Int) < -(2 ^ 63 : Int)) = false := decide_eq_false (by omega)
    have hb2 : decide ((k : Int) ≥ (2 ^ 63 : Int)) = false := decide_eq_false (by omega)
    have htm : Builtin.Itertools.itTooMany (k : Int) = false := decide_eq_false (by omega)
    repeat (first
      | wp_step
      | simp only [List.head?_cons, Option.some_or, List.getElem?_cons_succ, List.getElem?_cons_zero, List.length_cons, List.length_nil, List.forIn_nil, List.zipIdx_cons, List.zipIdx_nil, List.forIn_cons])
    refine wpAny_ite_false (by rw [hb1, hb2]; rfl) (wpAny_pure ?_)
    refine wpAny_bind (wpAny_collect_seq a hT ho hc hd (fun h' hk' => ?_) hsz)
    refine wpAny_ite_false (c := (k : Int) < 0) (decide_eq_false (by omega)) ?_
    refine wpAny_ite_false (by rw [htm]; rfl) ?_
    simp only [newTuple]
    refine wpAny_bind (wpAny_newObj_type ?_ (by size_fits))
    refine wpAny_pure ?_
    refine wpAny_bind ?_
    unfold Builtin.Itertools.itNewRecord
    refine wpAny_ite_true (by rw [hdc]; rfl) ?_
    refine wpAny_newObj_type ?_ (by show _ ≤ sizeLine + 2; rw [sizeLine_eq]; simp; omega)
    refine wpAny_pure ?_
    have z1 : (h'.push { cls := .type "tuple", data := .seq items.toList.toArray }).objs.size = h'.objs.size + 1 := Heap.size_push ..
    have e1 : (h'.push { cls := .type "tuple", data := .seq items.toList.toArray }).get? h'.objs.size = some { cls := .type "tuple", data := .seq items.toList.toArray } := Heap.get?_push_size _ rfl
    have q := h h' ((h'.push { cls := .type "tuple", data := .seq items.toList.toArray }).push { cls := .type "itertools.combinations", data := .fields ([Value.ref h'.objs.size, rawInt (if k > items.size then 2 else 0), .none] ++ (List.range k).map fun (i : Nat) => rawInt i).toArray }) hk' (by rw [← z1]; exact Heap.get?_push_size _ rfl) ⟨_, Heap.get?_push_of_some _ e1, rfl, 0, by simp⟩ (fun b o q => Heap.get?_push_of_some _ (Heap.get?_push_of_some _ q))
    rw [← z1] at q
    exact ⟨_, rfl, q⟩
  · exact ⟨ho, fun mid h' a b c d => ⟨⟨_, b, rfl⟩, h mid h' a b c d⟩⟩
end
end PMC

end

section
set_option maxHeartbeats 1000000
/-! PM, part Kb: combinations(xs, k) walked; list(range(n)). -/
namespace PM
open PySem PySem.Spec PyProof.Rows L2
open PMC
/-- a run of places: each one's next is the one behind it, the last one has none -/
theorem runC_ok {n : Nat} : ∀ {f : Nat} {idx : List Nat} {ls : List (List Nat)}, runC n f idx = some ls → ls[0]? = some idx ∧ ∀ i a, ls[i]? = some a → nextC n a = ls[i + 1]?
  | 0, _, _, h => by cases h
  | f + 1, idx, ls, h => by
    unfold runC at h
    cases hx : nextC n idx with
    | none =>
      rw [hx] at h
      cases h
      refine ⟨rfl, fun i a ha => ?_⟩
      cases i with
      | zero => cases ha; exact hx
      | succ i => simp at ha
    | some j =>
      rw [hx] at h
      cases hr : runC n f j with
      | none => simp [hr] at h
      | some l2 =>
        simp only [hr, Option.map_some, Option.some.injEq] at h
        subst h
        obtain ⟨h1, h2⟩ := runC_ok hr
        refine ⟨rfl, fun i a ha => ?_⟩
        cases i with
        | zero =>
          cases ha
          rw [hx]
          simpa using h1.symm
        | succ i => simpa using h2 i a (by simpa using ha)
theorem combI_ok {n k : Nat} {ls : List (List Nat)} (h : combI n k = some ls) : (k > n → ls = []) ∧ (¬ k > n → ls[0]? = some (List.range k)) ∧ ∀ i a, ls[i]? = some a → nextC n a = ls[i + 1]? := by
  unfold combI at h
  by_cases hk : k > n
  · rw [if_pos hk] at h
    cases h
    exact ⟨fun _ => rfl, fun q => absurd hk q, fun i a ha => by simp at ha⟩
  · rw [if_neg hk] at h
    obtain ⟨h1, h2⟩ := runC_ok h
    exact ⟨fun q => absurd q hk, fun _ => h1, h2⟩
/-- what the places pick -/
def pickX (xs : List V) (idx : List Nat) : List V := idx.map fun i => xs.getD i .non
theorem vals_getD {xs : List V} {its : List Value} (r : Vals xs its) (i : Nat) : RelV (xs.getD i .non) (its.getD i .none) := by
  by_cases h : i < xs.length
  · obtain ⟨u, h1, h2⟩ := r.get (i := i) (x := xs[i]) (by simp [h])
    have e1 : xs.getD i .non = xs[i] := by simp [List.getD, h]
    have e2 : its.getD i .none = u := by simp [List.getD, h1]
    rw [e1, e2]; exact h2
  · have hl := r.length
    have e1 : xs.getD i .non = .non := by simp [List.getD]; rw [List.getElem?_eq_none (by omega)]; rfl
    have e2 : its.getD i .none = .none := by simp [List.getD]; rw [List.getElem?_eq_none (by omega)]; rfl
    rw [e1, e2]; exact rfl
theorem vals_pick {xs : List V} {items : Array Value} (r : Vals xs items.toList) : ∀ idx : List Nat, Vals (pickX xs idx) (pickV items idx)
  | [] => .nil
  | i :: idx => by
    refine .cons ?_ (vals_pick r idx)
    have := vals_getD r i
    have e : items.toList.getD i .none = items.getD i .none := by simp [List.getD, Array.getD_eq_getD_getElem?]
    rw [e] at this
    exact this
/-- the picks, each in a new tuple -/
def ItC (xs : List V) (ls : List (List Nat)) : L2.It :=
  ⟨fun i _ => i < ls.length, fun i H v H' => ∃ T a, v = .ref T ∧ H T = none ∧ H' = upd H T (.tup (pickX xs a)) ∧ ls[i]? = some a, fun i _ => ls.length ≤ i⟩
/-- where the iterator stands ahead of turn i -/
def CombAt (it pl : Addr) (items : Array Value) (k : Nat) (ls : List (List Nat)) (i : Nat) (h : Heap) : Prop :=
  h.IsTuple pl items ∧ ∃ last, (i = 0 ∧ IsComb h it (.ref pl) (if k > items.size then 2 else 0) last (List.range k)) ∨ (∃ j a, i = j + 1 ∧ ls[j]? = some a ∧ IsComb h it (.ref pl) 1 last a)
theorem turn_comb {P : Program} {w : World} {K : PySem.W.Frag} {tg : Expr} {it pl : Addr} {xs : List V} {items : Array Value} {k : Nat} {ls : List (List Nat)} (hne : it ≠ pl) (r : Vals xs items.toList) (hl : combI items.size k = some ls) (hall : ∀ a ∈ ls, a.length ≤ 1000) :
    Turn P w K tg (ItC xs ls) [it, pl] it (CombAt it pl items k ls) where
  mem := List.mem_cons_self ..
  obj := fun i h ⟨⟨o, ho, _, n, hd⟩, last, q⟩ b hb => by
    rcases List.mem_cons.mp hb with z | z
    · subst z
      rcases q with ⟨_, q⟩ | ⟨j, a, _, _, q⟩ <;> exact ⟨_, q, fun v z => nomatch z⟩
    · rw [List.mem_singleton.mp z]; exact ⟨o, ho, fun v q => by rw [hd] at q; cases q⟩
  keep := fun i h h' ⟨⟨o, ho, hc, n, hd⟩, last, q⟩ kp => by
    refine ⟨⟨o, kp pl (by simp) o ho, hc, n, hd⟩, last, ?_⟩
    rcases q with ⟨e, q⟩ | ⟨j, a, e, e2, q⟩
    · exact .inl ⟨e, kp it (by simp) _ q⟩
    · exact .inr ⟨j, a, e, e2, kp it (by simp) _ q⟩
  item := by
    intro X hP hw hK hc i pins s σ H E I hf st hg
    subst hP hw hK
    obtain ⟨c1, c2, c3⟩ := combI_ok hl
    have hg : i < ls.length := hg
    obtain ⟨a, ha⟩ : ∃ a, ls[i]? = some a := ⟨_, List.getElem?_eq_getElem hg⟩
    obtain ⟨hp, last, q⟩ := st
    have main : ∀ st idx, IsComb s.heap it (.ref pl) st last idx → ((st = 0 ∧ a = idx) ∨ (st = 1 ∧ nextC items.size idx = some a)) → wpAny (model X.prog X.w) X.A (pyNext (.ref it)) (fun r s1 => ∃ u, r = some u ∧
      wpAny (model X.prog X.w) X.A (letOwnedTupleGo tg (.ref it) u) (fun _ s2 => ∃ x H', Inv X pins σ H' s2 ∧ RelV x u ∧ (ItC xs ls).yld i H x H' ∧ CombAt it pl items k ls (i + 1) s2.heap ∧ ∀ b ∈ [it, pl], H' b = none) E s1) E s := fun st idx hit hst => by
      have hlt := Heap.lt_size hit
      obtain ⟨o, ho, hoc, n, hod⟩ := id hp
      have hpl := Heap.lt_size ho
      refine comb_item hit hp hne (hall a (List.mem_of_getElem? ha)) hst fun h' T h1 h2 hT h3 => ?_
      subst hT
      have new : ObjOk X.prog X.w (upd H s.heap.objs.size (.tup (pickX xs a))) h' s.heap.objs.size (.tup (pickX xs a)) := ⟨by
        show (pickX xs a).length ≤ sizeLine
        unfold pickX
        rw [List.length_map, sizeLine_eq]
        exact Nat.le_trans (hall a (List.mem_of_getElem? ha)) (by decide), pickV items a, vals_pick r a, ⟨_, h2, rfl, _, rfl⟩⟩
      have I1 := I.turnedNew (t' := s.toks) (h' := h') (ch := [it, pl]) (fun b ob hb q => h3 b ob (fun z => hb (by simp [z])) q) hf (Nat.le_refl _) new
      refine ⟨_, rfl, go_of (s := { s with heap := h' }) h1 rfl rfl (by decide) ⟨.ref s.heap.objs.size, _, I1, rfl, ⟨_, a, rfl, I.hok.fresh (Nat.le_refl _), rfl, ha⟩, ⟨⟨o, h3 pl o (Ne.symm hne) ho, hoc, n, hod⟩, _, .inr ⟨i, a, rfl, ha, h1⟩⟩, fun b hb => ?_⟩⟩
      have lb : b < s.heap.objs.size := by
        rcases List.mem_cons.mp hb with z | z
        · subst z; exact hlt
        · rw [List.mem_singleton.mp z]; exact hpl
      rw [upd_ne (Nat.ne_of_lt lb)]
      exact (hf b hb).1
    rcases q with ⟨e, q⟩ | ⟨j, b, e, e2, q⟩
    · subst e
      have hk : ¬ k > items.size := fun z => by rw [c1 z] at hg; cases hg
      rw [if_neg hk] at q
      refine main 0 _ q (.inl ⟨rfl, ?_⟩)
      have := c2 hk
      rw [ha] at this
      exact Option.some.inj this
    · subst e
      exact main 1 _ q (.inr ⟨rfl, by rw [c3 j b e2]; exact ha⟩)
  done := by
    intro X hP hw hK hc i pins s σ H E I hf st hg
    subst hP hw hK
    obtain ⟨c1, c2, c3⟩ := combI_ok hl
    have hg : ls.length ≤ i := hg
    obtain ⟨hp, last, q⟩ := st
    obtain ⟨f0, f1, f2, f3, f4, f5⟩ := hf it (by simp)
    have fin : ∀ h', Heap.ExtBut it s.heap h' → (none : Option Value) = none ∧ Inv X pins σ H { s with heap := h' } := fun h' eb => ⟨rfl, I.turned (t' := s.toks) (fun b o hb e => eb b o hb e) f0 f1 f3 f4 f5⟩
    rcases q with ⟨e, q⟩ | ⟨j, b, e, e2, q⟩
    · subst e
      have hk : k > items.size := by
        refine Classical.byContradiction fun z => ?_
        have := c2 z
        rw [List.getElem?_eq_none hg] at this
        cases this
      rw [if_pos hk] at q
      exact comb_end (I.ok.hd hc) q hp (.inl rfl) fin
    · subst e
      exact comb_end (I.ok.hd hc) q hp (.inr ⟨rfl, by rw [c3 j b e2]; exact List.getElem?_eq_none hg⟩) fin
  self := fun A i s Q E ⟨_, last, q⟩ h => by
    rcases q with ⟨_, q⟩ | ⟨j, b, _, _, q⟩ <;> exact comb_iter q h
def iComb (K : PySem.W.Frag) (ta : TA) : TI := fun σ H R => ta σ H fun vs H1 => ∃ (ad : Addr) (xs : List V) (k : Nat) (ls : List (List Nat)), vs = [.ref ad, .int k] ∧ (SqL K H1 ad xs ∨ SqT K H1 ad xs) ∧ k ≤ 1000 ∧ combI xs.length k = some ls ∧ (∀ a ∈ ls, a.length ≤ 1000) ∧ R (ItC xs ls) H1
theorem pi_comb {X : Cx} {tg a b : Expr} {ta : TA} {p pos : Pos} (hg : Gl X "combinations") (hm : X.mg "combinations" = some (.type "itertools.combinations")) (ha : PA X [a, b] ta) (hs : starEach [a, b] X.env = [(false, eval a X.env), (false, eval b X.env)]) (hs2 : starEach [b] X.env = [(false, eval b X.env)]) :
    PI X tg (.Call (.Name "combinations" p) [a, b] [] pos) (iComb X.K ta) := by
  refine ⟨fun pins s σ H R I h => Call_ (ld_glob I hg hm (PyProof.Rows.callWith_type1 (thn (ha.run pos pins s σ H _ I h) fun us s1 ⟨vs, H1, I1, r1, ad, xs, k, ls, ex, hq, hk, hl, hall, q⟩ => ?_) (by rw [hs, hs2]) (by rw [hs2]; rfl)))⟩
  subst ex
  cases r1 with
  | cons r rr =>
    cases rr with
    | cons r' rr =>
      cases rr
      cases r
      obtain ⟨t, rfl⟩ := r'
      have go : ∀ (T : String) (o : Obj) (its : List Value) (n : Nat), (T = "list" ∨ T = "tuple") → Vals xs its → s1.heap.get? ad = some o → o.cls = .type T → o.data = .seq its.toArray n → xs.length ≤ sizeLine →
          wpAny (model X.prog X.w) X.A (call (.type "itertools.combinations") [.ref ad, .int (k : Int) t]) (fun v s1 => wpAny (model X.prog X.w) X.A (pyIter v) (PIE X pins σ tg R) X.xe s1) X.xe s1 := fun T o its n hT rv ho hc hd hz => by
        have hlen := rv.length
        have hsz : its.toArray.size = xs.length := by simp [hlen]
        refine call_comb hT ho hc hd (by rw [hsz]; exact hz) hk fun mid h' h1 h2 h3 h4 => comb_iter h2 ?_
        have I2 : Inv X pins σ H1 { s1 with heap := mid } := I1.kept (t' := s1.toks) h1
        have I3 : Inv X pins σ H1 { s1 with heap := h' } := I2.kept (t' := s1.toks) h4
        refine ⟨mid.objs.size + 1, [mid.objs.size + 1, mid.objs.size], _, _, H1, rfl, I3, turn_comb (k := k) (items := its.toArray) (Nat.succ_ne_self _) (by simpa using rv) (by rw [hsz]; exact hl) hall, ⟨h3, _, .inl ⟨rfl, h2⟩⟩, fun b hb => ?_, q⟩
        have hle : mid.objs.size ≤ b := by
          rcases List.mem_cons.mp hb with z | z
          · rw [z]; exact Nat.le_add_right _ _
          · rw [List.mem_singleton.mp z]; exact Nat.le_refl _
        exact I2.fpOk (s := { s1 with heap := mid }) hle (I2.hok.fresh hle)
      rcases hq with hq | hq
      · obtain ⟨its, rv, ⟨o, n, ho, hc, _, hd⟩, hz⟩ := I1.list hq
        exact go "list" o its n (.inl rfl) rv ho hc hd hz
      · obtain ⟨its, rv, ⟨o, ho, hc, n, hd⟩, hz⟩ := I1.tuple hq
        exact go "tuple" o its n (.inr rfl) rv ho hc hd hz
section
variable {w : Wd} {L R : List Addr} {m : M} {H : Hp}
theorem repL_getD {vs : List V} {ds : List D} (r : RepL w L R H vs ds) (i : Nat) (hi : i < ds.length) : Rep w L R H (vs.getD i .non) (ds.getD i .non) := by
  obtain ⟨x, h1, h2⟩ := r.get (i := i) (d := ds[i]) (by simp [hi])
  have e1 : ds.getD i .non = ds[i] := by simp [List.getD, hi]
  have e2 : vs.getD i .non = x := by simp [List.getD, h1]
  rw [e1, e2]; exact h2
theorem repL_pick {vs : List V} {ds : List D} (r : RepL w L R H vs ds) : ∀ idx : List Nat, (∀ i ∈ idx, i < ds.length) → RepL w L R H (pickX vs idx) (idx.map fun i => ds.getD i .non)
  | [], _ => .nil
  | i :: idx, h => .cons (repL_getD r i (h i (List.mem_cons_self ..))) (repL_pick r idx fun j hj => h j (List.mem_cons_of_mem _ hj))
theorem repL_map {α : Type} {f : α → V} {g : α → D} : ∀ {us : List α}, (∀ u ∈ us, Rep w L R H (f u) (g u)) → RepL w L R H (us.map f) (us.map g)
  | [], _ => .nil
  | u :: us, h => .cons (h u (List.mem_cons_self ..)) (repL_map fun x hx => h x (List.mem_cons_of_mem _ hx))
theorem it_comb {xs : List V} {ds : List D} {ls : List (List Nat)} (S : StOk w L R m H) (t : RepL w L R H xs ds) (hb : ∀ a ∈ ls, ∀ i ∈ a, i < ds.length) : ItOk w (ItC xs ls) L R H (ls.map fun idx => .tup (idx.map fun j => ds.getD j .non)) := fun L' R' m' H' i g hr S' => by
  refine ⟨fun d hd => ?_, fun hi => ?_⟩
  · rw [List.getElem?_map] at hd
    obtain ⟨a, ha, rfl⟩ := Option.map_eq_some_iff.mp hd
    have hlt : i < ls.length := (List.getElem?_eq_some_iff.mp ha).1
    refine ⟨hlt, fun y H2 q => ?_⟩
    obtain ⟨T, b, rfl, hT, rfl, hb'⟩ := q
    rw [ha] at hb'
    cases hb'
    exact ⟨Grow.new hT, S'.new hT, .tup (.inl (.inl upd_same)) ((repL_pick (t.then S g hr) a (hb a (List.mem_of_getElem? ha))).mono S' (Grow.new hT))⟩
  · show ls.length ≤ i
    rw [hi, List.length_map]; exact Nat.le_refl _
end
theorem combD_ok {ds zs : List D} {i : Int} (h : combD ds i = some zs) : ∃ (k : Nat) (ls : List (List Nat)), i = (k : Int) ∧ k ≤ 1000 ∧ combI ds.length k = some ls ∧ (∀ a ∈ ls, a.length ≤ 1000 ∧ ∀ j ∈ a, j < ds.length) ∧ zs = ls.map fun idx => .tup (idx.map fun j => ds.getD j .non) := by
  unfold combD at h
  split at h
  · rename_i hi
    unfold combK at h
    cases hl : combI ds.length i.toNat with
    | none => rw [hl] at h; cases h
    | some ls =>
      rw [hl] at h
      simp only [Option.bind_some] at h
      split at h
      · rename_i hall
        simp only [Option.map_some, Option.some.injEq] at h
        simp only [List.all_eq_true, Bool.and_eq_true, decide_eq_true_eq] at hall
        exact ⟨i.toNat, ls, by omega, by omega, hl, hall, h.symm⟩
      · cases h
  · cases h
section
variable {X : Cx} {w : Wd} {ck : Ck} {cf : Cf} {W : WX} {p : Pl} (C : Cok X w ck cf W p)
include C
theorem imp_of {x : Str} {T : String} (h : (ck.gls.any fun q => decide (q.1 = x) && q.2.same (.ty T)) = true) : X.mg x = some (.type T) := by
  obtain ⟨q, hq, e⟩ := List.any_eq_true.mp h
  simp only [Bool.and_eq_true, decide_eq_true_eq] at e
  obtain ⟨e1, e2⟩ := e
  obtain ⟨v, u, h1, h2, h3⟩ := C.gls q hq
  rw [e1] at h1
  have r := h3 [] [] (fun _ => none)
  cases hd : q.2 with
  | ty n =>
    rw [hd] at e2 r
    simp only [D.same, beq_iff_eq] at e2
    subst e2
    cases r
    have h2 : u = .type n := h2
    rw [h1, h2]
  | _ => rw [hd] at e2; simp [D.same] at e2
theorem i_comb {a k : E} {a' k' : Expr} {tg : Expr} {pp pos : Pos} (hg : glB p.sc ("combinations" : Str) = true) (hm : X.mg "combinations" = some (.type "itertools.combinations")) (ha : PA X [a', k'] (tEs w cf W (.cons a (.cons k .nil)))) (hs : starEach [a', k'] X.env = [(false, eval a' X.env), (false, eval k' X.env)]) (hs2 : starEach [k'] X.env = [(false, eval k' X.env)]) : PI X tg (.Call (.Name "combinations" pp) [a', k'] [] pos) (tI w cf W (.comb a k)) := by
  obtain ⟨g1, _⟩ := gl_of C hg
  refine ⟨fun pins s σ H K I ⟨L, R, m, ρ, rel, hp⟩ => (pi_comb g1 hm ha hs hs2).run pins s σ H K I ⟨L, R, m, ρ, rel, ?_⟩⟩
  unfold evi at hp
  rw [evs_two]
  cases e0 : ev cf.F cf.cl a ρ m with
  | bad => rw [e0] at hp; exact hp.elim
  | exc x m' => rw [e0] at hp; exact hp
  | ok d m' =>
    rw [e0] at hp
    simp only [Res.bind_ok] at hp ⊢
    cases e1 : ev cf.F cf.cl k ρ m' with
    | bad => rw [e1] at hp; exact hp.elim
    | exc x m' => rw [e1] at hp; exact hp
    | ok d2 m2 =>
      rw [e1] at hp
      simp only [Res.bind_ok] at hp ⊢
      intro L' vs H' g S r
      obtain ⟨v, u, rfl, ra, rb⟩ := r.two
      rw [C.K]
      cases d2 with
      | int i =>
        cases rb
        have done : ∀ (ad : Addr) (xs : List V) (ds : List D), v = .ref ad → (SqL w.K H' ad xs ∨ SqT w.K H' ad xs) → RepL w L' R H' xs ds → Post w (ItP w) L R H (opt (combD ds i) m2) K (fun c d H' => W c d σ H') → ∃ (ad : Addr) (xs : List V) (k : Nat) (ls : List (List Nat)), [v, V.int i] = [.ref ad, .int k] ∧ (SqL w.K H' ad xs ∨ SqT w.K H' ad xs) ∧ k ≤ 1000 ∧ combI xs.length k = some ls ∧ (∀ a ∈ ls, a.length ≤ 1000) ∧ K (ItC xs ls) H' := fun ad xs ds ev hq t q => by
          cases hc : combD ds i with
          | none => rw [hc] at q; exact q.elim
          | some zs =>
            rw [hc] at q
            obtain ⟨k, ls, rfl, hk, hl, hall, rfl⟩ := combD_ok hc
            subst ev
            exact ⟨ad, xs, k, ls, rfl, hq, hk, by rw [t.length]; exact hl, fun a ha => (hall a ha).1, q L' _ H' g S (it_comb S t fun a ha => (hall a ha).2)⟩
        cases d with
        | tup ds =>
          obtain ⟨ad, xs, e, h1, t⟩ := ra.tup_inv
          exact done ad xs ds e (.inr h1) t hp
        | lst ds =>
          obtain ⟨ad, xs, e, hs, t⟩ := lst_grow ra
          exact done ad xs ds e (.inl (hs L' H' (GrowR.refl _ _ _))) t hp
        | _ => exact hp.elim
      | _ => cases d <;> exact hp.elim
/-- list(range(n)) -/
theorem c_lrng {c : Bool} {e : E} {e' : Expr} {p1 p2 p3 p4 : Pos} (h1 : glB p.sc ("list" : Str) = true) (h2 : glB p.sc ("range" : Str) = true) (m1 : X.mg "list" = none) (m2 : X.mg "range" = none) (he : PE X e' (tE w cf W e)) (hst : starEach [e'] X.env = (false, eval e' X.env) :: starEach [] X.env) :
    PE X (.Call (.Name "list" p1) [.Call (.Name "range" p2) [e'] [] p3] [] p4) (tE w cf W (.lrng c e)) := by
  obtain ⟨g1, _⟩ := gl_of C h1
  obtain ⟨g2, _⟩ := gl_of C h2
  refine (pe_listRg (p := p1) (pos := p4) C.calm g1 m1 (prg_1 (p := p2) (pos := p3) g2 m2 he hst) rfl).imp fun σ H Q ⟨L, R, m, ρ, rel, hp⟩ => ?_
  unfold ev at hp
  show tE w cf W e σ H _
  refine tR_bind (P := Rep w) rel hp (fun _ _ _ q => q) fun x H1 L1 m1 d g1 rel1 r1 q1 => ?_
  cases d with
  | int j =>
    cases r1
    refine ⟨j, rfl, ?_⟩
    by_cases hj : -(2 ^ 62) ≤ j ∧ j < 2 ^ 62
    · rw [show rngOf [.int j] = some (rngL 0 j) from if_pos hj] at q1
      simp only [opt_some, Res.bind_ok] at q1
      have hl : (rngL 0 j).length = (j - 0).toNat := by simp [rngL]
      have hcap : (rngL 0 j).length ≤ cap := by
        refine Classical.byContradiction fun z => ?_
        unfold Raw.out at q1
        simp only [if_neg z] at q1
        exact q1.elim
      refine ⟨⟨by omega, by omega, hj.1, hj.2, by rw [← hl]; exact hcap⟩, fun q hq => ?_⟩
      have rep : RepL w L1 R H1 (rgV 0 j) (rngL 0 j) := by
        unfold rgV rngL
        exact repL_map fun i _ => .int _
      exact (Post.lst q1 rel1.st rep).2 q hq
    · rw [show rngOf [.int j] = none from if_neg hj] at q1
      exact q1.elim
  | _ => exact q1.elim
/-- tuple(range(n)) -/
theorem c_trng {e : E} {e' : Expr} {p1 p2 p3 p4 : Pos} (h1 : glB p.sc ("tuple" : Str) = true) (h2 : glB p.sc ("range" : Str) = true) (m1 : X.mg "tuple" = none) (m2 : X.mg "range" = none) (he : PE X e' (tE w cf W e)) (hst : starEach [e'] X.env = (false, eval e' X.env) :: starEach [] X.env) :
    PE X (.Call (.Name "tuple" p1) [.Call (.Name "range" p2) [e'] [] p3] [] p4) (tE w cf W (.trng e)) := by
  obtain ⟨g1, _⟩ := gl_of C h1
  obtain ⟨g2, _⟩ := gl_of C h2
  refine (pe_tupRg (p := p1) (pos := p4) C.calm g1 m1 (prg_1 (p := p2) (pos := p3) g2 m2 he hst) rfl).imp fun σ H Q ⟨L, R, m, ρ, rel, hp⟩ => ?_
  unfold ev at hp
  show tE w cf W e σ H _
  refine tR_bind (P := Rep w) rel hp (fun _ _ _ q => q) fun x H1 L1 m1 d g1 rel1 r1 q1 => ?_
  cases d with
  | int j =>
    cases r1
    refine ⟨j, rfl, ?_⟩
    by_cases hj : -(2 ^ 62) ≤ j ∧ j < 2 ^ 62
    · rw [show rngOf [.int j] = some (rngL 0 j) from if_pos hj] at q1
      simp only [opt_some, Res.bind_ok] at q1
      have hl : (rngL 0 j).length = (j - 0).toNat := by simp [rngL]
      have hcap : (rngL 0 j).length ≤ cap := by
        refine Classical.byContradiction fun z => ?_
        unfold Raw.out at q1
        simp only [if_neg z] at q1
        exact q1.elim
      refine ⟨⟨by omega, by omega, hj.1, hj.2, by rw [← hl]; exact hcap⟩, fun q hq => ?_⟩
      have rep : RepL w L1 R H1 (rgV 0 j) (rngL 0 j) := by
        unfold rgV rngL
        exact repL_map fun i _ => .int _
      exact (Post.tup (c := false) q1 rel1.st rep).2 q hq
    · rw [show rngOf [.int j] = none from if_neg hj] at q1
      exact q1.elim
  | _ => exact q1.elim
end
end PM

end

section
set_option maxHeartbeats 1000000
/-! PM, part L: comprehensions. -/
namespace PM
open PySem PySem.Spec PyProof.Rows L2
theorem Res.bind_eq {α β : Type} {r : Res α} {f : α → M → Res β} {b : β} {m' : M} (h : r.bind f = .ok b m') : ∃ a m, r = .ok a m ∧ f a m = .ok b m' := by
  cases r with
  | ok a m => exact ⟨a, m, rfl, h⟩
  | exc x m => cases h
  | bad => cases h
section
variable {w : Wd} {L R L' : List Addr} {H H' : Hp} {m : M} {B : Addr}
theorem wipe_none : ∀ (vs : List Nat) (ρ : List (Option PM.D)) (i : Nat) (d : PM.D), (PM.wipe ρ vs)[i]? = some (some d) → ρ[i]? = some (some d) ∧ i ∉ vs
  | [], ρ, i, d, h => ⟨h, by simp⟩
  | v :: vs, ρ, i, d, h => by
    unfold PM.wipe at h
    by_cases e : v = i
    · subst e
      by_cases hl : v < (PM.wipe ρ vs).length
      · rw [List.getElem?_set_self hl] at h; cases h
      · rw [List.getElem?_eq_none (by simpa using hl)] at h; cases h
    · rw [List.getElem?_set_ne e] at h
      obtain ⟨h1, h2⟩ := wipe_none vs ρ i d h
      exact ⟨h1, by simp only [List.mem_cons, not_or]; exact ⟨fun z => e z.symm, h2⟩⟩
theorem pwipe_len (ρ : Env) : ∀ vs : List Nat, (PM.wipe ρ vs).length = ρ.length
  | [] => rfl
  | v :: vs => by unfold PM.wipe; rw [List.length_set, pwipe_len ρ vs]
theorem lwipe_in {σ : L2.St} {i : Nat} : ∀ {vs : List Nat}, i ∈ vs → i < σ.length → (L2.wipe σ vs)[i]? = some none
  | v :: vs, h, hl => by
    unfold L2.wipe
    by_cases e : v = i
    · subst e
      rw [List.getElem?_set_self (by rw [wipe_length]; exact hl)]
    · rw [List.getElem?_set_ne e]
      exact lwipe_in (by rcases List.mem_cons.mp h with z | z; exact absurd z.symm e; exact z) hl
/-- what a target within the block's own names does is wiped -/
theorem wipe_but {σ σ' : L2.St} {ts vs : List Nat} (hv : ∀ i ∈ ts, i ∈ vs) (s : SBut ts (L2.wipe σ vs) σ') : L2.wipe σ' vs = L2.wipe σ vs := by
  have hl : σ'.length = σ.length := by rw [s.1, wipe_length]
  apply List.ext_getElem?
  intro i
  by_cases hi : i ∈ vs
  · by_cases h : i < σ.length
    · rw [lwipe_in hi h, lwipe_in hi (by rw [hl]; exact h)]
    · rw [List.getElem?_eq_none (by rw [wipe_length, hl]; exact Nat.le_of_not_lt h), List.getElem?_eq_none (by rw [wipe_length]; exact Nat.le_of_not_lt h)]
  · rw [wipe_out hi, s.2 i (fun z => hi (hv i z))]
theorem Rel.wiped {cf : Cf} {ρ : Env} {σ : L2.St} {vs : List Nat} (r : Rel w cf L R m ρ σ H) (hc : ∀ j c, cf.cl = some (j, c) → j ∉ vs) : Rel w cf L R m (PM.wipe ρ vs) (L2.wipe σ vs) H :=
  ⟨r.st, by rw [wipe_length, pwipe_len]; exact r.len, fun i d h => by
    obtain ⟨h1, h2⟩ := wipe_none vs ρ i d h
    obtain ⟨v, h3, h4⟩ := r.sl i d h1
    exact ⟨v, by rw [wipe_out h2]; exact h3, h4⟩, fun j c h => by rw [wipe_out (hc j c h)]; exact r.cl j c h⟩
theorem Rel.apart {cf : Cf} {ρ : Env} {σ : L2.St} {L1 R' : List Addr} {m1 : M} {H1 : Hp} (r : Rel w cf L R m ρ σ H) (g : Grow L H L1 H1) (hr : ∀ a, H a ≠ none → a ∈ R' → a ∈ R) (S : StOk w L1 R' m1 H1) : Rel w cf L1 R' m1 ρ σ H1 :=
  ⟨S, r.len, fun i d h => by obtain ⟨v, h1, h2⟩ := r.sl i d h; exact ⟨v, h1, (h2.res hr).mono r.st g⟩, fun j c h => ⟨(r.cl j c h).1, (r.cl j c h).2.then r.st g hr⟩⟩
mutual
/-- a list kept apart has changed -/
theorem Rep.other {o : HO} (hD : B ∈ R) (hl : ∃ ys, H B = some (.lst ys)) : ∀ {v : V} {d : PM.D}, Rep w L R H v d → Rep w L R (upd H B o) v d
  | _, _, .non => .non
  | _, _, .bl b => .bl b
  | _, _, .int i => .int i
  | _, _, .str x => .str x
  | _, _, .ty n => .ty n
  | _, _, .fn h => .fn h
  | _, _, .ref h => .ref h
  | _, _, .tup h t => by
    refine .tup ?_ (RepL.other hD hl t)
    obtain ⟨ys, hl'⟩ := hl
    rcases h with (h | ⟨o, h⟩) | h
    · exact .inl (.inl (by rw [upd_ne (ne_of h hl' fun z => by cases z)]; exact h))
    · exact .inl (.inr ⟨o, by rw [upd_ne (ne_of h hl' fun z => by cases z)]; exact h⟩)
    · exact .inr h
  | _, _, .lst (a := a) h h1 h2 t => by
    have ne : a ≠ B := fun e => h2 (e ▸ hD)
    refine .lst ?_ h1 h2 (RepL.other hD hl t)
    rcases h with h | ⟨o, h⟩
    · exact .inl (by rw [upd_ne ne]; exact h)
    · exact .inr ⟨o, by rw [upd_ne ne]; exact h⟩
  | _, _, .klst q t => .klst q (RepL.other hD hl t)
theorem RepL.other {o : HO} (hD : B ∈ R) (hl : ∃ ys, H B = some (.lst ys)) : ∀ {vs : List V} {ds : List PM.D}, RepL w L R H vs ds → RepL w L R (upd H B o) vs ds
  | _, _, .nil => .nil
  | _, _, .cons r t => .cons (Rep.other hD hl r) (RepL.other hD hl t)
end
theorem StOk.other {xs : List V} (S : StOk w L R m H) (hD : B ∈ R) : StOk w L R m (upd H B (.lst xs)) := by
  have hl := S.rs B hD
  refine ⟨S.len, S.nd, fun l a c h1 h2 => ?_, fun a ha => ?_, S.rl, fun p hp => ?_⟩
  · have ne : a ≠ B := fun e => S.rl B hD (e ▸ List.mem_of_getElem? h1)
    have q := S.cells l a c h1 h2
    cases c with
    | lst zs =>
      obtain ⟨p, ys, h3, h4⟩ := q
      exact ⟨p, ys, by rw [upd_ne ne]; exact h3, h4.other hD hl⟩
    | dct _ => exact q.elim
  · by_cases e : a = B
    · subst e; exact ⟨xs, upd_same⟩
    · obtain ⟨ys, h⟩ := S.rs a ha
      exact ⟨ys, by rw [upd_ne e]; exact h⟩
  · obtain ⟨ys, ez⟩ := hl
    obtain ⟨ps, h1, h2, h3⟩ := S.tabs p hp
    refine ⟨ps, by rw [upd_ne (ne_of h1 ez (fun z => by cases z))]; exact h1, h2, fun pos cv hc => ?_⟩
    obtain ⟨c, e1, e2⟩ := h3 pos cv hc
    exact ⟨c, e1, by rw [upd_ne (ne_of e2 ez (fun z => by unfold LamX.CodeO at z; cases z))]; exact e2⟩
mutual
/-- an address kept apart is one no more: it is the store's, or free -/
theorem Rep.adopt {L2 R2 : List Addr} (hp : ∀ (l : Nat) (a : Addr), L[l]? = some a → L2[l]? = some a) (hn : ∀ a, a ∉ L → a ∉ R → a ∉ L2 ∧ a ∉ R2) : ∀ {v : V} {d : PM.D}, Rep w L R H v d → Rep w L2 R2 H v d
  | _, _, .non => .non
  | _, _, .bl b => .bl b
  | _, _, .int i => .int i
  | _, _, .str x => .str x
  | _, _, .ty n => .ty n
  | _, _, .fn h => .fn h
  | _, _, .ref h => .ref (hp _ _ h)
  | _, _, .tup h t => .tup h (RepL.adopt hp hn t)
  | _, _, .lst h h1 h2 t => .lst h (hn _ h1 h2).1 (hn _ h1 h2).2 (RepL.adopt hp hn t)
  | _, _, .klst q t => .klst q (RepL.adopt hp hn t)
theorem RepL.adopt {L2 R2 : List Addr} (hp : ∀ (l : Nat) (a : Addr), L[l]? = some a → L2[l]? = some a) (hn : ∀ a, a ∉ L → a ∉ R → a ∉ L2 ∧ a ∉ R2) : ∀ {vs : List V} {ds : List PM.D}, RepL w L R H vs ds → RepL w L2 R2 H vs ds
  | _, _, .nil => .nil
  | _, _, .cons r t => .cons (Rep.adopt hp hn r) (RepL.adopt hp hn t)
end
theorem StOk.free (S : StOk w L (B :: R) m H) : StOk w L R m H :=
  ⟨S.len, S.nd, fun l a c h1 h2 => by
    have q := S.cells l a c h1 h2
    cases c with
    | lst zs =>
      obtain ⟨p, ys, h3, h4⟩ := q
      exact ⟨p, ys, h3, h4.res fun a _ h => List.mem_cons_of_mem _ h⟩
    | dct _ => exact q.elim, fun a ha => S.rs a (List.mem_cons_of_mem _ ha), fun a ha => S.rl a (List.mem_cons_of_mem _ ha), S.tabs⟩
theorem StOk.adopt {xs : List V} {ds : List PM.D} (S : StOk w L (B :: R) m H) (hR : B ∉ R) (hD : H B = some (.lst xs)) (hp : pureL ds = true) (r : RepL w L (B :: R) H xs ds) : StOk w (L ++ [B]) R (m ++ [.lst ds]) H := by
  have k1 : ∀ (l : Nat) (a : Addr), L[l]? = some a → (L ++ [B])[l]? = some a := fun l a h => by
    rw [List.getElem?_append_left (List.getElem?_eq_some_iff.mp h).1]; exact h
  have k2 : ∀ a, a ∉ L → a ∉ B :: R → a ∉ L ++ [B] ∧ a ∉ R := fun a h1 h2 => by
    simp only [List.mem_cons, not_or] at h2
    refine ⟨fun z => ?_, h2.2⟩
    rcases List.mem_append.mp z with z | z
    · exact h1 z
    · exact h2.1 (List.mem_singleton.mp z)
  have nl := S.rl B (List.mem_cons_self ..)
  refine ⟨by simp [S.len], ?_, fun l a c h1 h2 => ?_, fun a ha => S.rs a (List.mem_cons_of_mem _ ha), fun a ha z => ?_, S.tabs⟩
  · rw [List.nodup_append]
    refine ⟨S.nd, by simp, fun a ha b hb e => ?_⟩
    simp only [List.mem_singleton] at hb
    subst hb e
    exact nl ha
  · by_cases hl : l < L.length
    · rw [List.getElem?_append_left hl] at h1
      rw [List.getElem?_append_left (by rw [← S.len]; exact hl)] at h2
      have q := S.cells l a c h1 h2
      cases c with
      | lst zs =>
        obtain ⟨pz, ys, h3, h4⟩ := q
        exact ⟨pz, ys, h3, h4.adopt k1 k2⟩
      | dct _ => exact q.elim
    · have e : l = L.length := by
        have := (List.getElem?_eq_some_iff.mp h1).1
        simp only [List.length_append, List.length_singleton] at this
        omega
      subst e
      rw [List.getElem?_append_right (Nat.le_refl _)] at h1
      rw [S.len, List.getElem?_append_right (Nat.le_refl _)] at h2
      simp only [Nat.sub_self, List.getElem?_cons_zero, Option.some.injEq] at h1 h2
      subst h1 h2
      exact ⟨hp, xs, hD, r.adopt k1 k2⟩
  · rcases List.mem_append.mp z with z | z
    · exact S.rl a (List.mem_cons_of_mem _ ha) z
    · rw [List.mem_singleton.mp z] at ha
      exact hR ha
theorem Grow.fresh {o : HO} (g : Grow L H L' H') (h : H B = none) : Grow L H L' (upd H' B o) :=
  ⟨g.pre, fun a o' h1 h2 h3 => by rw [upd_ne (ne_of_none h1 h)]; exact g.keep a o' h1 h2 h3⟩
theorem Grow.snoc (g : Grow L H L' H') (h : H B = none) : Grow L H (L' ++ [B]) H' := by
  obtain ⟨t, e, ht⟩ := g.pre
  refine ⟨⟨t ++ [B], by rw [e, List.append_assoc], fun a ha hn o ho => ?_⟩, g.keep⟩
  rcases List.mem_append.mp ha with z | z
  · exact ht a z hn o ho
  · rw [List.mem_singleton.mp z, h] at ho; cases ho
end
def condR (F : Fns) (cl : Option (Nat × Clo)) : Eo → Env → M → Res Bool
  | .no, _, m => .ok true m
  | .yes p, ρ, m => (ev F cl p ρ m).bind boolOf
theorem ev_comp {F : Fns} {cl : Option (Nat × Clo)} {c : Bool} {own : List (Str × Nat)} {t : Tg} {it : It} {p : Eo} {e : E} {ρ : Env} {m : M} : ev F cl (.comp c own t it p e) ρ m = (evi F cl it ρ m).bind fun ds m => if ds.length ≤ cap then
    (compL (fun d m => bt F cl t d (PM.wipe ρ (own.map (·.2))) m) (condR F cl p) (fun ρ m => ev F cl e ρ m) ds m).nox.bind fun ys m => (Raw.lst ys).out c m else .bad := by
  cases p <;> (simp only [ev]; rfl)
abbrev W0 : WX := fun _ _ _ _ => False
abbrev tC' (w : Wd) (cf : Cf) (p : Eo) : TT := tR w cf W0 PB (condR cf.F cf.cl p)
section
variable {w : Wd} {cf : Cf} {W : WX}
theorem lc_imp {c : Bool} {own : List (Str × Nat)} {t : Tg} {it : It} {p : Eo} {e : E} {σ : L2.St} {H : Hp} {Q : VK} (hv : ∀ i ∈ tgN t, i ∈ own.map (·.2)) (hc : ∀ j c, cf.cl = some (j, c) → j ∉ own.map (·.2)) (h : tE w cf W (.comp c own t it p e) σ H Q) :
    tLc (tI w cf W it) (tG w cf t) (tC' w cf p) (tE w cf W0 e) (own.map (·.2)) σ H Q := by
  obtain ⟨L, R, m, ρ, rel, hp⟩ := h
  rw [ev_comp] at hp
  refine tR_bind (P := ItP w) rel hp (fun _ _ _ q => q) fun J H1 L1 m1 ds g1 rel1 jt q1 => ?_
  intro D hD
  generalize own.map (·.2) = vs at *
  split at q1
  · rename_i hcap
    cases e0 : compL (fun d m => bt cf.F cf.cl t d (PM.wipe ρ vs) m) (condR cf.F cf.cl p) (fun ρ m => ev cf.F cf.cl e ρ m) ds m1 with
    | exc x m => rw [e0] at q1; exact q1.elim
    | bad => rw [e0] at q1; exact q1.elim
    | ok ys mF =>
      rw [e0] at q1
      replace q1 : Post w (Rep w) L1 R H1 ((Raw.lst ys).out c mF) Q fun c d H' => W c d σ H' := q1
      have DR : D ∉ R := fun z => by obtain ⟨xs, q⟩ := rel1.st.rs D z; rw [hD] at q; cases q
      have hrr : ∀ a, H1 a ≠ none → a ∈ D :: R → a ∈ R := fun a h z => by
        rcases List.mem_cons.mp z with z | z
        · subst z; exact absurd hD h
        · exact z
      let Iv : Nat → Hp → Prop := fun i H' => ∃ (L' : List Addr) (m' : M) (acc : List V) (zs rest : List PM.D), Grow L1 H1 L' H' ∧ StOk w L' (D :: R) m' H' ∧ H' D = some (.lst acc) ∧ RepL w L' (D :: R) H' acc zs ∧ zs.length ≤ i ∧
        compL (fun d m => bt cf.F cf.cl t d (PM.wipe ρ vs) m) (condR cf.F cf.cl p) (fun ρ m => ev cf.F cf.cl e ρ m) (ds.drop i) m' = .ok rest mF ∧ ys = zs ++ rest
      refine ⟨fun i n H' => n = ds.length - i ∧ i ≤ ds.length ∧ Iv i H', ⟨ds.length, by simp, Nat.zero_le _, L1, m1, [], [], ys, Grow.new hD, rel1.st.keepApart hD, upd_same, .nil, Nat.le_refl _, e0, rfl⟩, ?_⟩
      rintro i n H2 ⟨rfl, hi, La, m2, acc, zs, rest, g2, S2, hD2, r2, hz, e2, ey⟩
      obtain ⟨jd, js⟩ := jt La (D :: R) m2 H2 i g2.toR hrr S2
      by_cases hlt : i < ds.length
      · have hd : ds[i]? = some ds[i] := List.getElem?_eq_getElem hlt
        generalize ds[i] = d at hd
        obtain ⟨go, yl⟩ := jd d hd
        refine .inr ⟨go, Iv (i + 1), fun H' iv => ⟨ds.length - (i + 1), by omega, rfl, hlt, iv⟩, fun x H3 hy => ?_⟩
        obtain ⟨g3, S3, rx⟩ := yl x H3 hy
        have dl : ∀ {LL : List Addr} {mm : M} {HH : Hp}, StOk w LL (D :: R) mm HH → D ∉ LL := fun S => S.rl D (List.mem_cons_self ..)
        have hD3 : H3 D = some (.lst acc) := g3.keep _ _ hD2 (dl S2) fun _ z => by cases z
        rw [show ds.drop i = d :: ds.drop (i + 1) from by
          rw [List.drop_eq_getElem_cons hlt, show ds[i] = d from by rw [List.getElem?_eq_getElem hlt] at hd; exact Option.some.inj hd]] at e2
        unfold compL at e2
        obtain ⟨ρ1, m3, eb, e2⟩ := Res.bind_eq e2
        obtain ⟨b, m4, ec, e2⟩ := Res.bind_eq e2
        have relw : Rel w cf La (D :: R) m2 (PM.wipe ρ vs) (L2.wipe σ vs) H3 := (rel1.apart (g2.trans g3) hrr S3).wiped hc
        refine ⟨La, D :: R, m2, _, d, relw, rx, ?_⟩
        rw [show bt cf.F cf.cl t d (PM.wipe ρ vs) m2 = .ok ρ1 m3 from eb]
        intro L4 σ4 H4 g4 rel4 sb
        refine ⟨wipe_but hv sb, L4, D :: R, m3, ρ1, rel4, ?_⟩
        rw [ec]
        intro L5 b' H5 g5 S5 eb'
        obtain rfl : b' = b := eb'
        have hD4 : H4 D = some (.lst acc) := g4.keep _ _ hD3 (dl S3) fun _ z => by cases z
        have hD5 : H5 D = some (.lst acc) := g5.keep _ _ hD4 (dl rel4.st) fun _ z => by cases z
        have g15 : Grow L1 H1 L5 H5 := ((g2.trans g3).trans g4).trans g5
        have r5 : RepL w L5 (D :: R) H5 acc zs := ((r2.mono S2 g3).mono S3 g4).mono rel4.st g5
        cases b' with
        | false =>
          rw [if_neg (by decide)]
          exact ⟨L5, m4, acc, zs, rest, g15, S5, hD5, r5, by omega, by simpa using e2, ey⟩
        | true =>
          rw [if_pos rfl]
          rw [if_pos rfl] at e2
          obtain ⟨y, m5, ee, e2⟩ := Res.bind_eq e2
          obtain ⟨rs, m6, er, e2⟩ := Res.bind_eq e2
          cases e2
          refine ⟨L5, D :: R, m4, ρ1, rel4.later g5 S5, ?_⟩
          rw [ee]
          intro L6 v H6 g6 S6 rv
          have hD6 : H6 D = some (.lst acc) := g6.keep _ _ hD5 (dl S5) fun _ z => by cases z
          have ex6 : ∃ ys, H6 D = some (.lst ys) := ⟨_, hD6⟩
          have hlen : acc.length ≤ i := by rw [r5.length]; exact hz
          refine ⟨acc, hD6, by rw [sizeLine_eq]; exact Nat.lt_of_le_of_lt hlen (Nat.lt_of_lt_of_le hlt hcap), L6, m5, acc ++ [v], zs ++ [y], rs, (g15.trans g6).fresh hD, S6.other (List.mem_cons_self ..), upd_same, ((r5.mono S5 g6).append (.cons rv .nil)).other (List.mem_cons_self ..) ex6, by simp; exact hz, er, by rw [ey]; simp⟩
      · have ei : i = ds.length := by omega
        subst ei
        refine .inl ⟨js rfl, ?_⟩
        rw [List.drop_length] at e2
        unfold compL at e2
        cases e2
        rw [List.append_nil] at ey
        subst ey
        simp only [Raw.out] at q1
        split at q1
        · split at q1
          · split at q1
            · rename_i hpu
              refine q1 (La ++ [D]) _ H2 (g2.snoc hD) (S2.adopt DR hD2 hpu r2) (.ref ?_)
              rw [← S2.len]; simp
            · exact q1.elim
          · exact q1 La _ H2 g2 S2.free (.lst (.inl hD2) (S2.rl D (List.mem_cons_self ..)) DR (r2.res fun a _ h => List.mem_cons_of_mem _ h))
        · exact q1.elim
  · exact q1.elim
end
end PM

end

section
set_option maxHeartbeats 2000000
/-! PM, part Xe: displays with a star; max, min with default; a def's name as a value. -/
namespace PM
open PySem PySem.Spec PyProof.Rows L2
abbrev tEd (w : Wd) (cf : Cf) (W : WX) (ds : Eds) : TA := tR w cf W (RepL w) (evd cf.F cf.cl ds)
theorem RepL.app {w : Wd} {L R : List Addr} {H : Hp} : ∀ {xs ys : List V} {ds es : List PM.D}, RepL w L R H xs ds → RepL w L R H ys es → RepL w L R H (xs ++ ys) (ds ++ es)
  | _, _, _, _, .nil, r => r
  | _, _, _, _, .cons a t, r => .cons a (RepL.app t r)
section
variable {X : Cx} {w : Wd} {ck : Ck} {cf : Cf} {W : WX} {p : Pl} (C : Cok X w ck cf W p)
include C
omit C in
theorem d_nil : PA X [] (tEd w cf W .nil) := pa_nil.imp fun σ H Q ⟨L, R, m, ρ, rel, hp⟩ => by
  unfold evd at hp
  exact hp L [] H (Grow.refl _ _) rel.st .nil
omit C in
theorem d_cons {e : E} {r : Eds} {e' : Expr} {r' : List Expr} (he : PE X e' (tE w cf W e)) (hr : PA X r' (tEd w cf W r)) (hs : starEach (e' :: r') X.env = (false, eval e' X.env) :: starEach r' X.env) : PA X (e' :: r') (tEd w cf W (.cons e r)) := by
  refine (pa_cons he hr hs).imp fun σ H Q ⟨L, R, m, ρ, rel, hp⟩ => ?_
  unfold evd at hp
  show tE w cf W e σ H _
  refine tR_bind (P := Rep w) rel hp (fun _ _ _ q => q) fun x H1 L1 m1 dx g1 rel1 r1 q1 => ?_
  refine tR_bind (P := RepL w) rel1 q1 (fun _ _ _ q => q) fun xs H2 L2 m2 ds g2 rel2 r2 q2 => ?_
  exact q2 L2 _ H2 (Grow.refl _ _) rel2.st (.cons (r1.mono rel1.st g2) r2)
theorem d_star {e : E} {r : Eds} {e' : Expr} {r' : List Expr} {q : Pos} (he : PE X e' (tE w cf W e)) (hr : PA X r' (tEd w cf W r)) : PA X (.Starred e' q :: r') (tEd w cf W (.star e r)) := by
  refine (StX.pa_star he hr).imp fun σ H Q ⟨L, R, m, ρ, rel, hp⟩ => ?_
  unfold evd at hp
  show tE w cf W e σ H _
  refine tR_bind (P := Rep w) rel hp (fun _ _ _ q => q) fun x H1 L1 m1 dx g1 rel1 r1 q1 => ?_
  obtain ⟨ds, e1, q1⟩ := q1.opt
  obtain ⟨a, xs, rfl, hx, t1⟩ := seqOf_inv rel1.st r1 e1
  refine ⟨a, xs, rfl, by rw [C.K]; exact hx.symm, ?_⟩
  refine tR_bind (P := RepL w) rel1 q1 (fun _ _ _ q => q) fun ys H2 L2 m2 es g2 rel2 r2 q2 => ?_
  exact q2 L2 _ H2 (Grow.refl _ _) rel2.st ((RepL.mono rel1.st g2 t1).app r2)
theorem c_dspT {ds : Eds} {c : Bool} {es' : List Expr} {j : Nat} {pos : Pos} (h : PA X es' (tEd w cf W ds)) : PE X (.Tuple es' j pos) (tE w cf W (.dsp true c ds)) := by
  refine (pe_tup h).imp fun σ H Q ⟨L, R, m, ρ, rel, hp⟩ => ?_
  unfold ev at hp
  exact tR_bind (P := RepL w) rel hp (fun _ _ _ q => q) fun xs H1 L1 m1 ds g1 rel1 r1 q1 => Post.tup (c := false) q1 rel1.st r1
theorem c_dspL {ds : Eds} {c : Bool} {es' : List Expr} {pos : Pos} (h : PA X es' (tEd w cf W ds)) : PE X (.List es' pos) (tE w cf W (.dsp false c ds)) := by
  refine (pe_lst h).imp fun σ H Q ⟨L, R, m, ρ, rel, hp⟩ => ?_
  unfold ev at hp
  exact tR_bind (P := RepL w) rel hp (fun _ _ _ q => q) fun xs H1 L1 m1 ds g1 rel1 r1 q1 => q1.lst rel1.st r1
end
/-! ### max(xs, default=y) -/
theorem holds_int {h : Heap} {i : Int} {v : Value} (r : RelV (.int i) v) : PySem.W.Holds h v i := by
  obtain ⟨t, rfl⟩ := r
  exact ⟨_, .int i t⟩
theorem holdAll_ints {h : Heap} : ∀ {ns : List Int} {vs : List Value}, Vals (ns.map V.int) vs → PySem.W.HoldAll h vs ns
  | [], _, r => by cases r; exact ⟨_, .nil⟩
  | n :: ns, _, r => by
    cases r with
    | cons a t =>
      obtain ⟨as, e1⟩ := holds_int (h := h) a
      obtain ⟨bs, e2⟩ := holdAll_ints (h := h) t
      exact ⟨_, .cons e1 e2⟩
theorem holds_int_inv {h : Heap} {i : Int} {v : Value} (r : PySem.W.Holds h v i) : RelV (.int i) v := by
  obtain ⟨as, r⟩ := r
  have r : PySem.Reads h v (.int i) as := r
  cases r with
  | int _ t => exact ⟨t, rfl⟩
theorem max_mmI (i : Int) (is : List Int) : PySem.W.maxOf i is = mmI true i is := by
  unfold PySem.W.maxOf mmI
  congr 1
  funext a y
  show (if (decide (a < y)) = true then y else a) = _
  simp
theorem min_mmI (i : Int) (is : List Int) : PySem.W.minOf i is = mmI false i is := by
  unfold PySem.W.minOf mmI
  congr 1
  funext a y
  show (if (decide (y < a)) = true then y else a) = _
  simp
/-! ### lots in sets -/
theorem lots_some : ∀ {ds : List PM.D} {ls : List (List Int)}, lots? ds = some ls → ds = ls.map lotD
  | [], ls, h => by simp [lots?] at h; subst h; rfl
  | d :: ds, ls, h => by
    unfold lots? at h
    cases d with
    | tup xs =>
      cases e1 : asInts xs with
      | none => simp [lot?, e1] at h
      | some k =>
        cases e2 : lots? ds with
        | none => simp [e2] at h
        | some ks =>
          simp only [lot?, e1, e2, Option.some.injEq] at h
          subst h
          rw [lots_some e2, asInts_some e1]
          rfl
    | _ => simp [lot?] at h
theorem dedup_mem {x : List Int} : ∀ {ls : List (List Int)}, x ∈ dedup ls ↔ x ∈ ls
  | [] => by simp [dedup]
  | y :: ls => by
    unfold dedup
    split
    · rename_i h
      rw [dedup_mem]
      constructor
      · exact fun z => List.mem_cons_of_mem _ z
      · intro z
        rcases List.mem_cons.mp z with e | z
        · subst e; exact h
        · exact z
    · rw [List.mem_cons, List.mem_cons, dedup_mem]
theorem dedup_nodup : ∀ ls : List (List Int), (dedup ls).Nodup
  | [] => by simp [dedup]
  | y :: ls => by
    unfold dedup
    split
    · exact dedup_nodup ls
    · rename_i h
      exact List.nodup_cons.mpr ⟨fun z => h (dedup_mem.mp z), dedup_nodup ls⟩
/-- rows of lots and their addresses -/
theorem rows_of {w : Wd} {L R : List Addr} {H : Hp} : ∀ {ys : List V} {ls : List (List Int)}, RepL w L R H ys (ls.map lotD) → ∃ ks : List (Addr × List Int), ys = (ks.map fun p => V.ref p.1) ∧ ks.map (·.2) = ls ∧ ∀ p ∈ ks, SqT w.K H p.1 (p.2.map V.int)
  | _, [], r => by cases r; exact ⟨[], rfl, rfl, fun p hp => by cases hp⟩
  | _, l :: ls, r => by
    have r' : RepL w L R H _ (lotD l :: ls.map lotD) := r
    cases r' with
    | cons q qs =>
      obtain ⟨ks, h1, h2, h3⟩ := rows_of qs
      obtain ⟨a, xs, rfl, sq, ti⟩ := Rep.tup_inv q
      refine ⟨(a, l) :: ks, by rw [h1]; rfl, by rw [List.map_cons, h2], fun p hp => ?_⟩
      rcases List.mem_cons.mp hp with e | hp
      · subst e; rw [← ti.ints]; exact sq
      · exact h3 p hp
/-- len(a set of lots) -/
def rLenSet (K : PySem.W.Frag) (P : Program) (w0 : World) : List V → Hp → VK → Prop := fun vs H Q => ∃ (a : Addr) (L : List (Addr × List Int)), vs = [V.ref a] ∧ H a = some (SetTO P w0 a L) ∧ (∀ p ∈ L, SqT K H p.1 (p.2.map V.int)) ∧ ((L.map (·.2)).Nodup → Q (.int (L.length : Int)) H)
theorem call_lenSet {X : Cx} : CallR X (.builtin "len") (rLenSet X.K X.prog X.w) := by
  intro pins s σ H vs us Q I r h
  obtain ⟨a, L, rfl, ha, hk, q⟩ := h
  have R0 : SetT0 X.prog X.w s.heap a L := (I.hok a _ ha).1
  obtain ⟨es, ep, t, R⟩ := R0.full fun p hp => I.isT (hk p hp)
  rw [Vals.ref1 r]
  obtain ⟨o, ho, hex, hd⟩ := R.ob
  have hsz := R.size
  have hfew := R.few
  exact call_len_set ho hex hd R.fits (by rw [hsz]; omega) ⟨.int (L.length : Int), H, I.tok _, ⟨_, by rw [hsz]⟩, q R.nd⟩
section
variable {X : Cx} {w : Wd} {ck : Ck} {cf : Cf} {W : WX} {p : Pl} (C : Cok X w ck cf W p)
include C
omit C in
theorem dedZ_met (ns : List Int) : (firstMet (fun i => ns.getD i 0) ns.length) = dedZ ns := by
  have e : (List.range ns.length).map (fun i => ns.getD i 0) = ns := by
    apply List.ext_getElem
    · simp
    · intro i h1 h2
      simp [List.getD, h2]
  unfold firstMet dedZ
  rw [e]
  congr 1
  funext a x
  unfold step_dedup
  simp
/-- len(set(xs)), xs ints or lots -/
theorem c_lset {e : E} {e' : Expr} {p1 p2 p3 p4 : Pos} (h1 : glB p.sc ("len" : Str) = true) (h2 : glB p.sc ("set" : Str) = true) (m1 : X.mg "len" = none) (m2 : X.mg "set" = none) (he : PE X e' (tE w cf W e)) (hst : starEach [e'] X.env = (false, eval e' X.env) :: starEach [] X.env) :
    PE X (.Call (.Name "len" p1) [.Call (.Name "set" p2) [e'] [] p3] [] p4) (tE w cf W (.lset e)) := by
  obtain ⟨g1, _⟩ := gl_of C h1
  obtain ⟨g2, _⟩ := gl_of C h2
  have hu := C.u
  have key : PE X (.Call (.Name "len" p1) [.Call (.Name "set" p2) [e'] [] p3] [] p4) (fun σ H Q => tE w cf W e σ H fun x H1 => (∃ (l : Addr) (ns : List Int), x = V.ref l ∧ SqL X.K H1 l (ns.map V.int) ∧ ns.length < 64 ∧ Q (.int (dedZ ns).length) H1) ∨
      rSetOfT X.K X.prog X.w [x] H1 fun x H1 => rLenSet X.K X.prog X.w [x] H1 Q) := by
    refine ⟨fun pins s σ H Q I h => ?_⟩
    refine Call_ (ld_blt I g1 m1 PySem.boot_len (PyProof.Rows.callWith_builtin1 (PyProof.Rows.args_cons (Call_ (ld_blt I g2 m2 PyProof.Rows.boot_set (PyProof.Rows.callWith_type1 (PyProof.Rows.args_cons (thn (he.run pins s σ H _ I h) fun v s1 ⟨x, H1, I1, r1, hcase⟩ => PyProof.Rows.args_nil ?_) hst) hst rfl))) rfl) rfl rfl))
    rcases hcase with ⟨l, ns, ex, hq, hf, q1⟩ | hcase
    · subst ex
      obtain rfl : v = Value.ref l := r1
      obtain ⟨its, r, pl, hz⟩ := I1.list hq
      have hl : its.toArray.size = ns.length := by rw [List.size_toArray, ← r.length, List.length_map]
      refine call_set_list (I1.ok.hd C.calm) pl.isList (ns := ns) (by simpa using r.ints) (by unfold scanBound; omega) fun h' tk hS hk => ?_
      rw [hl, dedZ_met] at hS
      refine PyProof.Rows.args_nil ?_
      obtain ⟨o, es, ep, t, ho, hex, hd, _, _, _, hf', hn⟩ := hS
      have I2 : Inv X pins σ H1 { s1 with heap := h', toks := tk } := I1.kept fun b o e => hk b o (Heap.lt_size e) e
      have hle : (dedZ ns).length ≤ ns.length := by rw [← dedZ_met]; exact firstMet_length_le _ _
      exact call_len_set ho hex hd hf' (by rw [hn] <;> omega) ⟨.int (dedZ ns).length, H1, I2.tok _, ⟨_, by rw [hn]⟩, q1⟩
    · refine thn (cr_setOfT C.calm (by omega) pins s1 σ H1 [x] [v] _ I1 (.cons r1 .nil) hcase) fun u s2 ⟨y, H2, I2, r2, q2⟩ => PyProof.Rows.args_nil ?_
      exact call_lenSet pins s2 σ H2 [y] [u] Q I2 (.cons r2 .nil) q2
  refine key.imp fun σ H Q ⟨L, R, m, ρ, rel, hp⟩ => ?_
  unfold ev at hp
  show tE w cf W e σ H _
  refine tR_bind (P := Rep w) rel hp (fun _ _ _ q => q) fun x H1 L1 m1 d g1 rel1 r1 q1 => ?_
  cases e0 : items d m1 with
  | none => rw [e0] at q1; exact q1.elim
  | some zs =>
    rw [e0] at q1
    simp only [Option.bind_some] at q1
    cases e2 : asInts zs with
    | none =>
      rw [e2] at q1
      simp only at q1
      cases e3 : lots? zs with
      | none => rw [e3] at q1; exact q1.elim
      | some ls =>
        rw [e3] at q1
        simp only at q1
        split at q1
        · rename_i hlt
          obtain ⟨l, ys, rfl, s1, t1⟩ := items_inv rel1.st r1 e0
          rw [lots_some e3] at t1
          obtain ⟨ks, rfl, hk, hsq⟩ := rows_of t1
          have klen : ks.length = ls.length := by rw [← hk, List.length_map]
          refine .inr ⟨l, ks, rfl, by rw [C.K]; exact s1, fun p hp => by rw [C.K]; exact hsq p hp, by rw [klen]; exact hlt, fun a Ls hn hsub hall => ?_⟩
          have gN : Grow L1 H1 L1 (upd H1 a (SetTO X.prog X.w a Ls)) := Grow.new hn
          have S2 := rel1.st.new (o := SetTO X.prog X.w a Ls) hn
          refine ⟨a, Ls, rfl, upd_same, fun p hp => by rw [C.K]; exact sqT_grow rel1.st (hsq p (hsub p hp)) gN.toR, fun nd => ?_⟩
          have e4 : Ls.length = (dedup ls).length := by
            rw [← List.length_map (f := (·.2))]
            refine ((List.perm_ext_iff_of_nodup nd (dedup_nodup ls)).mpr fun z => ?_).length_eq
            rw [dedup_mem]
            constructor
            · intro hz
              obtain ⟨q, hq, rfl⟩ := List.mem_map.mp hz
              rw [← hk]
              exact List.mem_map.mpr ⟨q, hsub q hq, rfl⟩
            · intro hz
              rw [← hk] at hz
              obtain ⟨q, hq, rfl⟩ := List.mem_map.mp hz
              exact hall q hq
          rw [e4]
          exact q1 L1 _ _ gN S2 (.int _)
        · exact q1.elim
    | some ns =>
      rw [e2] at q1
      simp only at q1
      split at q1
      · rename_i hlt
        obtain ⟨a, ys, rfl, h1, t1⟩ := items_inv rel1.st r1 e0
        rw [asInts_some e2] at t1
        rw [t1.ints] at h1
        exact .inl ⟨a, ns, rfl, by rw [C.K]; exact h1, hlt, q1 L1 _ H1 (Grow.refl _ _) rel1.st (.int _)⟩
      · exact q1.elim
/-- [..] * k -/
theorem c_rep {es : Es} {k : E} {es' : List Expr} {k' : Expr} {p1 pos : Pos} (hs : PA X es' (tEs w cf W es)) (hk : PE X k' (tE w cf W k)) : PE X (.BinOp (.List es' p1) .Mult k' pos) (tE w cf W (.rep es k)) := by
  refine (pe_op op_rep (pe_lst hs) hk).imp fun σ H Q ⟨L, R, m, ρ, rel, hp⟩ => ?_
  unfold ev at hp
  refine tR_bind (P := RepL w) rel hp (fun _ _ _ q => q) fun xs H1 L1 m1 ds g1 rel1 r1 q1 => ?_
  split at q1
  · rename_i hle
    refine ⟨by rw [r1.length, sizeLine_eq]; exact hle, fun a ha => ?_⟩
    have gN : Grow L1 H1 L1 (upd H1 a (.lst xs)) := Grow.new ha
    have rel2 := rel1.later gN (rel1.st.new ha)
    refine tR_bind (P := Rep w) rel2 (q1.later gN) (fun _ _ _ q => q) fun y H2 L2 m2 d g2 rel3 r2 q2 => ?_
    cases d with
    | int j =>
      simp only at q2
      split at q2
      · rename_i hj
        cases r2
        have hl : H2 a = some (.lst xs) := g2.keep a _ upd_same (fun z => by obtain ⟨ys, e⟩ := rel1.st.at z; rw [ha] at e; cases e) (fun _ z => by cases z)
        have t2 := RepL.mono rel2.st g2 (RepL.mono rel1.st gN r1)
        have hlen := t2.length
        refine ⟨a, j, xs, rfl, rfl, hl, by omega, by omega, by rw [hlen, sizeLine_eq]; exact hj.2.2, ?_⟩
        have rr : RepL w L2 R H2 (List.replicate j.toNat xs).flatten (List.replicate j.toNat ds).flatten := by
          generalize j.toNat = n
          induction n with
          | zero => exact .nil
          | succ n ih => rw [List.replicate_succ, List.replicate_succ, List.flatten_cons, List.flatten_cons]; exact t2.append ih
        exact (Post.lst q2 rel3.st rr).2
      · exact q2.elim
    | _ => exact q2.elim
  · exact q1.elim
/-- xs.count(x) -/
def rCnt (w : Wd) : V → List V → Hp → VK → Prop := fun x vs H Q => ∃ (y : V) (L R : List Addr) (m : M) (a b : PM.D) (i : Int), vs = [y] ∧ StOk w L R m H ∧ Rep w L R H x a ∧ Rep w L R H y b ∧ cntD a b m = some i ∧ Q (.int i) H
omit C in
theorem countP_py (e : PM.D) (pe : e.pure = true) : ∀ (ds : List PM.D), pureL ds = true → ((pyL ds).countP fun z => PyData.eqv z e.py) = ds.countP fun z => z.eqv e
  | [], _ => rfl
  | d :: ds, h => by
    simp only [pureL_cons, Bool.and_eq_true] at h
    unfold pyL
    rw [List.countP_cons, List.countP_cons, eqv_py d e h.1 pe, countP_py e pe ds h.2]
omit C in
theorem mt_cnt (hK : X.K = w.K) (hu : X.A.units + 100 < cLine) : MtR X "list.count" (rCnt w) := by
  intro pins s σ H x vs v us Q I rx rv h
  obtain ⟨y, L, R, m, a, b, i, rfl, S, ra, rb, hc, q⟩ := h
  obtain ⟨u, rfl, ru⟩ := rv.one
  unfold cntD at hc
  cases e : items a m with
  | none => rw [e] at hc; cases hc
  | some ds =>
    rw [e] at hc
    simp only [Option.bind_some] at hc
    split at hc
    · rename_i h8
      simp only [Bool.and_eq_true] at h8
      obtain ⟨l, ys, rfl, h1, t1⟩ := items_inv S ra e
      cases rx
      rw [← hK] at h1
      obtain ⟨its, rl, pl, _⟩ := I.list h1
      have d1 := RepL.dp (all8 h8.1) t1
      have d2 := Rep.dp (ok8_pure h8.2) rb
      rw [← hK] at d1 d2
      obtain ⟨as, r1⟩ := Dp.readsAll I _ _ _ d1 rl
      obtain ⟨bs, r2⟩ := Dp.reads I _ _ _ d2 ru
      have q8 : okd 9 (.lst ds) = true := by simpa [okd, ok8] using h8.1
      obtain ⟨_, h5, h6⟩ := okd_spec _ _ q8
      obtain ⟨_, h7, h9⟩ := okd_spec _ _ h8.2
      unfold D.py at h5 h6
      have hd : PyData.plainAll (pyL ds) = true := by
        have := PyData.plain_of_canLay0 _ h5
        simpa [PyData.plain] using this
      refine SeqAt.count_list_data pl.isList (by simpa using r1) r2 hd (PyData.plain_of_canLay0 _ h7) (by omega) ?_
      rw [countP_py b (ok8_pure h8.2) ds (all8 h8.1)]
      have := Option.some.inj hc
      exact ⟨.int i, H, I.tok _, ⟨_, by rw [← this]⟩, q⟩
    · cases hc
theorem c_cnt {o e : E} {o' e' : Expr} {apos cpos : Pos} (ho : PE X o' (tE w cf W o)) (he : PA X [e'] (tEs w cf W (.cons e .nil))) (hbase : attributeBase o' ("count" : Str) X.env (eval o' X.env) = eval o' X.env)
    (hfew : ((backTo cpos (starEach [e'] X.env)).all (fun x => !x.1) && (backToKw cpos (keywordEach [] X.env)).all (fun x => x.1.isSome) && decide ([e'].length + ([] : List Keyword).length + (if ([] : List Keyword).isEmpty then 0 else 1) < 30)) = true)
    (hline : (apos.endLine == cpos.line) = true) (hs : starEach [e'] X.env = (false, eval e' X.env) :: starEach [] X.env) (hplain : (backTo cpos (starEach [] X.env)).any (·.1) = false) :
    PE X (.Call (.Attribute o' ("count" : Str) apos) [e'] [] cpos) (tE w cf W (.cnt o e)) := by
  refine (pe_bm PySem.F.plainAttrs_list PySem.F.slot_list_count PySem.F.type_list_count (mt_cnt C.K C.u) ho he hbase hfew hline hs hplain).imp fun σ H Q ⟨L, R, m, ρ, rel, hp⟩ => ?_
  unfold ev at hp
  refine tR_bind (P := Rep w) rel hp (fun _ _ _ q => q) fun x H1 L1 m1 d g1 rel1 r1 q1 => ?_
  have one : evs cf.F cf.cl (.cons e .nil) ρ m1 = (ev cf.F cf.cl e ρ m1).bind fun d m => .ok [d] m := evs_one
  cases e0 : items d m1 with
  | none => rw [e0] at q1; exact q1.elim
  | some zs =>
    rw [e0] at q1
    simp only at q1
    obtain ⟨l, ys, rfl, s1, t1⟩ := items_inv rel1.st r1 e0
    refine ⟨.inl ⟨rfl, ys, by rw [C.K]; exact s1⟩, ?_⟩
    show tEs w cf W (.cons e .nil) σ H1 _
    refine ⟨L1, R, m1, ρ, rel1, ?_⟩
    rw [one]
    cases e1 : ev cf.F cf.cl e ρ m1 with
    | bad => rw [e1] at q1; exact q1.elim
    | exc x m2 => rw [e1] at q1; exact q1
    | ok y m2 =>
      rw [e1] at q1
      intro L2 vs H2 g2 S2 r2
      obtain ⟨v, rfl, rv⟩ := r2.one
      simp only [Res.bind_ok] at q1
      obtain ⟨i, e3, q2⟩ := Post.opt q1
      exact ⟨v, L2, R, m2, d, y, i, rfl, S2, r1.mono rel1.st g2, rv, e3, q2 L2 _ H2 g2 S2 (.int _)⟩
/-! ### a def's name as a value; the call of one -/
theorem c_f {x : Str} {pos : Pos} (hg : glB p.sc x = true) (hsh : (x, []) ∈ ck.shapes) : PE X (.Name x pos) (tE w cf W (.f x)) := by
  obtain ⟨g1, g2⟩ := gl_of C hg
  obtain ⟨ps, eps⟩ := C.shp x [] hsh
  obtain ⟨a, fd, hm, hk, hF, hb, hG⟩ := C.fok x ps eps
  refine (pe_glob (v := .ref a) g1 hm rfl g2).imp fun σ H Q ⟨L, R, m, ρ, rel, hp⟩ => ?_
  unfold ev at hp
  exact Post.out hp rel.st (.fn hG)
theorem c_callV {i : Nat} {es : Es} {y : Str} {e' : Expr} {r' : List Expr} {pp pos : Pos} (h1 : p.nm i y = true) (h2 : visB p.sc y = true) (ha : PA X (e' :: r') (tEs w cf W es))
    (he : starEach (e' :: r') X.env = (false, eval e' X.env) :: starEach r' X.env) (hpl : (backTo pos (starEach r' X.env)).any (·.1) = false) : PE X (.Call (.Name y pp) (e' :: r') [] pos) (tE w cf W (.callV i es)) := by
  obtain ⟨a1, a2, a3, _⟩ := nm_of C h1
  refine ⟨fun pins s σ H Q I ⟨L, R, m, ρ, rel, hp⟩ => ?_⟩
  unfold ev at hp
  split at hp
  · rename_i x hx
    split at hp
    · rename_i hs
      obtain ⟨ps, eps⟩ := Option.isSome_iff_exists.mp hs
      obtain ⟨a, fd, hm, hk, hF, hb, hG⟩ := C.fok x ps eps
      unfold get at hx
      have ex : ρ[i]? = some (some (.fn x)) := by
        cases q : ρ[i]? with
        | none => rw [q] at hx; cases hx
        | some o => rw [q] at hx; simp at hx; rw [hx]
      obtain ⟨v, h3, h4⟩ := rel.sl i _ ex
      cases h4 with
      | fn hG' =>
        rw [hG] at hG'
        cases hG'
        refine wpAny_Call_Name_kw (thn ((pe_var (pos := pp) (i := i) a1 (vis_of C h2) a2 a3).run pins s σ H (fun v H1 => v = .ref a ∧ H1 = H) I ⟨.ref a, h3, rfl, rfl⟩) fun u s1 ⟨v, H1, I1, r1, q1⟩ => ?_)
        obtain ⟨e1, e2⟩ := q1
        subst e1
        rw [e2] at I1
        obtain rfl : u = Value.ref a := r1
        refine PySem.W.callWith_K (h₀ := X.base) I.ok.mod.kin hk (thn (ha.run pos pins s1 σ H _ I1 (tR_bind (P := RepL w) rel hp (fun _ _ _ q => q)
          (Q1 := fun vs H1 => ∃ L1 m1 ds, StOk w L1 R m1 H1 ∧ RepL w L1 R H1 vs ds ∧ Post w (Rep w) L1 R H1 (cf.F.call x ds m1) Q fun c d H' => W c d σ H') fun vs H1 L1 m1 ds g1 rel1 r1 q1 => ⟨L1, m1, ds, rel1.st, r1, q1⟩)) fun us s1 ⟨vs, H1, I1, r, L1, m1, ds, S1, r1, q1⟩ => ⟨I1.kIn, ?_⟩) he hpl
        have hlen : ds.length = ps.length := Classical.byContradiction fun z => by
          rw [C.fno x ds m1 (fun ps' e => by rw [eps] at e; cases e; exact z)] at q1
          exact q1.elim
        exact run_d C eps hF (ks := []) (hb [] (.inl rfl)) (ws := []) (zs := []) (es := []) I1 r .nil rfl S1 r1 .nil (bindP_pos' hlen) q1
    · exact hp.elim
  · exact hp.elim
end
/-! ### two clauses -/
def innR (F : Fns) (cl : Option (Nat × Clo)) (t1 : Tg) (it1 : PM.It) (p1 : Eo) (e : E) (ρ : Env) (m : M) : Res (List PM.D) := (evi F cl it1 ρ m).bind fun es m => if es.length ≤ cap then
  compL (fun d m => bt F cl t1 d (PM.wipe ρ (tgN t1)) m) (condR F cl p1) (fun ρ m => ev F cl e ρ m) es m else .bad
theorem ev_comp2 {F : Fns} {cl : Option (Nat × Clo)} {c : Bool} {own : List (Str × Nat)} {t t1 : Tg} {it it1 : PM.It} {p p1 : Eo} {e : E} {ρ : Env} {m : M} : ev F cl (.comp2 c own t it p t1 it1 p1 e) ρ m = (evi F cl it ρ m).bind fun ds m => if ds.length ≤ cap then
    (compF (fun d m => bt F cl t d (PM.wipe ρ (own.map (·.2))) m) (condR F cl p) (innR F cl t1 it1 p1 e) ds m).nox.bind fun ys m => (Raw.lst ys).out c m else .bad := by
  cases p <;> cases p1 <;> (simp only [ev]; rfl)
theorem _root_.PM.Rel.laterR {w : Wd} {cf : Cf} {L R L1 : List Addr} {m m1 : M} {ρ : Env} {σ : L2.St} {H H1 : Hp} (r : Rel w cf L R m ρ σ H) (g : GrowR L R H L1 H1) (S : StOk w L1 R m1 H1) : Rel w cf L1 R m1 ρ σ H1 :=
  ⟨S, r.len, fun i d h => by obtain ⟨v, h1, h2⟩ := r.sl i d h; exact ⟨v, h1, h2.thenR r.st g fun _ _ z => z⟩, fun j c h => by
    obtain ⟨h1, h2⟩ := r.cl j c h
    exact ⟨h1, h2.len, fun i d h => by obtain ⟨v, h3, h4⟩ := h2.sl i d h; exact ⟨v, h3, h4.thenR r.st g fun _ _ z => z⟩, g.keep _ _ h2.code (r.st.notin h2.code fun _ z => by unfold LamX.CodeO at z; cases z) (r.st.notR h2.code fun _ z => by unfold LamX.CodeO at z; cases z) fun _ z => by unfold LamX.CodeO at z; cases z⟩⟩
section
variable {w : Wd} {cf : Cf} {W : WX}
theorem lc2_imp {c : Bool} {own : List (Str × Nat)} {t t1 : Tg} {it it1 : PM.It} {p p1 : Eo} {e : E} {σ : L2.St} {H : Hp} {Q : VK} (hv : ∀ i ∈ tgN t, i ∈ own.map (·.2)) (hv1 : ∀ i ∈ tgN t1, i ∈ own.map (·.2)) (hc : ∀ j c, cf.cl = some (j, c) → j ∉ own.map (·.2)) (h : tE w cf W (.comp2 c own t it p t1 it1 p1 e) σ H Q) :
    tLc2 (tI w cf W it) (tG w cf t) (tC' w cf p) (tI w cf W0 it1) (tG w cf t1) (tC' w cf p1) (tE w cf W0 e) (own.map (·.2)) (tgN t1) σ H Q := by
  obtain ⟨L, R, m, ρ, rel, hp⟩ := h
  rw [ev_comp2] at hp
  refine tR_bind (P := ItP w) rel hp (fun _ _ _ q => q) fun J H1 L1 m1 ds g1 rel1 jt q1 => ?_
  intro D hD
  have hc1 : ∀ j c, cf.cl = some (j, c) → j ∉ tgN t1 := fun j c e z => hc j c e (hv1 j z)
  generalize own.map (·.2) = vs at *
  split at q1
  · rename_i hcap
    cases e0 : compF (fun d m => bt cf.F cf.cl t d (PM.wipe ρ vs) m) (condR cf.F cf.cl p) (innR cf.F cf.cl t1 it1 p1 e) ds m1 with
    | exc x m => rw [e0] at q1; exact q1.elim
    | bad => rw [e0] at q1; exact q1.elim
    | ok ys mF =>
      rw [e0] at q1
      replace q1 : Post w (Rep w) L1 R H1 ((Raw.lst ys).out c mF) Q fun c d H' => W c d σ H' := q1
      have ycap : ys.length ≤ cap := Classical.byContradiction fun z => by
        simp only [Raw.out] at q1
        rw [if_neg z] at q1
        exact q1.elim
      have DR : D ∉ R := fun z => by obtain ⟨xs, q⟩ := rel1.st.rs D z; rw [hD] at q; cases q
      have hrr : ∀ a, H1 a ≠ none → a ∈ D :: R → a ∈ R := fun a h z => by
        rcases List.mem_cons.mp z with z | z
        · subst z; exact absurd hD h
        · exact z
      let Iv : Nat → Hp → Prop := fun i H' => ∃ (L' : List Addr) (m' : M) (acc : List V) (zs rest : List PM.D), Grow L1 H1 L' H' ∧ StOk w L' (D :: R) m' H' ∧ H' D = some (.lst acc) ∧ RepL w L' (D :: R) H' acc zs ∧
        compF (fun d m => bt cf.F cf.cl t d (PM.wipe ρ vs) m) (condR cf.F cf.cl p) (innR cf.F cf.cl t1 it1 p1 e) (ds.drop i) m' = .ok rest mF ∧ ys = zs ++ rest
      have dl : ∀ {LL : List Addr} {mm : M} {HH : Hp}, StOk w LL (D :: R) mm HH → D ∉ LL := fun S => S.rl D (List.mem_cons_self ..)
      refine ⟨fun i n H' => n = ds.length - i ∧ i ≤ ds.length ∧ Iv i H', ⟨ds.length, by simp, Nat.zero_le _, L1, m1, [], [], ys, Grow.new hD, rel1.st.keepApart hD, upd_same, .nil, e0, rfl⟩, ?_⟩
      rintro i n H2 ⟨rfl, hi, La, m2, acc, zs, rest, g2, S2, hD2, r2, e2, ey⟩
      obtain ⟨jd, js⟩ := jt La (D :: R) m2 H2 i g2.toR hrr S2
      by_cases hlt : i < ds.length
      · have hd : ds[i]? = some ds[i] := List.getElem?_eq_getElem hlt
        generalize ds[i] = d at hd
        obtain ⟨go, yl⟩ := jd d hd
        refine .inr ⟨go, Iv (i + 1), fun H' iv => ⟨ds.length - (i + 1), by omega, rfl, hlt, iv⟩, fun x H3 hy => ?_⟩
        obtain ⟨g3, S3, rx⟩ := yl x H3 hy
        have hD3 : H3 D = some (.lst acc) := g3.keep _ _ hD2 (dl S2) fun _ z => by cases z
        rw [show ds.drop i = d :: ds.drop (i + 1) from by
          rw [List.drop_eq_getElem_cons hlt, show ds[i] = d from by rw [List.getElem?_eq_getElem hlt] at hd; exact Option.some.inj hd]] at e2
        unfold compF at e2
        obtain ⟨ρ1, m3, eb, e2⟩ := Res.bind_eq e2
        obtain ⟨b, m4, ec, e2⟩ := Res.bind_eq e2
        have relw : Rel w cf La (D :: R) m2 (PM.wipe ρ vs) (L2.wipe σ vs) H3 := (rel1.apart (g2.trans g3) hrr S3).wiped hc
        refine ⟨La, D :: R, m2, _, d, relw, rx, ?_⟩
        rw [show bt cf.F cf.cl t d (PM.wipe ρ vs) m2 = .ok ρ1 m3 from eb]
        intro L4 σ4 H4 g4 rel4 sb
        refine ⟨wipe_but hv sb, L4, D :: R, m3, ρ1, rel4, ?_⟩
        rw [ec]
        intro L5 b' H5 g5 S5 eb'
        obtain rfl : b' = b := eb'
        have hD4 : H4 D = some (.lst acc) := g4.keep _ _ hD3 (dl S3) fun _ z => by cases z
        have hD5 : H5 D = some (.lst acc) := g5.keep _ _ hD4 (dl rel4.st) fun _ z => by cases z
        have g15 : Grow L1 H1 L5 H5 := ((g2.trans g3).trans g4).trans g5
        have r5 : RepL w L5 (D :: R) H5 acc zs := ((r2.mono S2 g3).mono S3 g4).mono rel4.st g5
        cases b' with
        | false =>
          rw [if_neg (by decide)]
          exact ⟨L5, m4, acc, zs, rest, g15, S5, hD5, r5, by simpa using e2, ey⟩
        | true =>
          rw [if_pos rfl]
          rw [if_pos rfl] at e2
          obtain ⟨ys1, m7, ei, e2⟩ := Res.bind_eq e2
          obtain ⟨zs1, mE, er, e2⟩ := Res.bind_eq e2
          cases e2
          unfold innR at ei
          obtain ⟨es, m5, e5, ei⟩ := Res.bind_eq ei
          split at ei
          · rename_i hcap1
            refine ⟨L5, D :: R, m4, ρ1, rel4.later g5 S5, ?_⟩
            rw [e5]
            intro L6 J1 H6 g6 S6 jt1
            have hD6 : H6 D = some (.lst acc) := g6.keep _ _ hD5 (dl S5) fun _ z => by cases z
            have rel6 : Rel w cf L6 (D :: R) m5 ρ1 σ4 H6 := (rel4.later g5 S5).later g6 S6
            let Iv1 : Nat → Hp → Prop := fun j H' => ∃ (L' : List Addr) (m' : M) (acc : List V) (zs rest : List PM.D), (GrowR L6 (D :: R) H6 L' H' ∧ Grow L1 H1 L' H') ∧ StOk w L' (D :: R) m' H' ∧ H' D = some (.lst acc) ∧ RepL w L' (D :: R) H' acc zs ∧
              compL (fun d m => bt cf.F cf.cl t1 d (PM.wipe ρ1 (tgN t1)) m) (condR cf.F cf.cl p1) (fun ρ m => ev cf.F cf.cl e ρ m) (es.drop j) m' = .ok rest m7 ∧ ys = zs ++ (rest ++ zs1)
            refine ⟨fun j k H' => k = es.length - j ∧ j ≤ es.length ∧ Iv1 j H', ⟨es.length, by simp, Nat.zero_le _, L6, m5, acc, zs, ys1, ⟨GrowR.refl _ _ _, g15.trans g6⟩, S6, hD6, r5.mono S5 g6, ei, ey⟩, ?_⟩
            rintro j k H7 ⟨rfl, hj, Lb, m8, acc1, zs2, rest2, ⟨g7, gg7⟩, S7, hD7, r7, e8, ey2⟩
            obtain ⟨jd1, js1⟩ := jt1 Lb (D :: R) m8 H7 j g7 (fun a _ z => z) S7
            by_cases hlt1 : j < es.length
            · have hd1 : es[j]? = some es[j] := List.getElem?_eq_getElem hlt1
              generalize es[j] = d1 at hd1
              obtain ⟨go1, yl1⟩ := jd1 d1 hd1
              refine .inr ⟨go1, Iv1 (j + 1), fun H' iv => ⟨es.length - (j + 1), by omega, rfl, hlt1, iv⟩, fun x1 H8 hy1 => ?_⟩
              obtain ⟨g8, S8, rx1⟩ := yl1 x1 H8 hy1
              have hD8 : H8 D = some (.lst acc1) := g8.keep _ _ hD7 (dl S7) fun _ z => by cases z
              rw [show es.drop j = d1 :: es.drop (j + 1) from by
                rw [List.drop_eq_getElem_cons hlt1, show es[j] = d1 from by rw [List.getElem?_eq_getElem hlt1] at hd1; exact Option.some.inj hd1]] at e8
              unfold compL at e8
              obtain ⟨ρ2, m9, eb1, e8⟩ := Res.bind_eq e8
              obtain ⟨b1, m10, ec1, e8⟩ := Res.bind_eq e8
              have relw1 : Rel w cf Lb (D :: R) m8 (PM.wipe ρ1 (tgN t1)) (L2.wipe σ4 (tgN t1)) H8 := (rel6.laterR (g7.trans g8) S8).wiped hc1
              refine ⟨Lb, D :: R, m8, _, d1, relw1, rx1, ?_⟩
              rw [show bt cf.F cf.cl t1 d1 (PM.wipe ρ1 (tgN t1)) m8 = .ok ρ2 m9 from eb1]
              intro L9 σ9 H9 g9 rel9 sb9
              refine ⟨wipe_but (fun i hi => hi) sb9, L9, D :: R, m9, ρ2, rel9, ?_⟩
              rw [ec1]
              intro L10 b' H10 g10 S10 eb'
              obtain rfl : b' = b1 := eb'
              have hD9 : H9 D = some (.lst acc1) := g9.keep _ _ hD8 (dl S8) fun _ z => by cases z
              have hD10 : H10 D = some (.lst acc1) := g10.keep _ _ hD9 (dl rel9.st) fun _ z => by cases z
              have g610 : GrowR L6 (D :: R) H6 L10 H10 := ((g7.trans g8).trans g9).trans g10
              have gg10 : Grow L1 H1 L10 H10 := ((gg7.trans g8).trans g9).trans g10
              have r10 : RepL w L10 (D :: R) H10 acc1 zs2 := ((r7.mono S7 g8).mono S8 g9).mono rel9.st g10
              cases b' with
              | false =>
                rw [if_neg (by decide)]
                exact ⟨L10, m10, acc1, zs2, rest2, ⟨g610, gg10⟩, S10, hD10, r10, by simpa using e8, ey2⟩
              | true =>
                rw [if_pos rfl]
                rw [if_pos rfl] at e8
                obtain ⟨y, m11, ee, e8⟩ := Res.bind_eq e8
                obtain ⟨rs, m12, er2, e8⟩ := Res.bind_eq e8
                cases e8
                refine ⟨L10, D :: R, m10, ρ2, rel9.later g10 S10, ?_⟩
                rw [ee]
                intro L11 v H11 g11 S11 rv
                have hD11 : H11 D = some (.lst acc1) := g11.keep _ _ hD10 (dl S10) fun _ z => by cases z
                have ex11 : ∃ ys, H11 D = some (.lst ys) := ⟨_, hD11⟩
                have hlen : acc1.length < cap := by
                  rw [r10.length]
                  have : ys.length = zs2.length + (rs.length + 1 + zs1.length) := by rw [ey2]; simp; omega
                  omega
                exact ⟨acc1, hD11, by rw [sizeLine_eq]; exact hlen, L11, m11, acc1 ++ [v], zs2 ++ [y], rs, ⟨(g610.trans g11).put (List.mem_cons_self ..), (gg10.trans g11).fresh hD⟩, S11.other (List.mem_cons_self ..), upd_same, ((r10.mono S10 g11).append (.cons rv .nil)).other (List.mem_cons_self ..) ex11, er2, by rw [ey2]; simp⟩
            · have ej : j = es.length := by omega
              subst ej
              refine .inl ⟨js1 rfl, ?_⟩
              rw [List.drop_length] at e8
              unfold compL at e8
              cases e8
              exact ⟨Lb, m7, acc1, zs2, zs1, gg7, S7, hD7, r7, er, by simpa using ey2⟩
          · cases ei
      · have ei : i = ds.length := by omega
        subst ei
        refine .inl ⟨js rfl, ?_⟩
        rw [List.drop_length] at e2
        unfold compF at e2
        cases e2
        rw [List.append_nil] at ey
        subst ey
        simp only [Raw.out] at q1
        rw [if_pos ycap] at q1
        split at q1
        · split at q1
          · rename_i hpu
            refine q1 (La ++ [D]) _ H2 (g2.snoc hD) (S2.adopt DR hD2 hpu r2) (.ref ?_)
            rw [← S2.len]; simp
          · exact q1.elim
        · exact q1 La _ H2 g2 S2.free (.lst (.inl hD2) (S2.rl D (List.mem_cons_self ..)) DR (r2.res fun a _ h => List.mem_cons_of_mem _ h))
  · exact q1.elim
end
end PM

end

section
set_option maxHeartbeats 1000000
/-! PM, part M: statements. -/
namespace PM
open PySem PySem.Spec PyProof.Rows L2
def PostS (w : Wd) (cf : Cf) (W : WX) (L R : List Addr) (H : Hp) (r : ResS) (D : Ends) : Prop := match r with
  | .nx ρ m => ∀ L' σ' H', Grow L H L' H' → Rel w cf L' R m ρ σ' H' → D.nx σ' H'
  | .ret d m => ∀ L' v H', Grow L H L' H' → StOk w L' R m H' → Rep w L' R H' v d → D.rt v H'
  | .brk ρ m => ∀ L' σ' H', Grow L H L' H' → Rel w cf L' R m ρ σ' H' → D.bk σ' H'
  | .cont ρ m => ∀ L' σ' H', Grow L H L' H' → Rel w cf L' R m ρ σ' H' → D.ct σ' H'
  | .exc x ρ m => ∀ L' σ' H' cls dx, Grow L H L' H' → Rel w cf L' R m ρ σ' H' → ExR w L' R H' cls dx x → W cls dx σ' H'
  | .bad => False
def tS (w : Wd) (cf : Cf) (W : WX) (r : Env → M → ResS) : TS := fun D σ H => ∃ (L R : List Addr) (m : M) (ρ : Env), Rel w cf L R m ρ σ H ∧ PostS w cf W L R H (r ρ m) D
section
variable {w : Wd} {cf : Cf} {W : WX} {L R L1 : List Addr} {m m1 : M} {ρ : Env} {σ : L2.St} {H H1 : Hp} {D : Ends} {α β : Type} {P : PR α β}
theorem PostS.later {r : ResS} (h : PostS w cf W L R H r D) (g : Grow L H L1 H1) : PostS w cf W L1 R H1 r D := by
  cases r with
  | nx ρ m => exact fun L' σ' H' g' rel => h L' σ' H' (g.trans g') rel
  | ret d m => exact fun L' v H' g' S r => h L' v H' (g.trans g') S r
  | brk ρ m => exact fun L' σ' H' g' rel => h L' σ' H' (g.trans g') rel
  | cont ρ m => exact fun L' σ' H' g' rel => h L' σ' H' (g.trans g') rel
  | exc x ρ m => exact fun L' σ' H' c d g' rel x => h L' σ' H' c d (g.trans g') rel x
  | bad => exact h
/-- a part is evaluated, then the rest -/
theorem tR_of {r : Env → M → Res α} {f : α → M → ResS} (rel : Rel w cf L R m ρ σ H) (h : PostS w cf W L R H (ResS.of ρ (r ρ m) f) D) {Q : β → Hp → Prop}
    (k : ∀ b H1 L1 m1 a, Grow L H L1 H1 → Rel w cf L1 R m1 ρ σ H1 → P L1 R H1 b a → PostS w cf W L1 R H1 (f a m1) D → Q b H1) : tR w cf W P r σ H Q := by
  refine ⟨L, R, m, ρ, rel, ?_⟩
  cases e : r ρ m with
  | ok a m1 =>
    rw [e] at h
    exact fun L1 b H1 g S p => k b H1 L1 m1 a g (rel.later g S) p (PostS.later h g)
  | exc x m1 =>
    rw [e] at h
    exact fun L1 H1 c d g S x => h L1 σ H1 c d g (rel.later g S) x
  | bad => rw [e] at h; exact h.elim
theorem PostT.of {t : Tg} {d : PM.D} (h : PostS w cf W L R H (ResS.of ρ (bt cf.F cf.cl t d ρ m).nox fun ρ m => .nx ρ m) D) : PostT w cf L R H σ (tgN t) (bt cf.F cf.cl t d ρ m) D.nx := by
  cases e : bt cf.F cf.cl t d ρ m with
  | ok ρ' m' =>
    rw [e] at h
    exact fun L' σ' H' g rel _ => h L' σ' H' g rel
  | exc x m' => rw [e] at h; exact h.elim
  | bad => rw [e] at h; exact h.elim
end
section
variable {X : Cx} {w : Wd} {ck : Ck} {cf : Cf} {W : WX} {p : Pl} (C : Cok X w ck cf W p)
include C
omit C in
theorem asg_imp {t : Tg} {e : E} {te : TE} {D : Ends} {σ : L2.St} {H : Hp} (k : ∀ σ H Q, tE w cf W e σ H Q → te σ H Q) (h : tS w cf W (exS cf.F cf.cl (.set t e)) D σ H) : tAsg te (tG w cf t) D σ H := by
  obtain ⟨L, R, m, ρ, rel, hp⟩ := h
  unfold exS at hp
  exact k _ _ _ (tR_of (P := Rep w) rel hp fun x H1 L1 m1 d g1 rel1 r1 q1 => ⟨L1, R, m1, ρ, d, rel1, r1, PostT.of q1⟩)
theorem s_set {t : Tg} {e : E} {tg e' : Expr} {pos : Pos} (ht : PG X tg (tG w cf t)) (he : PE X e' (tE w cf W e)) (hs : swapsWithSole [tg] e' pos.line X.env = pure false) (hw : swappedStores [tg] e' X.env = pure none) (h1 : (assignEach [tg] X.env).map (·.2) = [assign tg X.env]) : PS X (.Assign [tg] e' pos) (tS w cf W (exS cf.F cf.cl (.set t e))) :=
  (ps_asg he ht hs hw h1).imp fun D σ H h => asg_imp (fun _ _ _ q => q) h
theorem s_par {i j : Nat} {es : Es} {x y : Str} {a b : Expr} {px py pt : Pos} {kt k2 : Nat} {pt2 pos : Pos} (hi : p.nm i x = true) (hj : p.nm j y = true) (hij : i ≠ j) (hx : X.env.scope.names.lookup x = some .local) (hy : X.env.scope.names.lookup y = some .local) (ha : PA X [a, b] (tEs w cf W es))
    (hw : swappedStores [.Tuple [.Name x px, .Name y py] kt pt] (.Tuple [a, b] k2 pt2) X.env = pure (some [x, y])) (hs : swapsWithSole [.Tuple [.Name x px, .Name y py] kt pt] (.Tuple [a, b] k2 pt2) pos.line X.env = pure false) : PS X (.Assign [.Tuple [.Name x px, .Name y py] kt pt] (.Tuple [a, b] k2 pt2) pos) (tS w cf W (exS cf.F cf.cl (.par [i, j] es))) := by
  obtain ⟨a1, _, _, a4⟩ := nm_of C hi
  obtain ⟨b1, _, _, b4⟩ := nm_of C hj
  refine (ps_par C.calm C.nd a1 b1 hij hx hy ha hw hs).imp fun D σ H ⟨L, R, m, ρ, rel, hp⟩ => ?_
  unfold exS at hp
  refine tR_of (P := RepL w) rel hp fun vs H1 L1 m1 ds g1 rel1 r1 q1 => ?_
  match ds, r1, q1 with
  | [], _, q1 => exact q1.elim
  | [_], _, q1 => exact q1.elim
  | [d1, d2], r1, q1 =>
    obtain ⟨v, u, rfl, ra, rb⟩ := r1.two
    exact ⟨v, u, rfl, q1 L1 _ H1 (Grow.refl _ _) ((rel1.set C a4 ra).set C b4 rb)⟩
  | _ :: _ :: _ :: _, _, q1 => exact q1.elim
omit C in
theorem s_ex {e : E} {e' : Expr} {pos : Pos} (he : PE X e' (tE w cf W e)) (hs : swapsWith e' none pos.line X.env = pure false) : PS X (.Expr e' pos) (tS w cf W (exS cf.F cf.cl (.ex e))) :=
  (ps_expr he hs).imp fun D σ H ⟨L, R, m, ρ, rel, hp⟩ => by
    unfold exS at hp
    exact tR_of (P := Rep w) rel hp fun x H1 L1 m1 d g1 rel1 r1 q1 => q1 L1 _ H1 (Grow.refl _ _) rel1
omit C in
theorem s_ret {e : E} {e' : Expr} {pos : Pos} (he : PE X e' (tE w cf W e)) : PS X (.Return (some e') pos) (tS w cf W (exS cf.F cf.cl (.ret e))) :=
  (ps_ret he).imp fun D σ H ⟨L, R, m, ρ, rel, hp⟩ => by
    unfold exS at hp
    exact tR_of (P := Rep w) rel hp fun x H1 L1 m1 d g1 rel1 r1 q1 => q1 L1 _ H1 (Grow.refl _ _) rel1.st r1
omit C in
theorem s_retN {pos : Pos} : PS X (.Return none pos) (tS w cf W (exS cf.F cf.cl .retN)) :=
  ps_retN.imp fun D σ H ⟨L, R, m, ρ, rel, hp⟩ => by
    unfold exS at hp
    exact hp L _ H (Grow.refl _ _) rel.st .non
omit C in
theorem s_pass {pos : Pos} : PS X (.Pass pos) (tS w cf W (exS cf.F cf.cl .pass)) :=
  ps_pass.imp fun D σ H ⟨L, R, m, ρ, rel, hp⟩ => by
    unfold exS at hp
    exact hp L _ H (Grow.refl _ _) rel
omit C in
theorem s_brk {pos : Pos} : PS X (.Break pos) (tS w cf W (exS cf.F cf.cl .brk)) :=
  ps_break.imp fun D σ H ⟨L, R, m, ρ, rel, hp⟩ => by
    unfold exS at hp
    exact hp L _ H (Grow.refl _ _) rel
omit C in
theorem s_ite {c : E} {a b : Ss} {c' : Expr} {a' b' : List Stmt} {pos : Pos} (hc : PT X c' (tT w cf W c)) (ha : PSs X a' (tS w cf W (exSs cf.F cf.cl a))) (hb : PSs X b' (tS w cf W (exSs cf.F cf.cl b))) : PS X (.If c' a' b' pos) (tS w cf W (exS cf.F cf.cl (.ite c a b))) :=
  (ps_if hc ha hb).imp fun D σ H ⟨L, R, m, ρ, rel, hp⟩ => by
    unfold exS at hp
    refine tR_of (P := PB) (r := fun ρ m => (ev cf.F cf.cl c ρ m).bind boolOf) rel hp fun k H1 L1 m1 k' g1 rel1 e q1 => ?_
    obtain rfl : k = k' := e
    cases k with
    | true => exact ⟨L1, R, m1, ρ, rel1, q1⟩
    | false => exact ⟨L1, R, m1, ρ, rel1, q1⟩
theorem s_for (hfb : p.fb = none) {t : Tg} {it : It} {b : Ss} {tg iter : Expr} {b' : List Stmt} {pos : Pos} (hi : PI X tg iter (tI w cf W it)) (ht : PG X tg (tG w cf t)) (hb : PSs X b' (tS w cf W (exSs cf.F cf.cl b))) (hs : ∀ x, foldedSetIterable iter X.env x = pure x) :
    PS X (.For tg iter b' [] pos) (tS w cf W (exS cf.F cf.cl (.for_ t it b))) := by
  refine (ps_for (C.po hfb) C.calm hi ht hb hs).imp fun D σ H ⟨L, R, m, ρ, rel, hp⟩ => ?_
  unfold exS at hp
  refine tR_of (P := ItP w) (r := fun ρ m => evi cf.F cf.cl it ρ m) rel hp fun J H1 L1 m1 ds g1 rel1 jt q1 => ?_
  let Iv : Nat → L2.St → Hp → Prop := fun i σ' H' => ∃ (L' : List Addr) (m' : M) (ρ' : Env), Grow L1 H1 L' H' ∧ Rel w cf L' R m' ρ' σ' H' ∧ PostS w cf W L' R H' (forL (fun d ρ m => bt cf.F cf.cl t d ρ m) (fun ρ m => exSs cf.F cf.cl b ρ m) (ds.drop i) ρ' m') D
  refine ⟨fun i n σ' H' => n = ds.length - i ∧ i ≤ ds.length ∧ Iv i σ' H', ⟨ds.length, by simp, Nat.zero_le _, L1, m1, ρ, Grow.refl _ _, rel1, q1⟩, ?_⟩
  rintro i n σ2 H2 ⟨rfl, hi, La, m2, ρ2, g2, rel2, q2⟩
  obtain ⟨jd, js⟩ := jt La R m2 H2 i g2.toR (fun _ _ z => z) rel2.st
  by_cases hlt : i < ds.length
  · have hd : ds[i]? = some ds[i] := List.getElem?_eq_getElem hlt
    generalize ds[i] = d at hd
    obtain ⟨go, yl⟩ := jd d hd
    refine .inr ⟨go, Iv (i + 1), fun σ' H' iv => ⟨ds.length - (i + 1), by omega, rfl, hlt, iv⟩, fun x H3 hy => ?_⟩
    obtain ⟨g3, S3, rx⟩ := yl x H3 hy
    rw [show ds.drop i = d :: ds.drop (i + 1) from by
      rw [List.drop_eq_getElem_cons hlt, show ds[i] = d from by rw [List.getElem?_eq_getElem hlt] at hd; exact Option.some.inj hd]] at q2
    unfold forL at q2
    refine ⟨La, R, m2, ρ2, d, rel2.later g3 S3, rx, ?_⟩
    cases e1 : bt cf.F cf.cl t d ρ2 m2 with
    | exc x m => rw [e1] at q2; exact q2.elim
    | bad => rw [e1] at q2; exact q2.elim
    | ok ρ3 m3 =>
      rw [e1] at q2
      intro L4 σ4 H4 g4 rel4 _
      refine ⟨L4, R, m3, ρ3, rel4, ?_⟩
      have g14 := (g2.trans g3).trans g4
      have q2 := PostS.later q2 (g3.trans g4)
      revert q2
      simp only [Res.nox_ok, ResS.of]
      cases exSs cf.F cf.cl b ρ3 m3 with
      | nx ρ5 m5 => exact fun q2 L5 σ5 H5 g5 rel5 => ⟨L5, m5, ρ5, g14.trans g5, rel5, q2.later g5⟩
      | cont ρ5 m5 => exact fun q2 L5 σ5 H5 g5 rel5 => ⟨L5, m5, ρ5, g14.trans g5, rel5, q2.later g5⟩
      | brk ρ5 m5 => exact fun q2 => q2
      | ret d m => exact fun q2 => q2
      | exc x ρ m => exact fun q2 => q2
      | bad => exact fun q2 => q2
  · have ei : i = ds.length := by omega
    subst ei
    refine .inl ⟨js rfl, ?_⟩
    rw [List.drop_length] at q2
    unfold forL at q2
    exact q2 La σ2 H2 (Grow.refl _ _) rel2
theorem s_forR (hfb : p.fb = none) {n : Nat} {t : Tg} {e : E} {b : Ss} {tg iter : Expr} {b' : List Stmt} {pos : Pos} (he : PE X iter (tE w cf W e)) (ht : PG X tg (tG w cf t)) (hb : PSs X b' (tS w cf W (exSs cf.F cf.cl b))) (hs : ∀ x, foldedSetIterable iter X.env x = pure x) :
    PS X (.For tg iter b' [] pos) (tS w cf W (exS cf.F cf.cl (.forR n t e b))) := by
  refine (ps_for (C.po hfb) C.calm (pi_list he) ht hb hs).imp fun D σ H ⟨L, R, m, ρ, rel, hp⟩ => ?_
  unfold exS at hp
  show tE w cf W e σ H _
  refine tR_of (P := Rep w) (r := fun ρ m => ev cf.F cf.cl e ρ m) rel hp fun v H1 L1 m1 d g1 rel1 r1 q1 => ?_
  cases d with
  | ref l =>
    cases r1 with
    | @ref _ a hx =>
      have cell : ∀ {LL : List Addr} {mm : M} {HH : Hp} {xs : List PM.D}, StOk w LL R mm HH → LL[l]? = some a → mm[l]? = some (.lst xs) → ∃ ys, SqL X.K HH a ys ∧ RepL w LL R HH ys xs := fun S h1 h2 => by
        obtain ⟨_, ys, h3, h4⟩ := S.cells l a _ h1 h2
        exact ⟨ys, .inl (.inl h3), h4⟩
      have q1 : PostS w cf W L1 R H1 (forI (fun d ρ m => bt cf.F cf.cl t d ρ m) (fun ρ m => exSs cf.F cf.cl b ρ m) l n 0 ρ m1) D := q1
      have first : ∃ xs, SqL X.K H1 a xs := by
        cases n with
        | zero => exact q1.elim
        | succ n =>
          unfold forI at q1
          cases e0 : m1[l]? with
          | none => rw [e0] at q1; exact q1.elim
          | some c =>
            cases c with
            | dct _ => rw [e0] at q1; exact q1.elim
            | lst xs => obtain ⟨ys, h, _⟩ := cell rel1.st hx e0; exact ⟨ys, h⟩
      refine ⟨a, rfl, first, ?_⟩
      let Iv : Nat → Nat → L2.St → Hp → Prop := fun i k σ' H' => ∃ (L' : List Addr) (m' : M) (ρ' : Env), Grow L1 H1 L' H' ∧ Rel w cf L' R m' ρ' σ' H' ∧ PostS w cf W L' R H' (forI (fun d ρ m => bt cf.F cf.cl t d ρ m) (fun ρ m => exSs cf.F cf.cl b ρ m) l k i ρ' m') D
      refine ⟨Iv, ⟨n, L1, m1, ρ, Grow.refl _ _, rel1, q1⟩, ?_⟩
      rintro i k σ2 H2 ⟨La, m2, ρ2, g2, rel2, q2⟩
      cases k with
      | zero => exact q2.elim
      | succ k =>
        unfold forI at q2
        cases e0 : m2[l]? with
        | none => rw [e0] at q2; exact q2.elim
        | some c =>
          rw [e0] at q2
          cases c with
          | dct _ => exact q2.elim
          | lst xs =>
            obtain ⟨ys, hsq, ry⟩ := cell rel2.st (g2.get hx) e0
            simp only at q2
            cases ed : xs[i]? with
            | none =>
              rw [ed] at q2
              refine .inl ⟨⟨ys, hsq, by rw [ry.length]; exact List.getElem?_eq_none_iff.mp ed⟩, ?_⟩
              exact q2 La σ2 H2 (Grow.refl _ _) rel2
            | some d =>
              rw [ed] at q2
              obtain ⟨x0, hx0, rx⟩ := ry.get ed
              refine .inr ⟨⟨ys, x0, hsq, hx0⟩, Iv (i + 1) k, fun σ' H' iv => ⟨k, by omega, iv⟩, fun x H3 hy => ?_⟩
              obtain ⟨e3, hy⟩ := hy
              subst e3
              have q0 := hy ys hsq
              rw [hx0] at q0
              cases q0
              refine ⟨La, R, m2, ρ2, d, rel2, rx, ?_⟩
              cases e1 : bt cf.F cf.cl t d ρ2 m2 with
              | exc x m => simp only [e1] at q2; exact q2.elim
              | bad => simp only [e1] at q2; exact q2.elim
              | ok ρ3 m3 =>
                simp only [e1] at q2
                intro L4 σ4 H4 g4 rel4 _
                refine ⟨L4, R, m3, ρ3, rel4, ?_⟩
                have g14 := g2.trans g4
                have q2 := PostS.later q2 g4
                revert q2
                simp only [Res.nox_ok, ResS.of]
                cases exSs cf.F cf.cl b ρ3 m3 with
                | nx ρ5 m5 => exact fun q2 L5 σ5 H5 g5 rel5 => ⟨L5, m5, ρ5, g14.trans g5, rel5, q2.later g5⟩
                | cont ρ5 m5 => exact fun q2 L5 σ5 H5 g5 rel5 => ⟨L5, m5, ρ5, g14.trans g5, rel5, q2.later g5⟩
                | brk ρ5 m5 => exact fun q2 => q2
                | ret d m => exact fun q2 => q2
                | exc x ρ m => exact fun q2 => q2
                | bad => exact fun q2 => q2
  | _ => exact q1.elim
theorem s_wh (hfb : p.fb = none) {n : Nat} {c : E} {b : Ss} {c' : Expr} {b' : List Stmt} {pos : Pos} (hc : PT X c' (tT w cf W c)) (hb : PSs X b' (tS w cf W (exSs cf.F cf.cl b))) : PS X (.While c' b' [] pos) (tS w cf W (exS cf.F cf.cl (.wh n c b))) := by
  refine (ps_while (C.po hfb) hc hb).imp fun D σ H ⟨L, R, m, ρ, rel, hp⟩ => ?_
  unfold exS at hp
  refine ⟨fun k σ' H' => ∃ (L' : List Addr) (m' : M) (ρ' : Env), Grow L H L' H' ∧ Rel w cf L' R m' ρ' σ' H' ∧ PostS w cf W L' R H' (whL (fun ρ m => (ev cf.F cf.cl c ρ m).bind boolOf) (fun ρ m => exSs cf.F cf.cl b ρ m) k ρ' m') D, ⟨n, L, m, ρ, Grow.refl _ _, rel, hp⟩, ?_⟩
  rintro k σ2 H2 ⟨La, m2, ρ2, g2, rel2, q2⟩
  cases k with
  | zero => exact q2.elim
  | succ k =>
    unfold whL at q2
    refine tR_of (P := PB) (r := fun ρ m => (ev cf.F cf.cl c ρ m).bind boolOf) rel2 q2 fun z H3 L3 m3 z' g3 rel3 e q3 => ?_
    obtain rfl : z = z' := e
    cases z with
    | false => exact q3 L3 σ2 H3 (Grow.refl _ _) rel3
    | true =>
      rw [if_pos rfl]
      refine ⟨fun σ' H' => ∃ (L' : List Addr) (m' : M) (ρ' : Env), Grow L H L' H' ∧ Rel w cf L' R m' ρ' σ' H' ∧ PostS w cf W L' R H' (whL (fun ρ m => (ev cf.F cf.cl c ρ m).bind boolOf) (fun ρ m => exSs cf.F cf.cl b ρ m) k ρ' m') D, fun σ' H' iv => ⟨k, Nat.lt_succ_self _, iv⟩, L3, R, m3, ρ2, rel3, ?_⟩
      have g13 := g2.trans g3
      revert q3
      rw [if_pos rfl]
      cases exSs cf.F cf.cl b ρ2 m3 with
      | nx ρ5 m5 => exact fun q2 L5 σ5 H5 g5 rel5 => ⟨L5, m5, ρ5, g13.trans g5, rel5, q2.later g5⟩
      | cont ρ5 m5 => exact fun q2 L5 σ5 H5 g5 rel5 => ⟨L5, m5, ρ5, g13.trans g5, rel5, q2.later g5⟩
      | brk ρ5 m5 => exact fun q2 => q2
      | ret d m => exact fun q2 => q2
      | exc x ρ m => exact fun q2 => q2
      | bad => exact fun q2 => q2
theorem s_append {l e : E} {l' e' : Expr} {apos cpos pos : Pos} (hl : PE X l' (tE w cf W l)) (he : PA X [e'] (tEs w cf W (.cons e .nil))) (hbase : attributeBase l' ("append" : Str) X.env (eval l' X.env) = eval l' X.env)
    (hfew : ((backTo cpos (starEach [e'] X.env)).all (fun x => !x.1) && (backToKw cpos (keywordEach [] X.env)).all (fun x => x.1.isSome) && decide ([e'].length + ([] : List Keyword).length + (if ([] : List Keyword).isEmpty then 0 else 1) < 30)) = true)
    (hline : (apos.endLine == cpos.line) = true) (hs : starEach [e'] X.env = (false, eval e' X.env) :: starEach [] X.env) (hplain : (backTo cpos (starEach [] X.env)).any (·.1) = false) (hsw : swapsWith (.Call (.Attribute l' ("append" : Str) apos) [e'] [] cpos) none pos.line X.env = pure false) :
    PS X (.Expr (.Call (.Attribute l' ("append" : Str) apos) [e'] [] cpos) pos) (tS w cf W (exS cf.F cf.cl (.append l e))) := by
  refine (ps_expr (pe_bm PySem.F.plainAttrs_list PySem.F.slot_list_append PySem.F.type_list_append mt_append hl he hbase hfew hline hs hplain) hsw).imp fun D σ H ⟨L, R, m, ρ, rel, hp⟩ => ?_
  unfold exS at hp
  refine tR_of (P := Rep w) rel hp fun x H1 L1 m1 d g1 rel1 r1 q1 => ?_
  have one : evs cf.F cf.cl (.cons e .nil) ρ m1 = (ev cf.F cf.cl e ρ m1).bind fun d m => .ok [d] m := evs_one
  cases d with
  | ref k =>
    cases r1 with
    | @ref _ a ha =>
      have sq : ∃ xs, H1 a = some (.lst xs) := rel1.st.at (List.mem_of_getElem? ha)
      obtain ⟨xs0, hx0⟩ := sq
      refine ⟨.inl ⟨rfl, xs0, .inl (.inl hx0)⟩, L1, R, m1, ρ, rel1, ?_⟩
      rw [one]
      cases e1 : ev cf.F cf.cl e ρ m1 with
      | bad => rw [e1] at q1; exact q1.elim
      | exc x m2 =>
        rw [e1] at q1
        exact fun L2 H2 c d g S x => q1 L2 σ H2 c d g (rel1.later g S) x
      | ok y m2 =>
        rw [e1] at q1
        simp only [ResS.of] at q1
        intro L2 vs H2 g2 S2 r2
        obtain ⟨v, rfl, rv⟩ := r2.one
        have ha2 := g2.get ha
        cases e2 : m2[k]? with
        | none => rw [e2] at q1; exact q1.elim
        | some cell =>
          rw [e2] at q1
          cases cell with
          | dct _ => exact q1.elim
          | lst ys =>
            simp only at q1
            split at q1
            · rename_i hpu
              simp only [Bool.and_eq_true, decide_eq_true_eq] at hpu
              obtain ⟨pz, zs, h3, h4⟩ := S2.cells k a _ ha2 e2
              have S3 := S2.put ha2 (xs := zs ++ [v]) (ds := ys ++ [y]) (by rw [pureL_append, pz]; simp [hpu.1]) (h4.append (.cons rv .nil))
              have g3 : Grow L2 H2 L2 (upd H2 a (.lst (zs ++ [v]))) := Grow.put (List.mem_of_getElem? ha2)
              exact ⟨a, zs, v, rfl, rfl, h3, by rw [h4.length, sizeLine_eq]; exact hpu.2, q1 L2 σ _ (g2.trans g3) (rel1.later (g2.trans g3) S3)⟩
            · exact q1.elim
  | _ => exact q1.elim
/-- xs.extend(ys), ys a list that is read -/
def rExt (K : PySem.W.Frag) : V → List V → Hp → VK → Prop := fun x vs H Q => ∃ l b xs zs, x = .ref l ∧ vs = [.ref b] ∧ H l = some (.lst xs) ∧ SqL K H b zs ∧ xs.length + zs.length ≤ sizeLine ∧ Q .non (upd H l (.lst (xs ++ zs)))
omit C in
theorem ext_meets (l : Addr) (items : Array Value) (n : Nat) (b : Addr) (items2 : Array Value) (n2 : Nat) (dd2 : Option Addr) (sl2 : Array (Option Value)) (hc0 : ¬(!items.isEmpty && Builtin.List.listTooLong (items.size + items2.size)) = true) (hc1 : items.size ≤ sizeLine) (hs2 : items.size + items2.size ≤ sizeLine + 1) :
    Meets (Builtin.«list.extend» ⟨[.ref l, .ref b], []⟩) (fun _ R s => s.heap.get? l = some { cls := .type "list", dict := none, data := .seq items n, slots := #[] } ∧ s.heap.get? b = some { cls := .type "list", dict := dd2, data := .seq items2 n2, slots := sl2 } ∧
      R (.ok (.ret Value.none)) { s with heap := s.heap.update l (Obj.mapSeq fun x => x ++ items2), toks := s.toks }) :=
  .of_wp fun prog w A R s h => by
    obtain ⟨hp, g, d, tk, os⟩ := s
    obtain ⟨hl, hb, h⟩ := h
    have f1 := AutoSeq1.idx_int; have f2 := AutoSeq1.sub_tuple_tuple; have f3 := AutoSeq1.sub_list_list; have f4 := AutoSeq1.sub_tuple_list; have f5 := AutoSeq1.sub_list_tuple
    have hz : (items ++ items2).size ≤ sizeLine + 1 := by rw [Array.size_append]; exact hs2
    wp_walk using (wpAny_updateSeq hl rfl (hz := hc1) (_hz' := hz)), AutoSeq1.wpAny_loadPart' hl, AutoSeq1.wpAny_loadPart' hb
    exact ⟨_, rfl, h⟩
omit C in
theorem mt_ext : MtM X "list.extend" (rExt X.K) := by
  intro pins s σ H x vs v us Q I rx rv h
  obtain ⟨l, b, xs, zs, rfl, rfl, hH, hB, hz, q⟩ := h
  cases rx
  obtain ⟨u, rfl, ru⟩ := rv.one
  cases ru
  obtain ⟨z, its, n, r, hl, e⟩ := I.lstM hH
  obtain ⟨its2, r2, ⟨⟨cl2, dd2, da2, sl2⟩, n2, e2, c2, _, d2⟩, _⟩ := I.list hB
  simp only at c2 d2
  subst c2 d2
  have hl2 := r2.length
  have hsz : its.toArray.size + its2.toArray.size ≤ sizeLine := by rw [List.size_toArray, List.size_toArray]; omega
  have hlong : ¬ (!its.toArray.isEmpty && Builtin.List.listTooLong (its.toArray.size + its2.toArray.size)) = true := by
    rw [notLongL hsz, Bool.and_false]
    exact Bool.false_ne_true
  refine call_meets PySem.F.slot_list_extend ⟨_, e, rfl⟩ PySem.F.entry_list_extend (PySem.F.args_list_extend_2 _ _) (ext_meets l its.toArray n b its2.toArray n2 dd2 sl2 hlong (by rw [List.size_toArray]; omega) (by omega)) ⟨e, e2, ?_⟩
  refine ⟨.non, _, I.lset (its' := its ++ its2) hH e (by simp) (r.append r2) ?_, rfl, q⟩
  rw [List.length_append]
  omega
theorem s_extend {l e : E} {l' e' : Expr} {apos cpos pos : Pos} (hl : PE X l' (tE w cf W l)) (he : PA X [e'] (tEs w cf W (.cons e .nil))) (hbase : attributeBase l' ("extend" : Str) X.env (eval l' X.env) = eval l' X.env)
    (hfew : ((backTo cpos (starEach [e'] X.env)).all (fun x => !x.1) && (backToKw cpos (keywordEach [] X.env)).all (fun x => x.1.isSome) && decide ([e'].length + ([] : List Keyword).length + (if ([] : List Keyword).isEmpty then 0 else 1) < 30)) = true)
    (hline : (apos.endLine == cpos.line) = true) (hs : starEach [e'] X.env = (false, eval e' X.env) :: starEach [] X.env) (hplain : (backTo cpos (starEach [] X.env)).any (·.1) = false) (hsw : swapsWith (.Call (.Attribute l' ("extend" : Str) apos) [e'] [] cpos) none pos.line X.env = pure false) :
    PS X (.Expr (.Call (.Attribute l' ("extend" : Str) apos) [e'] [] cpos) pos) (tS w cf W (exS cf.F cf.cl (.extend l e))) := by
  refine (ps_expr (pe_bm PySem.F.plainAttrs_list PySem.F.slot_list_extend PySem.F.type_list_extend mt_ext hl he hbase hfew hline hs hplain) hsw).imp fun D σ H ⟨L, R, m, ρ, rel, hp⟩ => ?_
  unfold exS at hp
  refine tR_of (P := Rep w) rel hp fun x H1 L1 m1 d g1 rel1 r1 q1 => ?_
  have one : evs cf.F cf.cl (.cons e .nil) ρ m1 = (ev cf.F cf.cl e ρ m1).bind fun d m => .ok [d] m := evs_one
  cases d with
  | ref k =>
    cases r1 with
    | @ref _ a ha =>
      have sq : ∃ xs, H1 a = some (.lst xs) := rel1.st.at (List.mem_of_getElem? ha)
      obtain ⟨xs0, hx0⟩ := sq
      refine ⟨.inl ⟨rfl, xs0, .inl (.inl hx0)⟩, L1, R, m1, ρ, rel1, ?_⟩
      rw [one]
      cases e1 : ev cf.F cf.cl e ρ m1 with
      | bad => rw [e1] at q1; exact q1.elim
      | exc x m2 =>
        rw [e1] at q1
        exact fun L2 H2 c d g S x => q1 L2 σ H2 c d g (rel1.later g S) x
      | ok y m2 =>
        rw [e1] at q1
        simp only [ResS.of] at q1
        intro L2 vs H2 g2 S2 r2
        obtain ⟨v, rfl, rv⟩ := r2.one
        have ha2 := g2.get ha
        cases y with
        | lst zs2 =>
          simp only at q1
          cases e2 : m2[k]? with
          | none => rw [e2] at q1; exact q1.elim
          | some cell =>
            rw [e2] at q1
            cases cell with
            | dct _ => exact q1.elim
            | lst ys =>
              simp only at q1
              split at q1
              · rename_i hpu
                simp only [Bool.and_eq_true, decide_eq_true_eq] at hpu
                obtain ⟨pz, zs, h3, h4⟩ := S2.cells k a _ ha2 e2
                obtain ⟨b, xs2, rfl, hb, t2⟩ := lst_grow rv
                have S3 := S2.put ha2 (xs := zs ++ xs2) (ds := ys ++ zs2) (by rw [pureL_append, pz, hpu.1]; rfl) (h4.append t2)
                have g3 : Grow L2 H2 L2 (upd H2 a (.lst (zs ++ xs2))) := Grow.put (List.mem_of_getElem? ha2)
                exact ⟨a, b, zs, xs2, rfl, rfl, h3, by rw [C.K]; exact hb L2 H2 (GrowR.refl _ _ _), by rw [h4.length, t2.length, sizeLine_eq]; exact hpu.2, q1 L2 σ _ (g2.trans g3) (rel1.later (g2.trans g3) S3)⟩
              · exact q1.elim
        | _ => exact q1.elim
  | _ => exact q1.elim
end
end PM

end

section
set_option maxHeartbeats 2000000
/-! PM, part N: a lambda with parameters handed to a def. -/
namespace PM
open PySem PySem.Spec PyProof.Rows L2
open LamX (lamCx lamEnv)

/-- the lambda's names -/
structure LamP (N : List Str) (sc scope : Scope) (own : List (Str × Nat)) : Prop where
  kind : scope.kind = .function
  co : scope.isCoroutine = false
  gen : scope.isGenerator = false
  uniq : ∀ y ∈ scope.names, scope.names.lookup y.1 = some y.2
  ix : ∀ q ∈ own, N[q.2]? = some q.1 ∧ scope.names.lookup q.1 = some .local
  loc : ∀ y ∈ scope.names, y.2 = .local → y.1 ∈ own.map (·.1) ∨ y.1 ∉ N
  cell : ∀ y ∈ scope.names, y.2 ≠ .cell
  free : ∀ y ∈ scope.names, y.2 = .free → sc.names.lookup y.1 = some .cell ∨ sc.names.lookup y.1 = some .free
theorem lamP_by {N : List Str} {sc scope : Scope} {own : List (Str × Nat)} (h : lamB N sc scope own = true) : LamP N sc scope own := by
  unfold lamB at h
  simp only [Bool.and_eq_true, Bool.not_eq_true', decide_eq_true_eq, List.all_eq_true] at h
  obtain ⟨h1, h2, h3, h4, h5, h6⟩ := h
  refine ⟨h1, h2, h3, h4, h5, fun y hy e => ?_, fun y hy e => ?_, fun y hy e => ?_⟩
  · have q := h6 y hy
    simp only [e, Bool.or_eq_true, decide_eq_true_eq] at q
    exact q
  · have q := h6 y hy
    simp only [e] at q
    cases q
  · have q := h6 y hy
    simp only [e, Bool.or_eq_true, decide_eq_true_eq] at q
    exact q
def lset (σ : L2.St) : List Nat → List V → L2.St
  | i :: is, v :: vs => lset (σ.set i (some v)) is vs
  | _, _ => σ
theorem lset_len : ∀ (ps : List Nat) (vs : List V) (σ : L2.St), (lset σ ps vs).length = σ.length
  | [], _, _ => by simp [lset]
  | _ :: _, [], _ => by simp [lset]
  | p :: ps, v :: vs, σ => by rw [lset, lset_len ps vs]; simp
theorem lset_out {i : Nat} : ∀ (ps : List Nat) (vs : List V) (σ : L2.St), i ∉ ps → (lset σ ps vs)[i]? = σ[i]?
  | [], _, _, _ => by simp [lset]
  | _ :: _, [], _, _ => by simp [lset]
  | p :: ps, v :: vs, σ, h => by
    rw [lset, lset_out ps vs _ (fun z => h (List.mem_cons_of_mem _ z)), List.getElem?_set_ne (fun z => h (by rw [z]; exact List.mem_cons_self ..))]
theorem lset_in {i : Nat} {v : V} : ∀ (ps : List Nat) (vs : List V) (σ : L2.St), ps.Nodup → (∀ p ∈ ps, p < σ.length) → vs.length = ps.length → i ∈ ps → (lset σ ps vs)[i]? = some (some v) → ∃ k : Nat, ps[k]? = some i ∧ vs[k]? = some v
  | p :: ps, [], _, _, _, hl, _, _ => by simp at hl
  | p :: ps, u :: vs, σ, nd, hb, hl, hi, h => by
    rw [lset] at h
    have nd' := List.nodup_cons.mp nd
    by_cases hp : i ∈ ps
    · obtain ⟨k, h1, h2⟩ := lset_in ps vs _ nd'.2 (fun q hq => by simpa using hb q (List.mem_cons_of_mem _ hq)) (by simpa using hl) hp h
      exact ⟨k + 1, by simpa using h1, by simpa using h2⟩
    · rw [lset_out ps vs _ hp] at h
      have e : i = p := by
        rcases List.mem_cons.mp hi with z | z
        · exact z
        · exact absurd z hp
      subst e
      rw [List.getElem?_set_self (hb i (List.mem_cons_self ..))] at h
      cases h
      exact ⟨0, rfl, rfl⟩
theorem setMany_rel {w : Wd} {L R : List Addr} {H : Hp} : ∀ (ps : List Nat) (ds : List D) (vs : List V) (ρ ρ' : Env) (σ : L2.St), σ.length = ρ.length → (∀ (i : Nat) (d : D), ρ[i]? = some (some d) → ∃ v, σ[i]? = some (some v) ∧ Rep w L R H v d) → RepL w L R H vs ds → setMany ρ ps ds = some ρ' →
    vs.length = ps.length ∧ (lset σ ps vs).length = ρ'.length ∧ ∀ (i : Nat) (d : D), ρ'[i]? = some (some d) → ∃ v, (lset σ ps vs)[i]? = some (some v) ∧ Rep w L R H v d
  | [], [], vs, ρ, ρ', σ, hl, hs, r, h => by
    cases r
    simp only [setMany, Option.some.injEq] at h
    subst h
    exact ⟨rfl, by simpa [lset] using hl, by simpa [lset] using hs⟩
  | [], _ :: _, _, _, _, _, _, _, _, h => by simp [setMany] at h
  | _ :: _, [], _, _, _, _, _, _, _, h => by simp [setMany] at h
  | p :: ps, d :: ds, vs, ρ, ρ', σ, hl, hs, r, h => by
    cases r with
    | cons r t =>
      rw [setMany] at h
      rename_i v vs
      have hs' : ∀ (i : Nat) (e : D), (ρ.set p (some d))[i]? = some (some e) → ∃ u, (σ.set p (some v))[i]? = some (some u) ∧ Rep w L R H u e := fun i e he => by
        by_cases hi : i = p
        · subst hi
          have hlt : i < ρ.length := by
            have := (List.getElem?_eq_some_iff.mp he).1
            simpa using this
          rw [List.getElem?_set_self hlt] at he
          cases he
          exact ⟨v, List.getElem?_set_self (by rw [hl]; exact hlt), r⟩
        · rw [List.getElem?_set_ne (Ne.symm hi)] at he ⊢
          exact hs i e he
      obtain ⟨h1, h2, h3⟩ := setMany_rel ps ds vs (ρ.set p (some d)) ρ' (σ.set p (some v)) (by simpa using hl) hs' t h
      exact ⟨by simpa using h1, by rw [lset]; exact h2, by rw [lset]; exact h3⟩
theorem zip_look {x : Str} {u : Value} {xs : List Str} {us : List Value} {k : Nat} : xs.Nodup → xs.length = us.length → xs[k]? = some x → us[k]? = some u → (xs.zip us).reverse.lookup x = some u := by
  intro nd hl h1 h2
  have hm : (x, u) ∈ xs.zip us := by
    have : (xs.zip us)[k]? = some (x, u) := by rw [List.getElem?_zip_eq_some]; exact ⟨h1, h2⟩
    exact List.mem_of_getElem? this
  have hm2 : (x, u) ∈ (xs.zip us).reverse := List.mem_reverse.mpr hm
  have nd2 : ((xs.zip us).reverse.map (·.1)).Nodup := by
    rw [List.map_reverse, List.map_fst_zip (Nat.le_of_eq hl)]
    exact (List.pairwise_reverse.mpr (nd.imp fun h => h.symm))
  exact look_nd nd2 hm2
where
  look_nd {x : Str} {u : Value} : ∀ {l : List (Str × Value)}, (l.map (·.1)).Nodup → (x, u) ∈ l → l.lookup x = some u
    | (y, v) :: l, nd, h => by
      simp only [List.map_cons, List.nodup_cons] at nd
      rcases List.mem_cons.mp h with e | h
      · cases e; simp
      · have ne : x ≠ y := fun e => nd.1 (e ▸ List.mem_map_of_mem (f := (·.1)) h)
        rw [List.lookup_cons, show (x == y) = false from by simpa using ne]
        exact look_nd nd.2 h
section
variable {X : Cx} {pins : List (Addr × Obj)} {σ : L2.St} {H HZ : Hp} {s s1 : Shared}
theorem LamP.has {N : List Str} {scope : Scope} {own : List (Str × Nat)} (L : LamP N X.env.scope scope own) (ok : X.Ok) : ∀ y ∈ scope.names, y.2 = .free → ∃ c, X.env.cells.lookup y.1 = some c := fun y hy e =>
  (L.free y hy e).elim (fun k => ok.has _ (.inl k)) fun k => ok.has _ (.inr k)
/-- the lambda's frame, its parameters bound -/
theorem lam_enter {A : Around} {outer : List PySem.Env} {E : XK} {scope : Scope} {f c' : Addr} {h₁ : Heap} {tk : Nat} {ps : List Nat} {names : List Str} {us : List Value} {vs : List V} (hN : X.N.Nodup) (I : Inv X pins σ H s) (L : LamP X.N X.env.scope scope (names.zip ps)) (hps : names.length = ps.length) (hnd : ps.Nodup) (r : Vals vs us) (hvl : vs.length = ps.length)
    (e0 : Env0 X.prog X.w X.K X.mg X.base A outer s1 HZ) (hd : A.handled = none)
    (un : Un (frs X.stack) [] H HZ s.heap s1.heap) (hns : h₁.Ns s1.heap.objs.size fun y => (names.zip us).reverse.lookup y) (kp : ∀ b o, s1.heap.get? b = some o → h₁.get? b = some o) :
    Inv (lamCx X A outer s1 HZ E scope f c') [] (lset σ ps vs) HZ { s1 with heap := h₁, toks := tk } := by
  have hfree := L.has I.ok
  have at_ : ∀ {k : Nat} {n : Str} {i : Nat}, names[k]? = some n → ps[k]? = some i → X.N[i]? = some n ∧ scope.names.lookup n = some .local := fun {k n i} h1 h2 => by
    have : (names.zip ps)[k]? = some (n, i) := by rw [List.getElem?_zip_eq_some]; exact ⟨h1, h2⟩
    exact L.ix _ (List.mem_of_getElem? this)
  have cm : ∀ {y c}, (cloFrom X.env.cells scope.names []).lookup y = some c → X.env.cells.lookup y = some c := fun {y c} e => by
    rcases cloFrom_mem (PySem.mem_of_lookup e) with hm | ⟨h1, h2⟩
    · exact absurd hm (by simp)
    · obtain ⟨c1, hc⟩ := hfree _ h1 rfl
      have hc : X.env.cells.lookup y = some c1 := hc
      rw [h2, hc]; rfl
  have look : ∀ {y}, scope.names.lookup y = some .free → ∃ c, (cloFrom X.env.cells scope.names []).lookup y = some c := fun {y} hl => mem_lookup (cloFrom_has (cells := X.env.cells) (acc := []) (PySem.mem_of_lookup hl))
  have cellK : ∀ {c : Addr} {v : Option Value}, H c = none → s.heap.IsCell c v → h₁.IsCell c v := fun {c v} n ⟨o, ho, hd⟩ => by
    obtain ⟨sl, q⟩ := un.any ho n (List.not_mem_nil)
    exact ⟨_, kp _ _ q, hd⟩
  have noA : ∀ b : Addr, b ∉ (lamCx X A outer s1 HZ E scope f c').ex := fun b z => List.not_mem_nil z
  have ndn : names.Nodup := by
    refine List.pairwise_iff_getElem.mpr fun i j hi hj hij e => ?_
    have hi' : i < ps.length := by rw [← hps]; exact hi
    have hj' : j < ps.length := by rw [← hps]; exact hj
    obtain ⟨a1, _⟩ := at_ (List.getElem?_eq_getElem hi) (List.getElem?_eq_getElem hi')
    obtain ⟨a2, _⟩ := at_ (List.getElem?_eq_getElem hj) (List.getElem?_eq_getElem hj')
    rw [e] at a1
    have q := (List.getElem_inj hnd).mp (nodup_ix hN a1 a2)
    omega
  refine ⟨⟨e0.mod, L.kind, rfl, rfl, Nat.le_refl _, fun y z c e1 e2 => I.ok.inj y z c (cm e1) (cm e2), fun y hy => ?_, fun y c z _ => ?_, fun _ => hd, Around.frames_deeper e0.frames, .inr ⟨rfl, rfl⟩, fun b z => absurd z (noA b), e0.bs, e0.bsz, fun b _ _ => noA b,
      fun b z => absurd z (noA b), e0.funs, e0.frf⟩,
    rfl, e0.bare, Un.kept kp, ⟨_, hns, fun i y v e1 e2 e3 => ?_⟩, fun y c e => ?_, e0.hok.fresh (Nat.le_refl _), fun y c e => ?_, fun q hq => absurd (show q ∈ ([] : List (Addr × Obj)) ++ [] from hq) (by simp), e0.hok.kept kp, by rw [lset_len]; exact I.len⟩
  · have hy : scope.names.lookup y = some .cell ∨ scope.names.lookup y = some .free := hy
    exact hy.elim (fun hy => absurd rfl (L.cell _ (PySem.mem_of_lookup hy))) look
  · exact absurd (show false = true from z) (by decide)
  · have e3 : Vis scope y := e3
    have e1 : X.N[i]? = some y := e1
    rcases e3 with k | k | k
    · rcases L.loc _ (PySem.mem_of_lookup k) rfl with z | z
      · obtain ⟨q, hq, hy⟩ := List.mem_map.mp z
        obtain ⟨b1, _⟩ := L.ix q hq
        have hy : q.1 = y := hy
        rw [hy] at b1
        have ei := nodup_ix hN e1 b1
        have hi : i ∈ ps := by rw [ei]; exact (List.of_mem_zip (show (q.1, q.2) ∈ names.zip ps from hq)).2
        obtain ⟨kk, h1, h2⟩ := lset_in ps vs σ hnd (fun p hp => by
          obtain ⟨k0, hk0⟩ := List.getElem?_of_mem hp
          have hlt : k0 < names.length := by rw [hps]; exact (List.getElem?_eq_some_iff.mp hk0).1
          have z := (at_ (List.getElem?_eq_getElem hlt) hk0).1
          rw [I.len]; exact (List.getElem?_eq_some_iff.mp z).1) hvl hi e2
        have hlt : kk < names.length := by rw [hps]; exact (List.getElem?_eq_some_iff.mp h1).1
        have z := (at_ (List.getElem?_eq_getElem hlt) h1).1
        rw [e1] at z
        obtain ⟨u, hu, ru⟩ := r.get h2
        exact ⟨u, ru, .inl ⟨k, zip_look ndn (by rw [hps, ← hvl, r.length]) (by rw [List.getElem?_eq_getElem hlt, Option.some.inj z]) hu⟩⟩
      · exact absurd (List.mem_of_getElem? e1) z
    · exact absurd rfl (L.cell _ (PySem.mem_of_lookup k))
    · have hi : i ∉ ps := fun hi => by
        obtain ⟨k0, hk0⟩ := List.getElem?_of_mem hi
        have hlt : k0 < names.length := by rw [hps]; exact (List.getElem?_eq_some_iff.mp hk0).1
        obtain ⟨z1, z2⟩ := at_ (List.getElem?_eq_getElem hlt) hk0
        rw [e1] at z1
        rw [← Option.some.inj z1, k] at z2
        cases z2
      rw [lset_out ps vs σ hi] at e2
      obtain ⟨m, hn, hl⟩ := I.loc
      have hvis : Vis X.env.scope y := (L.free _ (PySem.mem_of_lookup k) rfl).elim (fun k => .inr (.inl k)) (fun k => .inr (.inr k))
      obtain ⟨w', r', q⟩ := hl i y v e1 e2 hvis
      obtain ⟨c2, h2⟩ := look k
      refine ⟨w', r', .inr ⟨.inr k, c2, h2, ?_⟩⟩
      have c1 := cm h2
      rcases q with ⟨k', _⟩ | ⟨_, c3, e', z⟩
      · have k' : X.env.scope.names.lookup y = some .local := k'
        rcases L.free _ (PySem.mem_of_lookup k) rfl with k2 | k2 <;> rw [show X.env.scope.names.lookup y = _ from k2] at k' <;> cases k'
      · rw [c1] at e'
        cases e'
        exact cellK (I.freeC y _ c1) z
  · obtain ⟨w', z⟩ := I.cell y c (cm e)
    exact ⟨w', cellK (I.freeC y c (cm e)) z⟩
  · obtain ⟨v, o, ho, hd⟩ := I.cell y c (cm e)
    exact un.free c o ho (I.freeC y c (cm e)) (List.not_mem_nil)
end
/-! ### how arguments bind -/
theorem look_zip {x : Str} : ∀ {xs : List Str} {us : List Value}, xs.length ≤ us.length → x ∈ xs → ∃ u, (xs.zip us).lookup x = some u
  | y :: xs, [], hl, _ => by simp at hl
  | y :: xs, u :: us, hl, h => by
    simp only [List.zip_cons_cons, List.lookup_cons]
    by_cases e : x = y
    · subst e; simp
    · rw [show (x == y) = false from by simpa using e]
      exact look_zip (by simpa using hl) (by rcases List.mem_cons.mp h with z | z; exact absurd z e; exact z)
theorem look_app {x : Str} {l₁ l₂ : List (Str × Value)} : (l₁ ++ l₂).lookup x = (l₁.lookup x).or (l₂.lookup x) := by
  induction l₁ with
  | nil => simp
  | cons p l ih =>
    obtain ⟨k, v⟩ := p
    simp only [List.cons_append, List.lookup_cons]
    cases (x == k) <;> simp [ih]
theorem kwloop {names : List Str} {body : Str × Value → List (Str × Value) × List (Str × Value) → Sem (ForInStep (List (Str × Value) × List (Str × Value)))} (hb : ∀ q sl ex, q.1 ∈ names → sl.lookup q.1 = none → body q (sl, ex) = pure (.yield (sl ++ [q], ex))) :
    ∀ (kws slots ex : List (Str × Value)), (∀ q ∈ kws, q.1 ∈ names ∧ slots.lookup q.1 = none) → (kws.map (·.1)).Nodup → forIn kws (slots, ex) body = pure (slots ++ kws, ex)
  | [], slots, ex, _, _ => by simp
  | q :: kws, slots, ex, h, nd => by
    obtain ⟨h1, h2⟩ := h q (List.mem_cons_self ..)
    simp only [List.map_cons, List.nodup_cons] at nd
    rw [List.forIn_cons, hb q slots ex h1 h2, pure_bind]
    show forIn kws (slots ++ [q], ex) body = _
    rw [kwloop hb kws (slots ++ [q]) ex (fun r hr => ?_) nd.2]
    · simp
    · obtain ⟨a1, a2⟩ := h r (List.mem_cons_of_mem _ hr)
      refine ⟨a1, ?_⟩
      rw [look_app, a2]
      have ne : r.1 ≠ q.1 := fun e => nd.1 (e ▸ List.mem_map_of_mem (f := (·.1)) hr)
      obtain ⟨k, v⟩ := q
      simp only [Option.none_or, List.lookup_cons]
      rw [show (r.1 == k) = false from by simpa using ne]
      rfl
/-- arguments by position, by name; no defaults -/
theorem bind_kw (fd : FuncData) (names : List Str) (us : List Value) (kws : List (Str × Value)) (h1 : fd.params.posonlyargs = []) (h2 : fd.params.args.map (·.arg) = names) (h3 : fd.params.vararg = none) (h4 : fd.params.kwonlyargs = []) (h5 : fd.params.kwarg = none) (h6 : fd.defaults = .none) (hl : us.length ≤ names.length)
    (hk : ∀ q ∈ kws, q.1 ∈ names ∧ (names.zip us).lookup q.1 = none) (hnd : (kws.map (·.1)).Nodup) (hall : ∀ n ∈ names, ((names.zip us ++ kws).lookup n).isSome = true) :
    bindArgs fd ⟨us, kws⟩ = pure (names.filterMap fun n => ((names.zip us ++ kws).lookup n).map (n, ·)) := by
  have e0 : (seqItems? .none : Sem (Option (Array Value))) = pure none := rfl
  have e1 : names.filter (fun n => ((names.zip us ++ kws).lookup n).isNone) = [] := by
    rw [List.filter_eq_nil_iff]
    intro n hn
    have q := hall n hn
    cases e : (names.zip us ++ kws).lookup n with
    | none => rw [e] at q; cases q
    | some v => simp
  unfold bindArgs
  simp only [h1, h2, h3, h4, h5, h6, e0, List.map_nil, List.nil_append, List.append_nil, List.forIn_nil, pure_bind, Nat.not_lt.mpr hl, decide_false, Bool.false_and, Option.getD_none, List.length_nil, Nat.zero_sub, List.drop_nil, List.zip_nil_right]
  rw [kwloop (names := names) (fun q sl ex g1 g2 => by
    have c : names.contains q.1 = true := List.contains_iff_mem.mpr g1
    simp only [c, g2, Bool.true_or, if_true, Option.isSome_none, Bool.false_eq_true, if_false]) kws _ [] hk hnd]
  simp only [pure_bind, Nat.sub_zero, List.take_length, e1, List.isEmpty_nil, Bool.not_true, Bool.false_eq_true, if_false]
theorem fm_zip {l : List (Str × Value)} : ∀ (xs : List Str) (as : List Value), xs.length = as.length → (∀ (k : Nat) (x : Str) (a : Value), xs[k]? = some x → as[k]? = some a → l.lookup x = some a) → (xs.filterMap fun n => (l.lookup n).map (n, ·)) = xs.zip as
  | [], [], _, _ => rfl
  | [], _ :: _, h, _ => by simp at h
  | _ :: _, [], h, _ => by simp at h
  | x :: xs, a :: as, hl, h => by
    rw [List.filterMap_cons, h 0 x a rfl rfl]
    simp only [Option.map_some, List.zip_cons_cons]
    rw [fm_zip xs as (by simpa using hl) fun k x a h1 h2 => h (k + 1) x a (by simpa using h1) (by simpa using h2)]
theorem look_zip_nd {x : Str} {u : Value} : ∀ {xs : List Str} {us : List Value} {k : Nat}, xs.Nodup → xs[k]? = some x → us[k]? = some u → (xs.zip us).lookup x = some u
  | [], _, _, _, h, _ => by simp at h
  | _ :: _, [], _, _, _, h => by simp at h
  | y :: xs, v :: us, 0, nd, h1, h2 => by
    simp at h1 h2; subst h1 h2; simp
  | y :: xs, v :: us, k + 1, nd, h1, h2 => by
    have nd' := List.nodup_cons.mp nd
    have h1' : xs[k]? = some x := by simpa using h1
    have ne : x ≠ y := fun e => nd'.1 (e ▸ List.mem_of_getElem? h1')
    rw [List.zip_cons_cons, List.lookup_cons, show (x == y) = false from by simpa using ne]
    exact look_zip_nd nd'.2 h1' (by simpa using h2)
theorem look_none {x : Str} : ∀ {xs : List Str} {us : List Value}, x ∉ xs.take us.length → (xs.zip us).lookup x = none
  | [], _, _ => by simp
  | _ :: _, [], _ => by simp
  | y :: xs, v :: us, h => by
    simp only [List.length_cons, List.take_succ_cons, List.mem_cons, not_or] at h
    rw [List.zip_cons_cons, List.lookup_cons, show (x == y) = false from by simpa using h.1]
    exact look_none h.2
theorem allSome_get {α : Type} : ∀ {l : List (Option α)} {as : List α}, allSome l = some as → as.length = l.length ∧ ∀ k : Nat, l[k]? = (as[k]?).map some
  | [], as, h => by simp [allSome] at h; subst h; simp
  | none :: _, _, h => by simp [allSome] at h
  | some a :: l, as, h => by
    simp only [allSome, Option.map_eq_some_iff] at h
    obtain ⟨bs, h1, rfl⟩ := h
    obtain ⟨a1, a2⟩ := allSome_get h1
    exact ⟨by simp [a1], fun k => by cases k with | zero => simp | succ k => simpa using a2 k⟩
/-- a def's parameters, and the names that a call gives -/
def shapeB (ps ks : List Str) : Bool := decide ps.Nodup && (decide ks.Nodup && (decide (ks.length ≤ ps.length) && ((ks.all fun k => (ps.drop (ps.length - ks.length)).contains k) && (ps.drop (ps.length - ks.length)).all fun x => ks.contains x)))
theorem bindOk_of {K : PySem.W.Frag} {ck : Ck} {x : Str} {ps : List Str} {fd : FuncData} (h1 : fd.params.posonlyargs = []) (h2 : fd.params.args.map (·.arg) = ps) (h3 : fd.params.vararg = none) (h4 : fd.params.kwonlyargs = []) (h5 : fd.params.kwarg = none) (h6 : fd.defaults = .none)
    (hnd : ps.Nodup) (hc : ∀ q ∈ ck.shapes, q.1 = x → shapeB ps q.2 = true) : BindOk K ck x ps fd := fun ks hks s us ws as _ hwl hb => by
  have q : shapeB ps ks = true := by
    rcases hks with rfl | hks
    · unfold shapeB; simp [hnd]
    · exact hc _ hks rfl
  unfold shapeB at q
  simp only [Bool.and_eq_true, decide_eq_true_eq, List.all_eq_true, List.contains_iff_mem] at q
  obtain ⟨q1, q2, q3, q4, q5⟩ := q
  unfold bindP at hb
  split at hb
  · rename_i hlen
    rw [List.length_zip, hwl, Nat.min_self] at hlen
    have hu : us.length = ps.length - ks.length := by omega
    rw [Option.map_eq_some_iff] at hb
    obtain ⟨bs, hbs, rfl⟩ := hb
    obtain ⟨b1, b2⟩ := allSome_get hbs
    rw [List.length_map, List.length_drop] at b1
    have nd : ∀ y, y ∈ ps.drop us.length → y ∉ ps.take us.length := fun y hy hz => by
      rw [← List.take_append_drop us.length ps, List.nodup_append] at q1
      exact q1.2.2 y hz y hy rfl
    have lk : ∀ (k : Nat) (y : Str) (a : Value), ps[k]? = some y → (us ++ bs)[k]? = some a → (ps.zip us ++ ks.zip ws).lookup y = some a := fun k y a g1 g2 => by
      rw [look_app]
      by_cases hk : k < us.length
      · rw [List.getElem?_append_left hk] at g2
        rw [look_zip_nd q1 g1 g2]
        rfl
      · rw [List.getElem?_append_right (Nat.le_of_not_lt hk)] at g2
        have g3 : (ps.drop us.length)[k - us.length]? = some y := by
          rw [List.getElem?_drop, show us.length + (k - us.length) = k by omega]; exact g1
        rw [look_none (nd y (List.mem_of_getElem? g3)), Option.none_or]
        have z := b2 (k - us.length)
        rw [List.getElem?_map, g3, g2] at z
        exact Option.some.inj z
    refine BindsTo.of_eq ((bind_kw fd ps us (ks.zip ws) h1 h2 h3 h4 h5 h6 (by omega) (fun r hr => ?_) ?_ fun n hn => ?_).trans ?_)
    · have hm := (List.of_mem_zip (show (r.1, r.2) ∈ ks.zip ws from hr)).1
      have hd := q4 _ hm
      rw [← hu] at hd
      exact ⟨List.mem_of_mem_drop hd, look_none (nd _ hd)⟩
    · rw [List.map_fst_zip (Nat.le_of_eq hwl.symm)]
      exact q2
    · obtain ⟨k, hk⟩ := List.getElem?_of_mem hn
      have hlt := (List.getElem?_eq_some_iff.mp hk).1
      have hlt2 : k < (us ++ bs).length := by rw [List.length_append, b1]; omega
      rw [lk k n _ hk (List.getElem?_eq_getElem hlt2)]
      rfl
    · rw [fm_zip ps (us ++ bs) (by rw [List.length_append, b1]; omega) lk]
  · cases hb

/-! ### the lambda called, made -/
section
variable {X : Cx} {w : Wd} {ck : Ck} {cf : Cf} {W : WX} {p : Pl} (C : Cok X w ck cf W p)
include C
theorem c_callC (hfb : p.fb = none) {i : Nat} {es : Es} {y : Str} {e' : Expr} {r' : List Expr} {pp pos : Pos} (hN : p.N[i]? = some y) (hcl : p.clo = some i) (hv : visB p.sc y = true) (hd : (y == ("__debug__" : Str)) = false) (hcd : (y == ("__classdict__" : Str)) = false) (ha : PA X (e' :: r') (tEs w cf W es))
    (he : starEach (e' :: r') X.env = (false, eval e' X.env) :: starEach r' X.env) (hpl : (backTo pos (starEach r' X.env)).any (·.1) = false) : PE X (.Call (.Name y pp) (e' :: r') [] pos) (tE w cf W (.callC i es)) := by
  rw [C.clo] at hcl
  obtain ⟨⟨j, c⟩, hc, e⟩ := Option.map_eq_some_iff.mp hcl
  have e : j = i := e
  subst e
  refine (C.act hfb j c hc y e' r' _ pp pos (by rw [C.N]; exact hN) (vis_of C hv) hd hcd ha he hpl).imp fun σ H Q ⟨L, R, m, ρ, rel, hp⟩ => ?_
  refine ⟨(rel.cl j c hc).1, ?_⟩
  unfold ev at hp
  refine tR_bind (P := RepL w) rel hp (fun _ _ _ q => q) fun vs H1 L1 m1 ds g1 rel1 r1 q1 => ?_
  rw [hc] at q1
  simp only [if_true] at q1
  refine ⟨L1, R, m1, ds, rel1.st, (rel1.cl j c hc).2, r1, ?_⟩
  cases q : c ds m1 with
  | ok d m2 => rw [q] at q1; exact q1
  | exc x m2 => rw [q] at q1; exact q1.elim
  | bad => rw [q] at q1; exact q1.elim
omit C in
/-- x(..), in the def that got the lambda -/
theorem act_ok {F' : Fns} {k' : Nat} {g f c' : Addr} {Ng : List Str} {qg : Str} {sg : Scope} {cdv pm ctv : Value} {params : Arguments} {body : Expr} {scope : Scope} {k j : Nat} {ps : List Nat} {names : List Str} {b : E} {ρ : Env} {σ : L2.St} {H : Hp} {s : Shared} {pins : List (Addr × Obj)} (hNd : X.N.Nodup) (I : Inv X pins σ H s) (LP : LamP X.N X.env.scope scope (names.zip ps)) (hps : names.length = ps.length) (hnd : ps.Nodup)
    (hf : s.heap.get? f = some (PySem.W.kla_obj "<lambda>" (X.env.qual ++ "<lambda>") params body scope (cloFrom X.env.cells scope.names []) pm c' ctv)) (hfn : H f = none) (hfr : f ∉ frs X.stack)
    (hbind : ∀ us : List Value, us.length = names.length → bindArgs (PySem.W.kla_fn "<lambda>" (X.env.qual ++ "<lambda>") params body scope (cloFrom X.env.cells scope.names []) pm (.ref c') ctv) ⟨us, []⟩ = pure (names.zip us))
    (hcl : cf.cl = none) (hr : Room (k + 1) (X.A.deeper (envOfC qg sg s.heap.objs.size g cdv)))
    (hgd : X.A.guards = some []) (hbody : ∀ (A : Around) (outer : List PySem.Env) (s : Shared) (H : Hp), Room k (A.deeper (lamEnv X scope s.heap.objs.size f c')) → A.guards = some [] → PE (lamCx X A outer s H (fun _ _ _ => False) scope f c') body (tE w cf W0 b)) :
    ActOk (cxOf (L2.CX X.prog X.w) X.prog X.w X.K X.mg X.base Ng qg sg g cdv X.A X.stack s H fun _ _ _ => False) w ⟨F', some (j, fun as m => match setMany ρ ps as with
      | some ρ' => ev cf.F cf.cl b ρ' m
      | none => .bad), f, σ, ρ, c', X.env.qual ++ "<lambda>", k'⟩ j (fun as m => match setMany ρ ps as with
      | some ρ' => ev cf.F cf.cl b ρ' m
      | none => .bad) := by
  intro a e' r' tA pp pos hN hv hd hcd hA hst hpl
  refine ⟨fun pinsZ sZ σZ HZ Q IZ ⟨hs, ht⟩ => ?_⟩
  refine wpAny_Call_Name_kw (thn ((pe_var (pos := pp) (i := j) hN hv hd hcd).run pinsZ sZ σZ HZ (fun v H1 => v = .ref f ∧ H1 = HZ) IZ ⟨.ref f, hs, rfl, rfl⟩) fun u s1 ⟨v, H1, I1, r1, q1⟩ => ?_)
  obtain ⟨ev', eH⟩ := q1
  subst ev'
  rw [eH] at I1
  obtain rfl : u = Value.ref f := r1
  have there : ∀ {σ2 : L2.St} {H2 : Hp} {s2 : Shared}, Inv (cxOf (L2.CX X.prog X.w) X.prog X.w X.K X.mg X.base Ng qg sg g cdv X.A X.stack s H fun _ _ _ => False) pinsZ σ2 H2 s2 → s2.heap.get? f = some (PySem.W.kla_obj "<lambda>" (X.env.qual ++ "<lambda>") params body scope (cloFrom X.env.cells scope.names []) pm c' ctv) :=
    fun I2 => I2.base.keep f _ hf hfn hfr (fun z => nomatch (show f ∈ ([] : List Addr) from z))
  refine PySem.W.callWith_F ⟨_, _, _, _, there I1⟩ (thn (hA.run pos pinsZ s1 σZ HZ _ I1 ht) fun us s2 ⟨vs, H2, I2, r2, L, R, m, ds, S2, ce, rd, q2⟩ => ⟨⟨_, _, _, _, there I2⟩, ?_⟩) hst hpl
  have of2 := there I2
  have un : Un (frs X.stack) [] H H2 s.heap s2.heap := I2.base
  obtain ⟨⟨oc, vs', t, hoc, hdc, hvc⟩, _, _⟩ := I2.hok c' _ ce.code
  cases e0 : setMany ρ ps ds with
  | none =>
    simp only [e0] at q2
    exact q2.elim
  | some ρ' =>
    simp only [e0] at q2
    obtain ⟨hvl, hl2, hsl⟩ := setMany_rel ps ds vs ρ ρ' σ ce.len ce.sl rd e0
    have hul : us.length = names.length := by rw [← r2.length, hvl, hps]
    have rc : codeAny (model X.prog X.w) (X.A.deeper (envOfC qg sg s.heap.objs.size g cdv)) (.call (.ref f) ⟨us, []⟩) (CR (L2.CX X.prog X.w) (envOfC qg sg s.heap.objs.size g cdv :: X.stack) X.prog X.w H2 s2 Q fun _ _ _ => False) s2 := by
      refine PySem.W.kla_callFunE hr.depth of2 rfl LP.co LP.gen rfl ⟨c', oc, vs', t, rfl, hoc, hdc, hvc⟩ ?_
      rw [hbind us hul]
      refine wpAny_pure (wpAny_newFunctionEnv (fun y hy => LP.cell y hy) (fun y hy => ?_) (fun h₁ hns hsb => ⟨I2.nolimit.fresh _ hsb, ?_⟩) LP.kind)
      · obtain ⟨kk, hkk⟩ := List.getElem?_of_mem (List.of_mem_zip (show (y.1, y.2) ∈ names.zip us from hy)).1
        have hlt : kk < ps.length := by rw [← hps]; exact (List.getElem?_eq_some_iff.mp hkk).1
        have z : (names.zip ps)[kk]? = some (y.1, ps[kk]) := by rw [List.getElem?_zip_eq_some]; exact ⟨hkk, List.getElem?_eq_getElem hlt⟩
        exact (LP.ix _ (List.mem_of_getElem? z)).2
      · show codeAny _ _ (.expr body (lamEnv X scope s2.heap.objs.size f c')) _ _
        have kp : ∀ b o, s2.heap.get? b = some o → h₁.get? b = some o := fun b o e => hsb.extBut b o (Nat.ne_of_lt (Heap.lt_size e)) (Heap.get?_push_of_some _ e)
        have J := lam_enter (E := fun _ _ _ => False) (A := X.A.deeper (envOfC qg sg s.heap.objs.size g cdv)) (outer := envOfC qg sg s.heap.objs.size g cdv :: X.stack) (c' := c') (f := f) (tk := s2.toks + (names.zip us).length) hNd I LP hps hnd r2 hvl I2.env0 hr.hd un hns kp
        have rel : Rel w cf L R m ρ' (lset σ ps vs) H2 := ⟨S2, hl2, hsl, fun j c h => by rw [hcl] at h; cases h⟩
        refine PySem.W.kla_codeExpr (wpAny_mono ((hbody _ _ s2 H2 (hr.deeper _) hgd).run [] _ _ H2 Q J ⟨L, R, m, ρ', rel, ?_⟩) (fun v s' hq => ?_) fun e s' hq => hq)
        · exact Post.of_nox q2
        · obtain ⟨w', H', J', rv, q⟩ := hq
          exact ⟨w', H', J'.os, J'.bare, J'.base, J'.hok, rv, q⟩
    refine wpAny_call (codeAny_mono rc fun r s' hq => ?_)
    cases r with
    | error e =>
      obtain ⟨_, _, _, _, _, _, _, _, _, _, _, _, z⟩ := (show L2.CX _ _ _ _ _ _ _ _ from hq)
      exact z.elim
    | ok fl =>
      cases fl with
      | ret u => exact I2.after hq
      | next => exact False.elim hq
      | brk => exact False.elim hq
      | cont => exact False.elim hq
theorem c_callL (htab : p.tab = true) (hclo : p.clo = none) {x : Str} {e b : E} {ps : List Nat} {names : List Str} {a' body : Expr} {args : Arguments} {scope : Scope} {lpos pp pos : Pos} (hg : glB p.sc x = true) (he : PE X a' (tE w cf W e)) (hpa : okParams names args = true) (hlb : lamB p.N p.sc scope (names.zip ps) = true) (hps : names.length = ps.length) (hnd : ps.Nodup) (hsh : (x, []) ∈ ck.shapes)
    (hst : starEach [a', .Lambda args body scope lpos] X.env = (false, eval a' X.env) :: starEach [.Lambda args body scope lpos] X.env)
    (hbody : ∀ (A : Around) (outer : List PySem.Env) (s : Shared) (H : Hp) (f c' : Addr), Room cf.k (A.deeper (lamEnv X scope s.heap.objs.size f c')) → A.guards = some [] → PE (lamCx X A outer s H (fun _ _ _ => False) scope f c') body (tE w cf W0 b)) :
    PE X (.Call (.Name x pp) [a', .Lambda args body scope lpos] [] pos) (tE w cf W (.callL x e ps b)) := by
  obtain ⟨g1, g2⟩ := gl_of C hg
  obtain ⟨xs, exs⟩ := C.shp x [] hsh
  obtain ⟨hrm, hlam⟩ := C.lam htab
  obtain ⟨g, hm, hk, hL⟩ := hlam x xs exs
  obtain ⟨c, P, TB, hcode, hmT, hu⟩ := C.tabs htab
  have hcl : cf.cl = none := by
    have z := C.clo
    rw [hclo] at z
    cases q : cf.cl with
    | none => rfl
    | some v => rw [q] at z; cases z
  have LP : LamP X.N X.env.scope scope (names.zip ps) := by rw [C.N, C.sc]; exact lamP_by hlb
  unfold okParams at hpa
  simp only [Bool.and_eq_true, List.isEmpty_iff, decide_eq_true_eq, Option.isNone_iff_eq_none] at hpa
  obtain ⟨⟨⟨⟨⟨⟨p1, p2⟩, p3⟩, p4⟩, p5⟩, p6⟩, p7⟩ := hpa
  have ndn : names.Nodup := by
    refine List.pairwise_iff_getElem.mpr fun i j hi hj hij e => ?_
    have at_ : ∀ {k : Nat} (hk : k < names.length), X.N[ps[k]'(by rw [← hps]; exact hk)]? = some names[k] := fun {k} hk => by
      have : (names.zip ps)[k]? = some (names[k], ps[k]'(by rw [← hps]; exact hk)) := by rw [List.getElem?_zip_eq_some]; exact ⟨List.getElem?_eq_getElem hk, List.getElem?_eq_getElem _⟩
      exact (LP.ix _ (List.mem_of_getElem? this)).1
    have a1 := at_ hi
    rw [e] at a1
    have q := (List.getElem_inj hnd).mp (nodup_ix C.nd a1 (at_ hj))
    omega
  refine ⟨fun pins s σ H Q I ⟨L, R, m, ρ, rel, hp⟩ => ?_⟩
  unfold ev at hp
  refine wpAny_Call_Name_kw (ld_glob I g1 hm ?_ g2)
  refine PySem.W.callWith_K (h₀ := X.base) I.ok.mod.kin hk ?_ hst (by rfl)
  rw [hst]
  show wpAny _ _ (spliced ((false, eval a' X.env) :: (false, eval (.Lambda args body scope lpos) X.env) :: [])) _ _ s
  refine Calls.spliced_cons (thn (he.run pins s σ H _ I (tR_bind (P := Rep w) rel hp (fun _ _ _ q => q)
    (Q1 := fun v H1 => ∃ L1 m1 d, Rel w cf L1 R m1 ρ σ H1 ∧ Rep w L1 R H1 v d ∧ Post w (Rep w) L1 R H1 (cf.F.lam x [d] (fun as m => match setMany ρ ps as with
      | some ρ' => ev cf.F cf.cl b ρ' m
      | none => .bad) m1).nox Q fun c d H' => W c d σ H') fun v H1 L1 m1 d g1 rel1 r1 q1 => ⟨L1, m1, d, rel1, r1, q1⟩)) fun u s1 ⟨v, H1, I1, rv, L1, m1, d, rel1, r1, q1⟩ => ?_)
  refine Calls.spliced_cons (LamX.lam_make2 I1 TB hcode hmT hu rel1.st.tabs ?_ (LP.has I1.ok) fun f c' pm' ctv H2 s2 I2 eN T2 hf hfn hfr hco => ?_)
  · obtain ⟨po, ag, va, ko, kd, kw, df⟩ := args
    have p5 : kd = [] := p5
    have p7 : df = [] := p7
    subst p5 p7
    rfl
  refine Calls.spliced_nil ⟨I2.kIn, ?_⟩
  have gN : Grow L1 H1 L1 H2 := ⟨⟨[], by simp, by simp⟩, fun a o ha _ hn => eN a o ha hn⟩
  have S2 : StOk w L1 R m1 H2 := rel1.st.step gN (fun a ha => by
    obtain ⟨ys, z⟩ := rel1.st.at ha
    rw [z]; exact eN a _ z fun _ z => by cases z) T2
  have rel2 := rel1.later gN S2
  have q2 : Post w (Rep w) L1 R H2 (cf.F.lam x [d] (fun as m => match setMany ρ ps as with
      | some ρ' => ev cf.F cf.cl b ρ' m
      | none => .bad) m1) Q fun _ _ _ => False := by
    revert q1
    cases (cf.F.lam x [d] (fun as m => match setMany ρ ps as with
      | some ρ' => ev cf.F cf.cl b ρ' m
      | none => .bad) m1) with
    | ok y m2 => exact fun q1 => q1.later gN
    | exc y m2 => exact fun q1 => q1.elim
    | bad => exact fun q1 => q1
  have hbnd : ∀ us : List Value, us.length = names.length → bindArgs (PySem.W.kla_fn "<lambda>" (X.env.qual ++ "<lambda>") args body scope (cloFrom X.env.cells scope.names []) pm' (.ref c') ctv) ⟨us, []⟩ = pure (names.zip us) := fun us hul => by
    refine (bind_kw _ names us [] p1 p2 p3 p4 p6 rfl (Nat.le_of_eq hul) (by simp) (by simp) fun n hn => ?_).trans ?_
    · obtain ⟨k, hk⟩ := List.getElem?_of_mem hn
      have hlt : k < us.length := by rw [hul]; exact (List.getElem?_eq_some_iff.mp hk).1
      rw [List.append_nil, look_zip_nd ndn hk (List.getElem?_eq_getElem hlt)]
      rfl
    · rw [List.append_nil, fm_zip names us hul.symm fun k y a h1 h2 => look_zip_nd ndn h1 h2]
  have rc := hL pins σ H2 s2 [u] [v] L1 R m1 [d] f (fun as m => match setMany ρ ps as with
      | some ρ' => ev cf.F cf.cl b ρ' m
      | none => .bad) σ ρ c' (X.env.qual ++ "<lambda>") Q I2 (.cons rv .nil) S2 (.cons (r1.mono rel1.st gN) .nil) ⟨rel2.len, rel2.sl, hco⟩ (fun F' k' Ng qg sg cdv hr => act_ok (X := X) C.nd I2 LP hps hnd hf hfn hfr (fun us hul => hbnd us hul) hcl hr C.gd (fun A outer s H hr2 hg2 => hbody A outer s H f c' hr2 hg2)) q2
  · refine wpAny_call (codeAny_mono rc fun r s3 hq => ?_)
    cases r with
    | error e =>
      obtain ⟨_, _, _, _, _, _, _, _, _, _, _, _, z⟩ := (show L2.CX _ _ _ _ _ _ _ _ from hq)
      exact z.elim
    | ok fl =>
      cases fl with
      | ret u => exact I2.after hq
      | next => exact False.elim hq
      | brk => exact False.elim hq
      | cont => exact False.elim hq
end
end PM

end

section
set_option maxHeartbeats 4000000
/-! PM, part O: what the checker has looked at keeps what the evaluator says. -/
namespace PM
open PySem PySem.Spec PyProof.Rows L2
open LamX (lamCx lamEnv)
section
variable {ck : Ck}
theorem ok_star {e : E} {p : Pl} {e' : Expr} (h : okE ck e p e' = true) (r : List Expr) (env : PySem.Env) : starEach (e' :: r) env = (false, eval e' env) :: starEach r env := by
  cases e' with
  | Starred _ _ => cases e <;> exact Bool.noConfusion (show false = true from h)
  | _ => rfl
theorem ok_fold {e : E} {p : Pl} {e' : Expr} (h : okE ck e p e' = true) (env : PySem.Env) (x : Value) : foldedSetIterable e' env x = pure x := by
  cases e' with
  | Set _ _ _ => cases e <;> exact Bool.noConfusion (show false = true from h)
  | _ => rfl
theorem ok_ix {e : E} {p : Pl} {e' : Expr} (h : okE ck e p e' = true) : PlainIx e' := by
  cases e' with
  | Slice _ _ _ _ => cases e <;> exact Bool.noConfusion (show false = true from h)
  | _ => intro o i; rfl
theorem ok_base {e : E} {p : Pl} {e' : Expr} (h : okE ck e p e' = true) (env : PySem.Env) (a : Str) : attributeBase e' a env (eval e' env) = eval e' env := by
  cases e' with
  | Call f as kws pos =>
    cases f with
    | Name id pp =>
      cases as with
      | nil =>
        cases kws with
        | nil => cases e <;> exact Bool.noConfusion (show false = true from h)
        | cons _ _ => rfl
      | cons _ _ => cases kws <;> rfl
    | _ => cases as <;> cases kws <;> rfl
  | _ => rfl
theorem oks_plain : ∀ {es : Es} {p : Pl} {es' : List Expr}, okEs ck es p es' = true → ∀ (env : PySem.Env) (pos : Pos), (backTo pos (starEach es' env)).any (·.1) = false
  | .nil, p, es', h, env, pos => by
    simp only [okEs, List.isEmpty_iff] at h
    subst h; rfl
  | .cons e r, p, [], h, env, pos => by simp [okEs] at h
  | .cons e r, p, e' :: r', h, env, pos => by
    simp only [okEs, Bool.and_eq_true] at h
    rw [ok_star h.1]
    show (false || (backTo pos (starEach r' env)).any (·.1)) = false
    rw [oks_plain h.2 env pos]; rfl
def esLen : Es → Nat
  | .nil => 0
  | .cons _ r => esLen r + 1
def tsLen : Tgs → Nat
  | .nil => 0
  | .cons _ r => tsLen r + 1
theorem oks_len : ∀ {es : Es} {p : Pl} {es' : List Expr}, okEs ck es p es' = true → esLen es = es'.length
  | .nil, p, es', h => by
    simp only [okEs, List.isEmpty_iff] at h
    subst h; rfl
  | .cons e r, p, [], h => by simp [okEs] at h
  | .cons e r, p, e' :: r', h => by
    simp only [okEs, Bool.and_eq_true] at h
    simp [esLen, oks_len h.2]
theorem okks_len : ∀ {es : Es} {p : Pl} {ks : List Str} {kws : List Keyword}, okKs ck es p ks kws = true → esLen es = ks.length
  | .nil, p, ks, kws, h => by
    simp only [okKs, Bool.and_eq_true, List.isEmpty_iff] at h
    rw [h.1]; rfl
  | .cons e r, p, ks, kws, h => by
    unfold okKs at h
    split at h
    · simp only [Bool.and_eq_true] at h
      simp [esLen, okks_len h.2.2]
    · cases h
theorem okks_kw : ∀ {es : Es} {p : Pl} {ks : List Str} {kws : List Keyword}, okKs ck es p ks kws = true → ∀ (env : PySem.Env) (pos : Pos), (backToKw pos (keywordEach kws env)).all (·.1.isSome) = true ∧ (backToKw pos (keywordEach kws env)).filterMap (·.1) = ks ∧ (backToKw pos (keywordEach kws env)).any (·.1.isNone) = false
  | .nil, p, ks, kws, h, env, pos => by
    simp only [okKs, Bool.and_eq_true, List.isEmpty_iff] at h
    rw [h.1, h.2]; exact ⟨rfl, rfl, rfl⟩
  | .cons e r, p, ks, kws, h, env, pos => by
    unfold okKs at h
    split at h
    · simp only [Bool.and_eq_true, decide_eq_true_eq] at h
      obtain ⟨h1, h2, h3⟩ := h
      obtain ⟨a1, a2, a3⟩ := okks_kw h3 env pos
      subst h1
      refine ⟨?_, ?_, ?_⟩
      · show (true && (backToKw pos (keywordEach _ env)).all (·.1.isSome)) = true
        rw [a1]; rfl
      · show _ :: (backToKw pos (keywordEach _ env)).filterMap (·.1) = _
        rw [a2]
      · show (false || (backToKw pos (keywordEach _ env)).any (·.1.isNone)) = false
        rw [a3]; rfl
    · cases h
theorem evs_len {F : Fns} {cl : Option (Nat × Clo)} : ∀ {es : Es} {ρ : Env} {m : M} {ds : List D} {m' : M}, evs F cl es ρ m = .ok ds m' → ds.length = esLen es
  | .nil, ρ, m, ds, m', h => by simp only [evs] at h; cases h; rfl
  | .cons e r, ρ, m, ds, m', h => by
    simp only [evs] at h
    obtain ⟨d, m1, _, h⟩ := Res.bind_eq h
    obtain ⟨ds', m2, h2, h⟩ := Res.bind_eq h
    cases h
    simp [esLen, evs_len h2]
theorem bts_len {F : Fns} {cl : Option (Nat × Clo)} : ∀ {ts : Tgs} {ds : List D} {ρ : Env} {m : M} {ρ' : Env} {m' : M}, bts F cl ts ds ρ m = .ok ρ' m' → ds.length = tsLen ts
  | .nil, [], ρ, m, ρ', m', h => rfl
  | .nil, _ :: _, ρ, m, ρ', m', h => by simp [bts] at h
  | .cons t r, [], ρ, m, ρ', m', h => by simp [bts] at h
  | .cons t r, d :: ds, ρ, m, ρ', m', h => by
    simp only [bts] at h
    obtain ⟨ρ1, m1, _, h⟩ := Res.bind_eq h
    simp [tsLen, bts_len h]
theorem okt_star {t : Tg} {p : Pl} {t' : Expr} (h : okT ck t p t' = true) (r : List Expr) (env : PySem.Env) : assignEach (t' :: r) env = (false, assign t' env) :: assignEach r env := by
  cases t' with
  | Starred _ _ => cases t <;> simp [okT] at h
  | _ => rfl
theorem okts_all : ∀ {ts : Tgs} {p : Pl} {ts' : List Expr}, okTs ck ts p ts' = true → ∀ env : PySem.Env, (assignEach ts' env).length = ts'.length ∧ (assignEach ts' env).findIdx? (·.1) = none ∧ tsLen ts = ts'.length
  | .nil, p, ts', h, env => by
    simp only [okTs, List.isEmpty_iff] at h
    subst h; exact ⟨rfl, rfl, rfl⟩
  | .cons t r, p, [], h, env => by simp [okTs] at h
  | .cons t r, p, t' :: r', h, env => by
    simp only [okTs, Bool.and_eq_true] at h
    obtain ⟨a1, a2, a3⟩ := okts_all h.2 env
    rw [okt_star h.1]
    refine ⟨by simp [a1], ?_, by simp [tsLen, a3]⟩
    rw [List.findIdx?_cons]
    simp only [Bool.false_eq_true, if_false, a2, Option.map_none]
end
section
variable {w : Wd} {ck : Ck} {cf : Cf}
theorem blk_cok {X : Cx} {W : WX} {p : Pl} (C : Cok X w ck cf W p) (s : Shared) (H : Hp) (scope : Scope) (B : Addr) (cl : List (Str × Addr)) (fp : List Addr) : Cok (X.blk s H scope (compEnvC scope cl B X.env) fp) w ck cf W0 (p.blk scope) where
  K := C.K
  N := C.N
  sc := by
    show relS scope X.env.scope = relS scope p.sc
    rw [C.sc]
  calm := C.calm
  nd := C.nd
  u := C.u
  fn := fun x h => by
    unfold Pl.own at h
    simp only [Bool.or_eq_true, Bool.and_eq_true, decide_eq_true_eq] at h
    rcases h with h | ⟨_, h⟩
    · refine .inr ?_
      show (relS scope X.env.scope).names.lookup x = _
      rw [C.sc]; exact h
    · exact .inl h
  free := C.free
  gls := C.gls
  rm := C.rm
  gd := C.gd
  fok := C.fok
  fno := C.fno
  shp := C.shp
  tk := LamX.takes0
  tabs := fun h => by cases h
  lam := fun h => by cases h
  po := fun h => by cases h
  clo := C.clo
  act := fun h => by cases h
theorem lam_cok {X : Cx} {W : WX} {p : Pl} (C : Cok X w ck cf W p) (hclo : p.clo = none) {own : List (Str × Nat)} {scope : Scope} (L : LamP p.N p.sc scope own) (A : Around) (outer : List PySem.Env) (s : Shared) (H : Hp) (f c' : Addr) (hr : Room cf.k (A.deeper (lamEnv X scope s.heap.objs.size f c'))) (hg : A.guards = some []) :
    Cok (lamCx X A outer s H (fun _ _ _ => False) scope f c') w ck cf W0 (p.lam scope) where
  K := C.K
  N := C.N
  sc := rfl
  calm := rfl
  nd := C.nd
  u := by have := hr.un; show (A.deeper (lamEnv X scope s.heap.objs.size f c')).units + 100 < cLine; omega
  fn := fun x h => by
    unfold Pl.own at h
    simp only [Bool.or_eq_true, Bool.and_eq_true, decide_eq_true_eq] at h
    rcases h with h | ⟨h, _⟩
    · exact .inr h
    · exact absurd rfl (L.cell _ (PySem.mem_of_lookup h))
  free := C.free
  gls := C.gls
  rm := hr
  gd := hg
  fok := C.fok
  fno := C.fno
  shp := C.shp
  tk := LamX.takes0
  tabs := fun h => by cases h
  lam := fun h => by cases h
  po := fun h => by cases h
  clo := by rw [← C.clo, hclo]; rfl
  act := fun h => by cases h
end
end PM

end

section
set_option maxHeartbeats 8000000
/-! PM, part P: the checker's word, expression by expression. -/
namespace PM
open PySem PySem.Spec PyProof.Rows L2
open LamX (lamCx lamEnv)
/-- the built-ins called, and sorted(set(..)) -/
structure Kit (w : Wd) : Prop where
  mm : ∀ (X : Cx), X.K = w.K → X.calm = true → X.A.units + 100 < cLine → ∀ (mx : Bool), Gl X (if mx then ("max" : Str) else "min") → X.mg (if mx then ("max" : Str) else "min") = none → ∀ (cf : Cf) (W : WX) (e d : E) (a' d' : Expr) (pp kp pos : Pos), PE X a' (tE w cf W e) → PE X d' (tE w cf W d) → starEach [a'] X.env = (false, eval a' X.env) :: starEach [] X.env →
    PE X (.Call (.Name (if mx then ("max" : Str) else "min") pp) [a'] [⟨some ("default" : Str), d', kp⟩] pos) (tE w cf W (.mm mx e d))
  prim : ∀ (X : Cx), X.K = w.K → X.calm = true → X.A.units + 100 < cLine → X.A.guards = some [] → ∀ (q : Pr) (c : Bool), CallR X q.val (rp w fun ds m => (prim q ds m).out c m)
  sset : ∀ (X : Cx), X.K = w.K → X.calm = true → X.A.units + 100 < cLine → Gl X ("sorted" : Str) → X.mg "sorted" = none → Gl X ("set" : Str) → X.mg "set" = none → ∀ (cf : Cf) (W : WX) (c : Bool) (e : E) (a' : Expr) (p1 p2 p3 p4 : Pos), PE X a' (tE w cf W e) → starEach [a'] X.env = [(false, eval a' X.env)] → PE X (.Call (.Name "sorted" p1) [.Call (.Name "set" p2) [a'] [] p3] [] p4) (tE w cf W (.sset c e))
theorem oki_fold {ck : Ck} {it : It} {p : Pl} {tg e' : Expr} (h : okI ck it p tg e' = true) (env : PySem.Env) (x : Value) : foldedSetIterable e' env x = pure x := by
  cases it with
  | seq e => unfold okI at h; exact ok_fold h env x
  | _ =>
    cases e' with
    | Set _ _ _ => simp [okI] at h
    | _ => rfl
section
variable {w : Wd} {ck : Ck} {cf : Cf}
/-- a value; a test; a test of a chain of and, or -/
def Snd (X : Cx) (w : Wd) (cf : Cf) (W : WX) (e : E) (e' : Expr) : Prop :=
  PE X e' (tE w cf W e) ∧ (tOk e = true → PT X e' (tT w cf W e) ∧ ∀ (op : PySem.BoolOp) (vs : List Expr) (pos : Pos), e' = .BoolOp op vs pos → PW X e' (tT w cf W e))
theorem Snd.val {X : Cx} {W : WX} {p : Pl} {e : E} {e' : Expr} (C : Cok X w ck cf W p) (h : PE X e' (tE w cf W e)) (he : ∀ whole, isTrue e' X.env whole = (do let v ← whole; standAt e'.pos; holding [v] (truthy v))) (nb : ∀ (op : PySem.BoolOp) (vs : List Expr) (pos : Pos), e' ≠ .BoolOp op vs pos) : Snd X w cf W e e' :=
  ⟨h, fun _ => ⟨t_val C h he, fun op vs pos q => absurd q (nb op vs pos)⟩⟩
theorem chain_t {X : Cx} {W : WX} {p : Pl} (C : Cok X w ck cf W p) {o1 o2 : COp} {a b c : E} {a' b' c' : Expr} {pos : Pos} (hm : behindInMarks (copOf o2) c' = false) (ha : PE X a' (tE w cf W a)) (hb : PE X b' (tE w cf W b)) (hc : PE X c' (tE w cf W c)) : PT X (.Compare a' [copOf o1, copOf o2] [b', c'] pos) (tT w cf W (.chain o1 o2 a b c)) := by
  have hu : X.A.units + 65 < cLine := by have := C.u; omega
  refine (pt_chain (op_cop C.K hu o1) (op_cop C.K hu o2) ha hb hc hm).imp fun σ H Q ⟨L, R, m, ρ, rel, hp⟩ => ?_
  simp only [ev, Res.bind_assoc] at hp
  refine tR_bind (P := Rep w) rel hp (fun _ _ _ q => q) fun x H1 L1 m1 dx g1 rel1 r1 q1 => ?_
  refine tR_bind (P := Rep w) rel1 q1 (fun _ _ _ q => q) fun y H2 L2 m2 dy g2 rel2 r2 q2 => ?_
  cases e : cop o1 dx dy m2 with
  | none => rw [e] at q2; exact q2.elim
  | some k =>
    rw [e] at q2
    simp only [opt_some, Res.bind_ok] at q2
    refine ⟨L2, R, m2, dx, dy, k, rel2.st, r1.mono rel1.st g2, r2, e, k, rfl, ?_⟩
    cases k with
    | true =>
      rw [if_pos rfl]
      rw [if_pos rfl, Res.bind_assoc] at q2
      refine tR_bind (P := Rep w) rel2 q2 (fun _ _ _ q => q) fun z H3 L3 m3 dz g3 rel3 r3 q3 => ?_
      cases e2 : cop o2 dy dz m3 with
      | none => rw [e2] at q3; exact q3.elim
      | some j =>
        rw [e2] at q3
        exact ⟨L3, R, m3, dy, dz, j, rel3.st, r2.mono rel2.st g3, r3, e2, j, rfl, q3 L3 j H3 (Grow.refl _ _) rel3.st rfl⟩
    | false =>
      rw [if_neg (by decide)]
      rw [if_neg (by decide)] at q2
      exact ⟨false, rfl, q2 L2 false H2 (Grow.refl _ _) rel2.st rfl⟩
mutual
theorem se (K : Kit w) :
    ∀ (e : E) {X : Cx} {W : WX} {p : Pl} {e' : Expr}, Cok X w ck cf W p → okE ck e p e' = true → Snd X w cf W e e'
  | .v i, X, W, p, e', C, h => by
    unfold okE at h; split at h
    · simp only [Bool.and_eq_true] at h
      exact .val C (c_v C h.1 h.2) (fun _ => rfl) (fun _ _ _ z => by cases z)
    · cases h
  | .c d, X, W, p, e', C, h => by
    unfold okE at h; split at h
    · exact .val C (c_c C h) (fun _ => rfl) (fun _ _ _ z => by cases z)
    · cases h
  | .g x d, X, W, p, e', C, h => by
    unfold okE at h; split at h
    · simp only [Bool.and_eq_true, decide_eq_true_eq] at h
      obtain ⟨rfl, h1, h2⟩ := h
      exact .val C (c_g C h1 (by simpa using h2)) (fun _ => rfl) (fun _ _ _ z => by cases z)
    · cases h
  | .f x, X, W, p, e', C, h => by
    unfold okE at h; split at h
    · simp only [Bool.and_eq_true, decide_eq_true_eq] at h
      obtain ⟨rfl, h1, h3⟩ := h
      obtain ⟨q, hq, e⟩ := List.any_eq_true.mp h3
      rw [of_decide_eq_true e] at hq
      exact .val C (c_f C h1 hq) (fun _ => rfl) (fun _ _ _ z => by cases z)
    · cases h
  | .t x n, X, W, p, e', C, h => by
    unfold okE at h; split at h
    · simp only [Bool.and_eq_true, decide_eq_true_eq, Bool.not_eq_true'] at h
      obtain ⟨rfl, h1, h2, h3, h4⟩ := h
      exact .val C (c_t C h1 h2 h3 h4) (fun _ => rfl) (fun _ _ _ z => by cases z)
    · cases h
  | .tup es, X, W, p, e', C, h => by
    unfold okE at h; split at h
    · exact .val C (c_tup C (ses K es C h)) (fun _ => rfl) (fun _ _ _ z => by cases z)
    · cases h
  | .lst c es, X, W, p, e', C, h => by
    unfold okE at h; split at h
    · exact .val C (c_lst C (ses K es C h)) (fun _ => rfl) (fun _ _ _ z => by cases z)
    · cases h
  | .bin op c a b, X, W, p, e', C, h => by
    unfold okE at h; split at h
    · simp only [Bool.and_eq_true, decide_eq_true_eq] at h
      obtain ⟨rfl, h1, h2⟩ := h
      exact .val C (c_bin C (se K a C h1).1 (se K b C h2).1) (fun _ => rfl) (fun _ _ _ z => by cases z)
    · cases h
  | .neg a, X, W, p, e', C, h => by
    unfold okE at h; split at h
    · exact .val C (c_neg C (se K a C h).1) (fun _ => rfl) (fun _ _ _ z => by cases z)
    · cases h
  | .not a, X, W, p, e', C, h => by
    unfold okE at h; split at h
    · have q := se K a C h
      exact ⟨c_not C q.1, fun ht => ⟨t_not C (q.2 ht).1, fun _ _ _ z => by cases z⟩⟩
    · cases h
  | .cmp op a b, X, W, p, e', C, h => by
    unfold okE at h; split at h
    · simp only [Bool.and_eq_true, decide_eq_true_eq, Bool.not_eq_true'] at h
      obtain ⟨rfl, h1, h2, h3⟩ := h
      exact ⟨c_cmp C h1 (se K a C h2).1 (se K b C h3).1, fun _ => ⟨t_cmp C h1 (se K a C h2).1 (se K b C h3).1, fun _ _ _ z => by cases z⟩⟩
    · cases h
  | .chain o1 o2 a b c, X, W, p, e', C, h => by
    unfold okE at h; split at h
    · simp only [Bool.and_eq_true, decide_eq_true_eq, Bool.not_eq_true'] at h
      obtain ⟨rfl, rfl, h1, h2, h3, h4⟩ := h
      exact ⟨c_chain C h1 (se K a C h2).1 (se K b C h3).1 (se K c C h4).1, fun _ => ⟨chain_t C h1 (se K a C h2).1 (se K b C h3).1 (se K c C h4).1, fun _ _ _ z => by cases z⟩⟩
    · cases h
  | .and a b, X, W, p, e', C, h => by
    unfold okE at h; split at h
    · rename_i a' b' pos
      simp only [Bool.and_eq_true] at h
      have qa := se K a C h.1
      have qb := se K b C h.2
      refine ⟨c_and C qa.1 (pe_one qb.1), fun ht => ?_⟩
      simp only [tOk, Bool.and_eq_true] at ht
      have z := w_and C (qa.2 ht.1).1 (pw_and1 (pos := pos) (qb.2 ht.2).1)
      exact ⟨z.pt, fun _ _ _ _ => z⟩
    · rename_i a' b' c' r pos
      simp only [Bool.and_eq_true] at h
      have qa := se K a C h.1
      have qb := se K b C h.2
      refine ⟨c_and C qa.1 qb.1, fun ht => ?_⟩
      simp only [tOk, Bool.and_eq_true] at ht
      have z := w_and C (qa.2 ht.1).1 ((qb.2 ht.2).2 _ _ _ rfl)
      exact ⟨z.pt, fun _ _ _ _ => z⟩
    · cases h
  | .or a b, X, W, p, e', C, h => by
    unfold okE at h; split at h
    · rename_i a' b' pos
      simp only [Bool.and_eq_true] at h
      have qa := se K a C h.1
      have qb := se K b C h.2
      refine ⟨c_or C qa.1 (pe_one qb.1), fun ht => ?_⟩
      simp only [tOk, Bool.and_eq_true] at ht
      have z := w_or C (qa.2 ht.1).1 (pw_or1 (pos := pos) (qb.2 ht.2).1)
      exact ⟨z.pt, fun _ _ _ _ => z⟩
    · rename_i a' b' c' r pos
      simp only [Bool.and_eq_true] at h
      have qa := se K a C h.1
      have qb := se K b C h.2
      refine ⟨c_or C qa.1 qb.1, fun ht => ?_⟩
      simp only [tOk, Bool.and_eq_true] at ht
      have z := w_or C (qa.2 ht.1).1 ((qb.2 ht.2).2 _ _ _ rfl)
      exact ⟨z.pt, fun _ _ _ _ => z⟩
    · cases h
  | .ite c a b, X, W, p, e', C, h => by
    unfold okE at h; split at h
    · simp only [Bool.and_eq_true] at h
      obtain ⟨h1, h2, h3, h4⟩ := h
      exact ⟨c_ite C ((se K c C h2).2 h1).1 (se K a C h3).1 (se K b C h4).1, fun ht => by simp [tOk] at ht⟩
    · cases h
  | .ix a i, X, W, p, e', C, h => by
    unfold okE at h; split at h
    · simp only [Bool.and_eq_true] at h
      exact .val C (c_ix C (ok_ix h.2) (se K a C h.1).1 (se K i C h.2).1) (fun _ => rfl) (fun _ _ _ z => by cases z)
    · cases h
  | .sl c a lo hi, X, W, p, e', C, h => by
    unfold okE at h; split at h
    · simp only [Bool.and_eq_true] at h
      exact .val C (c_sl C (se K a C h.1).1 (seo K lo C h.2.1) (seo K hi C h.2.2)) (fun _ => rfl) (fun _ _ _ z => by cases z)
    · cases h
  | .comp c own t it cd e, X, W, p, e', C, h => by
    unfold okE at h; split at h
    · rename_i elt tg iter ifs scope pos
      simp only [Bool.and_eq_true, List.all_eq_true, Bool.not_eq_true', decide_eq_false_iff_not, List.any_eq_true, beq_iff_eq] at h
      obtain ⟨h1, h2, h3, h4, h5, h6, h7⟩ := h
      have bk : BlkOk X.N X.env.scope scope own := by rw [C.N, C.sc]; exact blkOk_by h1
      have hv : ∀ i ∈ tgN t, i ∈ own.map (·.2) := fun i hi => by obtain ⟨j, hj, e⟩ := h5 i hi; rw [e]; exact hj
      have hc : ∀ j c, cf.cl = some (j, c) → j ∉ own.map (·.2) := fun j c e z => by
        obtain ⟨q, hq, e2⟩ := List.mem_map.mp z
        exact h2 q hq (by rw [C.clo, e, e2]; rfl)
      refine .val C ((pe_lc C.calm C.nd (sit K it C h3) bk (fun s H B cl fp => st K t (blk_cok C s H scope B cl fp) h4) (fun s H B cl fp => sif K cd (blk_cok C s H scope B cl fp) h6) (fun s H B cl fp => (se K e (blk_cok C s H scope B cl fp) h7).1) (oki_fold h3 X.env)).imp fun σ H Q q => lc_imp hv hc q) (fun _ => rfl) (fun _ _ _ z => by cases z)
    · cases h
  | .call x es, X, W, p, e', C, h => by
    unfold okE at h; split at h
    · simp only [Bool.and_eq_true, decide_eq_true_eq] at h
      obtain ⟨rfl, h1, h2, h3⟩ := h
      obtain ⟨q, hq, e⟩ := List.any_eq_true.mp h3
      rw [of_decide_eq_true e] at hq
      have h2' := h2
      cases es with
      | nil => simp [okEs] at h2
      | cons e1 r1 =>
        simp only [okEs, Bool.and_eq_true] at h2'
        exact .val C (c_call C h1 (ses K _ C h2) hq (ok_star h2'.1 _ _) (oks_plain h2'.2 _ _)) (fun _ => rfl) (fun _ _ _ z => by cases z)
    · cases h
  | .callK x es ks vs, X, W, p, e', C, h => by
    unfold okE at h; split at h
    · rename_i y pp es' k' kws pos
      simp only [Bool.and_eq_true, decide_eq_true_eq] at h
      obtain ⟨rfl, h1, h2, h3, h4⟩ := h
      obtain ⟨q, hq, e⟩ := List.any_eq_true.mp h4
      rw [of_decide_eq_true e] at hq
      obtain ⟨k1, k2, k3⟩ := okks_kw h3 X.env pos
      refine .val C (c_callK C h1 (ses K es C h2) (sek K vs C h3) hq k1 k2 (fun z => ?_) (fun ρ m ds m' hh => by rw [evs_len hh, okks_len h3]) (fun e r z => ?_) (by rw [oks_plain h2, k3]; rfl)) (fun _ => rfl) (fun _ _ _ z => by cases z)
      · subst z
        cases es with
        | nil => rfl
        | cons _ _ => simp [okEs] at h2
      · subst z
        cases es with
        | nil => simp [okEs] at h2
        | cons _ _ =>
          simp only [okEs, Bool.and_eq_true] at h2
          exact ok_star h2.1 _ _
    · cases h
  | .callL x e ps b, X, W, p, e', C, h => by
    unfold okE at h; split at h
    · rename_i y pp a' args body scope lpos pos
      simp only [Bool.and_eq_true, decide_eq_true_eq, Option.isNone_iff_eq_none] at h
      obtain ⟨rfl, h1, h2, h3, h4, h5, h6, h7, h8, h9, h10⟩ := h
      obtain ⟨q, hq, eq⟩ := List.any_eq_true.mp h10
      rw [of_decide_eq_true eq] at hq
      exact .val C (c_callL C h2 h4 h1 (se K e C h5).1 h6 h7 (by simp) h8 hq (ok_star h5 _ _) (fun A outer s H f c' hr hg => (se K b (lam_cok C h4 (lamP_by h7) A outer s H f c' hr hg) h9).1)) (fun _ => rfl) (fun _ _ _ z => by cases z)
    · cases h
  | .callC i es, X, W, p, e', C, h => by
    unfold okE at h; split at h
    · simp only [Bool.and_eq_true, decide_eq_true_eq, Bool.not_eq_true', Option.isNone_iff_eq_none] at h
      obtain ⟨h1, h2, h3, h4, h5, h6, h7⟩ := h
      have h7' := h7
      cases es with
      | nil => simp [okEs] at h7
      | cons e1 r1 =>
        simp only [okEs, Bool.and_eq_true] at h7'
        exact .val C (c_callC C h3 h1 h2 h4 h5 h6 (ses K _ C h7) (ok_star h7'.1 _ _) (oks_plain h7'.2 _ _)) (fun _ => rfl) (fun _ _ _ z => by cases z)
    · cases h
  | .prim q c es, X, W, p, e', C, h => by
    unfold okE at h; split at h
    · simp only [Bool.and_eq_true, decide_eq_true_eq] at h
      obtain ⟨rfl, h1, h2, h3⟩ := h
      have h2' := h2
      cases es with
      | nil => simp [okEs] at h2
      | cons e1 r1 =>
        simp only [okEs, Bool.and_eq_true] at h2'
        exact .val C (c_prim C (K.prim X C.K C.calm C.u C.gd q c) h1 (free_of C h3) (ses K _ C h2) (ok_star h2'.1 _ _) (oks_plain h2'.2 _ _)) (fun _ => rfl) (fun _ _ _ z => by cases z)
    · cases h
  | .sset c e, X, W, p, e', C, h => by
    unfold okE at h; split at h
    · simp only [Bool.and_eq_true, decide_eq_true_eq] at h
      obtain ⟨rfl, rfl, h1, h2, h3, h4, h5⟩ := h
      exact .val C (K.sset X C.K C.calm C.u (gl_of C h1).1 (free_of C h4) (gl_of C h2).1 (free_of C h5) cf W c e _ _ _ _ _ (se K e C h3).1 (ok_star h3 _ _)) (fun _ => rfl) (fun _ _ _ z => by cases z)
    · cases h
  | .lrng c e, X, W, p, e', C, h => by
    unfold okE at h; split at h
    · simp only [Bool.and_eq_true, decide_eq_true_eq] at h
      obtain ⟨rfl, rfl, h1, h2, h3, h4, h5⟩ := h
      exact .val C (c_lrng C h1 h2 (free_of C h4) (free_of C h5) (se K e C h3).1 (ok_star h3 _ _)) (fun _ => rfl) (fun _ _ _ z => by cases z)
    · cases h
  | .lset e, X, W, p, e', C, h => by
    unfold okE at h; split at h
    · simp only [Bool.and_eq_true, decide_eq_true_eq] at h
      obtain ⟨rfl, rfl, h1, h2, h3, h4, h5⟩ := h
      exact .val C (c_lset C h1 h2 (free_of C h4) (free_of C h5) (se K e C h3).1 (ok_star h3 _ _)) (fun _ => rfl) (fun _ _ _ z => by cases z)
    · cases h
  | .rep es k, X, W, p, e', C, h => by
    unfold okE at h; split at h
    · simp only [Bool.and_eq_true] at h
      exact .val C (c_rep C (ses K es C h.1) (se K k C h.2).1) (fun _ => rfl) (fun _ _ _ z => by cases z)
    · cases h
  | .cnt o e, X, W, p, e', C, h => by
    unfold okE at h; split at h
    · simp only [Bool.and_eq_true, decide_eq_true_eq] at h
      obtain ⟨rfl, h1, h2, h3⟩ := h
      have q := ok_star (ck := ck) h3 [] X.env
      exact .val C (c_cnt C (se K o C h2).1 (a_cons (se K e C h3).1 a_nil q) (ok_base h2 _ _) (by rw [q]; rfl) h1 q rfl) (fun _ => rfl) (fun _ _ _ z => by cases z)
    · cases h
  | .bad, X, W, p, e', C, h =>
    have q : PE X e' (tE w cf W .bad) := ⟨fun pins s σ H Q I ⟨L, R, m, ρ, rel, hp⟩ => by unfold ev at hp; exact hp.elim⟩
    ⟨q, fun ht => by simp [tOk] at ht⟩
  | .trng e, X, W, p, e', C, h => by
    unfold okE at h; split at h
    · simp only [Bool.and_eq_true, decide_eq_true_eq] at h
      obtain ⟨rfl, rfl, h1, h2, h3, h4, h5⟩ := h
      exact .val C (c_trng C h1 h2 (free_of C h4) (free_of C h5) (se K e C h3).1 (ok_star h3 _ _)) (fun _ => rfl) (fun _ _ _ z => by cases z)
    · cases h
  | .dsp tup c ds, X, W, p, e', C, h => by
    unfold okE at h; split at h
    · simp only [Bool.and_eq_true] at h
      obtain ⟨rfl, h1⟩ := h
      exact .val C (c_dspT C (sed K ds C h1)) (fun _ => rfl) (fun _ _ _ z => by cases z)
    · simp only [Bool.and_eq_true, Bool.not_eq_true'] at h
      obtain ⟨rfl, h1⟩ := h
      exact .val C (c_dspL C (sed K ds C h1)) (fun _ => rfl) (fun _ _ _ z => by cases z)
    · cases h
  | .mm mx e d, X, W, p, e', C, h => by
    unfold okE at h; split at h
    · simp only [Bool.and_eq_true, decide_eq_true_eq] at h
      obtain ⟨rfl, rfl, h1, h2, h3, h4⟩ := h
      exact .val C (K.mm X C.K C.calm C.u mx (gl_of C h1).1 (free_of C h4) cf W e d _ _ _ _ _ (se K e C h2).1 (se K d C h3).1 (ok_star h2 _ _)) (fun _ => rfl) (fun _ _ _ z => by cases z)
    · cases h
  | .callV i es, X, W, p, e', C, h => by
    unfold okE at h; split at h
    · simp only [Bool.and_eq_true] at h
      obtain ⟨h1, h2, h3⟩ := h
      have h3' := h3
      cases es with
      | nil => simp [okEs] at h3
      | cons e1 r1 =>
        simp only [okEs, Bool.and_eq_true] at h3'
        exact .val C (c_callV C h1 h2 (ses K _ C h3) (ok_star h3'.1 _ _) (oks_plain h3'.2 _ _)) (fun _ => rfl) (fun _ _ _ z => by cases z)
    · cases h
  | .comp2 c own t it cd t1 it1 cd1 e, X, W, p, e', C, h => by
    unfold okE at h; split at h
    · rename_i elt tg iter ifs tg1 iter1 ifs1 scope pos
      simp only [Bool.and_eq_true, List.all_eq_true, Bool.not_eq_true', decide_eq_false_iff_not, List.any_eq_true, beq_iff_eq] at h
      obtain ⟨h1, h2, h3, h4, h5, h6, h8, h9, h10, h11, h7⟩ := h
      have bk : BlkOk X.N X.env.scope scope own := by rw [C.N, C.sc]; exact blkOk_by h1
      have hv : ∀ i ∈ tgN t, i ∈ own.map (·.2) := fun i hi => by obtain ⟨j, hj, e⟩ := h5 i hi; rw [e]; exact hj
      have hv1 : ∀ i ∈ tgN t1, i ∈ own.map (·.2) := fun i hi => by obtain ⟨j, hj, e⟩ := h10 i hi; rw [e]; exact hj
      have hc : ∀ j c, cf.cl = some (j, c) → j ∉ own.map (·.2) := fun j c e z => by
        obtain ⟨q, hq, e2⟩ := List.mem_map.mp z
        exact h2 q hq (by rw [C.clo, e, e2]; rfl)
      refine .val C ((pe_lc2 C.calm C.nd (sit K it C h3) bk hv1 (fun s H B cl fp => st K t (blk_cok C s H scope B cl fp) h4) (fun s H B cl fp => sif K cd (blk_cok C s H scope B cl fp) h6) (fun s H B cl fp => sit K it1 (blk_cok C s H scope B cl fp) h8) (fun s H B cl fp => st K t1 (blk_cok C s H scope B cl fp) h9) (fun s H B cl fp => sif K cd1 (blk_cok C s H scope B cl fp) h11)
        (fun s H B cl fp => (se K e (blk_cok C s H scope B cl fp) h7).1) (fun x => oki_fold h3 _ x) (fun env x => oki_fold h8 env x)).imp fun σ H Q h => lc2_imp hv hv1 hc h) (fun _ => rfl) (fun _ _ _ z => by cases z)
    · cases h
termination_by structural e => e
theorem ses (K : Kit w) : ∀ (es : Es) {X : Cx} {W : WX} {p : Pl} {es' : List Expr}, Cok X w ck cf W p → okEs ck es p es' = true → PA X es' (tEs w cf W es)
  | .nil, X, W, p, es', C, h => by
    simp only [okEs, List.isEmpty_iff] at h
    subst h; exact a_nil
  | .cons e r, X, W, p, es', C, h => by
    unfold okEs at h; split at h
    · simp only [Bool.and_eq_true] at h
      exact a_cons (se K e C h.1).1 (ses K r C h.2) (ok_star h.1 _ _)
    · cases h
termination_by structural e => e
theorem sed (K : Kit w) : ∀ (es : Eds) {X : Cx} {W : WX} {p : Pl} {es' : List Expr}, Cok X w ck cf W p → okEd ck es p es' = true → PA X es' (tEd w cf W es)
  | .nil, X, W, p, es', C, h => by
    simp only [okEd, List.isEmpty_iff] at h
    subst h; exact d_nil
  | .cons e r, X, W, p, es', C, h => by
    unfold okEd at h; split at h
    · simp only [Bool.and_eq_true] at h
      exact d_cons (se K e C h.1).1 (sed K r C h.2) (ok_star h.1 _ _)
    · cases h
  | .star e r, X, W, p, es', C, h => by
    unfold okEd at h; split at h
    · simp only [Bool.and_eq_true] at h
      exact d_star C (se K e C h.1).1 (sed K r C h.2)
    · cases h
termination_by structural e => e
theorem sek (K : Kit w) : ∀ (es : Es) {X : Cx} {W : WX} {p : Pl} {ks : List Str} {kws : List Keyword}, Cok X w ck cf W p → okKs ck es p ks kws = true → PK X kws (tEs w cf W es)
  | .nil, X, W, p, ks, kws, C, h => by
    simp only [okKs, Bool.and_eq_true, List.isEmpty_iff] at h
    rw [h.2]; exact k_nil
  | .cons e r, X, W, p, ks, kws, C, h => by
    unfold okKs at h; split at h
    · simp only [Bool.and_eq_true] at h
      exact k_cons (se K e C h.2.1).1 (sek K r C h.2.2)
    · cases h
termination_by structural e => e
theorem seo (K : Kit w) : ∀ (eo : Eo) {X : Cx} {W : WX} {p : Pl} {e' : Option Expr}, Cok X w ck cf W p → okEo ck eo p e' = true → match eo, e' with
    | .no, none => True
    | .yes e, some e' => PE X e' (tE w cf W e)
    | _, _ => False
  | .no, X, W, p, e', C, h => by
    simp only [okEo, Option.isNone_iff_eq_none] at h
    subst h; trivial
  | .yes e, X, W, p, e', C, h => by
    unfold okEo at h; split at h
    · exact (se K e C h).1
    · cases h
termination_by structural e => e
theorem sif (K : Kit w) : ∀ (eo : Eo) {X : Cx} {p : Pl} {es' : List Expr}, Cok X w ck cf W0 p → okIf ck eo p es' = true → PTs X es' (tC' w cf eo)
  | .no, X, p, es', C, h => by
    simp only [okIf, List.isEmpty_iff] at h
    subst h
    exact ⟨fun pins s σ H Q I ⟨L, R, m, ρ, rel, q⟩ => pts_nil.run pins s σ H Q I (q L true H (Grow.refl _ _) rel.st rfl)⟩
  | .yes e, X, p, es', C, h => by
    unfold okIf at h; split at h
    · simp only [Bool.and_eq_true] at h
      exact pts_one ((se K e C h.2).2 h.1).1
    · cases h
termination_by structural e => e
theorem sit (K : Kit w) : ∀ (it : It) {X : Cx} {W : WX} {p : Pl} {tg e' : Expr}, Cok X w ck cf W p → okI ck it p tg e' = true → PI X tg e' (tI w cf W it)
  | .seq e, X, W, p, tg, e', C, h => by
    unfold okI at h
    exact i_seq C (se K e C h).1
  | .rng es, X, W, p, tg, e', C, h => by
    unfold okI at h; split at h
    · simp only [Bool.and_eq_true, decide_eq_true_eq] at h
      obtain ⟨rfl, h1, h2, h3⟩ := h
      refine i_rng1 C h1 (free_of C h3) (ses K es C h2) ?_ fun ρ m ds m' hh => by rw [evs_len hh, oks_len h2]; rfl
      cases es with
      | nil => simp [okEs] at h2
      | cons e1 r1 =>
        simp only [okEs, Bool.and_eq_true] at h2
        exact ok_star h2.1 _ _
    · simp only [Bool.and_eq_true, decide_eq_true_eq] at h
      obtain ⟨rfl, h1, h2, h3⟩ := h
      have hl : ∀ ρ m ds m', evs cf.F cf.cl es ρ m = .ok ds m' → ds.length = 2 := fun ρ m ds m' hh => by rw [evs_len hh, oks_len h2]; rfl
      have ha := ses K es C h2
      cases es with
      | nil => simp [okEs] at h2
      | cons e1 r1 =>
        simp only [okEs, Bool.and_eq_true] at h2
        cases r1 with
        | nil => simp [okEs] at h2
        | cons e2 r2 =>
          simp only [okEs, Bool.and_eq_true] at h2
          have q2 := ok_star (ck := ck) h2.2.1 [] X.env
          exact i_rng2 C h1 (free_of C h3) ha (by rw [ok_star h2.1, q2]; rfl) q2 hl
    · cases h
  | .enum e, X, W, p, tg, e', C, h => by
    unfold okI at h
    simp only [Bool.and_eq_true] at h
    obtain ⟨h0, h⟩ := h
    cases tg <;> first | (simp [isTupE] at h0; done) | skip
    split at h
    · simp only [Bool.and_eq_true, decide_eq_true_eq] at h
      obtain ⟨rfl, h1, h2, h3⟩ := h
      exact i_enum C h1 (free_of C h3) (a_cons (se K e C h2).1 a_nil (ok_star h2 _ _)) (ok_star h2 _ _)
    · cases h
  | .zip a b, X, W, p, tg, e', C, h => by
    unfold okI at h
    simp only [Bool.and_eq_true] at h
    obtain ⟨h0, h⟩ := h
    cases tg <;> first | (simp [isTupE] at h0; done) | skip
    split at h
    · simp only [Bool.and_eq_true, decide_eq_true_eq] at h
      obtain ⟨rfl, h1, h2, h3, h4⟩ := h
      refine i_zip C h1 (free_of C h4) (a_cons (se K a C h2).1 (a_cons (se K b C h3).1 a_nil (ok_star h3 _ _)) (ok_star h2 _ _)) (ok_star h2 _ _) ?_
      rw [ok_star h3]; rfl
    · cases h
  | .comb a k, X, W, p, tg, e', C, h => by
    unfold okI at h; split at h
    · simp only [Bool.and_eq_true, decide_eq_true_eq] at h
      obtain ⟨rfl, h1, h2, h3, h4⟩ := h
      have q2 := ok_star (ck := ck) h4 [] X.env
      exact i_comb C h1 (imp_of C h2) (a_cons (se K a C h3).1 (a_cons (se K k C h4).1 a_nil q2) (ok_star h3 _ _)) (by rw [ok_star h3, q2]; rfl) q2
    · cases h
termination_by structural e => e
theorem st (K : Kit w) : ∀ (t : Tg) {X : Cx} {W : WX} {p : Pl} {t' : Expr}, Cok X w ck cf W p → okT ck t p t' = true → PG X t' (tG w cf t)
  | .n i, X, W, p, t', C, h => by
    unfold okT at h; split at h
    · simp only [Bool.and_eq_true] at h
      exact g_n C h.1 h.2
    · cases h
  | .sub o i, X, W, p, t', C, h => by
    unfold okT at h; split at h
    · simp only [Bool.and_eq_true] at h
      refine g_sub C (se K o C h.1).1 (se K i C h.2).1 fun v => ?_
      rename_i o' i' pos
      have hi := h.2
      cases i' with
      | Slice _ _ _ _ => cases i <;> simp [okE, badB] at hi
      | _ => rfl
    · cases h
  | .t ts, X, W, p, t', C, h => by
    unfold okT at h; split at h
    · obtain ⟨a1, a2, a3⟩ := okts_all h X.env
      exact g_t C (sts K ts C h) (fun ds ρ m ρ' m' hh => by rw [bts_len hh, a3]) a1 a2
    · cases h
termination_by structural e => e
theorem sts (K : Kit w) : ∀ (ts : Tgs) {X : Cx} {W : WX} {p : Pl} {ts' : List Expr}, Cok X w ck cf W p → okTs ck ts p ts' = true → PGs X ts' (tGs w cf ts)
  | .nil, X, W, p, ts', C, h => by
    simp only [okTs, List.isEmpty_iff] at h
    subst h; exact gs_nil
  | .cons t r, X, W, p, ts', C, h => by
    unfold okTs at h; split at h
    · simp only [Bool.and_eq_true] at h
      exact gs_cons (st K t C h.1) (sts K r C h.2) (by rw [okt_star h.1]; rfl)
    · cases h
termination_by structural e => e
end
end
end PM

end

section
set_option maxHeartbeats 8000000
/-! PM, part Q: the checker's word, statement by statement. -/
namespace PM
open PySem PySem.Spec PyProof.Rows L2
section
variable {w : Wd} {ck : Ck} {cf : Cf}
def pickS (c1 c2 c3 c4 c5 : Bool) (ns : List Str) : Sem (Option (List Str)) :=
  if c1 then pure none else if c2 then pure none else if c3 then pure none else if c4 then pure none else if c5 then (do unsupported "assign.tuple-of-constant-expressions:order-of-the-stores"; pure (some ns)) else pure (some ns)
theorem pick_eq {c1 c2 c3 c4 c5 : Bool} {ns : List Str} {r : Option (List Str)} (h : pick c1 c2 c3 c4 c5 ns = some r) : pickS c1 c2 c3 c4 c5 ns = pure r := by
  cases c1 <;> cases c2 <;> cases c3 <;> cases c4 <;> cases c5 <;> simp [pick] at h <;> subst h <;> rfl
theorem swp_eq {env : PySem.Env} {ts vs : List Expr} {k j : Nat} {p1 p2 : Pos} {r : Option (List Str)} (h : swp env.scope ts vs = some r) : swappedStores [.Tuple ts k p1] (.Tuple vs j p2) env = pure r := pick_eq h
theorem comp_sw {e' : Expr} {tg : Option Expr} {l : Nat} {env : PySem.Env} (h : isComp e' = false) : swapsWith e' tg l env = pure false := by
  cases e' <;> first | rfl | (simp [isComp] at h; done)
theorem set_sw {t : Tg} {p : Pl} {tg e' : Expr} {env : PySem.Env} {l : Nat} (hk : env.scope.kind = .function) (ht : okT ck t p tg = true) (h : setB env.scope tg e' = true) : swapsWithSole [tg] e' l env = pure false ∧ swappedStores [tg] e' env = pure none := by
  have none' : (∀ ts k pos, tg ≠ .Tuple ts k pos) → swappedStores [tg] e' env = pure none := fun n => by
    cases tg with
    | Tuple ts k pos => exact absurd rfl (n ts k pos)
    | List _ _ => cases t <;> simp [okT] at ht
    | _ => rfl
  cases e' with
  | Tuple vs j pos =>
    refine ⟨rfl, ?_⟩
    cases tg with
    | Tuple ts k pos => exact swp_eq (of_decide_eq_true h)
    | List _ _ => cases t <;> simp [okT] at ht
    | _ => rfl
  | ListComp elt gs scope pos =>
    cases tg with
    | Name x px =>
      refine ⟨?_, rfl⟩
      simp only [setB, Bool.not_eq_true'] at h
      unfold swapsWithSole swapsWith
      simp only [Env.blockKind, hk, Env.kindOf, Expr.pos]
      rw [show (env.scope.names.lookup x == some NameKind.local) = decide (env.scope.names.lookup x = some NameKind.local) from by
        by_cases z : env.scope.names.lookup x = some NameKind.local <;> simp [z]]
      cases c1 : decide (env.scope.names.lookup x = some NameKind.local) with
      | false => rfl
      | true =>
        rw [c1, Bool.true_and] at h
        show pure (true && true && (px.line == pos.line) && _) = _
        rw [Bool.and_true, Bool.true_and, h]
    | Tuple ts k pos => exact ⟨rfl, rfl⟩
    | _ => simp [setB] at h
  | SetComp _ _ _ _ => simp [setB, isComp] at h
  | DictComp _ _ _ _ _ => simp [setB, isComp] at h
  | _ => exact ⟨rfl, by cases tg <;> first | rfl | (cases t <;> simp [okT] at ht; done)⟩
theorem asg_name {X : Cx} {W : WX} {p : Pl} (C : Cok X w ck cf W p) {te : TE} {i : Nat} {e : E} {D : Ends} {σ : L2.St} {H : Hp} (hi : p.clo ≠ some i) (k : ∀ σ H Q, tE w cf W e σ H Q → te σ H Q) (h : tS w cf W (exS cf.F cf.cl (.set (.n i) e)) D σ H) : tAsg te (gName i) D σ H := by
  obtain ⟨L, R, m, ρ, rel, hp⟩ := h
  rw [exS] at hp
  refine k _ _ _ (tR_of (P := Rep w) rel hp fun x H1 L1 m1 d g1 rel1 r1 q1 => ?_)
  unfold bt at q1
  exact q1 L1 _ H1 (Grow.refl _ _) (rel1.set C hi r1)
mutual
theorem ss (K : Kit w) : ∀ (s : S) {X : Cx} {W : WX} {p : Pl} {s' : Stmt}, Cok X w ck cf W p → p.fb = none → X.env.scope.kind = .function → okS ck s p s' = true → PS X s' (tS w cf W (exS cf.F cf.cl s))
  | .set t e, X, W, p, s', C, hf, hk, h => by
    unfold okS at h; split at h
    · rename_i tg e' pos
      simp only [Bool.and_eq_true, Bool.or_eq_true] at h
      obtain ⟨h1, h2, h3⟩ := h
      rcases h3 with h3 | h3
      · obtain ⟨a1, a2⟩ := set_sw (ck := ck) (l := pos.line) hk h1 (by rw [C.sc]; exact h3)
        exact s_set C (st K t C h1) (se K e C h2).1 a1 a2 (by rw [okt_star h1]; rfl)
      · split at h3
        · rename_i x px
          cases t with
          | n i =>
            simp only [okT, Bool.and_eq_true] at h1
            obtain ⟨n1, n2, n3, n4⟩ := nm_of C h1.1
            unfold swOn at h3
            split at h3
            · rename_i elt gs scope cpos
              simp only [Bool.and_eq_true, decide_eq_true_eq, Bool.not_eq_true'] at h3
              obtain ⟨b1, b2, b3⟩ := h3
              cases e with
              | comp c own t2 it cd e2 =>
                unfold okE at h2; split at h2
                · rename_i elt' tg2 iter ifs scope' pos' heq
                  cases heq
                  simp only [Bool.and_eq_true, List.all_eq_true, Bool.not_eq_true', decide_eq_false_iff_not, List.any_eq_true, beq_iff_eq] at h2
                  obtain ⟨h1', h2', h3', h4', h5', h6', h7'⟩ := h2
                  have bk : BlkOk X.N X.env.scope scope own := by rw [C.N, C.sc]; exact blkOk_by h1'
                  have hv : ∀ i ∈ tgN t2, i ∈ own.map (·.2) := fun i hi => by obtain ⟨j, hj, e⟩ := h5' i hi; rw [e]; exact hj
                  have hc : ∀ j c, cf.cl = some (j, c) → j ∉ own.map (·.2) := fun j c e z => by
                    obtain ⟨q, hq, e2⟩ := List.mem_map.mp z
                    exact h2' q hq (by rw [C.clo, e, e2]; rfl)
                  have bx : X.env.scope.names.lookup x = some .local := by rw [C.sc]; exact b1
                  refine (ps_setLc (i := i) C.calm C.nd n1 bx (sw_true hk bx b2 b3) (sit K it C h3') bk (fun s H B cl fp => st K t2 (blk_cok C s H scope B cl fp) h4') (fun s H B cl fp => sif K cd (blk_cok C s H scope B cl fp) h6') (fun s H B cl fp => (se K e2 (blk_cok C s H scope B cl fp) h7').1) (oki_fold h3' X.env)).imp fun D σ H q => ?_
                  exact asg_name C n4 (fun σ H Q q => lc_imp hv hc q) q
                · cases h2
              | comp2 c own t2 it cd t3 it1 cd1 e2 =>
                unfold okE at h2; split at h2
                · rename_i elt' tg2 iter ifs tg3 iter1 ifs1 scope' pos' heq
                  cases heq
                  simp only [Bool.and_eq_true, List.all_eq_true, Bool.not_eq_true', decide_eq_false_iff_not, List.any_eq_true, beq_iff_eq] at h2
                  obtain ⟨h1', h2', h3', h4', h5', h6', h8', h9', h10', h11', h7'⟩ := h2
                  have bk : BlkOk X.N X.env.scope scope own := by rw [C.N, C.sc]; exact blkOk_by h1'
                  have hv : ∀ i ∈ tgN t2, i ∈ own.map (·.2) := fun i hi => by obtain ⟨j, hj, e⟩ := h5' i hi; rw [e]; exact hj
                  have hv1 : ∀ i ∈ tgN t3, i ∈ own.map (·.2) := fun i hi => by obtain ⟨j, hj, e⟩ := h10' i hi; rw [e]; exact hj
                  have hc : ∀ j c, cf.cl = some (j, c) → j ∉ own.map (·.2) := fun j c e z => by
                    obtain ⟨q, hq, e2⟩ := List.mem_map.mp z
                    exact h2' q hq (by rw [C.clo, e, e2]; rfl)
                  have bx : X.env.scope.names.lookup x = some .local := by rw [C.sc]; exact b1
                  refine (ps_setLc2 (i := i) C.calm C.nd n1 bx (sw_true hk bx b2 b3) (sit K it C h3') bk hv1 (fun s H B cl fp => st K t2 (blk_cok C s H scope B cl fp) h4') (fun s H B cl fp => sif K cd (blk_cok C s H scope B cl fp) h6') (fun s H B cl fp => sit K it1 (blk_cok C s H scope B cl fp) h8') (fun s H B cl fp => st K t3 (blk_cok C s H scope B cl fp) h9') (fun s H B cl fp => sif K cd1 (blk_cok C s H scope B cl fp) h11')
                    (fun s H B cl fp => (se K e2 (blk_cok C s H scope B cl fp) h7').1) (fun x => oki_fold h3' _ x) (fun env x => oki_fold h8' env x)).imp fun D σ H q => ?_
                  exact asg_name C n4 (fun σ H Q q => lc2_imp hv hv1 hc q) q
                · cases h2
              | _ => simp [okE, badB] at h2
            · cases h3
          | sub _ _ => simp [okT] at h1
          | t _ => simp [okT] at h1
        · cases h3
    · cases h
  | .par is es, X, W, p, s', C, hf, hk, h => by
    unfold okS at h; split at h
    · rename_i i j x px y py k1 p1 a' b' k2 p2 pos
      simp only [Bool.and_eq_true, decide_eq_true_eq, Bool.not_eq_true', decide_eq_false_iff_not] at h
      obtain ⟨h1, h2, h3, h4, h5, h6, h7⟩ := h
      exact s_par C h1 h2 h5 (by rw [C.sc]; exact h3) (by rw [C.sc]; exact h4) (ses K es C h6) (swp_eq (by rw [C.sc]; exact h7)) rfl
    · cases h
  | .ex e, X, W, p, s', C, hf, hk, h => by
    unfold okS at h; split at h
    · simp only [Bool.and_eq_true, Bool.not_eq_true'] at h
      exact s_ex (se K e C h.1).1 (comp_sw h.2)
    · cases h
  | .ret e, X, W, p, s', C, hf, hk, h => by
    unfold okS at h; split at h
    · exact s_ret (se K e C h).1
    · cases h
  | .retN, X, W, p, s', C, hf, hk, h => by
    unfold okS at h; split at h
    · exact s_retN
    · cases h
  | .ite c a b, X, W, p, s', C, hf, hk, h => by
    unfold okS at h; split at h
    · simp only [Bool.and_eq_true] at h
      exact s_ite ((se K c C h.2.1).2 h.1).1 (sss K a C hf hk h.2.2.1) (sss K b C hf hk h.2.2.2)
    · cases h
  | .for_ t it b, X, W, p, s', C, hf, hk, h => by
    unfold okS at h; split at h
    · simp only [Bool.and_eq_true] at h
      exact s_for C hf (sit K it C h.1) (st K t C h.2.1) (sss K b C hf hk h.2.2) (oki_fold h.1 X.env)
    · cases h
  | .forR n t e b, X, W, p, s', C, hf, hk, h => by
    unfold okS at h; split at h
    · simp only [Bool.and_eq_true] at h
      obtain ⟨h1, h2, h3⟩ := h
      exact s_forR C hf (se K e C h1).1 (st K t C h2) (sss K b C hf hk h3) (fun x => ok_fold h1 X.env x)
    · cases h
  | .wh n c b, X, W, p, s', C, hf, hk, h => by
    unfold okS at h; split at h
    · simp only [Bool.and_eq_true] at h
      exact s_wh C hf ((se K c C h.2.1).2 h.1).1 (sss K b C hf hk h.2.2)
    · cases h
  | .brk, X, W, p, s', C, hf, hk, h => by
    unfold okS at h; split at h
    · exact s_brk
    · cases h
  | .pass, X, W, p, s', C, hf, hk, h => by
    unfold okS at h; split at h
    · exact s_pass
    · cases h
  | .append l e, X, W, p, s', C, hf, hk, h => by
    unfold okS at h; split at h
    · simp only [Bool.and_eq_true, decide_eq_true_eq] at h
      obtain ⟨rfl, h1, h2, h3⟩ := h
      have q := ok_star (ck := ck) h3 [] X.env
      exact s_append C (se K l C h2).1 (a_cons (se K e C h3).1 a_nil q) (ok_base h2 _ _) (by rw [q]; rfl) h1 q rfl rfl
    · cases h
  | .extend l e, X, W, p, s', C, hf, hk, h => by
    unfold okS at h; split at h
    · simp only [Bool.and_eq_true, decide_eq_true_eq] at h
      obtain ⟨rfl, h1, h2, h3⟩ := h
      have q := ok_star (ck := ck) h3 [] X.env
      exact s_extend C (se K l C h2).1 (a_cons (se K e C h3).1 a_nil q) (ok_base h2 _ _) (by rw [q]; rfl) h1 q rfl rfl
    · cases h
  | .bad, X, W, p, s', C, hf, hk, h => ps_never.imp fun D σ H ⟨L, R, m, ρ, rel, hp⟩ => by
    unfold exS at hp
    exact hp
  | .raise x e, X, W, p, s', C, hf, hk, h => ps_never.imp fun D σ H ⟨L, R, m, ρ, rel, hp⟩ => by
    unfold exS at hp
    exact hp
termination_by structural s => s
theorem sss (K : Kit w) : ∀ (b : Ss) {X : Cx} {W : WX} {p : Pl} {b' : List Stmt}, Cok X w ck cf W p → p.fb = none → X.env.scope.kind = .function → okSs ck b p b' = true → PSs X b' (tS w cf W (exSs cf.F cf.cl b))
  | .nil, X, W, p, b', C, hf, hk, h => by
    simp only [okSs, List.isEmpty_iff] at h
    subst h
    exact pss_nil.imp fun D σ H ⟨L, R, m, ρ, rel, hp⟩ => by
      unfold exSs at hp
      exact hp L _ H (Grow.refl _ _) rel
  | .cons s r, X, W, p, b', C, hf, hk, h => by
    unfold okSs at h; split at h
    · simp only [Bool.and_eq_true] at h
      refine (pss_cons (ss K s C hf hk h.1) (sss K r C hf hk h.2)).imp fun D σ H ⟨L, R, m, ρ, rel, hp⟩ => ⟨L, R, m, ρ, rel, ?_⟩
      unfold exSs at hp
      revert hp
      cases exS cf.F cf.cl s ρ m with
      | nx ρ1 m1 => exact fun hp L1 σ1 H1 g1 rel1 => ⟨L1, R, m1, ρ1, rel1, PostS.later hp g1⟩
      | ret d m => exact fun hp => hp
      | brk ρ m => exact fun hp => hp
      | cont ρ m => exact fun hp => hp
      | exc x ρ m => exact fun hp => hp
      | bad => exact fun hp => hp
    · cases h
  | .kill is r, X, W, p, b', C, hf, hk, h => by
    simp only [okSs, Bool.and_eq_true, List.all_eq_true, Bool.not_eq_true', decide_eq_false_iff_not] at h
    have q := sss K r C hf hk h.2
    refine ⟨fun pins s σ H D I ⟨L, R, m, ρ, rel, hp⟩ => q.run pins s (L2.wipe σ is) H D (I.weak (wipe_length _ _) fun i v e => (wipe_some e).1) ⟨L, R, m, PM.wipe ρ is, rel.wiped fun j c e z => h.1 j z (by rw [C.clo, e]; rfl), ?_⟩⟩
    unfold exSs at hp
    exact hp
termination_by structural b => b
end
end
end PM

end

section
set_option maxHeartbeats 4000000
/-! PM, part R: the defs keep what the evaluator says. -/
namespace PM
open PySem PySem.Spec PyProof.Rows L2
section
variable {w : Wd} {L R L' t : List Addr} {m m' : M} {H H' : Hp}
theorem StOk.cut (S : StOk w (L ++ t) R m' H') : StOk w L R (m'.take L.length) H' := by
  refine ⟨by have := S.len; rw [List.length_append] at this; rw [List.length_take]; omega, (List.nodup_append.mp S.nd).1, fun l a c h1 h2 => ?_, S.rs, fun a ha z => S.rl a ha (List.mem_append_left _ z), S.tabs⟩
  have hl := (List.getElem?_eq_some_iff.mp h1).1
  rw [List.getElem?_take_of_lt hl] at h2
  have q := S.cells l a c (by rw [List.getElem?_append_left hl]; exact h1) h2
  cases c with
  | lst xs =>
    obtain ⟨p, ys, h3, h4⟩ := q
    exact ⟨p, ys, h3, h4.low (fun a ha => List.mem_append_left _ ha) p⟩
  | dct _ => exact q.elim
theorem Grow.cut (g : Grow L H L' H') : Grow L H L H' := ⟨⟨[], by simp, by simp⟩, g.keep⟩
theorem close_ok {frz : Bool} {d : D} {Q : VK} {W : XW} {v : V} (S : StOk w L R m H) (h : Post w (Rep w) L R H (close frz m.length d m') Q W) (g : Grow L H L' H') (S' : StOk w L' R m' H') (r : Rep w L' R H' v d) : Q v H' := by
  obtain ⟨t, rfl, _⟩ := id g.pre
  have hlen := S.len
  have Sc : StOk w L R (m'.take m.length) H' := by rw [← hlen]; exact S'.cut
  -- data with no place of the store
  have lowd : ∀ {d' : D}, d'.pure = true → Rep w (L ++ t) R H' v d' → Post w (Rep w) L R H (.ok d' (m'.take m.length)) Q W → Q v H' := fun p r h => h L v H' g.cut Sc (r.low (fun a ha => List.mem_append_left _ ha) p)
  have key : ∀ {d' : D}, Rep w (L ++ t) R H' v d' → Post w (Rep w) L R H (match d' with
      | .ref l => if l < m.length then .ok d' (m'.take m.length) else .ok d' m'
      | d' => if d'.pure then .ok d' (m'.take m.length) else .bad) Q W → Q v H' := fun {d'} r h => by
    cases d' with
    | ref l =>
      simp only at h
      split at h
      · rename_i hl
        refine h L v H' g.cut Sc ?_
        cases r with
        | ref hx =>
          rw [List.getElem?_append_left (by rw [hlen]; exact hl)] at hx
          exact .ref hx
      · exact h (L ++ t) v H' g S' r
    | _ =>
      simp only at h
      split at h
      · rename_i hp
        exact lowd hp r h
      · exact h.elim
  unfold close at h
  cases frz with
  | false => exact key r h
  | true =>
    rw [if_pos rfl] at h
    cases d with
    | ref l =>
      simp only at h
      by_cases hl : m.length ≤ l
      · rw [if_pos hl] at h
        cases e : m'[l]? with
        | none => rw [e] at h; exact h.elim
        | some c =>
          rw [e] at h
          cases c with
          | dct _ => exact h.elim
          | lst xs =>
            cases r with
            | @ref _ a hx =>
              obtain ⟨p, ys, h3, h4⟩ := S'.cells l a _ hx e
              have r' : Rep w L R H' (.ref a) (.lst xs) := by
                refine .lst (.inl h3) (fun z => ?_) (fun z => S'.rl a z (List.mem_of_getElem? hx)) (h4.low (fun a ha => List.mem_append_left _ ha) p)
                obtain ⟨k, hk⟩ := List.getElem?_of_mem z
                have hkl := (List.getElem?_eq_some_iff.mp hk).1
                have hk2 : (L ++ t)[k]? = some a := by rw [List.getElem?_append_left hkl]; exact hk
                obtain ⟨h5, h6⟩ := List.getElem?_eq_some_iff.mp hk2
                obtain ⟨h7, h8⟩ := List.getElem?_eq_some_iff.mp hx
                have := (List.getElem_inj S'.nd).mp (h6.trans h8.symm)
                omega
              simp only [pure_lst, p, if_true] at h
              exact h L _ H' g.cut Sc r'
      · rw [if_neg hl] at h
        exact key r h
    | _ => exact key r h
theorem fin_ok {cf : Cf} {frz : Bool} {r : ResS} {Q : VK} {E : XK} (S : StOk w L R m H) (h : Post w (Rep w) L R H (finish frz m.length r) Q E) : PostS w cf (fun c d _ H => E c d H) L R H r { nx := fun _ H' => Q .non H', rt := Q } := by
  cases r with
  | nx ρ m' => exact fun L' σ' H' g rel => close_ok S h g rel.st .non
  | ret d m' => exact fun L' v H' g S' r => close_ok S h g S' r
  | brk ρ m => exact h.elim
  | cont ρ m => exact h.elim
  | exc x ρ m' =>
    intro L' σ' H' cls dx g rel xr
    obtain ⟨t, rfl, _⟩ := id g.pre
    have Sc : StOk w L R (m'.take m.length) H' := by rw [← S.len]; exact rel.st.cut
    unfold finish at h
    obtain ⟨C, h1, h2, h3⟩ := xr
    obtain ⟨xc, xv⟩ := x
    cases xv with
    | none => exact h L H' cls dx g.cut Sc ⟨C, h1, h2, h3⟩
    | some d =>
      simp only at h
      split at h
      · rename_i hp
        obtain ⟨dd, v, f, k1, k2, k3⟩ := h3
        exact h L H' cls dx g.cut Sc ⟨C, h1, h2, dd, v, f, k1, k2, k3.low (fun a ha => List.mem_append_left _ ha) hp⟩
      · exact h.elim
  | bad => exact h
theorem start_rel {cf : Cf} {N : List Str} {vs us : List V} {ds : List D} (S : StOk w L R m H) (r : RepL w L R H vs ds) (hl : vs.length + us.length ≤ N.length) (hc : ∀ j c, cf.cl = some (j, c) → (L2.start N (vs ++ us))[j]? = some (some (.ref cf.fa)) ∧ ClE w cf L R H) : Rel w cf L R m (PM.start N ds) (L2.start N (vs ++ us)) H := by
  refine ⟨S, ?_, fun i d h => ?_, hc⟩
  · unfold L2.start PM.start
    simp only [List.length_append, List.length_map, List.length_replicate, ← r.length]
    omega
  · unfold PM.start at h
    have hi : i < ds.length := by
      by_cases hi : i < ds.length
      · exact hi
      · rw [List.getElem?_append_right (by simpa using hi), List.getElem?_replicate] at h
        split at h <;> cases h
    rw [List.getElem?_append_left (by simpa using hi), List.getElem?_map] at h
    cases e : ds[i]? with
    | none => rw [e] at h; cases h
    | some d' =>
      rw [e] at h
      cases h
      obtain ⟨v, h1, h2⟩ := r.get e
      refine ⟨v, ?_, h2⟩
      unfold L2.start
      have hv := (List.getElem?_eq_some_iff.mp h1).1
      rw [List.getElem?_append_left (by simp; omega), List.getElem?_map, List.getElem?_append_left hv, h1]
      rfl
end
def plOf (d : Def) (scope : Scope) : Pl := ⟨d.N, scope, none, if d.lamP then some (d.ps.length - 1) else none, d.tab⟩
def lamName (x : Str) : Str := x ++ ".<locals>." ++ "<lambda>"
/-- the module's defs beside the evaluator's -/
structure Setup (prog : Program) (w0 : World) (K : PySem.W.Frag) (mg : Str → Option Value) (base : Heap) (w : Wd) (ck : Ck) (P : List Def) : Prop where
  wK : w.K = K
  free : ∀ x ∈ ck.free, mg x = none
  gls : ∀ q ∈ ck.gls, ∃ v u, mg q.1 = some u ∧ RelV v u ∧ ∀ L R H, Rep w L R H v q.2
  shp : ∀ q ∈ ck.shapes, ∃ d, find P q.1 = some d ∧ shapeB d.ps q.2 = true
  def_ : ∀ x d, find P x = some d → ∃ (f : Addr) (fd : FuncData) (params : Arguments) (body : List Stmt) (scope : Scope), w.G x = some f ∧ mg x = some (.ref f) ∧ FunD K x x params body scope [] [] f fd ∧ FnScope d.N d.ps scope ∧ okParams d.ps params = true ∧ okSs ck d.body (plOf d scope) body = true ∧ (d.lamP = true → 0 < d.ps.length) ∧
    (d.tab = true → ∃ c Pt, fd.code = .ref c ∧ LamX.TabB base mg c Pt ∧ (Pt, lamName x) ∈ w.T ∧ ∀ q ∈ w.T, q.1 = Pt → q.2 = lamName x)
section
variable {prog : Program} {w0 : World} {K : PySem.W.Frag} {mg : Str → Option Value} {base : Heap} {w : Wd} {ck : Ck} {P : List Def}
def DefOk (prog : Program) (w0 : World) (K : PySem.W.Frag) (mg : Str → Option Value) (base : Heap) (w : Wd) (ck : Ck) (P : List Def) (n : Nat) : Prop := ∀ x ps, (fns P n).ps x = some ps →
  (∃ (a : Addr) (fd : FuncData), mg x = some (.ref a) ∧ PySem.W.keepIn K (.ref a) = true ∧ FnG prog w0 K mg base (3 * n) a fd ps (spOf w (fns P n) x ps) ∧ BindOk K ck x ps fd ∧ (∃ oc od osl, K.lookup a = some ⟨oc, od, .func fd, osl⟩) ∧ w.G x = some a) ∧
  ∀ (X : Cx) (cf : Cf), X.prog = prog → X.w = w0 → X.K = K → X.mg = mg → X.base = base → cf.F = fns P n → cf.k = 3 * n → Room (cf.k + 2) X.A → X.A.guards = some [] → LamOk X w ck cf x ps
theorem fns_ps (P : List Def) (n : Nat) (x : Str) : (fns P n).ps x = (find P x).map (·.ps) := by cases n <;> rfl
theorem body_cok (S : Setup prog w0 K mg base w ck P) {n : Nat} (ih : DefOk prog w0 K mg base w ck P n) {x : Str} {d : Def} {f : Addr} {fd : FuncData} {scope : Scope} {cdv : Value} (hS : FnScope d.N d.ps scope) (hcode : fd.code = cdv)
    (htab : d.tab = true → ∃ c Pt, fd.code = .ref c ∧ LamX.TabB base mg c Pt ∧ (Pt, lamName x) ∈ w.T ∧ ∀ q ∈ w.T, q.1 = Pt → q.2 = lamName x)
    {cf : Cf} (hF : cf.F = fns P n) (hk : cf.k = 3 * n) (hcl : (if d.lamP then some (d.ps.length - 1) else none) = cf.cl.map (·.1)) (A : Around) (outer : List PySem.Env) (s : Shared) (H : Hp) (E : XK) (hr : Room (3 * n + 2) (A.deeper (envOfC x scope s.heap.objs.size f cdv))) (hg : A.guards = some [])
    (hact : ∀ j c, cf.cl = some (j, c) → ActOk (cxOf (L2.CX prog w0) prog w0 K mg base d.N x scope f cdv A outer s H E) w cf j c) :
    Cok (cxOf (L2.CX prog w0) prog w0 K mg base d.N x scope f cdv A outer s H E) w ck cf (fun c d _ H => E c d H) (plOf d scope) where
  K := S.wK.symm
  N := rfl
  sc := rfl
  calm := rfl
  nd := hS.nd
  u := by have := hr.un; show (A.deeper (envOfC x scope s.heap.objs.size f cdv)).units + 100 < cLine; omega
  fn := fun _ _ => .inl rfl
  free := S.free
  gls := S.gls
  rm := by rw [hk]; exact hr.mono (by omega)
  gd := hg
  fok := fun y ps e => by
    rw [hF] at e
    obtain ⟨⟨a, fd, h1, h2, h3, h4, _, h5⟩, _⟩ := ih y ps e
    refine ⟨a, fd, h1, h2, ?_, h4, h5⟩
    rw [hF, hk]
    exact h3
  fno := fun y ds m h => by
    rw [hF] at h ⊢
    cases n with
    | zero => rfl
    | succ n =>
      show (match find P y with
        | some d => if ds.length = d.ps.length ∧ d.lamP = false then finish d.frz m.length (exSs (fns P n) none d.body (start d.N ds) m) else .bad
        | none => .bad) = .bad
      cases e : find P y with
      | none => rfl
      | some d => exact if_neg fun z => h d.ps (by rw [fns_ps, e]; rfl) z.1
  shp := fun y ks h => by
    obtain ⟨d, e, _⟩ := S.shp _ h
    exact ⟨d.ps, by rw [hF, fns_ps, e]; rfl⟩
  tk := takes_of rfl rfl rfl rfl
  tabs := fun h => by
    obtain ⟨c, Pt, h1, h2, h3, h4⟩ := htab h
    exact ⟨c, Pt, h2, hcode.symm.trans h1, h3, h4⟩
  lam := fun _ => by
    refine ⟨by rw [hk]; exact hr, fun y ps e => ?_⟩
    rw [hF] at e
    exact (ih y ps e).2 _ cf rfl rfl rfl rfl rfl hF hk (by rw [hk]; exact hr) hg
  po := fun _ => passes_of rfl
  clo := hcl
  act := fun _ => hact
theorem bindOk_P {x : Str} {d : Def} {fd : FuncData} {params : Arguments} {body : List Stmt} {scope : Scope} {f : Addr} (F : FunD K x x params body scope [] [] f fd) (hp : okParams d.ps params = true) : fd.params.posonlyargs = [] ∧ fd.params.args.map (·.arg) = d.ps ∧ fd.params.vararg = none ∧ fd.params.kwonlyargs = [] ∧ fd.params.kwarg = none ∧ fd.defaults = .none := by
  obtain ⟨oc, od, dV, kV, doc, pm, an, cdv, ct, osl, rfl, lk, hcd, hd, _⟩ := F.ex
  unfold okParams at hp
  simp only [Bool.and_eq_true, List.isEmpty_iff, decide_eq_true_eq, Option.isNone_iff_eq_none] at hp
  obtain ⟨⟨⟨⟨⟨⟨p1, p2⟩, p3⟩, p4⟩, p5⟩, p6⟩, p7⟩ := hp
  refine ⟨p1, p2, p3, p4, p6, ?_⟩
  rcases hd with ⟨_, e⟩ | ⟨e, _⟩
  · exact e
  · exact absurd rfl e
theorem defs_ok (Kt : Kit w) (S : Setup prog w0 K mg base w ck P) : ∀ n, DefOk prog w0 K mg base w ck P n
  | 0 => fun x ps hx => by
    rw [fns_ps] at hx
    obtain ⟨d, hd, rfl⟩ := Option.map_eq_some_iff.mp hx
    obtain ⟨f, fd, params, body, scope, hG, hm, F, hS, hp, hok, hlp, htab⟩ := S.def_ x d hd
    obtain ⟨b1, b2, b3, b4, b5, b6⟩ := bindOk_P F hp
    have ndP : d.ps.Nodup := by rw [← hS.pre]; exact hS.nd.sublist (List.take_sublist _ _)
    refine ⟨⟨f, fd, hm, F.kp, ⟨fun A outer s H args us vs Q E _ _ _ _ _ ⟨L, R, m, ds, _, _, _, h⟩ => h.elim⟩, bindOk_of b1 b2 b3 b4 b5 b6 ndP fun q hq e => ?_, ?_⟩, fun X cf e1 e2 e3 e4 e5 e6 e7 hr hgd => ?_⟩
    · obtain ⟨d', h1, h2⟩ := S.shp q hq
      rw [e, hd] at h1
      cases h1
      exact h2
    · obtain ⟨oc, od, dV, kV, doc, pm, an, cdv, ct, osl, e, lk, _⟩ := F.ex
      exact ⟨⟨oc, od, osl, lk⟩, hG⟩
    · refine ⟨f, by rw [e4]; exact hm, by rw [e3]; exact F.kp, fun pins σ H s us vs L R m ds f c cσ cρ cc cq Q I r S r2 ce act h => ?_⟩
      rw [e6] at h
      exact h.elim
  | n + 1 => fun x ps hx => by
    have ih := defs_ok Kt S n
    rw [fns_ps] at hx
    obtain ⟨d, hd, rfl⟩ := Option.map_eq_some_iff.mp hx
    obtain ⟨f, fd, params, body, scope, hG, hm, F, hS, hp, hok, hlp, htab⟩ := S.def_ x d hd
    obtain ⟨b1, b2, b3, b4, b5, b6⟩ := bindOk_P F hp
    have hpl : d.ps.length ≤ d.N.length := by have := congrArg List.length hS.pre; rw [List.length_take] at this; omega
    have ndP : d.ps.Nodup := by rw [← hS.pre]; exact hS.nd.sublist (List.take_sublist _ _)
    refine ⟨⟨f, fd, hm, F.kp, ?_, bindOk_of b1 b2 b3 b4 b5 b6 ndP fun q hq e => ?_, ?_⟩, fun X cf e1 e2 e3 e4 e5 e6 e7 hr hgd => ?_⟩
    · obtain ⟨oc, od, dV, kV, doc, pm, an, cdv, ct, osl, rfl, lk, hcd, _, _⟩ := F.ex
      refine ⟨fun A outer s H args us vs Q E hr hg e0 hb rv ⟨L, R, m, ds, S0, r, hl, h⟩ => LamX.run_ofS (k := 3 * n + 2) (N := d.N) (ps := d.ps) lk hcd hS hr e0 hb rv (by rw [r.length, hl]) fun hr' => ?_⟩
      have h : Post w (Rep w) L R H (match find P x with
        | some d => if ds.length = d.ps.length ∧ d.lamP = false then finish d.frz m.length (exSs (fns P n) none d.body (start d.N ds) m) else .bad
        | none => .bad) Q E := h
      rw [hd] at h
      simp only at h
      split at h
      · rename_i hc
        have hcl : (if d.lamP then some (d.ps.length - 1) else none) = (none : Option Nat) := by rw [hc.2]; rfl
        refine ⟨_, sss (cf := ⟨fns P n, none, 0, [], [], 0, "", 3 * n⟩) Kt d.body (body_cok (cdv := cdv) (cf := ⟨fns P n, none, 0, [], [], 0, "", 3 * n⟩) S ih hS rfl htab rfl rfl hcl A outer s H E hr' hg fun j c z => by cases z) rfl hS.kind hok, ?_⟩
        have rel := start_rel (cf := ⟨fns P n, none, 0, [], [], 0, "", 3 * n⟩) (us := []) (N := d.N) S0 r (by rw [r.length, hl]; simpa using hpl) (fun j c z => by cases z)
        rw [List.append_nil] at rel
        exact ⟨L, R, m, _, rel, fin_ok S0 h⟩
      · exact h.elim
    · obtain ⟨d', h1, h2⟩ := S.shp q hq
      rw [e, hd] at h1
      cases h1
      exact h2
    · obtain ⟨oc, od, dV, kV, doc, pm, an, cdv, ct, osl, e, lk, _⟩ := F.ex
      exact ⟨⟨oc, od, osl, lk⟩, hG⟩
    · subst e1 e2 e3 e4 e5
      obtain ⟨oc, od, dV, kV, doc, pm, an, cdv, ct, osl, rfl, lk, hcd, _, _⟩ := F.ex
      refine ⟨f, hm, F.kp, fun pins σ H s us vs L R m ds fa c cσ cρ cc cq Q I r S0 r2 ce act h => ?_⟩
      rw [e6] at h
      have h : Post w (Rep w) L R H (match find P x with
        | some d => if ds.length + 1 = d.ps.length ∧ d.lamP = true then finish d.frz m.length (exSs (fns P n) (some (ds.length, c)) d.body (start d.N ds) m) else .bad
        | none => .bad) Q (fun _ _ _ => False) := h
      rw [hd] at h
      simp only at h
      split at h
      · rename_i hc
        have hvl : vs.length + 1 = d.ps.length := by rw [r2.length]; exact hc.1
        have hcl : (if d.lamP then some (d.ps.length - 1) else none) = some ds.length := by
          rw [hc.2, if_pos rfl]
          exact congrArg some (by omega)
        have hul : (us ++ [Value.ref fa]).length = d.ps.length := by rw [List.length_append, ← r.length]; exact hvl
        have rr : Vals (vs ++ [V.ref fa]) (us ++ [Value.ref fa]) := r.append (.cons rfl .nil)
        have hr3 : Room (3 * n + 4 + 1) X.A := hr.mono (by omega)
        refine LamX.run_ofS (N := d.N) (ps := d.ps) (us := us ++ [.ref fa]) (vs := vs ++ [.ref fa]) lk hcd hS hr3 I.env0 ?_ rr (by rw [rr.length]; exact hul) fun hr' => ?_
        · refine BindsTo.of_eq ((bind_kw _ d.ps (us ++ [.ref fa]) [] b1 b2 b3 b4 b5 b6 (Nat.le_of_eq hul) (by simp) (by simp) fun y hy => ?_).trans ?_)
          · obtain ⟨k, hk⟩ := List.getElem?_of_mem hy
            have hlt : k < (us ++ [Value.ref fa]).length := by rw [hul]; exact (List.getElem?_eq_some_iff.mp hk).1
            rw [List.append_nil, look_zip_nd ndP hk (List.getElem?_eq_getElem hlt)]
            rfl
          · rw [List.append_nil, fm_zip d.ps _ hul.symm fun k y a h1 h2 => look_zip_nd ndP h1 h2]
        · let cf' : Cf := ⟨fns P n, some (ds.length, c), fa, cσ, cρ, cc, cq, 3 * n⟩
          have ce' : ClE w cf' L R H := ⟨ce.len, ce.sl, ce.code⟩
          have hA := act (fns P n) (3 * n) d.N x scope cdv (by rw [e7]; exact (hr.mono (by omega)).deeper _)
          refine ⟨_, sss (cf := cf') Kt d.body (body_cok (cdv := cdv) (cf := cf') S ih hS rfl htab rfl rfl hcl X.A X.stack s H _ (hr'.mono (by omega)) hgd fun j c' z => ?_) rfl hS.kind hok, ?_⟩
          · cases z
            exact hA
          · have rel := start_rel (cf := cf') (us := [.ref fa]) (N := d.N) S0 r2 (by simp only [List.length_singleton]; omega) (fun j c' z => by
              cases z
              refine ⟨?_, ce'⟩
              unfold L2.start
              rw [List.getElem?_append_left (by simp [r2.length]), List.getElem?_map, List.getElem?_append_right (Nat.le_of_eq r2.length)]
              simp [r2.length]
              rfl)
            exact ⟨L, R, m, _, rel, fin_ok S0 h⟩
      · exact h.elim
end
end PM

end

section
set_option maxHeartbeats 4000000
/-! PM, part S: lots sorted, any number of them, the empty one too. -/
namespace PM
open PySem PySem.Spec PyProof.Rows L2
theorem lexLt_irr : ∀ a : List Int, lexLt a a = false
  | [] => rfl
  | x :: xs => by simp [lexLt, lexLt_irr xs]
theorem lexLt_asym : ∀ a b : List Int, lexLt a b = true → lexLt b a = false
  | [], [], h => by simp [lexLt] at h
  | [], _ :: _, _ => rfl
  | _ :: _, [], h => by simp [lexLt] at h
  | x :: xs, y :: ys, h => by
    simp only [lexLt] at h ⊢
    by_cases e : x = y
    · subst e
      rw [if_pos rfl] at h ⊢
      exact lexLt_asym xs ys h
    · rw [if_neg e] at h
      rw [if_neg (Ne.symm e)]
      simp only [decide_eq_true_eq] at h
      simp only [decide_eq_false_iff_not]
      omega
theorem lexLt_tri : ∀ a b : List Int, lexLt a b = false → lexLt b a = false → a = b
  | [], [], _, _ => rfl
  | [], _ :: _, h, _ => by simp [lexLt] at h
  | _ :: _, [], _, h => by simp [lexLt] at h
  | x :: xs, y :: ys, h, h' => by
    simp only [lexLt] at h h'
    by_cases e : x = y
    · subst e
      rw [if_pos rfl] at h h'
      rw [lexLt_tri xs ys h h']
    · rw [if_neg e] at h
      rw [if_neg (Ne.symm e)] at h'
      simp only [decide_eq_false_iff_not] at h h'
      omega
theorem lexLt_tr : ∀ a b c : List Int, lexLt a b = true → lexLt b c = true → lexLt a c = true
  | [], [], _, h, _ => by simp [lexLt] at h
  | [], _ :: _, [], _, h => by simp [lexLt] at h
  | [], _ :: _, _ :: _, _, _ => rfl
  | _ :: _, [], _, h, _ => by simp [lexLt] at h
  | _ :: _, _ :: _, [], _, h => by simp [lexLt] at h
  | x :: xs, y :: ys, z :: zs, h, h' => by
    simp only [lexLt] at h h' ⊢
    by_cases e : x = y
    · subst e
      rw [if_pos rfl] at h
      by_cases e2 : x = z
      · subst e2
        rw [if_pos rfl] at h' ⊢
        exact lexLt_tr xs ys zs h h'
      · rw [if_neg e2] at h' ⊢
        exact h'
    · rw [if_neg e] at h
      simp only [decide_eq_true_eq] at h
      by_cases e2 : y = z
      · subst e2
        rw [if_neg e]
        simpa using h
      · rw [if_neg e2] at h'
        simp only [decide_eq_true_eq] at h'
        rw [if_neg (by omega)]
        simp only [decide_eq_true_eq]
        omega
theorem lexLt_swo : SrtO.Swo lexLt := ⟨lexLt_asym, fun x y z h1 h2 => by
  cases h : lexLt z x with
  | false => rfl
  | true =>
    exfalso
    cases h3 : lexLt x y with
    | true => rw [lexLt_tr z x y h h3] at h2; cases h2
    | false =>
      have e := lexLt_tri x y h3 h1
      subst e
      rw [h] at h2; cases h2⟩
theorem lexLe_total (a b : List Int) : (lexLe a b || lexLe b a) = true := by
  unfold lexLe
  cases h : lexLt b a with
  | false => rfl
  | true => rw [lexLt_asym b a h]; rfl
theorem lexLe_trans (a b c : List Int) (h1 : lexLe a b = true) (h2 : lexLe b c = true) : lexLe a c = true := by
  unfold lexLe at *
  simp only [Bool.not_eq_true'] at *
  exact lexLt_swo.tr a b c h1 h2
/-- what is sorted by lexLe and has the same lots is sortLots -/
theorem sortLots_uniq {ls out : List (List Int)} (p : out.Perm ls) (s : out.Pairwise fun x y => lexLt y x = false) : out = sortLots ls := by
  have p2 : out.Perm (sortLots ls) := p.trans (List.mergeSort_perm ls lexLe).symm
  have s2 : (sortLots ls).Pairwise fun x y => lexLt y x = false := by
    have q := List.pairwise_mergeSort lexLe_trans lexLe_total ls
    exact q.imp fun {a b} h => by unfold lexLe at h; simpa using h
  exact p2.eq_of_pairwise (fun a b _ _ h1 h2 => lexLt_tri a b h2 h1) s s2

/-! ### at the machine -/
def LotAt (h : Heap) (v : Value) (k : List Int) : Prop := ∃ (a : Addr) (its : List Value), v = .ref a ∧ IsTup h a its.toArray ∧ IntsAre its k
theorem LotAt.keeps {h h' : Heap} {v : Value} {k : List Int} (x : LotAt h v k) (kp : ∀ b o, h.get? b = some o → o.cls = .type "tuple" → h'.get? b = some o) : LotAt h' v k := by
  obtain ⟨a, its, e, ⟨o, ho, hc, n, hd⟩, hi⟩ := x
  exact ⟨a, its, e, ⟨o, kp a o ho hc, hc, n, hd⟩, hi⟩
theorem LotAt.inj {h : Heap} {v : Value} {k k' : List Int} (x : LotAt h v k) (y : LotAt h v k') : k = k' := by
  obtain ⟨a, its, e, ⟨o, ho, hc, n, hd⟩, hi⟩ := x
  obtain ⟨a', its', e', ⟨o', ho', hc', n', hd'⟩, hi'⟩ := y
  rw [e] at e'
  cases e'
  rw [ho] at ho'
  cases ho'
  rw [hd] at hd'
  injection hd' with d1 _
  have : its = its' := by simpa using congrArg Array.toList d1
  subst this
  rw [← hi.nums, ← hi'.nums]
noncomputable def keyAt (h : Heap) (v : Value) : List Int := by
  classical
  exact if x : ∃ k, LotAt h v k then Classical.choose x else []
theorem keyAt_eq {h : Heap} {v : Value} {k : List Int} (x : LotAt h v k) : keyAt h v = k := by
  unfold keyAt
  have e : ∃ k, LotAt h v k := ⟨k, x⟩
  rw [dif_pos e]
  exact (Classical.choose_spec e).inj x
section
variable {prog : Program} {w0 : World} {A : Around} {s : Shared}
theorem lexK {Q : Bool → Shared → Prop} : ∀ {xs ys : List Value} {ns ms : List Int} (i : Nat), IntsAre xs ns → IntsAre ys ms → Q (lexLt ns ms) s → PySem.W.KatLex prog w0 A true (decide (ns.length < ms.length)) Q (xs.zip ys) i s
  | _, _, _, _, i, .nil, .nil, h => PySem.W.kat_nil h
  | _, _, _, _, i, .nil, .cons m t r, h => PySem.W.kat_nil (by simpa [lexLt] using h)
  | _, _, _, _, i, .cons n t r, .nil, h => PySem.W.kat_nil (by simpa [lexLt] using h)
  | _, _, _, _, i, .cons (ns := ns) n t r, .cons (ns := ms) m u r', h => by
    refine PySem.W.kat_cons (SeqAt.EqAt.int_int n t m u prog w0 _ _ ?_)
    simp only [lexLt] at h
    refine PySem.W.kat_go (fun e1 => ?_) (fun e1 => ?_)
    · have e : n = m := by simpa using e1
      rw [if_pos e] at h
      have q := lexK (i + 1) r r' h
      refine PySem.W.kat_yes ?_
      rw [show decide ((n :: ns).length < (m :: ms).length) = decide (ns.length < ms.length) by simp]
      exact q
    · have e : ¬ n = m := by simpa using e1
      rw [if_neg e] at h
      exact PySem.W.kat_no (TS.oneLt_ints _ h)
theorem lot_lt {x y : Addr} {xs ys : List Value} {ns ms : List Int} {Q : Value → Shared → Prop} {E : Value → Shared → Prop} (hx : IsTup s.heap x xs.toArray) (hy : IsTup s.heap y ys.toArray) (ix : IntsAre xs ns) (iy : IntsAre ys ms) (hu : A.units < cLine) (h : Q (.bool (lexLt ns ms)) s) : wpAny (model prog w0) A (compareOp .Lt (.ref x) (.ref y)) Q E s :=
  HT.lt_tupInts hx hy (by simpa using ix) (by simpa using iy) hu (by rw [lex_eq]; exact h)
/-- any two compare, whatever kind has been found -/
theorem lot_cmp {vs : List Value} {key : Value → List Int} (hp : ∀ v ∈ vs, LotAt s.heap v (key v)) (hu : A.units < cLine) (κ : SortKind) (hκ : κ = tuples' true ∨ κ = general' ∨ κ = oneType') : SrtO.Cmp prog w0 A s κ (fun p => p.1 ∈ vs) (SrtO.lt2 fun v u => lexLt (key v) (key u)) := by
  intro p q hm hm'
  obtain ⟨a, xs, e, hx, ix⟩ := hp _ hm
  obtain ⟨b, ys, e', hy, iy⟩ := hp _ hm'
  show wpAny (model prog w0) A (keyLt' κ p.1 q.1) (fun r s' => s' = s ∧ r = lexLt (key p.1) (key q.1)) (fun _ _ => False) s
  generalize key p.1 = ns at ix ⊢
  generalize key q.1 = ms at iy ⊢
  rw [e, e']
  rcases hκ with h | h | h
  · subst h
    obtain ⟨ox, hox, hcx, nx, hdx⟩ := hx
    obtain ⟨oy, hoy, hcy, ny, hdy⟩ := hy
    refine PySem.W.kat_lt hox hdx hoy hdy ?_
    have e1 : decide (xs.toArray.size < ys.toArray.size) = decide (ns.length < ms.length) := by rw [List.size_toArray, List.size_toArray, ix.length, iy.length]
    rw [e1]
    exact lexK 0 ix iy ⟨rfl, rfl⟩
  · subst h
    show wpAny (model prog w0) A (oneLt' false (.ref a) (.ref b)) _ _ s
    exact PySem.W.kat_one _ _ (lot_lt (Q := PySem.W.BoolBack _) hx hy ix iy hu (show s = s ∧ _ from ⟨rfl, rfl⟩))
  · subst h
    rw [keyLt'_oneType, oneLt'_eq]
    simp only [if_true]
    refine wpAny_bind (wpAny_cRoomFor hu ?_)
    obtain ⟨⟨cl1, dd1, da1, sl1⟩, hox, hcx, nx, hdx⟩ := id hx
    obtain ⟨⟨cl2, dd2, da2, sl2⟩, hoy, hcy, ny, hdy⟩ := id hy
    simp only at hcx hdx hcy hdy
    subst hcx hdx hcy hdy
    refine wpAny_bind (wpAny_callSpecialIfBound?_slot ⟨_, hox, rfl⟩ PySem.F.slot_tuple_lt (call_meets PySem.F.slot_tuple_lt ⟨_, hox, rfl⟩ PySem.F.entry_tuple_lt (PySem.F.args_tuple_lt_2 _ _) (HT.tuple_lt_ints a b xs.toArray ys.toArray nx ny dd1 dd2 sl1 sl2 ns ms (by simpa using ix) (by simpa using iy)) ⟨hox, hoy, ?_⟩))
    show wpAny _ _ (truthOfDropped (.bool _)) _ _ s
    refine wpAny_truthy_bool ?_
    rw [lex_eq]
    exact ⟨rfl, rfl⟩
theorem lot_kind {vs : List Value} {key : Value → List Int} (h2 : 2 ≤ vs.length) (hp : ∀ v ∈ vs, LotAt s.heap v (key v)) : ∃ κ, (κ = tuples' true ∨ κ = general' ∨ κ = oneType') ∧ ∀ (Q : SortKind → Shared → Prop) (E : Value → Shared → Prop), Q κ s → wpAny (model prog w0) A (keyKind' vs.toArray) Q E s := by
  -- the firsts
  have ty : ∀ v ∈ vs, PySem.W.Looks (model prog w0) s.heap (typeOf v) (.type "tuple") := fun v hv => by
    obtain ⟨a, its, e, ⟨o, ho, hc, n, hd⟩, _⟩ := hp v hv
    rw [e, ← hc]
    exact (PySem.W.Looks.ld ho).andThen .now
  have first : ∀ v ∈ vs, ∃ f : Option Value, (∀ (Q : Option Value → Shared → Prop) (E : Value → Shared → Prop), Q f s → wpAny (model prog w0) A (firstOfTuple' v) Q E s) ∧ (f = none ∨ ∃ (a : Addr) (o : Obj) (xs : Array Value) (n : Nat) (i : Int) (t : Tok), f = some (.int i t) ∧ v = .ref a ∧ s.heap.get? a = some o ∧ o.cls = .type "tuple" ∧ o.data = .seq xs n ∧ xs[0]? = some (.int i t)) := fun v hv => by
    obtain ⟨a, its, e, ⟨o, ho, hc, n, hd⟩, hi⟩ := hp v hv
    refine ⟨its[0]?, fun Q E h => ?_, ?_⟩
    · rw [e, PySem.W.kas_first_eq]
      refine wpAny_bind (PySem.W.Looks.here (show PySem.W.Looks (model prog w0) s.heap (typeOf (.ref a)) o.cls from (PySem.W.Looks.ld ho).andThen .now) ?_)
      rw [hc, if_neg (by first | decide | simp)]
      refine wpAny_bind (listItems_at ho hd (wpAny_pure ?_))
      simpa using h
    · cases its with
      | nil => exact .inl rfl
      | cons u us =>
        generalize key v = kv at hi
        cases hi with
        | cons i t r => exact .inr ⟨a, o, _, n, i, t, rfl, e, ho, hc, hd, by simp⟩
  have all : ∃ fs : List (Option Value), fs.length = vs.length ∧ (∀ (Q : List (Option Value) → Shared → Prop) (E : Value → Shared → Prop), Q fs s → wpAny (model prog w0) A (vs.mapM firstOfTuple') Q E s) ∧
      ((∃ gs : List Value, fs = gs.map some ∧ PySem.W.KatTups s.heap vs gs ∧ ∀ g ∈ gs, ∃ i t, g = .int i t) ∨ fs.all (·.isSome) = false) := by
    have go : ∀ us : List Value, (∀ v ∈ us, v ∈ vs) → ∃ fs : List (Option Value), fs.length = us.length ∧ (∀ (Q : List (Option Value) → Shared → Prop) (E : Value → Shared → Prop), Q fs s → wpAny (model prog w0) A (us.mapM firstOfTuple') Q E s) ∧
      ((∃ gs : List Value, fs = gs.map some ∧ PySem.W.KatTups s.heap us gs ∧ ∀ g ∈ gs, ∃ i t, g = .int i t) ∨ fs.all (·.isSome) = false) := by
      intro us
      induction us with
      | nil => exact fun _ => ⟨[], rfl, fun Q E h => by rw [List.mapM_nil]; exact wpAny_pure h, .inl ⟨[], rfl, PySem.W.KatTups.nil, fun g hg => by cases hg⟩⟩
      | cons v us ih =>
        intro hs
        obtain ⟨f, h1, h2⟩ := first v (hs v (List.mem_cons_self ..))
        obtain ⟨fs, l1, l2, l3⟩ := ih fun u hu => hs u (List.mem_cons_of_mem _ hu)
        refine ⟨f :: fs, by simp [l1], fun Q E h => ?_, ?_⟩
        · rw [List.mapM_cons]
          exact wpAny_bind (h1 _ _ (wpAny_bind (l2 _ _ (wpAny_pure h))))
        · rcases h2 with rfl | ⟨a, o, xs, n, i, t, rfl, ev, ho, hc, hd, h0⟩
          · exact .inr rfl
          · rcases l3 with ⟨gs, rfl, k1, k2⟩ | l3
            · rw [ev]
              exact .inl ⟨.int i t :: gs, rfl, PySem.W.KatTups.cons ho hc hd h0 k1, fun g hg => by
                rcases List.mem_cons.mp hg with z | z
                · exact ⟨i, t, z⟩
                · exact k2 g z⟩
            · exact .inr (by simpa using l3)
    exact go vs fun _ h => h
  obtain ⟨fs, hfl, hrun, hcase⟩ := all
  rcases hcase with ⟨gs, rfl, kt, hi⟩ | hno
  · refine ⟨tuples' true, .inl rfl, fun Q E h => PySem.W.kat_kind (T := .type "int") kt (by simp only [List.length_map] at hfl; omega) (fun g hg => ?_) rfl ?_⟩
    · obtain ⟨i, t, rfl⟩ := hi g hg
      exact PySem.W.Looks.now
    · rw [show (Value.type "int" != Value.type "tuple") = true from by first | decide +kernel | rfl | decide]
      exact h
  · by_cases h0 : (fs.toArray[0]?.bind id).isSome = true
    · refine ⟨general', .inr (.inl rfl), fun Q E h => ?_⟩
      rw [PyProof.Rows.kat_kind_eq, List.mapM_toArray, map_eq_pure_bind]
      refine wpAny_bind (wpAny_bind (hrun _ _ (wpAny_pure ?_)))
      rw [if_neg (by simpa using hno), if_pos h0]
      exact wpAny_pure h
    · refine ⟨oneType', .inr (.inr rfl), fun Q E h => ?_⟩
      rw [PyProof.Rows.kat_kind_eq, List.mapM_toArray, map_eq_pure_bind]
      refine wpAny_bind (wpAny_bind (hrun _ _ (wpAny_pure ?_)))
      rw [if_neg (by simpa using hno), if_neg h0]
      rw [oneTypeOnly'_eq, List.mapM_toArray, map_eq_pure_bind]
      refine wpAny_bind (wpAny_bind (wpAny_bind (PySem.W.kas_mapM (r := .type "tuple") _ (fun v hv Q' hq => (ty v hv).here hq) (wpAny_pure ?_))))
      have hall2 : ((List.map (fun _ => Value.type "tuple") vs).toArray.all fun x => x == Value.type "tuple") = true := by simp
      obtain ⟨v, us, rfl⟩ : ∃ v us, vs = v :: us := by
        match vs, h2 with
        | v :: us, _ => exact ⟨v, us, rfl⟩
      have h00 : (List.map (fun _ => Value.type "tuple") (v :: us)).toArray[0]? = some (Value.type "tuple") := by simp
      rw [h00]
      simp only [hall2, if_true]
      exact wpAny_pure (wpAny_pure h)
theorem lots_sortable {a : Addr} {vs : List Value} {key : Value → List Int} (h2 : 2 ≤ vs.length) (hp : ∀ v ∈ vs, LotAt s.heap v (key v)) (ha : ∀ o, s.heap.get? a = some o → o.cls ≠ .type "tuple") (hu : A.units < cLine) : SrtO.SortableO prog w0 A s a vs fun v u => lexLt (key v) (key u) := by
  intro h' keep
  have hp' : ∀ v ∈ vs, LotAt h' v (key v) := fun v hm => (hp v hm).keeps fun b o e c => keep b o (fun z => by subst z; exact ha o e c) e
  obtain ⟨κ, h1, h3⟩ := lot_kind (prog := prog) (w0 := w0) (A := A) (s := { s with heap := h' }) h2 hp'
  exact ⟨κ, h3, lot_cmp (s := { s with heap := h' }) hp' hu κ h1⟩
end
end PM

end

section
set_option maxHeartbeats 4000000
/-! PM, part T: sorted(..) of lots, sorted(set(..)). -/
namespace PM
open PySem PySem.Spec PyProof.Rows L2
section
variable {X : Cx} {w : Wd}
theorem RepL.maps {L R : List Addr} {H : Hp} {α : Type} {f : α → V} {g : α → D} : ∀ {us : List α}, (∀ u ∈ us, Rep w L R H (f u) (g u)) → RepL w L R H (us.map f) (us.map g)
  | [], _ => .nil
  | u :: us, h => .cons (h u (List.mem_cons_self ..)) (RepL.maps fun v hv => h v (List.mem_cons_of_mem _ hv))
/-- lots that are read stand at the machine -/
theorem lots_at (hK : X.K = w.K) {pins : List (Addr × Obj)} {σ : L2.St} {H : Hp} {s : Shared} {L R : List Addr} (I : Inv X pins σ H s) : ∀ {ys : List V} {its : List Value} {ls : List (List Int)}, Vals ys its → RepL w L R H ys (ls.map lotD) →
    (∀ v ∈ its, LotAt s.heap v (keyAt s.heap v) ∧ (∃ a, v = .ref a) ∧ Rep w L R H (bkV v) (lotD (keyAt s.heap v))) ∧ its.map (keyAt s.heap) = ls
  | _, _, [], .nil, r => ⟨fun v h => (by cases h), rfl⟩
  | _, _, [], .cons _ _, r => by cases r
  | _, _, l :: ls, .nil, r => by cases r
  | _, _, l :: ls, .cons rv t, r => by
    have r' : RepL w L R H _ (lotD l :: ls.map lotD) := r
    cases r' with
    | cons q qs =>
      obtain ⟨h1, h2⟩ := lots_at hK I t qs
      obtain ⟨a, xs, rfl, sq, ti⟩ := Rep.tup_inv q
      cases rv
      have sq' := sq
      rw [← hK] at sq'
      obtain ⟨jt, rj, pj, _⟩ := I.tuple sq'
      have ha : LotAt s.heap (.ref a) l := ⟨a, jt, rfl, pj, Vals.ints (by rw [← ti.ints]; exact rj)⟩
      refine ⟨fun v hv => ?_, by rw [List.map_cons, keyAt_eq ha, h2]⟩
      rcases List.mem_cons.mp hv with e | hv
      · subst e
        rw [keyAt_eq ha]
        exact ⟨ha, ⟨a, rfl⟩, q⟩
      · exact h1 v hv
theorem key_swo (key : Value → List Int) : SrtO.Swo fun v u => lexLt (key v) (key u) := ⟨fun x y => lexLt_asym _ _, fun x y z => lexLt_swo.tr _ _ _⟩
/-! ### sorted ints -/
theorem insZ_perm (x : Int) : ∀ l : List Int, (insZ x l).Perm (x :: l)
  | [] => .refl _
  | y :: l => by
    unfold insZ
    split
    · exact .refl _
    · exact ((insZ_perm x l).cons y).trans (.swap x y l)
theorem sortZ_perm : ∀ l : List Int, (sortZ l).Perm l
  | [] => .refl _
  | x :: l => (insZ_perm x (sortZ l)).trans ((sortZ_perm l).cons x)
theorem insZ_sorted (x : Int) : ∀ l : List Int, l.Pairwise (· ≤ ·) → (insZ x l).Pairwise (· ≤ ·)
  | [], _ => by simp [insZ]
  | y :: l, h => by
    unfold insZ
    obtain ⟨h1, h2⟩ := List.pairwise_cons.mp h
    split
    · rename_i hxy
      exact List.pairwise_cons.mpr ⟨fun z hz => by
        rcases List.mem_cons.mp hz with rfl | hz
        · exact hxy
        · exact Int.le_trans hxy (h1 z hz), h⟩
    · rename_i hxy
      refine List.pairwise_cons.mpr ⟨fun z hz => ?_, insZ_sorted x l h2⟩
      rcases List.mem_cons.mp ((insZ_perm x l).mem_iff.mp hz) with rfl | hz
      · omega
      · exact h1 z hz
theorem sortZ_sorted : ∀ l : List Int, (sortZ l).Pairwise (· ≤ ·)
  | [] => .nil
  | x :: l => insZ_sorted x _ (sortZ_sorted l)
theorem sortZ_uniq {l out : List Int} (p : out.Perm l) (s : out.Pairwise (· ≤ ·)) : out = sortZ l :=
  (p.trans (sortZ_perm l).symm).eq_of_pairwise (fun a b _ _ h1 h2 => Int.le_antisymm h1 h2) s (sortZ_sorted l)
/-! ### max, min of a list that is not empty -/
theorem dat_call {prog : Program} {w0 : World} {A : Around} {E : Value → Shared → Prop} {s : Shared} {α : Type} [DecidableEq α] [PySem.W.DatumOrd α] (hd : PySem.W.Datum.depth α ≤ 1) (mx : Bool) {kw : List (Str × Value)} (hkw : kw = [] ∨ ∃ u, kw = [(Str.ofString "default", u)]) {l : Addr} {vs : Array Value} {x : α} {xs : List α} {Q : Value → Shared → Prop}
    (hh : A.handled = none) (hl : s.heap.IsList l vs ∨ s.heap.IsTuple l vs) (H : PySem.W.HoldAll s.heap vs.toList (x :: xs)) (hu : A.units + 100 < cLine)
    (h : ∀ (i : Nat) v h' tk, vs[i]? = some v → PySem.W.Holds h' v (if mx then PySem.W.maxOf x xs else PySem.W.minOf x xs) → (∀ b o, s.heap.get? b = some o → h'.get? b = some o) → Q v { s with heap := h', toks := tk }) :
    wpAny (model prog w0) A (call (.builtin (if mx then "max" else "min")) [.ref l] kw) Q E s := by
  have hu' : A.units + 1 + PySem.W.Datum.depth α < cLine := by omega
  cases mx with
  | true =>
    rcases hkw with rfl | ⟨u, rfl⟩
    · rcases hl with hl | hl
      · exact PySem.W.max_list_datum hh hl H hu' h
      · exact PySem.W.max_tuple_datum hh hl H hu' h
    · rcases hl with hl | hl
      · refine PySem.W.max_list_datum_default hh hl H hu' (fun e => by cases e) fun y ys i v h' tk e hi r hk => ?_
        cases e
        exact h i v h' tk hi r hk
      · refine PySem.W.max_tuple_datum_default hh hl H hu' (fun e => by cases e) fun y ys i v h' tk e hi r hk => ?_
        cases e
        exact h i v h' tk hi r hk
  | false =>
    rcases hkw with rfl | ⟨u, rfl⟩
    · rcases hl with hl | hl
      · exact PySem.W.min_list_datum hh hl H hu' h
      · exact PySem.W.min_tuple_datum hh hl H hu' h
    · rcases hl with hl | hl
      · refine PySem.W.min_list_datum_default hh hl H hu' (fun e => by cases e) fun y ys i v h' tk e hi r hk => ?_
        cases e
        exact h i v h' tk hi r hk
      · refine PySem.W.min_tuple_datum_default hh hl H hu' (fun e => by cases e) fun y ys i v h' tk e hi r hk => ?_
        cases e
        exact h i v h' tk hi r hk
/-- the same of data -/
theorem data_call {prog : Program} {w0 : World} {A : Around} {E : Value → Shared → Prop} {s : Shared} (mx : Bool) {kw : List (Str × Value)} (hkw : kw = [] ∨ ∃ u, kw = [(Str.ofString "default", u)]) {l : Addr} {vs : Array Value} {x : PyData} {xs : List PyData} {as : List Addr} {Q : Value → Shared → Prop}
    (hh : A.handled = none) (hl : s.heap.IsList l vs ∨ s.heap.IsTuple l vs) (hr : ReadsAll s.heap vs.toList (x :: xs) as) (ha : PySem.W.AlikeAll (x :: xs)) (hu : A.units + 1 + PyData.depthAll (x :: xs) < cLine)
    (h : ∀ (i : Nat) v h' tk bs, vs[i]? = some v → Reads h' v (if mx then PySem.W.maxD x xs else PySem.W.minD x xs) bs → (∀ b o, s.heap.get? b = some o → h'.get? b = some o) → Q v { s with heap := h', toks := tk }) :
    wpAny (model prog w0) A (call (.builtin (if mx then "max" else "min")) [.ref l] kw) Q E s := by
  cases mx with
  | true =>
    rcases hkw with rfl | ⟨u, rfl⟩
    · rcases hl with hl | hl
      · exact PySem.W.max_list_data hh hl hr ha hu h
      · exact PySem.W.max_tuple_data hh hl hr ha hu h
    · rcases hl with hl | hl
      · refine PySem.W.max_list_default hh hl hr ha hu (fun e => by cases e) fun y ys i v h' tk bs e hi r hk => ?_
        cases e
        exact h i v h' tk bs hi r hk
      · refine PySem.W.max_tuple_default hh hl hr ha hu (fun e => by cases e) fun y ys i v h' tk bs e hi r hk => ?_
        cases e
        exact h i v h' tk bs hi r hk
  | false =>
    rcases hkw with rfl | ⟨u, rfl⟩
    · rcases hl with hl | hl
      · exact PySem.W.min_list_data hh hl hr ha hu h
      · exact PySem.W.min_tuple_data hh hl hr ha hu h
    · rcases hl with hl | hl
      · refine PySem.W.min_list_default hh hl hr ha hu (fun e => by cases e) fun y ys i v h' tk bs e hi r hk => ?_
        cases e
        exact h i v h' tk bs hi r hk
      · refine PySem.W.min_tuple_default hh hl hr ha hu (fun e => by cases e) fun y ys i v h' tk bs e hi r hk => ?_
        cases e
        exact h i v h' tk bs hi r hk
theorem py_inj : ∀ (d e : PM.D), d.pure = true → e.pure = true → d.py = e.py → d = e := by
  intro d
  induction d using D.rec (motive_2 := fun ds => ∀ es, pureL ds = true → pureL es = true → pyL ds = pyL es → ds = es) with
  | non => intro e _ pe h; cases e <;> first | (simp at pe; done) | (simp [D.py] at h; done) | rfl
  | bl b => intro e _ pe h; cases e <;> first | (simp at pe; done) | (simp [D.py] at h; done) | (simp [D.py] at h; rw [h])
  | int i => intro e _ pe h; cases e <;> first | (simp at pe; done) | (simp [D.py] at h; done) | (simp [D.py] at h; rw [h])
  | str x => intro e _ pe h; cases e <;> first | (simp at pe; done) | (simp [D.py] at h; done) | (simp [D.py] at h; rw [h])
  | tup xs ih => intro e pd pe h; cases e <;> first | (simp at pe; done) | (simp [D.py] at h; done) | (simp only [D.py, PyData.tuple.injEq] at h; rw [ih _ (by simpa using pd) (by simpa using pe) h])
  | lst xs ih => intro e pd pe h; cases e <;> first | (simp at pe; done) | (simp [D.py] at h; done) | (simp only [D.py, PyData.list.injEq] at h; rw [ih _ (by simpa using pd) (by simpa using pe) h])
  | ref l => intro e pd; simp at pd
  | fn x => intro e pd; simp at pd
  | ty n => intro e pd; simp at pd
  | nil => rename_i es _ _ h; cases es <;> simp_all [pyL]
  | cons x xs ih1 ih2 =>
    rename_i es pd pe h
    cases es with
    | nil => simp [pyL] at h
    | cons e es =>
      simp only [pureL_cons, Bool.and_eq_true] at pd pe
      simp only [pyL, List.cons.injEq] at h
      rw [ih1 e pd.1 pe.1 h.1, ih2 es pd.2 pe.2 h.2]
theorem mmG_py (mx : Bool) : ∀ (ds : List PM.D) (d : PM.D), (if mx then PySem.W.maxD d.py (pyL ds) else PySem.W.minD d.py (pyL ds)) = (mmG mx d ds).py
  | [], d => by cases mx <;> rfl
  | y :: ds, d => by
    have ih := mmG_py mx ds
    cases mx with
    | true =>
      show PySem.W.maxD (if PySem.W.dataLt d.py y.py then y.py else d.py) (pyL ds) = (mmG true (if ltA d y then y else d) ds).py
      rw [← ih]
      show _ = PySem.W.maxD (if ltA d y then y else d).py (pyL ds)
      unfold ltA; split <;> rfl
    | false =>
      show PySem.W.minD (if PySem.W.dataLt y.py d.py then y.py else d.py) (pyL ds) = (mmG false (if ltA y d then y else d) ds).py
      rw [← ih]
      show _ = PySem.W.minD (if ltA y d then y else d).py (pyL ds)
      unfold ltA; split <;> rfl
theorem mmG_mem (mx : Bool) : ∀ (ds : List PM.D) (d : PM.D), mmG mx d ds ∈ d :: ds
  | [], d => by simp [mmG]
  | y :: ds, d => by
    have ih := mmG_mem mx ds (if mx then (if ltA d y then y else d) else (if ltA y d then y else d))
    rcases List.mem_cons.mp ih with e | h
    · show mmG mx _ ds ∈ _
      rw [e]
      cases mx <;> simp only [Bool.false_eq_true, if_false, if_true] <;> split <;> simp
    · exact List.mem_cons_of_mem _ (List.mem_cons_of_mem _ h)
theorem alkA_spec {ds : List PM.D} (h : alkA ds = true) : (∀ x ∈ ds, ok8 x = true ∧ x.py ≠ .none) ∧ ∀ x ∈ ds, ∀ y ∈ ds, PySem.W.alike x.py y.py = true := by
  have k : ∀ x ∈ ds, ∀ y ∈ ds, alkB x y = true := fun x hx y hy => List.all_eq_true.mp (List.all_eq_true.mp h x hx) y hy
  exact ⟨fun x hx => ⟨(alk_spec (k x hx x hx)).1, (alk_spec (k x hx x hx)).2.2.2⟩, fun x hx y hy => (alk_spec (k x hx y hy)).2.2.1⟩
theorem mem_pyL {x : PyData} : ∀ {ds : List PM.D}, x ∈ pyL ds ↔ ∃ d ∈ ds, d.py = x
  | [] => by simp [pyL]
  | d :: ds => by
    unfold pyL
    rw [List.mem_cons, mem_pyL (ds := ds)]
    simp [eq_comm]
theorem pyL_map : ∀ ds : List PM.D, pyL ds = ds.map D.py
  | [] => rfl
  | d :: ds => by unfold pyL; rw [List.map_cons, pyL_map ds]
theorem depth_all {ds : List PM.D} (h : ∀ x ∈ ds, ok8 x = true) : PyData.depthAll (pyL ds) ≤ 8 := by
  induction ds with
  | nil => simp [pyL, PyData.depthAll]
  | cons d ds ih =>
    have h1 := (okd_spec _ _ (h d (List.mem_cons_self ..))).2.2
    have h2 := ih fun x hx => h x (List.mem_cons_of_mem _ hx)
    simp [pyL, PyData.depthAll]; omega
theorem reads_ints {h : Heap} : ∀ {its : List Value} {k : List Int}, IntsAre its k → ∃ as, ReadsAll h its (k.map PyData.int) as
  | _, _, .nil => ⟨_, .nil⟩
  | _, _, .cons i t r => by
    obtain ⟨as, e⟩ := reads_ints (h := h) r
    exact ⟨_, .cons (.int i t) e⟩
theorem reads_ints_inv {h : Heap} : ∀ {its : List Value} {k : List Int} {as : List Addr}, ReadsAll h its (k.map PyData.int) as → IntsAre its k
  | _, [], _, .nil => .nil
  | _, i :: k, _, r => by
    have r' : ReadsAll h _ (PyData.int i :: k.map PyData.int) _ := r
    cases r' with
    | cons a t =>
      cases a with
      | int _ tk => exact .cons i tk (reads_ints_inv t)
theorem holds_lot {h : Heap} {v : Value} {k : List Int} (x : LotAt h v k) : PySem.W.Holds h v (PySem.W.Tup.mk k) := by
  obtain ⟨a, its, rfl, ⟨o, ho, hc, n, hd⟩, hi⟩ := x
  obtain ⟨as, e⟩ := reads_ints (h := h) hi
  exact ⟨_, .tuple ho hc hd (by have e2 : ReadsAll h its (k.map PySem.W.Datum.toD) as := e; simpa using e2)⟩
theorem holds_lot_inv {h : Heap} {v : Value} {k : List Int} (x : PySem.W.Holds h v (PySem.W.Tup.mk k)) : LotAt h v k := by
  obtain ⟨as, r⟩ := x
  have r : Reads h v (.tuple (k.map PyData.int)) as := r
  cases r with
  | tuple ho hc hd r => exact ⟨_, _, rfl, ⟨_, ho, hc, _, by simpa using hd⟩, reads_ints_inv r⟩
theorem holdAll_lots {h : Heap} {key : Value → List Int} : ∀ {its : List Value}, (∀ v ∈ its, LotAt h v (key v)) → PySem.W.HoldAll h its ((its.map key).map PySem.W.Tup.mk)
  | [], _ => ⟨_, .nil⟩
  | v :: its, hv => by
    obtain ⟨as, e1⟩ := holds_lot (hv v (List.mem_cons_self ..))
    obtain ⟨bs, e2⟩ := holdAll_lots fun u hu => hv u (List.mem_cons_of_mem _ hu)
    exact ⟨_, .cons e1 e2⟩
theorem listLt_lex : ∀ a b : List Int, PySem.W.listLt a b = lexLt a b
  | [], [] => rfl
  | [], _ :: _ => rfl
  | _ :: _, [] => rfl
  | x :: xs, y :: ys => by
    show (if x = y then PySem.W.listLt xs ys else decide (x < y)) = _
    rw [listLt_lex xs ys]; rfl
theorem tup_mm (mx : Bool) : ∀ (ls : List (List Int)) (l : List Int), (if mx then PySem.W.maxOf (PySem.W.Tup.mk l) (ls.map PySem.W.Tup.mk) else PySem.W.minOf (PySem.W.Tup.mk l) (ls.map PySem.W.Tup.mk)) = PySem.W.Tup.mk (mmL mx l ls)
  | [], l => by cases mx <;> rfl
  | y :: ls, l => by
    have ih := tup_mm mx ls
    cases mx with
    | true =>
      show PySem.W.maxOf (if PySem.W.listLt l y = true then PySem.W.Tup.mk y else PySem.W.Tup.mk l) (ls.map PySem.W.Tup.mk) = PySem.W.Tup.mk (mmL true (if lexLt l y then y else l) ls)
      rw [listLt_lex]
      split
      · exact ih y
      · exact ih l
    | false =>
      show PySem.W.minOf (if PySem.W.listLt y l = true then PySem.W.Tup.mk y else PySem.W.Tup.mk l) (ls.map PySem.W.Tup.mk) = PySem.W.Tup.mk (mmL false (if lexLt y l then y else l) ls)
      rw [listLt_lex]
      split
      · exact ih y
      · exact ih l
theorem rep_at {L R : List Addr} {H : Hp} : ∀ {ys : List V} {its : List Value} {ds : List PM.D} {j : Nat} {v : Value}, Vals ys its → RepL w L R H ys ds → its[j]? = some v → ∃ y d, ys[j]? = some y ∧ ds[j]? = some d ∧ RelV y v ∧ Rep w L R H y d
  | _, _, _, j, v, .nil, _, h => by simp at h
  | _, _, _, 0, v, .cons a t, .cons r q, h => by
    have h' := Option.some.inj h
    subst h'
    exact ⟨_, _, rfl, rfl, a, r⟩
  | _, _, _, j + 1, v, .cons a t, .cons r q, h => by
    obtain ⟨y, d, h1, h2, h3, h4⟩ := rep_at (j := j) t q (by simpa using h)
    exact ⟨y, d, by simpa using h1, by simpa using h2, h3, h4⟩
theorem mmB_call (hK : X.K = w.K) (hc : X.calm = true) (hu : X.A.units + 100 < cLine) {mx : Bool} {kw : List (Str × Value)} (hkw : kw = [] ∨ ∃ u, kw = [(Str.ofString "default", u)]) {pins : List (Addr × Obj)} {σ : L2.St} {H : Hp} {s : Shared} {L R : List Addr} {m : M} {v : V} {u : Value} {d z : PM.D} {Q : VK} {W : XW} (I : Inv X pins σ H s) (S : StOk w L R m H) (ra : Rep w L R H v d) (ru : RelV v u) (hz : mmB mx d m = some z)
    (q : Post w (Rep w) L R H (.ok z m) Q W) : wpAny (model X.prog X.w) X.A (call (.builtin (if mx then "max" else "min")) [u] kw) (EP X pins σ Q) X.xe s := by
  unfold mmB at hz
  cases e : seqOf d m with
  | none => rw [e] at hz; cases hz
  | some zs =>
    rw [e] at hz
    simp only [Option.bind_some] at hz
    obtain ⟨a, ys, rfl, h1, t1⟩ := seqOf_inv S ra e
    obtain rfl : u = Value.ref a := ru
    rw [← hK] at h1
    have hsq : ∃ its, Vals ys its ∧ (s.heap.IsList a its.toArray ∨ s.heap.IsTuple a its.toArray) := by
      rcases h1 with h1 | h1
      · obtain ⟨its, rv, pl, _⟩ := I.list h1
        exact ⟨its, rv, .inl pl.isList⟩
      · obtain ⟨its, rv, pl, _⟩ := I.tuple h1
        exact ⟨its, rv, .inr pl⟩
    obtain ⟨its, rv, pl⟩ := hsq
    cases e2 : asInts zs with
    | some is =>
      rw [e2] at hz
      rw [asInts_some e2] at t1
      rw [t1.ints] at rv
      cases is with
      | nil => cases hz
      | cons i is =>
        cases hz
        refine dat_call (α := Int) (by decide) mx hkw (I.ok.hd hc) pl (holdAll_ints rv) hu fun j v h' tk hi r hk => ?_
        have e3 : (if mx then PySem.W.maxOf i is else PySem.W.minOf i is) = mmI mx i is := by cases mx <;> first | exact max_mmI i is | exact min_mmI i is
        rw [e3] at r
        exact ⟨.int _, H, I.kept hk, holds_int_inv r, q L _ H (Grow.refl _ _) S (.int _)⟩
    | none =>
      rw [e2] at hz
      cases e3 : lots? zs with
      | none =>
        rw [e3] at hz
        cases zs with
        | nil => cases hz
        | cons z0 zs =>
          simp only at hz
          split at hz
          · rename_i hal
            obtain ⟨k1, k2⟩ := alkA_spec hal
            have hp : pureL (z0 :: zs) = true := pureL_mem.mpr fun x hx => ok8_pure (k1 x hx).1
            have dp := RepL.dp hp t1
            rw [← hK] at dp
            obtain ⟨as, rd⟩ := Dp.readsAll I _ _ _ dp rv
            have hd := depth_all fun x hx => (k1 x hx).1
            refine data_call mx hkw (I.ok.hd hc) pl (x := z0.py) (xs := pyL zs) (by simpa [pyL] using rd) ⟨fun x hx y hy => ?_, fun x hx => ?_⟩ (by unfold pyL at hd; omega) fun j v h' tk bs hi r hk => ?_
            · obtain ⟨x', hx', rfl⟩ := mem_pyL.mp (show x ∈ pyL (z0 :: zs) from hx)
              obtain ⟨y', hy', rfl⟩ := mem_pyL.mp (show y ∈ pyL (z0 :: zs) from hy)
              exact k2 x' hx' y' hy'
            · obtain ⟨x', hx', rfl⟩ := mem_pyL.mp (show x ∈ pyL (z0 :: zs) from hx)
              exact (k1 x' hx').2
            · have hi' : its[j]? = some v := by simpa using hi
              obtain ⟨yv, dv, ev, ed, rr, rp⟩ := rep_at rv t1 hi'
              have dvm : dv ∈ z0 :: zs := List.mem_of_getElem? ed
              have d1 := Rep.dp (ok8_pure (k1 dv dvm).1) rp
              rw [← hK] at d1
              obtain ⟨cs, r1⟩ := Dp.reads I _ _ _ d1 rr
              have e4 := (PyProof.Rows.reads_det (fun b o eo _ => hk b o eo) r1 r).1
              rw [mmG_py] at e4
              have e5 : mmG mx z0 zs = dv := py_inj _ _ (ok8_pure (k1 _ (mmG_mem mx zs z0)).1) (ok8_pure (k1 dv dvm).1) e4
              cases hz
              rw [e5] at q
              exact ⟨yv, H, I.kept hk, rr, q L _ H (Grow.refl _ _) S rp⟩
          · cases hz
      | some ls =>
        rw [e3] at hz
        rw [lots_some e3] at t1
        obtain ⟨hp, hk⟩ := lots_at hK I rv t1
        cases ls with
        | nil => cases hz
        | cons l ls =>
          cases hz
          have hA := holdAll_lots fun v hv => (hp v hv).1
          rw [hk] at hA
          refine dat_call (α := PySem.W.Tup Int) (by decide) mx hkw (I.ok.hd hc) pl (by simpa using hA) hu fun j v h' tk hi r kk => ?_
          rw [tup_mm mx ls l] at r
          have hv : v ∈ its := by
            have : its[j]? = some v := by simpa using hi
            exact List.mem_of_getElem? this
          obtain ⟨k1, ⟨b, k2⟩, k3⟩ := hp v hv
          have k4 := LotAt.inj (k1.keeps fun b o e _ => kk b o e) (holds_lot_inv r)
          rw [k4] at k3
          subst k2
          exact ⟨.ref b, H, I.kept kk, rfl, q L _ H (Grow.refl _ _) S k3⟩
theorem call_mm (hK : X.K = w.K) (hc : X.calm = true) (hu : X.A.units + 100 < cLine) (p : Pr) (hp : p = .max ∨ p = .min) (c : Bool) : CallR X p.val (rp w fun ds m => (prim p ds m).out c m) := by
  intro pins s σ H xs us Q I rr h
  obtain ⟨L, R, m, ds, W, S, r, q⟩ := h
  replace q : Post w (Rep w) L R H ((prim p ds m).out c m) Q W := q
  rcases hp with rfl | rfl
  · rcases ds with _ | ⟨d, _ | ⟨e, _ | ⟨f, t⟩⟩⟩
    · exact q.elim
    · obtain ⟨v, rfl, ra⟩ := r.one
      simp only [prim] at q
      cases e : mmB true d m with
      | none => rw [e] at q; exact q.elim
      | some z =>
        rw [e] at q
        cases rr with
        | cons ru t => cases t; exact mmB_call hK hc hu (mx := true) (.inl rfl) I S ra ru e q
    · obtain ⟨v, u, rfl, ra, rb⟩ := r.two
      cases d <;> try exact q.elim
      cases e <;> try exact q.elim
      cases ra; cases rb
      exact call_max2 hc pins s σ H _ us Q I rr ⟨_, _, rfl, Post.val q S (.int _)⟩
    · rcases d <;> rcases e <;> exact q.elim
  · rcases ds with _ | ⟨d, _ | ⟨e, _ | ⟨f, t⟩⟩⟩
    · exact q.elim
    · obtain ⟨v, rfl, ra⟩ := r.one
      simp only [prim] at q
      cases e : mmB false d m with
      | none => rw [e] at q; exact q.elim
      | some z =>
        rw [e] at q
        cases rr with
        | cons ru t => cases t; exact mmB_call hK hc hu (mx := false) (.inl rfl) I S ra ru e q
    · obtain ⟨v, u, rfl, ra, rb⟩ := r.two
      cases d <;> try exact q.elim
      cases e <;> try exact q.elim
      cases ra; cases rb
      exact call_min2 hc pins s σ H _ us Q I rr ⟨_, _, rfl, Post.val q S (.int _)⟩
    · rcases d <;> rcases e <;> exact q.elim
theorem each_rep {L R : List Addr} {H : Hp} : ∀ {ys : List V} {its : List Value} {ds : List PM.D}, Vals ys its → RepL w L R H ys ds → PySem.W.EachIs (fun v d => ∃ y, RelV y v ∧ Rep w L R H y d) its ds
  | _, _, _, .nil, .nil => .nil
  | _, _, _, .cons a t, .cons r q => .cons ⟨_, a, r⟩ (each_rep t q)
theorem rep_each {L R : List Addr} {H : Hp} : ∀ {its : List Value} {ds : List PM.D}, PySem.W.EachIs (fun v d => ∃ y, RelV y v ∧ Rep w L R H y d) its ds → ∃ ys, Vals ys its ∧ RepL w L R H ys ds
  | _, _, .nil => ⟨[], .nil, .nil⟩
  | _, _, .cons ⟨y, a, r⟩ t => by
    obtain ⟨ys, h1, h2⟩ := rep_each t
    exact ⟨y :: ys, .cons a h1, .cons r h2⟩
theorem call_sorted (hK : X.K = w.K) (hu : X.A.units + 100 < cLine) (c : Bool) : CallR X (.builtin "sorted") (rp w fun ds m => (prim .sorted ds m).out c m) := by
  intro pins s σ H xs us Q I rr h
  obtain ⟨L, R, m, ds, W, S, r, q⟩ := h
  rcases ds with _ | ⟨d, _ | ⟨e, t⟩⟩
  · exact q.elim
  · obtain ⟨v, rfl, ra⟩ := r.one
    simp only [prim] at q
    cases e : items d m with
    | none => rw [e] at q; exact q.elim
    | some zs =>
      rw [e] at q
      simp only [Option.bind_some] at q
      cases e2 : lots? zs with
      | none =>
        rw [e2] at q
        simp only at q
        cases e3 : asInts zs with
        | none =>
          rw [e3] at q
          simp only at q
          split at q
          · rename_i hs
            unfold srtB at hs
            rw [Bool.and_eq_true, Bool.or_eq_true, List.all_eq_true, List.all_eq_true] at hs
            obtain ⟨k1, k2⟩ := alkA_spec hs.1
            obtain ⟨a, ys, rfl, h1, t1⟩ := items_inv S ra e
            rw [Vals.ref1 rr]
            rw [← hK] at h1
            obtain ⟨its, rv, pl, hz⟩ := I.list h1
            have hp : pureL zs = true := pureL_mem.mpr fun x hx => ok8_pure (k1 x hx).1
            have dp := RepL.dp hp t1
            rw [← hK] at dp
            obtain ⟨as, rd⟩ := Dp.readsAll I _ _ _ dp rv
            rw [pyL_map] at rd
            have ee : PySem.W.EachIs (fun v d => ∃ y, RelV y v ∧ Rep w L R H y d) its zs := each_rep rv t1
            refine PySem.W.sorted_data (enc := D.py) pl.isList ee (PySem.W.readsAll_each D.py rd) ?_ ?_ ?_ ?_ fun out hl ho => ?_
            · intro x hx y hy
              obtain ⟨x', hx', rfl⟩ := List.mem_map.mp hx
              obtain ⟨y', hy', rfl⟩ := List.mem_map.mp hy
              exact k2 x' hx' y' hy'
            · rcases hs.2 with hs2 | hs2
              · refine .inl fun x hx => ?_
                obtain ⟨x', hx', rfl⟩ := List.mem_map.mp hx
                have z := hs2 x' hx'
                cases x' with
                | tup l =>
                  cases l with
                  | nil => cases z
                  | cons y l => exact ⟨y.py, pyL l, by simp [D.py, pyL]⟩
                | _ => cases z
              · refine .inr fun x hx => ?_
                obtain ⟨x', hx', rfl⟩ := List.mem_map.mp hx
                have z := hs2 x' hx'
                refine ⟨(k1 x' hx').2, fun l => ?_⟩
                cases x' <;> first | (cases z; done) | simp [D.py]
            · rw [← t1.length]; exact hz
            · intro b hb
              have := (okd_spec _ _ (k1 b hb).1).2.2
              omega
            · rw [PySem.W.dataLe_eq] at ho
              obtain ⟨ys', vals, rep⟩ := rep_each ho
              have rep : RepL w L R H ys' (sortA zs) := rep
              obtain ⟨hlen, fin⟩ := Post.lst q S rep
              obtain ⟨n, hn⟩ := sortedAll_at s.heap its out.toArray
              have I2 := I.laid (t' := s.toks) (h' := sortedAll s.heap its out.toArray) (a := s.heap.objs.size + 1) (o := .lst ys') (fun b o e => sortedAll_old e) (Nat.le_succ _) ⟨hlen, out, n, vals, hn⟩
              exact ⟨.ref _, _, I2, rfl, fin _ (I.hok.fresh (Nat.le_succ _))⟩
          · exact q.elim
        | some is =>
          rw [e3] at q
          simp only at q
          split at q
          · rename_i h64
            obtain ⟨a, ys, rfl, h1, t1⟩ := items_inv S ra e
            rw [asInts_some e3] at t1
            rw [t1.ints] at h1
            refine cr_sorted pins s σ H _ us Q I rr ⟨a, is, rfl, by rw [hK]; exact h1, h64, fun ns' p hp hs hn => ?_⟩
            have e4 : ns' = sortZ is := sortZ_uniq hp hs
            rw [e4]
            obtain ⟨_, fin⟩ := Post.lst q S (RepL.of_ints (sortZ is))
            exact fin p hn
          · exact q.elim
      | some ls =>
        rw [e2] at q
        simp only at q
        obtain ⟨a, ys, rfl, h1, t1⟩ := items_inv S ra e
        rw [lots_some e2] at t1
        rw [Vals.ref1 rr]
        rw [← hK] at h1
        obtain ⟨its, rv, pl, hz⟩ := I.list h1
        obtain ⟨hp, hk⟩ := lots_at hK I rv t1
        have hz' : its.length ≤ sizeLine := by rw [← rv.length]; exact hz
        refine SrtO.sorted_ord (key_swo (keyAt s.heap)) pl.isList hz' (fun h2 h₁ b hb kk => ?_) fun out hs hb => ?_
        · refine lots_sortable (s := { s with heap := h₁ }) h2 (fun v hv => (hp v hv).1.keeps fun b o e _ => (kk b o e).2) (fun o e => ?_) (by show X.A.units + 1 + 1 < cLine; omega)
          rw [show h₁.get? b = some (seqObj "list" its.toArray 0) from hb] at e
          cases e
          intro z
          exact absurd (Value.type.inj z) (by decide)
        · have mem : ∀ u ∈ out, u ∈ its := fun u hu => hb.perm.mem_iff.mp hu
          have ek : out.map (keyAt s.heap) = sortLots ls := sortLots_uniq (by rw [← hk]; exact hb.perm.map _) (List.pairwise_map.mpr hs)
          have rep : RepL w L R H (out.map bkV) ((sortLots ls).map lotD) := by
            rw [← ek, List.map_map]
            exact RepL.maps fun u hu => (hp u (mem u hu)).2.2
          have vals : Vals (out.map bkV) out := bkV_vals fun u hu => (hp u (mem u hu)).2.1
          obtain ⟨hlen, fin⟩ := Post.lst q S rep
          obtain ⟨n, hn⟩ := sortedAll_at s.heap its out.toArray
          have I2 := I.laid (t' := s.toks) (h' := sortedAll s.heap its out.toArray) (a := s.heap.objs.size + 1) (o := .lst (out.map bkV)) (fun b o e => sortedAll_old e) (Nat.le_succ _) ⟨hlen, out, n, vals, hn⟩
          exact ⟨.ref _, _, I2, rfl, fin _ (I.hok.fresh (Nat.le_succ _))⟩
  · exact q.elim
/-- sorted(a set of lots) -/
def rSortSet (K : PySem.W.Frag) (P : Program) (w0 : World) : List V → Hp → VK → Prop := fun vs H Q => ∃ (a : Addr) (L : List (Addr × List Int)), vs = [V.ref a] ∧ H a = some (SetTO P w0 a L) ∧ (∀ p ∈ L, SqT K H p.1 (p.2.map V.int)) ∧
  ∀ (ks : List (Addr × List Int)) (p : Addr), (∀ q, q ∈ ks ↔ q ∈ L) → (ks.map (·.2)).Nodup → ks.length < 64 → ks.Pairwise (fun q r => lexLt r.2 q.2 = false) → H p = none → Q (.ref p) (upd H p (.lst (ks.map fun q => V.ref q.1)))
theorem call_sortSet (hc : X.calm = true) (hu : X.A.units + 100 < cLine) : CallR X (.builtin "sorted") (rSortSet X.K X.prog X.w) := by
  intro pins s σ H vs us Q I r h
  obtain ⟨a, L, rfl, ha, hk, q⟩ := h
  have R0 : SetT0 X.prog X.w s.heap a L := (I.hok a _ ha).1
  obtain ⟨es, ep, t, R⟩ := R0.full fun p hp => I.isT (hk p hp)
  rw [Vals.ref1 r]
  obtain ⟨o, ho, hex, hd⟩ := R.ob
  have hsz := R.size
  have hfew := R.few
  have lot : ∀ p ∈ L, LotAt s.heap (.ref p.1) p.2 := fun p hp => by
    obtain ⟨jt, rj, pj, _⟩ := I.tuple (hk p hp)
    exact ⟨p.1, jt, rfl, pj, Vals.ints rj⟩
  refine Calls.call_function_entry kind_sorted plain_sorted entry_sorted (args_sorted1 _) ?_
  unfold Builtin.«sorted»
  refine wpAny_bind (m := checkCount "sorted" 1 1 _) (wpAny_pure ?_)
  refine wpAny_bind (collect_set (A := X.A.in1) (I.ok.hd hc) ⟨o, ho, hex.1, hd⟩ R.fits (by unfold scanBound; omega) R.tab.ris R.led fun s1 vs k1 hz g1 o1 pm => ?_)
  have hes : es.toList.map (·.2) = L.map fun q => Value.ref q.1 := by
    rw [R.rows]
    unfold rowsOf
    rw [List.map_map]; rfl
  rw [hes] at pm
  have src : ∀ v ∈ vs, ∃ p ∈ L, v = Value.ref p.1 := fun v hv => by
    obtain ⟨p, hp, e⟩ := List.mem_map.mp (pm.mem_iff.mp hv)
    exact ⟨p, hp, e.symm⟩
  have hvl : vs.length < 64 := by rw [pm.length_eq, List.length_map]; exact hfew
  have hz63 : vs.length ≤ sizeLine := by rw [sizeLine_eq]; omega
  refine wpAny_bind (wpAny_newList ?_ hz63)
  have hoL : (s1.heap.push (seqObj "list" vs.toArray 0)).get? s1.heap.objs.size = some (seqObj "list" vs.toArray 0) := Heap.get?_push_size _ rfl
  have lotv : ∀ v ∈ vs, LotAt s.heap v (keyAt s.heap v) := fun v hv => by
    obtain ⟨p, hp, e⟩ := src v hv
    rw [e, keyAt_eq (lot p hp)]
    exact lot p hp
  refine wpAny_bind (wpAny_holding (wpAny_call_entry slot_list_sort ⟨_, hoL, rfl⟩ entry_list_sort (SrtO.list_sort_ord (s := { s1 with heap := s1.heap.push (seqObj "list" vs.toArray 0) }) (key_swo (keyAt s.heap)) hoL hz63 (fun h2 => ?_) fun out hs hb => ⟨_, rfl, ?_⟩) (args_list_sort _)))
  · refine lots_sortable (s := { s1 with heap := s1.heap.push (seqObj "list" vs.toArray 0) }) h2 (fun v hv => (lotv v hv).keeps fun b o e _ => Heap.get?_push_of_some _ (k1 b o e)) (fun o e => ?_) (by show X.A.units + 1 + 1 < cLine; omega)
    rw [show (s1.heap.push (seqObj "list" vs.toArray 0)).get? s1.heap.objs.size = _ from hoL] at e
    cases e
    intro z
    exact absurd (Value.type.inj z) (by decide)
  · refine wpAny_pure ⟨_, rfl, ?_⟩
    obtain ⟨c, hc2⟩ := sortedHeap_at (vs := vs) (out := out.toArray) hoL
    -- the addresses with their keys
    have ord : ∀ us : List Value, (∀ v ∈ us, ∃ p ∈ L, v = Value.ref p.1) → ∃ ks : List (Addr × List Int), us = ks.map (fun p => Value.ref p.1) ∧ (∀ p ∈ ks, p ∈ L) ∧ us.map (keyAt s.heap) = ks.map (·.2) := by
      intro us
      induction us with
      | nil => exact fun _ => ⟨[], rfl, fun p hp => (by cases hp), rfl⟩
      | cons u us ih =>
        intro hv
        obtain ⟨p, hp, e⟩ := hv u (List.mem_cons_self ..)
        obtain ⟨ks, e1, e2, e3⟩ := ih fun x hx => hv x (List.mem_cons_of_mem _ hx)
        refine ⟨p :: ks, by rw [List.map_cons, e, e1], fun z hz => ?_, by rw [List.map_cons, List.map_cons, e3, e, keyAt_eq (lot p hp)]⟩
        rcases List.mem_cons.mp hz with z' | z'
        · rw [z']; exact hp
        · exact e2 z z'
    obtain ⟨ks, eo, hks, hkk⟩ := ord out fun v hv => src v (hb.perm.mem_iff.mp hv)
    have one : ∀ q ∈ L, ∀ r ∈ L, q.1 = r.1 → q = r := fun q hq r hr e => by
      have a1 := lot q hq
      have a2 := lot r hr
      rw [e] at a1
      exact Prod.ext e (a1.inj a2)
    have back : ∀ q ∈ L, q ∈ ks := fun q hq => by
      have m1 : Value.ref q.1 ∈ out := (hb.perm.trans pm).mem_iff.mpr (List.mem_map.mpr ⟨q, hq, rfl⟩)
      rw [eo] at m1
      obtain ⟨r, hr, e⟩ := List.mem_map.mp m1
      injection e with e
      rw [← one r (hks r hr) q hq e]
      exact hr
    have klen : ks.length = L.length := by
      have := congrArg List.length eo
      rw [List.length_map] at this
      rw [← this, (hb.perm.trans pm).length_eq, List.length_map]
    have nd : (ks.map (·.2)).Nodup := by
      have nL : (L.map (·.2)).Nodup := R.nd
      have p2 : (ks.map (·.2)).Perm (L.map (·.2)) := by
        have pr : (out.map (keyAt s.heap)).Perm ((L.map fun q => Value.ref q.1).map (keyAt s.heap)) := (hb.perm.trans pm).map _
        rw [hkk, List.map_map] at pr
        rwa [show L.map (keyAt s.heap ∘ fun q => Value.ref q.1) = L.map (·.2) from List.map_congr_left fun p hp => keyAt_eq (lot p hp)] at pr
      exact p2.nodup_iff.mpr nL
    have pw : ks.Pairwise (fun q r => lexLt r.2 q.2 = false) := by
      have z : (out.map (keyAt s.heap)).Pairwise (fun x y => lexLt y x = false) := List.pairwise_map.mpr hs
      rw [hkk] at z
      exact List.pairwise_map.mp z
    have hp : s.heap.objs.size ≤ s1.heap.objs.size := hz
    have hn : H s1.heap.objs.size = none := I.hok.fresh hp
    have hlen : (ks.map fun q => V.ref q.1).length ≤ sizeLine := by rw [List.length_map, klen, sizeLine_eq]; omega
    have hv : Vals (ks.map fun q => V.ref q.1) out := by rw [eo]; exact vals_of_refs ks
    have kall : ∀ b u, s.heap.get? b = some u → (sortedHeap (s1.heap.push (seqObj "list" vs.toArray 0)) s1.heap.objs.size vs out.toArray).get? b = some u := fun b u e => by
      have q := k1 b u e
      have hlt := Heap.lt_size q
      rw [sortedHeap_old (Nat.ne_of_lt hlt) (by rw [size_push']; exact Nat.lt_succ_of_lt hlt)]
      exact Heap.get?_push_of_some _ q
    have J : Inv X pins σ (upd H s1.heap.objs.size (.lst (ks.map fun q => V.ref q.1))) { s with heap := sortedHeap (s1.heap.push (seqObj "list" vs.toArray 0)) s1.heap.objs.size vs out.toArray, gens := s1.gens, drawn := s1.drawn, toks := s1.toks } :=
      I.call (ch := []) (Un.laid kall hp hn) (I.hok.laid kall hp ⟨hlen, out, c, hv, hc2⟩) (by rw [g1]; exact I.bare) (fun _ z => nomatch z)
    have e : ({ s1 with heap := sortedHeap (s1.heap.push (seqObj "list" vs.toArray 0)) s1.heap.objs.size vs out.toArray } : Shared) = { s with heap := sortedHeap (s1.heap.push (seqObj "list" vs.toArray 0)) s1.heap.objs.size vs out.toArray, gens := s1.gens, drawn := s1.drawn, toks := s1.toks } := by
      cases s1
      cases s
      cases o1
      rfl
    rw [e]
    exact ⟨.ref s1.heap.objs.size, _, J, rfl, q ks _ (fun q => ⟨hks q, back q⟩) nd (by rw [klen]; exact hfew) pw hn⟩
end
end PM

end

section
set_option maxHeartbeats 4000000
/-! PM, part U: the built-ins together. -/
namespace PM
open PySem PySem.Spec PyProof.Rows L2
theorem py_noDict : ∀ d : D, d.py.hasDict = false := by
  intro d
  induction d using D.rec (motive_2 := fun xs => PyData.hasDictAll (pyL xs) = false) with
  | tup xs ih => unfold D.py; simpa [PyData.hasDict] using ih
  | lst xs ih => unfold D.py; simpa [PyData.hasDict] using ih
  | nil => rfl
  | cons x xs h1 h2 => unfold pyL; simp [PyData.hasDictAll, h1, h2]
  | _ => rfl
section
variable {X : Cx} {w : Wd}
theorem call_repr (hK : X.K = w.K) (hu : X.A.units + 100 < cLine) (hg : X.A.guards = some []) (c : Bool) : CallR X (.builtin "repr") (rp w fun ds m => (prim .repr ds m).out c m) := by
  intro pins s σ H xs us Q I rr h
  obtain ⟨L, R, m, ds, W, S, r, q⟩ := h
  rcases ds with _ | ⟨d, _ | ⟨e, t⟩⟩
  · exact q.elim
  · obtain ⟨v, rfl, ra⟩ := r.one
    simp only [prim] at q
    split at q
    · rename_i hs
      unfold shB at hs
      simp only [Bool.and_eq_true, decide_eq_true_eq] at hs
      obtain ⟨h1, h2, h3, h4⟩ := hs
      have deep : (∃ a, v = .ref a) → wpAny (model X.prog X.w) X.A (call (.builtin "repr") us) (EP X pins σ Q) X.xe s := fun ⟨a, ev⟩ => by
        subst ev
        have dp := ra.dpr S h1
        rw [← hK] at dp
        rw [Vals.ref1 rr]
        obtain ⟨as, rd⟩ := Dp.reads I _ _ _ dp rfl
        refine repr_of_reads' (s := s) rd h2 (fun z => by rw [py_noDict] at z; cases z) hg (by omega) (fun b o e => e) (fun h' u tk hk => ?_) (by rw [sizeLine_eq]; exact h4)
        exact ⟨.str _, H, I.kept hk, ⟨u, rfl⟩, Post.val q S (.str _)⟩
      have flat : ∀ (y : Str), (∀ (Q' : Value → Shared → Prop), Q' (.str y s.toks) { s with toks := s.toks + 1 } → wpAny (model X.prog X.w) X.A (call (.builtin "repr") us) Q' X.xe s) → (deref d m).py.shown = y → wpAny (model X.prog X.w) X.A (call (.builtin "repr") us) (EP X pins σ Q) X.xe s := fun y k e => by
        refine k _ ?_
        rw [← e]
        exact ⟨.str _, H, I.kept (t' := s.toks + 1) fun b o e => e, ⟨_, rfl⟩, Post.val q S (.str _)⟩
      obtain ⟨u, rfl, ru⟩ := rr.one
      cases ra with
      | non => cases ru; exact flat _ (fun Q' k => PySem.P.repr_of_none k) rfl
      | bl b => cases ru; exact flat _ (fun Q' k => PySem.P.repr_of_bool k) rfl
      | int i =>
        obtain ⟨t, rfl⟩ := ru
        have h2' : decide (i.natAbs.log2 < 1920) = true := h2
        exact flat _ (fun Q' k => PySem.P.repr_of_int (of_decide_eq_true h2') k) rfl
      | str x =>
        obtain ⟨t, rfl⟩ := ru
        exact flat _ (fun Q' k => PySem.P.repr_of_str k (by rw [sizeLine_eq]; exact h4)) rfl
      | fn x => exact absurd (show D.pure (.fn _) = true from h1) (by simp)
      | ty n => exact absurd (show D.pure (.ty _) = true from h1) (by simp)
      | _ => exact deep ⟨_, rfl⟩
    · exact q.elim
  · exact q.elim
theorem pe_sset (hK : X.K = w.K) (hc : X.calm = true) (hu : X.A.units + 100 < cLine) (g1 : Gl X ("sorted" : Str)) (m1 : X.mg "sorted" = none) (g2 : Gl X ("set" : Str)) (m2 : X.mg "set" = none) (cf : Cf) (W : WX) (c : Bool) (e : E) (a' : Expr) (p1 p2 p3 p4 : Pos) (he : PE X a' (tE w cf W e)) (hst : starEach [a'] X.env = [(false, eval a' X.env)]) :
    PE X (.Call (.Name "sorted" p1) [.Call (.Name "set" p2) [a'] [] p3] [] p4) (tE w cf W (.sset c e)) := by
  have h1 := pe_callTy (pos := p3) (p := p2) (cr_setOfT hc (by omega)) g2 m2 (by decide +kernel) (pa_cons he pa_nil hst) (he := hst)
  have h2 := pe_callB (pos := p4) (p := p1) (call_sortSet hc hu) g1 m1 (by decide +kernel) (pa_cons h1 pa_nil)
  refine h2.imp fun σ H Q ⟨L, R, m, ρ, rel, hp⟩ => ?_
  unfold ev at hp
  show tE w cf W e σ H _
  refine tR_bind (P := Rep w) rel hp (fun _ _ _ q => q) fun x H1 L1 m1 d g1 rel1 r1 q1 => ?_
  unfold tNil
  show rSetOfT X.K X.prog X.w [x] H1 (fun x H1 => rSortSet X.K X.prog X.w [x] H1 Q)
  cases e1 : items d m1 with
  | none => rw [e1] at q1; exact q1.elim
  | some zs =>
    rw [e1] at q1
    simp only [Option.bind_some] at q1
    cases e2 : lots? zs with
    | none => rw [e2] at q1; exact q1.elim
    | some ls =>
      rw [e2] at q1
      simp only at q1
      split at q1
      · rename_i hl
        obtain ⟨l, ys, rfl, s1, t1⟩ := items_inv rel1.st r1 e1
        rw [lots_some e2] at t1
        obtain ⟨ks, rfl, hk, hsq⟩ := rows_of t1
        have klen : ks.length = ls.length := by rw [← hk, List.length_map]
        refine ⟨l, ks, rfl, by rw [hK]; exact s1, fun p hp => by rw [hK]; exact hsq p hp, by rw [klen]; exact hl, fun a Ls hn hsub hall => ?_⟩
        show rSortSet X.K X.prog X.w [V.ref a] _ Q
        have gN : Grow L1 H1 L1 (upd H1 a (SetTO X.prog X.w a Ls)) := Grow.new hn
        have S2 := rel1.st.new (o := SetTO X.prog X.w a Ls) hn
        refine ⟨a, Ls, rfl, upd_same, fun p hp => by rw [hK]; exact sqT_grow rel1.st (hsq p (hsub p hp)) gN.toR, fun kk p hm hnd hlen hpw hp => ?_⟩
        have keys : kk.map (·.2) = sortLots (dedup ls) := by
          refine sortLots_uniq ((List.perm_ext_iff_of_nodup hnd (dedup_nodup ls)).mpr fun z => ?_) (List.pairwise_map.mpr hpw)
          rw [dedup_mem]
          constructor
          · intro hz
            obtain ⟨q, hq, rfl⟩ := List.mem_map.mp hz
            rw [← hk]
            exact List.mem_map.mpr ⟨q, hsub q ((hm q).mp hq), rfl⟩
          · intro hz
            rw [← hk] at hz
            obtain ⟨q, hq, rfl⟩ := List.mem_map.mp hz
            obtain ⟨q2, hq2, e3⟩ := List.mem_map.mp (hall q hq)
            exact List.mem_map.mpr ⟨q2, (hm q2).mpr hq2, e3⟩
        have rep : RepL w L1 R (upd H1 a (SetTO X.prog X.w a Ls)) (kk.map fun q => V.ref q.1) ((sortLots (dedup ls)).map lotD) := by
          rw [← keys, List.map_map]
          exact RepL.maps fun q hq => .tup (sqT_grow rel1.st (hsq q (hsub q ((hm q).mp hq))) gN.toR) (RepL.of_ints q.2)
        exact (Post.lst (q1.later gN) S2 rep).2 p hp
      · exact q1.elim
def rMm (w : Wd) (mx : Bool) : List V → List V → Hp → VK → Prop := fun vs zs H Q => ∃ (x y : V) (L R : List Addr) (m : M) (d du z : PM.D) (W : XW), vs = [x] ∧ zs = [y] ∧ StOk w L R m H ∧ Rep w L R H x d ∧ Rep w L R H y du ∧ mmD mx d du m = some z ∧ Post w (Rep w) L R H (.ok z m) Q W
theorem cr_mm (hK : X.K = w.K) (hc : X.calm = true) (hu : X.A.units + 100 < cLine) (mx : Bool) : CallRK X (.builtin (if mx then "max" else "min")) [Str.ofString "default"] (rMm w mx) := by
  intro pins s σ H xs zs us ws Q I r rz ⟨x, y, L, R, m, d, du, z, W, ex, ez, S, rx, ry, hz, q⟩
  subst ex ez
  cases r with
  | @cons _ u _ _ ru t =>
    cases t
    cases rz with
    | @cons _ uy _ _ ruy t2 =>
      cases t2
      unfold mmD at hz
      cases e : items d m with
      | none => rw [e] at hz; cases hz
      | some zs =>
        rw [e] at hz
        cases zs with
        | cons z1 zs => exact mmB_call hK hc hu (.inr ⟨uy, rfl⟩) I S rx ru hz q
        | nil =>
          cases hz
          obtain ⟨a, ys, rfl, h1, t1⟩ := items_inv S rx e
          obtain rfl : u = Value.ref a := ru
          have := t1.nil_inv
          subst this
          rw [← hK] at h1
          obtain ⟨its, rv, pl, _⟩ := I.list h1
          cases rv
          have fin : ∀ h' tk, (∀ b o, s.heap.get? b = some o → h'.get? b = some o) → EP X pins σ Q uy { s with heap := h', toks := tk } := fun h' tk hk => ⟨y, H, I.kept hk, ruy, q L _ H (Grow.refl _ _) S ry⟩
          have hu' : X.A.units + 1 + 0 < cLine := by omega
          cases mx with
          | true => exact PySem.W.max_list_datum_default (α := Int) (xs := []) (I.ok.hd hc) pl.isList ⟨_, .nil⟩ hu' (fun _ h' tk hk => fin h' tk hk) fun y ys i v h' tk e => by cases e
          | false => exact PySem.W.min_list_datum_default (α := Int) (xs := []) (I.ok.hd hc) pl.isList ⟨_, .nil⟩ hu' (fun _ h' tk hk => fin h' tk hk) fun y ys i v h' tk e => by cases e
theorem pe_mm (hK : X.K = w.K) (hc : X.calm = true) (hu : X.A.units + 100 < cLine) (mx : Bool) (hg : Gl X (if mx then ("max" : Str) else "min")) (hm : X.mg (if mx then ("max" : Str) else "min") = none) (cf : Cf) (W : WX) (e d : E) (a' d' : Expr) (pp kp pos : Pos) (ha : PE X a' (tE w cf W e)) (hd : PE X d' (tE w cf W d))
    (hs : starEach [a'] X.env = (false, eval a' X.env) :: starEach [] X.env) : PE X (.Call (.Name (if mx then ("max" : Str) else "min") pp) [a'] [⟨some ("default" : Str), d', kp⟩] pos) (tE w cf W (.mm mx e d)) := by
  have hA := pa_cons ha pa_nil hs
  have hKw := pk_cons (nm := some ("default" : Str)) (kpos := kp) hd pk_nil
  have hb : backTo pos (starEach [a'] X.env) = (false, eval a' X.env) :: backTo pos (starEach [] X.env) := by rw [hs]; rfl
  have hb2 : (backTo pos (starEach [a'] X.env)).any (·.1) = false := by rw [hs]; rfl
  have fin : ∀ σ H Q, tE w cf W (.mm mx e d) σ H Q → tE w cf W e σ H fun x H1 => tE w cf W d σ H1 fun y H2 => rMm w mx [x] [y] H2 Q := fun σ H Q ⟨L, R, m, ρ, rel, hp⟩ => by
    unfold ev at hp
    refine two rel hp fun x y H2 L2 m2 dx dy rel2 rx ry q => ?_
    cases e3 : mmD mx dx dy m2 with
    | none => rw [e3] at q; exact q.elim
    | some z => rw [e3] at q; exact ⟨x, y, L2, R, m2, dx, dy, z, _, rfl, rfl, rel2.st, rx, ry, e3, q⟩
  cases mx with
  | true => exact (pe_callBK (cr_mm hK hc hu true) hg hm rfl hA hKw (by decide) (by decide) hb hb2).imp fin
  | false => exact (pe_callBK (cr_mm hK hc hu false) hg hm rfl hA hKw (by decide) (by decide) hb hb2).imp fin
theorem kit_ok (w : Wd) : Kit w where
  mm := fun X hK hc hu mx g m cf W e d a' d' pp kp pos ha hd hs => pe_mm hK hc hu mx g m cf W e d a' d' pp kp pos ha hd hs
  prim := fun X hK hc hu hg q c => by
    by_cases h1 : q = .repr
    · subst h1; exact call_repr hK hu hg c
    · by_cases h2 : q = .sorted
      · subst h2; exact call_sorted hK hu c
      · by_cases h3 : q = .max
        · exact call_mm hK hc hu q (.inl h3) c
        · by_cases h4 : q = .min
          · exact call_mm hK hc hu q (.inr h4) c
          · exact prim_ok hK hc q ⟨h1, h2, h3, h4⟩
  sset := fun X hK hc hu g1 m1 g2 m2 cf W c e a' p1 p2 p3 p4 he hst => pe_sset hK hc hu g1 m1 g2 m2 cf W c e a' p1 p2 p3 p4 he hst
end
end PM

end

section
set_option maxHeartbeats 4000000
/-! PM, part V: the end of a law row. -/
namespace PM
open PySem PySem.Spec PyProof.Rows L2
open LamX (TabB)
theorem end_call {P : Program} {w : World} {K : PySem.W.Frag} {mg mb : Str → Option Value} {k : Nat} {fa a : Addr} {tabsL : List (Addr × Addr)} {fd : FuncData} {x : Str} {sp : Sp} {sB : Shared} {vs : List Value} {ns : List Int}
    (kIn0 : K.In sB.heap) (nsG : sB.heap.Ns mainGlobals mg) (bIn : sB.heap.Ns builtinsNs mb) (bBoot : ∀ x : Str, x ≠ "__name__" → mb x = bootBuiltins x) (nlim : sB.heap.NoLimit) (gNil : sB.gens = #[])
    (tabE : ∀ p ∈ tabsL, sB.heap.get? p.2 = some { cls := .none, data := .fields #[] }) (tabO : ∀ p ∈ tabsL, K.lookup p.2 = none) (hdC : ∀ p ∈ tabsL, PySem.W.CodeHd sB.heap p.1 p.2)
    (bmod : ∃ (bmA : Addr) (obj0 : Obj), mg "__builtins__" = some (.ref bmA) ∧ bmA ≠ builtinsNs ∧ sB.heap.get? bmA = some obj0 ∧ obj0.cls = .type "module" ∧ obj0.dict = some builtinsNs ∧ obj0.data = .plain)
    (aAt : sB.heap.get? a = some { cls := .type "list", data := .seq vs.toArray }) (aInts : IntsAre vs ns) (aLen : ns.length ≤ sizeLine) (rm0 : Room k callerA)
    (F : ∀ base : Heap, K.In base → base.Ns mainGlobals mg → (∀ p ∈ tabsL, TabB base mg p.1 p.2) → FnG P w K mg base k fa fd [x] sp) (bnd : ∀ (s : Shared) (u : Value), BindsTo s fd ⟨[u], []⟩ [(x, u)])
    (spAt : ∀ H : Hp, (∀ p ∈ tabsL, H p.2 = some (.tbl #[])) → SqL K H a (ns.map V.int) → sp [.ref a] H (fun v _ => v = .bl true) fun _ _ _ => False)
    :
    codeAny (model P w) callerA (.call (.ref fa) ⟨[.ref a], []⟩) (fun r s' => r = .ok (.ret (.bool true)) ∧ OldK sB.heap s'.heap ∧ s'.os = sB.os ∧ AllBare s'.gens) sB := by
  have valsR := vals_ints aInts
  have vlen := aInts.length
  have tabAt : ∀ b : Addr, b ∈ tabsL.map (·.2) → sB.heap.get? b = some { cls := .none, data := .fields #[] } := fun b bIn => by
    obtain ⟨p, pIn, e⟩ := List.mem_map.mp bIn
    rw [← e]
    exact tabE p pIn
  have aNo : a ∉ tabsL.map (·.2) := fun z => by
    have q := tabAt a z
    rw [aAt] at q
    have zz : Data.seq vs.toArray _ = Data.fields #[] := congrArg Obj.data (Option.some.inj q)
    cases zz
  have tabMem : ∀ p ∈ tabsL, p.2 ∈ tabsL.map (·.2) := fun p pIn => List.mem_map.mpr ⟨p, pIn, rfl⟩
  have main0 : ∀ H : Hp, (∀ p ∈ tabsL, H p.2 = some (.tbl #[])) → (∀ b, H b = none ∨ b ∈ tabsL.map (·.2) ∨ ∃ o xs, H b = some (.frz o (.lst xs))) → SqL K H a (ns.map V.int) → HOk P w H sB.heap → (∀ b, H b ≠ none → b = a ∨ b ∈ tabsL.map (·.2)) → (H a ≠ none → K.lookup a = none) →
      codeAny (model P w) callerA (.call (.ref fa) ⟨[.ref a], []⟩) (fun r s' => r = .ok (.ret (.bool true)) ∧ OldK sB.heap s'.heap ∧ s'.os = sB.os ∧ AllBare s'.gens) sB := by
    intro H hTab hOnly hSeq hObj hAll hOut
    have baseAt : ∀ {b : Addr} {o : Obj}, sB.heap.get? b = some o → H b = none → (hidT sB.heap H).get? b = some o := fun e n => hidT_get e n
    have noTrk : ∀ {b : Addr} {o : Obj}, sB.heap.get? b = some o → (∀ vs n, o.data ≠ .seq vs n) → o.data ≠ .fields #[] → H b = none := fun {b o} e h1 h2 => by
      cases q : H b with
      | none => rfl
      | some u =>
        rcases hAll b (by rw [q]; simp) with e' | e'
        · rw [e', aAt] at e
          cases e
          exact (h1 _ _ rfl).elim
        · rw [tabAt b e'] at e
          cases e
          exact (h2 rfl).elim
    have noDict : ∀ {b : Addr} {o : Obj} {es : Array DictEntry} {ep : Nat}, sB.heap.get? b = some o → o.data = .dict es ep → H b = none := fun {b o es ep} e d => by
      refine noTrk e (fun vs n z => ?_) fun z => ?_
      · rw [d] at z
        cases z
      · rw [d] at z
        cases z
    have nsKeep : ∀ {b : Addr} {m : Str → Option Value}, sB.heap.Ns b m → (hidT sB.heap H).Ns b m := fun {b m} ⟨o, es, ep, e, d, r⟩ => ⟨o, es, ep, baseAt e (noDict e d), d, r⟩
    have kBase : K.In (hidT sB.heap H) := fun b o e => baseAt (kIn0 b o e) (by
      cases q : H b with
      | none => rfl
      | some u =>
        rcases hAll b (by rw [q]; simp) with e' | e'
        · rw [e'] at e q
          rw [hOut (by rw [q]; simp)] at e
          cases e
        · obtain ⟨p, pIn, ep⟩ := List.mem_map.mp e'
          rw [← ep, tabO p pIn] at e
          cases e)
    have modB : L2.Mod K mg (hidT sB.heap H) := ⟨kBase, nsKeep nsG, ⟨mb, nsKeep bIn, bBoot⟩, let ⟨mc, h1, h2⟩ := nlim; ⟨mc, nsKeep h1, h2⟩⟩
    have tbB : ∀ p ∈ tabsL, TabB (hidT sB.heap H) mg p.1 p.2 := fun p pIn => by
      have tabP := tabE p pIn
      refine ⟨?_, ?_, fun z => ?_⟩
      · obtain ⟨o, us, file, tf, flags, tg, inF, text, tt, e1, r1, r2, r3, r4, r5, r6, r7, r8, hne⟩ := hdC p pIn
        refine ⟨o, us, file, tf, flags, tg, inF, text, tt, baseAt e1 (noTrk e1 (fun vs n z => ?_) fun z => ?_), r1, r2, r3, r4, r5, r6, r7, r8, hne⟩
        · rw [r2] at z
          cases z
        · rw [r2] at z
          cases z
          simp at r3
      · obtain ⟨bmA, obj0, b1, b2, b3, b4, b5, b6⟩ := bmod
        have bmG : bmA ≠ mainGlobals := fun q => by
          obtain ⟨o, es, ep, e, hd, _⟩ := nsG
          rw [q, e] at b3
          cases b3
          rw [hd] at b6
          cases b6
        have bmP : bmA ≠ p.2 := fun q => by
          rw [q, tabP] at b3
          cases b3
          cases b6
        refine ⟨bmA, obj0, b1, b2, bmG, bmP, baseAt b3 (noTrk b3 (fun vs n z => ?_) fun z => ?_), b4, b5, b6⟩
        · rw [b6] at z
          cases z
        · rw [b6] at z
          cases z
      · obtain ⟨o, es, ep, e, hd, _⟩ := nsG
        rw [z, tabP] at e
        cases e
        cases hd
    have env0 : Env0 P w K mg (hidT sB.heap H) callerA [] sB H := ⟨rfl, modB, fun b o e => of_hidT e, Nat.le_of_eq (hidT_size _ _), trivial, fun b bIn => absurd (show b ∈ ([] : List Addr) from bIn) (by simp), hObj, .of_eq gNil⟩
    refine codeAny_mono ((F _ kBase (nsKeep nsG) tbB).run callerA [] sB H ⟨[.ref a], []⟩ [.ref a] [.ref a] _ _ rm0 rfl env0 (bnd sB (.ref a)) (.cons rfl .nil) (spAt H hTab hSeq)) fun r s' h => ?_
    cases r with
    | error e =>
      obtain ⟨_, _, _, _, _, _, _, _, _, _, _, _, z⟩ := (show L2.CX _ _ _ _ _ _ _ _ from h)
      exact z.elim
    | ok fl =>
      cases fl with
      | next => exact False.elim h
      | brk => exact False.elim h
      | cont => exact False.elim h
      | ret u =>
        obtain ⟨v, H', osE, bareE, unE, hObj', r', q⟩ := h
        have q' : v = .bl true := q
        subst q'
        obtain rfl : u = .bool true := (show u = Value.bool true from r')
        have old0 : ∀ b o, b ∉ tabsL.map (·.2) → sB.heap.get? b = some o → s'.heap.get? b = some o := fun b o nb e => by
          cases q : H b with
          | none => exact unE.keep b o e q (by intro z; exact absurd (show b ∈ ([] : List Addr) from z) (by simp)) (by simp)
          | some u =>
            rcases hOnly b with z | z | ⟨obj0, xs, z⟩
            · rw [q] at z; cases z
            · exact absurd z nb
            · have z2 := unE.frzs b obj0 _ z
              obtain ⟨e1, _⟩ := hObj b _ z
              obtain ⟨e2, _⟩ := hObj' b _ z2
              rw [e] at e1; cases e1
              exact e2
        have more0 : ∀ p ∈ tabsL, ∃ more : Array Value, s'.heap.get? p.2 = some { cls := .none, data := .fields more } := fun p pIn => by
          obtain ⟨more, z⟩ := unE.tbls p.2 #[] (hTab p pIn)
          exact ⟨_, hObj' p.2 _ z⟩
        refine ⟨rfl, ⟨fun b o e => ?_, fun b o e => ?_⟩, osE, bareE⟩
        · by_cases bIn : b ∈ tabsL.map (·.2)
          · obtain ⟨p, pIn, ep⟩ := List.mem_map.mp bIn
            obtain ⟨more, hm⟩ := more0 p pIn
            rw [← ep] at e ⊢
            rw [tabE p pIn] at e
            cases e
            exact .inr (.inl ⟨((hdC p pIn).tab (tabE p pIn)).isCodeTable, rfl, #[], more, rfl, by rw [Array.empty_append]; exact hm⟩)
          · exact .inl (old0 b o bIn e)
        · by_cases bIn : b ∈ tabsL.map (·.2)
          · obtain ⟨p, pIn, ep⟩ := List.mem_map.mp bIn
            obtain ⟨more, hm⟩ := more0 p pIn
            rw [← ep]
            exact ⟨_, hm⟩
          · exact ⟨o, old0 b o bIn e⟩
  cases hk : K.lookup a with
  | some o =>
    have e := kIn0 a o hk
    rw [aAt] at e
    cases e
    refine main0 (fun b => if b ∈ tabsL.map (·.2) then some (.tbl #[]) else none) (fun p pIn => if_pos (tabMem p pIn)) (fun b => ?_) (.inr ⟨_, vs.toArray, _, hk, rfl, rfl, rfl, by rw [List.size_toArray, vlen]; exact aLen, by simpa using valsR⟩) (fun b u z => ?_) (fun b z => ?_) fun z => absurd (show (if a ∈ tabsL.map (·.2) then some (HO.tbl #[]) else none) = none from if_neg aNo) z
    · by_cases bIn : b ∈ tabsL.map (·.2)
      · exact .inr (.inl bIn)
      · exact .inl (if_neg bIn)
    · by_cases bIn : b ∈ tabsL.map (·.2)
      · have zz := (if_pos bIn).symm.trans z
        cases zz
        exact tabAt b bIn
      · have zz := (if_neg bIn).symm.trans z
        cases zz
    · by_cases bIn : b ∈ tabsL.map (·.2)
      · exact .inr bIn
      · exact absurd (if_neg bIn) z
  | none =>
    refine main0 (fun b => if b = a then some (.frz { cls := .type "list", data := .seq vs.toArray } (.lst (ns.map V.int))) else if b ∈ tabsL.map (·.2) then some (.tbl #[]) else none) (fun p pIn => (if_neg (show ¬ p.2 = a from fun z => aNo (by rw [← z]; exact tabMem p pIn))).trans (if_pos (tabMem p pIn))) (fun b => ?_)
      (.inl (.inr ⟨{ cls := .type "list", data := .seq vs.toArray }, if_pos rfl⟩)) (fun b u z => ?_) (fun b z => ?_) fun _ => hk
    · by_cases bIn : b = a
      · exact .inr (.inr ⟨_, _, if_pos bIn⟩)
      · by_cases hb2 : b ∈ tabsL.map (·.2)
        · exact .inr (.inl hb2)
        · exact .inl ((if_neg bIn).trans (if_neg hb2))
    · by_cases bIn : b = a
      · have zz := (if_pos bIn).symm.trans z
        cases zz
        rw [bIn]
        exact ⟨aAt, by rw [List.length_map]; exact aLen, vs, _, valsR, aAt⟩
      · have z1 := (if_neg bIn).symm.trans z
        by_cases hb2 : b ∈ tabsL.map (·.2)
        · have zz := (if_pos hb2).symm.trans z1
          cases zz
          exact tabAt b hb2
        · have zz := (if_neg hb2).symm.trans z1
          cases zz
    · by_cases bIn : b = a
      · exact .inl bIn
      · by_cases hb2 : b ∈ tabsL.map (·.2)
        · exact .inr hb2
        · exact absurd ((if_neg bIn).trans (if_neg hb2)) z
end PM

end

section
set_option maxHeartbeats 4000000
/-! PM, part W: a law row by its plain law. -/
namespace PM
open PySem PySem.Spec PyProof.Rows L2
def faOf (P : List Def) (ics : List (Str × Int)) (free : List Str) : List He.Fa := P.map (fun d => .glo d.name) ++ (ics.map (fun q => .int q.1 q.2) ++ free.map .free)
def fnL (P : List Def) (sts : List Stmt) : List He.DefD := (P.zip sts).map fun q => ⟨(q.1.name, none), q.1.name, q.1.name, defArgs q.2, defBody q.2, defScope q.2, [], []⟩
def tfOf (P : List Def) : List He.Defn := (P.filter (·.tab)).map fun d => (d.name, none)
def exOf (P : List Def) (imps : List (Str × String)) (K : PySem.W.Frag) : Bool := decide ((tfOf P).map fun p => (He.cT K p).2).Nodup && imps.all fun q => He.eqO (PySem.W.nsIn K mainGlobals q.1) (some (some (.type q.2)))
def fnScopeB (N ps : List Str) (sc : Scope) : Bool := decide (sc.kind = .function) && (!sc.isCoroutine && (!sc.isGenerator && (decide N.Nodup && (decide (N.take ps.length = ps) && ((ps.all fun x => decide (sc.names.lookup x = some .local) || decide (sc.names.lookup x = some .cell)) && sc.names.all fun y => !decide (y.2 = .free))))))
theorem fnScope_by {N ps : List Str} {sc : Scope} (h : fnScopeB N ps sc = true) : FnScope N ps sc := by
  unfold fnScopeB at h
  simp only [Bool.and_eq_true, Bool.or_eq_true, Bool.not_eq_true', decide_eq_true_eq, decide_eq_false_iff_not, List.all_eq_true] at h
  obtain ⟨h1, h2, h3, h4, h5, h6, h7⟩ := h
  exact ⟨h1, h2, h3, h4, h5, h6, h7⟩
def okP (P : List Def) (ck : Ck) (sts : List Stmt) : Bool := decide (P.length = sts.length) && (((P.zip sts).all fun q => fnScopeB q.1.N q.1.ps (defScope q.2) && (okParams q.1.ps (defArgs q.2) && (okSs ck q.1.body (plOf q.1 (defScope q.2)) (defBody q.2) && (!q.1.lamP || decide (0 < q.1.ps.length))))) &&
  ck.shapes.all fun q => match find P q.1 with
    | some d => shapeB d.ps q.2
    | none => false)
def ckOf (ics : List (Str × Int)) (imps : List (Str × String)) (free : List Str) (shapes : List (Str × List Str)) : Ck := ⟨free, (ics.map fun q => (q.1, .int q.2)) ++ imps.map fun q => (q.1, .ty q.2), shapes⟩
def wdOf (P : List Def) (K : PySem.W.Frag) : Wd := ⟨K, fun x => some (He.ga K x), (tfOf P).map fun p => ((He.cT K p).2, lamName p.1)⟩
theorem find_mem {P : List Def} {x : Str} {d : Def} (h : find P x = some d) : d ∈ P ∧ d.name = x := by
  unfold find at h
  have h1 := List.mem_of_find?_eq_some h
  have h2 := List.find?_some h
  exact ⟨h1, by simpa using h2⟩
theorem setup_ok {prog : Program} {w0 : World} {K : PySem.W.Frag} {h : Heap} {mg : Str → Option Value} {base : Heap} {P : List Def} {ics : List (Str × Int)} {imps : List (Str × String)} {free : List Str} {shapes : List (Str × List Str)} {sts : List Stmt} (KX : K.In h) (G : h.Ns mainGlobals mg)
    (c : He.SaysX (faOf P ics free) (fnL P sts) [] (tfOf P) (exOf P imps) w0 h K) (hok : okP P (ckOf ics imps free shapes) sts = true) (TB : ∀ p ∈ (tfOf P).map (He.cT K), LamX.TabB base mg p.1 p.2) : Setup prog w0 K mg base (wdOf P K) (ckOf ics imps free shapes) P := by
  unfold okP at hok
  simp only [Bool.and_eq_true, decide_eq_true_eq, List.all_eq_true] at hok
  obtain ⟨hlen, hall, hsh⟩ := hok
  refine ⟨rfl, fun x hx => ?_, fun q hq => ?_, fun q hq => ?_, fun x d hd => ?_⟩
  · exact He.free_ok KX G (c.t.d.facts (f := .free x) (List.mem_append_right _ (List.mem_append_right _ (List.mem_map_of_mem hx))))
  · have hq : q ∈ (ics.map fun q => (q.1, D.int q.2)) ++ imps.map fun q => (q.1, D.ty q.2) := hq
    rcases List.mem_append.mp hq with hq | hq
    · obtain ⟨r, hr, rfl⟩ := List.mem_map.mp hq
      obtain ⟨t, ht⟩ := He.int_ok KX G (c.t.d.facts (f := .int r.1 r.2) (List.mem_append_right _ (List.mem_append_left _ (List.mem_map.mpr ⟨r, hr, rfl⟩))))
      exact ⟨.int r.2, _, ht, ⟨t, rfl⟩, fun L R H => .int r.2⟩
    · obtain ⟨r, hr, rfl⟩ := List.mem_map.mp hq
      have h2 := (Bool.and_eq_true _ _).mp c.more
      have h3 := List.all_eq_true.mp h2.2 r hr
      have h4 := PySem.W.mg_of KX G (He.eqO_ok h3)
      exact ⟨.ty r.2, _, h4, rfl, fun L R H => .ty r.2⟩
  · have z := hsh q hq
    split at z
    · rename_i d hd
      exact ⟨d, hd, z⟩
    · cases z
  · obtain ⟨hm, hn⟩ := find_mem hd
    obtain ⟨i, hi⟩ := List.getElem?_of_mem hm
    have hlt : i < sts.length := by rw [← hlen]; exact (List.getElem?_eq_some_iff.mp hi).1
    have hz : (d, sts[i]) ∈ P.zip sts := by
      have : (P.zip sts)[i]? = some (d, sts[i]) := by rw [List.getElem?_zip_eq_some]; exact ⟨hi, List.getElem?_eq_getElem hlt⟩
      exact List.mem_of_getElem? this
    generalize sts[i] = st at hz
    obtain ⟨a1, a2, a3, a4⟩ := hall _ hz
    have hF := c.t.d.defs (d := ⟨(d.name, none), d.name, d.name, defArgs st, defBody st, defScope st, [], []⟩) (List.mem_map.mpr ⟨(d, st), hz, rfl⟩)
    obtain ⟨fd, F⟩ := hF
    have F : FunD K d.name d.name (defArgs st) (defBody st) (defScope st) [] [] (He.ga K d.name) fd := F
    have hg := He.glo_ok KX G (c.t.d.facts (f := .glo d.name) (List.mem_append_left _ (List.mem_map_of_mem (f := fun d : Def => He.Fa.glo d.name) hm)))
    subst hn
    refine ⟨_, fd, _, _, _, rfl, hg, F, fnScope_by a1, a2, a3, fun hl => ?_, fun ht => ?_⟩
    · rw [hl] at a4
      simpa using a4
    · have ht' : ((d.name, none) : He.Defn) ∈ tfOf P := List.mem_map.mpr ⟨d, List.mem_filter.mpr ⟨hm, ht⟩, rfl⟩
      have tb := TB _ (List.mem_map_of_mem ht')
      obtain ⟨oc, od, dV, kV, doc, pm, an, cdv, ct, osl, rfl, lk, hcd, _, _⟩ := F.ex
      obtain ⟨cc, rfl⟩ := He.codeIn_ref hcd
      have e1 : He.codeOf K (d.name, none) = cc := He.codeOf_eq (p := (d.name, none)) lk rfl
      refine ⟨cc, (He.cT K (d.name, none)).2, rfl, by rw [← e1]; exact tb, List.mem_map.mpr ⟨_, ht', rfl⟩, fun q hq e => ?_⟩
      obtain ⟨p, hp, rfl⟩ := List.mem_map.mp hq
      have nd : ((tfOf P).map fun p => (He.cT K p).2).Nodup := of_decide_eq_true ((Bool.and_eq_true _ _).mp c.more).1
      have e : (He.cT K p).2 = (He.cT K (d.name, none)).2 := e
      have : p = (d.name, none) := by
        obtain ⟨i, hi⟩ := List.getElem?_of_mem hp
        obtain ⟨j, hj⟩ := List.getElem?_of_mem ht'
        obtain ⟨i1, i2⟩ := List.getElem?_eq_some_iff.mp hi
        obtain ⟨j1, j2⟩ := List.getElem?_eq_some_iff.mp hj
        have li : i < ((tfOf P).map fun p => (He.cT K p).2).length := by simpa using i1
        have lj : j < ((tfOf P).map fun p => (He.cT K p).2).length := by simpa using j1
        have hij : i = j := (List.getElem_inj (h₀ := li) (h₁ := lj) nd).mp (by rw [List.getElem_map, List.getElem_map, i2, j2, e])
        subst hij
        rw [← i2, ← j2]
      rw [this]
def lawIn (ns : List Int) : D := .lst (ns.map .int)
/-- a law row holds where the evaluator says that its law is true -/
theorem walk_pm {l : PySem.W.OpenLaw} {q : Program} {loose : List Str} {XP : (Str → Option Value) → Heap → Prop} {d : DefRec} {P : List Def} {ics : List (Str × Int)} {imps : List (Str × String)} {free : List Str} {shapes : List (Str × List Str)} {sts : List Stmt} {dl : Def} {M fuel : Nat}
    (hn : l.most = some 63) (hdf : d.params.defaults = []) (hr : Room (3 * fuel) callerA) (hok : okP P (ckOf ics imps free shapes) sts = true) (hd : d.name = ("law" : Str)) (hl : find P ("law" : Str) = some dl) (hps : dl.ps = [("script" : Str)])
    (hlaw : ∀ ns : List Int, ns.length ≤ 63 → (∀ z ∈ ns, Builtin.Int.intBits z ≤ 1048576) → ∃ m, (fns P fuel).call ("law" : Str) [lawIn ns] [] = .ok (.bl true) m) :
    PySem.W.WalkO q loose XP (He.hookX M (faOf P ics free) (fnL P sts) [] (tfOf P) (exOf P imps)).says l.row.toRowW d [] (fun f vs => PySem.call f vs) := by
  refine Att.attach_callB hn hdf fun w s₀ sB mg mb fa o pm cd doc a vs ns G Y ho hd' hcd hmg hobj hints hlen hbits hg => ?_
  obtain ⟨K, KX, c⟩ := Y
  rw [hd] at hmg
  obtain ⟨hm, hname⟩ := find_mem hl
  -- the law's own def
  have tabE : ∀ p ∈ (tfOf P).map (He.cT K), sB.heap.get? p.2 = some { cls := .none, data := .fields #[] } := fun p hp => by
    obtain ⟨r, hr, rfl⟩ := List.mem_map.mp hp
    exact c.empty r hr
  have tabO : ∀ p ∈ (tfOf P).map (He.cT K), K.lookup p.2 = none := fun p hp => by
    obtain ⟨r, hr, rfl⟩ := List.mem_map.mp hp
    exact c.out r hr
  have hdC : ∀ p ∈ (tfOf P).map (He.cT K), PySem.W.CodeHd sB.heap p.1 p.2 := fun p hp => by
    obtain ⟨r, hr, rfl⟩ := List.mem_map.mp hp
    exact PySem.W.codeHd_of_K KX (c.hd r hr)
  -- its function object
  have glo := He.glo_ok KX G.T.g (c.t.d.facts (f := .glo dl.name) (List.mem_append_left _ (List.mem_map_of_mem (f := fun d : Def => He.Fa.glo d.name) hm)))
  rw [hname, hmg] at glo
  cases glo
  have hok' := hok
  unfold okP at hok'
  simp only [Bool.and_eq_true, decide_eq_true_eq, List.all_eq_true] at hok'
  obtain ⟨hleng, hall, _⟩ := hok'
  obtain ⟨i, hi⟩ := List.getElem?_of_mem hm
  have hlt : i < sts.length := by rw [← hleng]; exact (List.getElem?_eq_some_iff.mp hi).1
  have hz : (dl, sts[i]) ∈ P.zip sts := by
    have : (P.zip sts)[i]? = some (dl, sts[i]) := by rw [List.getElem?_zip_eq_some]; exact ⟨hi, List.getElem?_eq_getElem hlt⟩
    exact List.mem_of_getElem? this
  generalize sts[i] = st at hz
  obtain ⟨a1, a2, _, _⟩ := hall _ hz
  obtain ⟨fd, F⟩ := c.t.d.defs (d := ⟨(dl.name, none), dl.name, dl.name, defArgs st, defBody st, defScope st, [], []⟩) (List.mem_map.mpr ⟨(dl, st), hz, rfl⟩)
  have F : FunD K dl.name dl.name (defArgs st) (defBody st) (defScope st) [] [] (He.ga K dl.name) fd := F
  obtain ⟨b1, b2, b3, b4, b5, b6⟩ := bindOk_P F a2
  rw [hname] at F
  refine end_call (fd := fd) (x := ("script" : Str)) (sp := spOf (wdOf P K) (fns P fuel) ("law" : Str) [("script" : Str)]) (k := 3 * fuel) KX G.T.g G.T.b G.T.builtins G.T.nolimit hg tabE tabO hdC G.T.bmain hobj hints (Nat.le_trans hlen (by decide)) hr (fun base _ _ TB => ?_) (fun s u => ?_) fun H hTab hS => ?_
  · have S : Setup l.prog w K mg base (wdOf P K) (ckOf ics imps free shapes) P := setup_ok KX G.T.g c hok TB
    obtain ⟨⟨f', fd', e1, _, hF, _, ⟨oc', od', osl', lk'⟩, _⟩, _⟩ := defs_ok (kit_ok _) S fuel ("law" : Str) dl.ps (by rw [fns_ps, hl]; rfl)
    rw [hmg] at e1
    cases e1
    rw [hps] at hF
    obtain ⟨oc, od, dV, kV, doc, pm, an, cdv, ct, osl, rfl, lk, _⟩ := F.ex
    rw [lk] at lk'
    cases lk'
    exact hF
  · refine BindsTo.of_eq ((bind_kw fd [("script" : Str)] [u] [] b1 (by rw [b2, hps]) b3 b4 b5 b6 (Nat.le_refl _) (by simp) (by simp) fun n hn => ?_).trans ?_)
    · rw [List.mem_singleton.mp hn]; rfl
    · rfl
  · obtain ⟨m, hm2⟩ := hlaw ns hlen hbits
    have rl : RepL (wdOf P K) [] [] H (ns.map V.int) (ns.map D.int) := RepL.of_ints ns
    have r : Rep (wdOf P K) [] [] H (.ref a) (lawIn ns) := by
      rcases hS with h | h
      · exact .lst h (List.not_mem_nil) (List.not_mem_nil) rl
      · exact .klst h rl
    refine ⟨[], [], [], [lawIn ns], ⟨rfl, List.nodup_nil, fun l a c h => by simp at h, fun a h => by simp at h, fun a h => by simp at h, fun p hp => ?_⟩, .cons r .nil, rfl, ?_⟩
    · obtain ⟨t, ht, rfl⟩ := List.mem_map.mp hp
      exact LamX.TabS.nil (hTab _ (List.mem_map_of_mem ht))
    · rw [hm2]
      intro L' v H' _ _ rv
      exact rv.bl_inv
end PM

end

section
set_option maxHeartbeats 4000000
/-! PM, plain part A: loops and comprehensions of the evaluator. -/
namespace PM
open PySem (Str)
theorem call_eq {P : List Def} {n : Nat} {x : Str} {d : Def} {ds : List D} {m : M} (hf : find P x = some d) (hl : ds.length = d.ps.length) (hp : d.lamP = false) : (fns P (n + 1)).call x ds m = finish d.frz m.length (exSs (fns P n) none d.body (start d.N ds) m) := by
  show (match find P x with
    | some d => if ds.length = d.ps.length ∧ d.lamP = false then finish d.frz m.length (exSs (fns P n) none d.body (start d.N ds) m) else .bad
    | none => .bad) = _
  rw [hf]
  exact if_pos ⟨hl, hp⟩
theorem lam_eq {P : List Def} {n : Nat} {x : Str} {d : Def} {ds : List D} {c : Clo} {m : M} (hf : find P x = some d) (hl : ds.length + 1 = d.ps.length) (hp : d.lamP = true) : (fns P (n + 1)).lam x ds c m = finish d.frz m.length (exSs (fns P n) (some (ds.length, c)) d.body (start d.N ds) m) := by
  show (match find P x with
    | some d => if ds.length + 1 = d.ps.length ∧ d.lamP = true then finish d.frz m.length (exSs (fns P n) (some (ds.length, c)) d.body (start d.N ds) m) else .bad
    | none => .bad) = _
  rw [hf]
  exact if_pos ⟨hl, hp⟩
theorem fin_pure {d : D} {m : M} (h : d.pure = true) : finish false m.length (.ret d m) = .ok d m := by
  unfold finish close
  simp only [Bool.false_eq_true, if_false]
  cases d <;> first | (simp at h; done) | (simp only [h, if_true, List.take_length])
theorem fin_nx {ρ : Env} {m : M} : finish false m.length (.nx ρ m) = .ok .non m := by
  unfold finish close
  simp
theorem fin_pure' {d : D} {m m' : M} (h : d.pure = true) (hl : m'.length = m.length) : finish false m.length (.ret d m') = .ok d m' := by
  rw [← hl]; exact fin_pure h
theorem compL_map {b1 : D → M → Res Env} {cnd : Env → M → Res Bool} {elt : Env → M → Res D} {m : M} {r : D → Env} {p : D → Bool} {f : D → D} : ∀ {ds : List D}, (∀ d ∈ ds, b1 d m = .ok (r d) m) → (∀ d ∈ ds, cnd (r d) m = .ok (p d) m) → (∀ d ∈ ds, p d = true → elt (r d) m = .ok (f d) m) → compL b1 cnd elt ds m = .ok ((ds.filter p).map f) m
  | [], _, _, _ => rfl
  | d :: ds, h1, h2, h3 => by
    unfold compL
    rw [h1 d (List.mem_cons_self ..)]
    simp only [Res.bind_ok]
    rw [h2 d (List.mem_cons_self ..)]
    simp only [Res.bind_ok]
    have ih := compL_map (fun e he => h1 e (List.mem_cons_of_mem _ he)) (fun e he => h2 e (List.mem_cons_of_mem _ he)) (fun e he => h3 e (List.mem_cons_of_mem _ he))
    cases hp : p d with
    | false =>
      rw [if_neg (by decide), ih]
      simp [hp]
    | true =>
      rw [if_pos rfl, h3 d (List.mem_cons_self ..) hp]
      simp only [Res.bind_ok]
      rw [ih]
      simp [hp]
/-- a comprehension whose parts act on the store -/
theorem compL_acts {b1 : D → M → Res Env} {cnd : Env → M → Res Bool} {elt : Env → M → Res D} {r : D → Env} {I : Nat → M → Prop} {Rr : D → Prop} (hb : ∀ d m, b1 d m = .ok (r d) m) (hc : ∀ d m, cnd (r d) m = .ok true m)
    (he : ∀ i d m, I i m → ∃ y m', elt (r d) m = .ok y m' ∧ I (i + 1) m' ∧ Rr y) : ∀ (ds : List D) (i : Nat) (m : M), I i m → ∃ ys m', compL b1 cnd elt ds m = .ok ys m' ∧ I (i + ds.length) m' ∧ ys.length = ds.length ∧ ∀ y ∈ ys, Rr y
  | [], i, m, h => ⟨[], m, rfl, h, rfl, fun y hy => by cases hy⟩
  | d :: ds, i, m, h => by
    obtain ⟨y, m1, e1, h1, r1⟩ := he i d m h
    obtain ⟨ys, m2, e2, h2, l2, r2⟩ := compL_acts hb hc he ds (i + 1) m1 h1
    refine ⟨y :: ys, m2, ?_, by rw [List.length_cons, show i + (ds.length + 1) = i + 1 + ds.length by omega]; exact h2, by simp [l2], fun z hz => ?_⟩
    · unfold compL
      rw [hb, Res.bind_ok, hc, Res.bind_ok, if_pos rfl, e1, Res.bind_ok, e2]
      rfl
    · rcases List.mem_cons.mp hz with e | hz
      · subst e; exact r1
      · exact r2 z hz
/-- a loop that goes on to its end -/
theorem forL_inv {b1 : D → Env → M → Res Env} {body : Env → M → ResS} {I : Nat → Env → M → Prop} : ∀ (ds : List D) (i : Nat) (ρ : Env) (m : M), (∀ j d ρ m, i ≤ j → ds[j - i]? = some d → I j ρ m → ∃ ρ1 m1 ρ2 m2, b1 d ρ m = .ok ρ1 m1 ∧ body ρ1 m1 = .nx ρ2 m2 ∧ I (j + 1) ρ2 m2) → I i ρ m → ∃ ρ' m', forL b1 body ds ρ m = .nx ρ' m' ∧ I (i + ds.length) ρ' m'
  | [], i, ρ, m, _, h => ⟨ρ, m, rfl, h⟩
  | d :: ds, i, ρ, m, hs, h => by
    obtain ⟨ρ1, m1, ρ2, m2, e1, e2, h2⟩ := hs i d ρ m (Nat.le_refl _) (by simp) h
    obtain ⟨ρ3, m3, e3, h3⟩ := forL_inv ds (i + 1) ρ2 m2 (fun j d ρ m hj hd hI => hs j d ρ m (by omega) (by rw [show j - i = (j - (i + 1)) + 1 by omega]; simpa using hd) hI) h2
    refine ⟨ρ3, m3, ?_, by rw [List.length_cons, show i + (ds.length + 1) = i + 1 + ds.length by omega]; exact h3⟩
    unfold forL
    rw [e1]
    simp only [Res.nox_ok, ResS.of]
    rw [e2]
    exact e3
theorem okd_lotD (n : Nat) (l : List Int) : okd (n + 1) (lotD l) = true := by
  unfold lotD
  simp [okd_tup]
@[simp] theorem pure_lotD (l : List Int) : (lotD l).pure = true := by unfold lotD; simp
@[simp] theorem pureL_lots (ls : List (List Int)) : pureL (ls.map lotD) = true := by
  rw [pureL_mem]; intro x hx; obtain ⟨i, _, rfl⟩ := List.mem_map.mp hx; simp
theorem eqv_refl : ∀ d : D, okd 8 d = true → d.eqv d = true := by
  have : ∀ d : D, ∀ n, okd n d = true → d.eqv d = true := by
    intro d
    induction d using D.rec (motive_2 := fun xs => ∀ n, xs.all (okd n) = true → eqvL xs xs = true) with
    | tup xs ih => intro n h; cases n with
      | zero => simp [okd] at h
      | succ n => unfold D.eqv; exact ih n h
    | lst xs ih => intro n h; cases n with
      | zero => simp [okd] at h
      | succ n => unfold D.eqv; exact ih n h
    | nil => rename_i n h; rfl
    | cons x xs h1 h2 =>
      rename_i n h
      simp only [List.all_cons, Bool.and_eq_true] at h
      unfold eqvL
      rw [h1 n h.1, h2 n h.2]; rfl
    | _ => intro n h; first | (simp [D.eqv]; done) | (cases n <;> simp [okd] at h)
  exact fun d h => this d 8 h
section
variable {m : M}
@[simp] theorem p_len_tup (xs : List D) : prim .len [.tup xs] m = .val (.int xs.length) := rfl
@[simp] theorem p_len_lst (xs : List D) : prim .len [.lst xs] m = .val (.int xs.length) := rfl
@[simp] theorem p_tup_lst (xs : List D) : prim .tuple [.lst xs] m = .tup xs := rfl
@[simp] theorem p_tup_tup (xs : List D) : prim .tuple [.tup xs] m = .val (.tup xs) := rfl
@[simp] theorem p_all (bs : List Bool) : prim .all [.lst (bs.map .bl)] m = .val (.bl (bs.all id)) := by simp [prim]
@[simp] theorem p_sum (bs : List Int) : prim .sum [.lst (bs.map .int)] m = .val (.int bs.sum) := by simp [prim]
@[simp] theorem p_max (i j : Int) : prim .max [.int i, .int j] m = .val (.int (if j > i then j else i)) := rfl
@[simp] theorem p_min (i j : Int) : prim .min [.int i, .int j] m = .val (.int (if j < i then j else i)) := rfl
@[simp] theorem p_abs (i : Int) : prim .abs [.int i] m = .val (.int (if i < 0 then -i else i)) := rfl
@[simp] theorem p_divmod (i j : Int) : prim .divmod [.int i, .int j] m = if 0 < j ∧ j < 1073741824 then .tup [.int (i / j), .int (i % j)] else .bad := rfl
@[simp] theorem p_repr (d : D) : prim .repr [d] m = if shB (deref d m) then .val (.str (deref d m).py.shown) else .bad := rfl
@[simp] theorem p_sorted (ls : List (List Int)) : prim .sorted [.lst (ls.map lotD)] m = .lst ((sortLots ls).map lotD) := by simp [prim]
@[simp] theorem p_isi_int (i : Int) : prim .isinst [.int i, .ty "int"] m = .val (.bl true) := by simp [prim, tyOf, isTy]
@[simp] theorem p_isi_bool (i : Int) : prim .isinst [.int i, .ty "bool"] m = .val (.bl false) := by simp [prim, tyOf, isTy]
@[simp] theorem p_isi_tup (xs : List D) : prim .isinst [.tup xs, .ty "tuple"] m = .val (.bl true) := by simp [prim, tyOf, isTy]
@[simp] theorem o_val (c : Bool) (d : D) : (Raw.val d).out c m = .ok d m := rfl
@[simp] theorem b_add (i j : Int) : bop .add (.int i) (.int j) m = .val (.int (i + j)) := rfl
@[simp] theorem b_sub (i j : Int) : bop .sub (.int i) (.int j) m = .val (.int (i - j)) := rfl
@[simp] theorem b_mul (i j : Int) : bop .mul (.int i) (.int j) m = if (i.natAbs < 2 ^ 4000 ∧ j.natAbs < 2 ^ 4000) ∨ i.natAbs < 2 ^ 63 ∨ j.natAbs < 2 ^ 63 then .val (.int (i * j)) else .bad := rfl
@[simp] theorem b_mod (i j : Int) : bop .mod (.int i) (.int j) m = if 0 < j then .val (.int (i % j)) else .bad := rfl
@[simp] theorem b_fdiv (i j : Int) : bop .fdiv (.int i) (.int j) m = if 0 < j ∧ j.natAbs < 2 ^ 4000 then .val (.int (i / j)) else .bad := rfl
@[simp] theorem b_addT (xs ys : List D) : bop .add (.tup xs) (.tup ys) m = .tup (xs ++ ys) := rfl
@[simp] theorem b_addL (xs ys : List D) : bop .add (.lst xs) (.lst ys) m = .lst (xs ++ ys) := rfl
@[simp] theorem c_lt (i j : Int) : cop .lt (.int i) (.int j) m = some (decide (i < j)) := rfl
@[simp] theorem c_le (i j : Int) : cop .le (.int i) (.int j) m = some (decide (i ≤ j)) := rfl
@[simp] theorem c_gt (i j : Int) : cop .gt (.int i) (.int j) m = some (decide (j < i)) := rfl
@[simp] theorem c_ge (i j : Int) : cop .ge (.int i) (.int j) m = some (decide (j ≤ i)) := rfl
@[simp] theorem c_eqI (i j : Int) : cop .eq (.int i) (.int j) m = some (decide (i = j)) := by
  by_cases h : i = j <;> simp [cop, txt2, ok8, D.eqv, h]
@[simp] theorem c_neS (i j : Str) : cop .ne (.str i) (.str j) m = some (!decide (i = j)) := rfl
@[simp] theorem c_ltL (a b : List Int) : cop .lt (lotD a) (lotD b) m = some (lexLt a b) := by simp [cop, lotD]
@[simp] theorem c_isNotN : cop .isNot .non .non m = some false := rfl
@[simp] theorem i_tup (xs : List D) (k : Int) : ixD (.tup xs) (.int k) m = (ixN xs.length k).bind fun j => xs[j]? := rfl
@[simp] theorem i_lst (xs : List D) (k : Int) : ixD (.lst xs) (.int k) m = (ixN xs.length k).bind fun j => xs[j]? := rfl
@[simp] theorem sl_tup (xs : List D) (lo hi : Option Int) : slD (.tup xs) lo hi m = .tup (cut xs lo hi) := rfl
@[simp] theorem sl_lst (xs : List D) (lo hi : Option Int) : slD (.lst xs) lo hi m = .lst (cut xs lo hi) := rfl
theorem o_tup {c : Bool} {xs : List D} (h : xs.length ≤ cap) : (Raw.tup xs).out c m = .ok (.tup xs) m := by simp [Raw.out, h]
theorem o_lst {xs : List D} (h : xs.length ≤ cap) : (Raw.lst xs).out false m = .ok (.lst xs) m := by simp [Raw.out, h]
@[simp] theorem part_none : partD none = some none := rfl
@[simp] theorem part_int (i : Int) : partD (some (.int i)) = some (some i) := rfl
end
@[simp] theorem of_ok {α : Type} (ρ : Env) (a : α) (m : M) (f : α → M → ResS) : ResS.of ρ (.ok a m) f = f a m := rfl
@[simp] theorem seq_nx (ρ : Env) (m : M) (f : Env → M → ResS) : ResS.seq (.nx ρ m) f = f ρ m := rfl
@[simp] theorem seq_ret (d : D) (m : M) (f : Env → M → ResS) : ResS.seq (.ret d m) f = .ret d m := rfl
section
variable {F : Fns} {cl : Option (Nat × Clo)} {own : List (Str × Nat)} {t : Tg} {it : It} {e p : E} {ρ : Env} {m m1 m2 : M} {ds ys : List D}
theorem ev_compN (hi : evi F cl it ρ m = .ok ds m1) (hl : ds.length ≤ cap) (hc : compL (fun d m => bt F cl t d (wipe ρ (own.map (·.2))) m) (fun _ m => .ok true m) (fun ρ m => ev F cl e ρ m) ds m1 = .ok ys m2) (hy : ys.length ≤ cap) : ev F cl (.comp false own t it .no e) ρ m = .ok (.lst ys) m2 := by
  simp only [ev, hi, Res.bind_ok, hl, if_true, hc, Res.nox_ok, o_lst hy]
theorem ev_compY (hi : evi F cl it ρ m = .ok ds m1) (hl : ds.length ≤ cap) (hc : compL (fun d m => bt F cl t d (wipe ρ (own.map (·.2))) m) (fun ρ m => (ev F cl p ρ m).bind boolOf) (fun ρ m => ev F cl e ρ m) ds m1 = .ok ys m2) (hy : ys.length ≤ cap) : ev F cl (.comp false own t it (.yes p) e) ρ m = .ok (.lst ys) m2 := by
  simp only [ev, hi, Res.bind_ok, hl, if_true, hc, Res.nox_ok, o_lst hy]
end
/-- the lots of t things -/
def LotOk (t : Int) (l : List Int) : Prop := (∀ x ∈ l, 0 ≤ x ∧ x ≤ t - 1) ∧ l.Pairwise (· < ·) ∧ l.length ≤ 64
theorem map_bl (l : List D) (f : D → Bool) : l.map (fun d => D.bl (f d)) = (l.map f).map .bl := by simp
theorem compL_pure {b1 : D → M → Res Env} {elt : Env → M → Res D} {m : M} {r : D → Env} {f : D → D} {ds : List D} (h1 : ∀ d ∈ ds, b1 d m = .ok (r d) m) (h3 : ∀ d ∈ ds, elt (r d) m = .ok (f d) m) : compL b1 (fun _ m => .ok true m) elt ds m = .ok (ds.map f) m := by
  rw [compL_map (p := fun _ => true) h1 (fun _ _ => rfl) (fun d hd _ => h3 d hd), List.filter_eq_self.mpr (fun _ _ => rfl)]
end PM

end

section
set_option maxHeartbeats 4000000
/-! PM, plain part B: one row for each form, comprehensions left closed. -/
namespace PM
open PySem (Str)
section
variable {F : Fns} {cl : Option (Nat × Clo)} {ρ : Env} {m : M}
@[simp] theorem x_v (i : Nat) : ev F cl (.v i) ρ m = opt (get ρ i) m := by first | (rw [ev]; done) | (rw [ev]; rfl)
@[simp] theorem x_c (d : D) : ev F cl (.c d) ρ m = .ok d m := by first | (rw [ev]; done) | (rw [ev]; rfl)
@[simp] theorem x_g (x : Str) (d : D) : ev F cl (.g x d) ρ m = .ok d m := by first | (rw [ev]; done) | (rw [ev]; rfl)
@[simp] theorem x_t (x : Str) (n : String) : ev F cl (.t x n) ρ m = .ok (.ty n) m := by first | (rw [ev]; done) | (rw [ev]; rfl)
@[simp] theorem x_tup (es : Es) : ev F cl (.tup es) ρ m = (evs F cl es ρ m).bind fun ds m => (Raw.tup ds).out false m := by first | (rw [ev]; done) | (rw [ev]; rfl)
@[simp] theorem x_lst (c : Bool) (es : Es) : ev F cl (.lst c es) ρ m = (evs F cl es ρ m).bind fun ds m => (Raw.lst ds).out c m := by first | (rw [ev]; done) | (rw [ev]; rfl)
@[simp] theorem x_bin (op : BOp) (c : Bool) (a b : E) : ev F cl (.bin op c a b) ρ m = (ev F cl a ρ m).bind fun x m => (ev F cl b ρ m).bind fun y m => (bop op x y m).out c m := by first | (rw [ev]; done) | (rw [ev]; rfl)
@[simp] theorem x_neg (a : E) : ev F cl (.neg a) ρ m = (ev F cl a ρ m).bind fun x m => (match x with
    | .int i => .ok (.int (-i)) m
    | _ => .bad) := by first | (rw [ev]; done) | (rw [ev]; rfl)
@[simp] theorem x_not (a : E) : ev F cl (.not a) ρ m = (ev F cl a ρ m).bind fun x m => (boolOf x m).bind fun b m => .ok (.bl (!b)) m := by first | (rw [ev]; done) | (rw [ev]; rfl)
@[simp] theorem x_cmp (op : COp) (a b : E) : ev F cl (.cmp op a b) ρ m = (ev F cl a ρ m).bind fun x m => (ev F cl b ρ m).bind fun y m => (opt (cop op x y m) m).bind fun b m => .ok (.bl b) m := by first | (rw [ev]; done) | (rw [ev]; rfl)
@[simp] theorem x_chain (o1 o2 : COp) (a b c : E) : ev F cl (.chain o1 o2 a b c) ρ m = (ev F cl a ρ m).bind fun x m => (ev F cl b ρ m).bind fun y m => (opt (cop o1 x y m) m).bind fun k m =>
      if k then (ev F cl c ρ m).bind fun z m => (opt (cop o2 y z m) m).bind fun b m => .ok (.bl b) m else .ok (.bl false) m := by first | (rw [ev]; done) | (rw [ev]; rfl)
@[simp] theorem x_and (a b : E) : ev F cl (.and a b) ρ m = (ev F cl a ρ m).bind fun x m => (boolOf x m).bind fun k m => if k then ev F cl b ρ m else .ok (.bl false) m := by first | (rw [ev]; done) | (rw [ev]; rfl)
@[simp] theorem x_or (a b : E) : ev F cl (.or a b) ρ m = (ev F cl a ρ m).bind fun x m => (boolOf x m).bind fun k m => if k then .ok (.bl true) m else ev F cl b ρ m := by first | (rw [ev]; done) | (rw [ev]; rfl)
@[simp] theorem x_ite (c a b : E) : ev F cl (.ite c a b) ρ m = (ev F cl c ρ m).bind fun x m => (boolOf x m).bind fun k m => if k then ev F cl a ρ m else ev F cl b ρ m := by first | (rw [ev]; done) | (rw [ev]; rfl)
@[simp] theorem x_ix (a i : E) : ev F cl (.ix a i) ρ m = (ev F cl a ρ m).bind fun x m => (ev F cl i ρ m).bind fun y m => opt (ixD x y m) m := by first | (rw [ev]; done) | (rw [ev]; rfl)
@[simp] theorem x_sl (c : Bool) (a : E) (lo hi : Eo) : ev F cl (.sl c a lo hi) ρ m = (ev F cl a ρ m).bind fun x m => (evo F cl lo ρ m).bind fun l m => (opt (partD l) m).bind fun l m => (evo F cl hi ρ m).bind fun h m => (opt (partD h) m).bind fun h m => (slD x l h m).out c m := by first | (rw [ev]; done) | (rw [ev]; rfl)
@[simp] theorem x_call (x : Str) (es : Es) : ev F cl (.call x es) ρ m = (evs F cl es ρ m).bind fun ds m => F.call x ds m := by first | (rw [ev]; done) | (rw [ev]; rfl)
@[simp] theorem x_callK (x : Str) (es : Es) (ks : List Str) (vs : Es) : ev F cl (.callK x es ks vs) ρ m = (evs F cl es ρ m).bind fun ds m => (evs F cl vs ρ m).bind fun ws m => (opt ((F.ps x).bind fun ps => bindP ps ds (ks.zip ws)) m).bind fun as m => F.call x as m := by first | (rw [ev]; done) | (rw [ev]; rfl)
@[simp] theorem x_callC (i : Nat) (es : Es) (j : Nat) (c : Clo) : ev F (some (j, c)) (.callC i es) ρ m = (evs F (some (j, c)) es ρ m).bind fun ds m => if i = j then (c ds m).nox else .bad := by first | (rw [ev]; done) | (rw [ev]; rfl)
@[simp] theorem x_prim (p : Pr) (c : Bool) (es : Es) : ev F cl (.prim p c es) ρ m = (evs F cl es ρ m).bind fun ds m => (prim p ds m).out c m := by first | (rw [ev]; done) | (rw [ev]; rfl)
@[simp] theorem x_sset (c : Bool) (e : E) : ev F cl (.sset c e) ρ m = (ev F cl e ρ m).bind fun d m => (match (items d m).bind lots? with
    | some ls => if ls.length < 64 then (Raw.lst ((sortLots (dedup ls)).map lotD)).out c m else .bad
    | none => .bad) := by first | (rw [ev]; done) | (rw [ev]; rfl)
@[simp] theorem x_nil : evs F cl .nil ρ m = .ok [] m := by first | (rw [evs]; done) | (rw [evs]; rfl)
@[simp] theorem x_cons (e : E) (r : Es) : evs F cl (.cons e r) ρ m = (ev F cl e ρ m).bind fun d m => (evs F cl r ρ m).bind fun ds m => .ok (d :: ds) m := by first | (rw [evs]; done) | (rw [evs]; rfl)
@[simp] theorem x_no : evo F cl .no ρ m = .ok none m := by first | (rw [evo]; done) | (rw [evo]; rfl)
@[simp] theorem x_yes (e : E) : evo F cl (.yes e) ρ m = (ev F cl e ρ m).bind fun d m => .ok (some d) m := by first | (rw [evo]; done) | (rw [evo]; rfl)
@[simp] theorem x_seq (e : E) : evi F cl (.seq e) ρ m = (ev F cl e ρ m).bind fun d m => (match d with
    | .tup xs => .ok xs m
    | .lst xs => .ok xs m
    | _ => .bad) := by first | (rw [evi]; done) | (rw [evi]; rfl)
@[simp] theorem x_rng (es : Es) : evi F cl (.rng es) ρ m = (evs F cl es ρ m).bind fun ds m => opt (rngOf ds) m := by first | (rw [evi]; done) | (rw [evi]; rfl)
@[simp] theorem x_enum (e : E) : evi F cl (.enum e) ρ m = (ev F cl e ρ m).bind fun d m => (match d with
    | .tup xs => .ok (enumL 0 xs) m
    | .lst xs => .ok (enumL 0 xs) m
    | _ => .bad) := by first | (rw [evi]; done) | (rw [evi]; rfl)
@[simp] theorem x_zip (a b : E) : evi F cl (.zip a b) ρ m = (ev F cl a ρ m).bind fun x m => (ev F cl b ρ m).bind fun y m => (match x, y with
    | .tup xs, .tup ys => .ok (zipL xs ys) m
    | .lst xs, .lst ys => .ok (zipL xs ys) m
    | _, _ => .bad) := by first | (rw [evi]; done) | (rw [evi]; rfl)
@[simp] theorem x_n (i : Nat) (d : D) : bt F cl (.n i) d ρ m = .ok (ρ.set i (some d)) m := by first | (rw [bt]; done) | (rw [bt]; rfl)
@[simp] theorem x_sub (o i : E) (d : D) : bt F cl (.sub o i) d ρ m = (ev F cl o ρ m).bind fun x m => (ev F cl i ρ m).bind fun y m => (opt (putL x y d m) m).bind fun m' _ => .ok ρ m' := by first | (rw [bt]; done) | (rw [bt]; rfl)
@[simp] theorem x_tt (ts : Tgs) (xs : List D) : bt F cl (.t ts) (.tup xs) ρ m = bts F cl ts xs ρ m := by first | (rw [bt]; done) | (rw [bt]; rfl)
@[simp] theorem x_tnil : bts F cl .nil [] ρ m = .ok ρ m := by first | (rw [bts]; done) | (rw [bts]; rfl)
@[simp] theorem x_tcons (t : Tg) (r : Tgs) (d : D) (ds : List D) : bts F cl (.cons t r) (d :: ds) ρ m = (bt F cl t d ρ m).bind fun ρ m => bts F cl r ds ρ m := by first | (rw [bts]; done) | (rw [bts]; rfl)
@[simp] theorem y_set (t : Tg) (e : E) : exS F cl (.set t e) ρ m = ResS.of ρ (ev F cl e ρ m) fun d m => ResS.of ρ (bt F cl t d ρ m).nox fun ρ m => .nx ρ m := by first | (rw [exS]; done) | (rw [exS]; rfl)
@[simp] theorem y_par (ts : List Nat) (es : Es) : exS F cl (.par ts es) ρ m = ResS.of ρ (evs F cl es ρ m) fun ds m => (match setMany ρ ts ds with
    | some ρ => .nx ρ m
    | none => .bad) := by first | (rw [exS]; done) | (rw [exS]; rfl)
@[simp] theorem y_ex (e : E) : exS F cl (.ex e) ρ m = ResS.of ρ (ev F cl e ρ m) fun _ m => .nx ρ m := by first | (rw [exS]; done) | (rw [exS]; rfl)
@[simp] theorem y_ret (e : E) : exS F cl (.ret e) ρ m = ResS.of ρ (ev F cl e ρ m) fun d m => .ret d m := by first | (rw [exS]; done) | (rw [exS]; rfl)
@[simp] theorem y_ite (c : E) (a b : Ss) : exS F cl (.ite c a b) ρ m = ResS.of ρ ((ev F cl c ρ m).bind boolOf) fun k m => if k then exSs F cl a ρ m else exSs F cl b ρ m := by first | (rw [exS]; done) | (rw [exS]; rfl)
@[simp] theorem y_nil : exSs F cl .nil ρ m = .nx ρ m := by first | (rw [exSs]; done) | (rw [exSs]; rfl)
@[simp] theorem y_cons (s : S) (r : Ss) : exSs F cl (.cons s r) ρ m = (exS F cl s ρ m).seq fun ρ m => exSs F cl r ρ m := by first | (rw [exSs]; done) | (rw [exSs]; rfl)
theorem y_for (t : Tg) (it : It) (b : Ss) : exS F cl (.for_ t it b) ρ m = ResS.of ρ (evi F cl it ρ m) fun ds m => forL (fun d ρ m => bt F cl t d ρ m) (fun ρ m => exSs F cl b ρ m) ds ρ m := by first | (rw [exS]; done) | (rw [exS]; rfl)
end
@[simp] theorem get_z (o : Option D) (ρ : Env) : get (o :: ρ) 0 = o := by simp [get]
@[simp] theorem get_s (o : Option D) (ρ : Env) (i : Nat) : get (o :: ρ) (i + 1) = get ρ i := by simp [get]
@[simp] theorem p_isi_lot (l : List Int) (m : M) : prim .isinst [lotD l, .ty "tuple"] m = .val (.bl true) := by simp [lotD]
@[simp] theorem p_len_lot (l : List Int) (m : M) : prim .len [lotD l] m = .val (.int l.length) := by simp [lotD]
@[simp] theorem p_allrep (n : Nat) (m : M) : prim .all [.lst (List.replicate n (.bl true))] m = .val (.bl true) := by
  have := p_all (m := m) (List.replicate n true)
  simpa using this
theorem enumL_at : ∀ (k : Nat) (ds : List D) (i : Nat), (enumL k ds)[i]? = (ds[i]?).map fun d => .tup [.int ((k + i : Nat) : Int), d]
  | _, [], _ => by simp [enumL]
  | k, x :: xs, 0 => by simp [enumL]
  | k, x :: xs, i + 1 => by
    show (enumL (k + 1) xs)[i]? = _
    rw [enumL_at (k + 1) xs i]
    simp only [List.getElem?_cons_succ]
    rw [show k + 1 + i = k + (i + 1) by omega]
theorem cut_to (ds : List D) (j : Nat) : cut ds none (some (j : Int)) = ds.take j := by
  unfold cut sIx
  simp only [List.drop_zero, Nat.sub_zero]
  rw [if_neg (by omega)]
  simp only [Int.toNat_natCast]
  by_cases h : j ≤ ds.length
  · rw [Nat.min_eq_left h]
  · rw [Nat.min_eq_right (by omega), List.take_length, List.take_of_length_le (by omega)]
theorem c_eqE (ls : List (List Int)) (m : M) : cop .eq (.tup (ls.map lotD)) (.tup []) m = some ls.isEmpty := by
  have h : ok8 (.tup (ls.map lotD)) = true := by
    unfold ok8
    rw [okd_tup, List.all_eq_true]
    intro x hx
    obtain ⟨l, _, rfl⟩ := List.mem_map.mp hx
    exact okd_lotD 6 l
  have h2 : ok8 (.tup []) = true := rfl
  show (if ok8 (deref (.tup (ls.map lotD)) m) && ok8 (deref (.tup []) m) then some ((deref (.tup (ls.map lotD)) m).eqv (deref (.tup []) m)) else none) = _
  simp only [deref_tup, h, h2, Bool.and_self, if_true, Option.some.injEq]
  cases ls <;> rfl
theorem ix_last (xs : List D) (x : D) (m : M) : ixD (.tup (xs ++ [x])) (.int (-1)) m = some x := by
  have hl : (xs ++ [x]).length = xs.length + 1 := by simp
  rw [i_tup, hl]
  unfold ixN
  rw [if_neg (by decide), if_pos (by omega)]
  simp only [Option.bind_some]
  rw [show (-1 + ((xs.length + 1 : Nat) : Int)).toNat = xs.length by omega]
  simp
/-- a book of lots of t things -/
structure BookOk (t : Int) (ls : List (List Int)) : Prop where
  lots : ∀ l ∈ ls, LotOk t l
  asc : ls.Pairwise fun a b => lexLt a b = true
  few : ls.length ≤ 20
theorem c_inL (x : Int) (o : List Int) (m : M) : cop .inn (.int x) (lotD o) m = some (decide (x ∈ o)) := by
  have h : (o.map D.int).all ok8 = true := by
    rw [List.all_eq_true]
    intro z hz
    obtain ⟨i, _, rfl⟩ := List.mem_map.mp hz
    rfl
  show (match seqOf (lotD o) m with
    | some ys => if ok8 (deref (.int x) m) && ys.all ok8 then some (ys.any fun z => z.eqv (deref (.int x) m)) else none
    | none => none) = _
  simp only [lotD, seqOf_tup, deref_int, h]
  rw [if_pos (by rfl)]
  congr 1
  rw [List.any_map]
  induction o with
  | nil => rfl
  | cons y ys ih =>
    have h2 : (ys.map D.int).all ok8 = true := by
      rw [List.all_eq_true]
      intro z hz
      obtain ⟨i, _, rfl⟩ := List.mem_map.mp hz
      rfl
    rw [List.any_cons, ih h2]
    by_cases e : x = y
    · subst e; simp [D.eqv]
    · have : ¬ y = x := fun z => e z.symm
      simp [D.eqv, e, this]
theorem dedup_len : ∀ ls : List (List Int), (dedup ls).length ≤ ls.length
  | [] => Nat.le_refl _
  | x :: ls => by
    have := dedup_len ls
    unfold dedup
    split
    · simp; omega
    · simp; omega
theorem sortLots_len (ls : List (List Int)) : (sortLots ls).length = ls.length := List.length_mergeSort ls
/-- what the lots have in common with l -/
def traceOf (ls : List (List Int)) (l : List Int) : List (List Int) := sortLots (dedup (ls.map fun o => o.filter fun x => decide (x ∈ l)))
theorem trace_len (ls : List (List Int)) (l : List Int) : (traceOf ls l).length ≤ ls.length := by
  unfold traceOf
  rw [sortLots_len]
  have := dedup_len (ls.map fun o => o.filter fun x => decide (x ∈ l))
  simpa using this
theorem x_sset_lots {F : Fns} {cl : Option (Nat × Clo)} {ρ : Env} {m m1 : M} {e : E} {ls : List (List Int)} (h : ev F cl e ρ m = .ok (.lst (ls.map lotD)) m1) (hl : ls.length < 64) : ev F cl (.sset false e) ρ m = .ok (.lst ((sortLots (dedup ls)).map lotD)) m1 := by
  have hc : ((sortLots (dedup ls)).map lotD).length ≤ cap := by
    rw [List.length_map, sortLots_len]
    have := dedup_len ls
    exact Nat.le_trans (Nat.le_trans this (Nat.le_of_lt hl)) (by decide)
  simp [h, hl, o_lst hc]
section
variable {m : M} {l : Nat}
theorem ix_ref3 {a b c : D} (h : m[l]? = some (.lst [a, b, c])) : ixD (.ref l) (.int 0) m = some a ∧ ixD (.ref l) (.int 1) m = some b ∧ ixD (.ref l) (.int 2) m = some c := by
  have e : seqOf (.ref l) m = some [a, b, c] := by
    show (match m[l]? with
      | some (.lst xs) => some xs
      | _ => none) = _
    rw [h]
  refine ⟨?_, ?_, ?_⟩ <;> (unfold ixD; rw [e]; rfl)
theorem put_ref3 {a b c d : D} (h : m[l]? = some (.lst [a, b, c])) (hd : d.pure = true) : putL (.ref l) (.int 0) d m = some (m.set l (.lst [d, b, c])) ∧ putL (.ref l) (.int 1) d m = some (m.set l (.lst [a, d, c])) ∧ putL (.ref l) (.int 2) d m = some (m.set l (.lst [a, b, d])) := by
  refine ⟨?_, ?_, ?_⟩ <;> (unfold putL; simp only [h]; simp [ixN, hd])
theorem set_at {c : Cell} (h : l < m.length) : (m.set l c)[l]? = some c := List.getElem?_set_self h
theorem b_mulL {i j : Int} (h1 : i.natAbs < 2 ^ 63) : bop .mul (.int i) (.int j) m = .val (.int (i * j)) := if_pos (.inr (.inl h1))
theorem b_mulS {i j : Int} (h1 : j.natAbs < 2 ^ 63) : bop .mul (.int i) (.int j) m = .val (.int (i * j)) := if_pos (.inr (.inr h1))
theorem b_modS {i j : Int} (h : 0 < j) : bop .mod (.int i) (.int j) m = .val (.int (i % j)) := if_pos h
theorem b_fdivS {i j : Int} (h1 : 0 < j) (h2 : j.natAbs < 2 ^ 64) : bop .fdiv (.int i) (.int j) m = .val (.int (i / j)) := by
  have z : (2 : Nat) ^ 64 ≤ 2 ^ 4000 := Nat.pow_le_pow_right (by decide) (by decide)
  exact if_pos ⟨h1, Nat.lt_of_lt_of_le h2 z⟩
end
/-- a pool of draws at l, c draws made at most -/
def PoolAt (m : M) (l c : Nat) : Prop := ∃ a b k : Int, m[l]? = some (.lst [.int a, .int b, .int k]) ∧ 0 ≤ a ∧ (0 ≤ b ∧ b < 2147483399) ∧ 0 ≤ k ∧ k ≤ c
/-- all lots of k things, by the last thing -/
def lotsUp : Nat → List (List Int)
  | 0 => [[]]
  | k + 1 => lotsUp k ++ (lotsUp k).map (· ++ [(k : Int)])
theorem lotsUp_len : ∀ k, (lotsUp k).length = 2 ^ k
  | 0 => rfl
  | k + 1 => by unfold lotsUp; rw [List.length_append, List.length_map, lotsUp_len k]; omega
theorem lotsUp_ok : ∀ k, ∀ l ∈ lotsUp k, (∀ x ∈ l, 0 ≤ x ∧ x < k) ∧ l.Pairwise (· < ·) ∧ l.length ≤ k
  | 0, l, h => by simp [lotsUp] at h; subst h; simp
  | k + 1, l, h => by
    unfold lotsUp at h
    rcases List.mem_append.mp h with h | h
    · obtain ⟨h1, h2, h3⟩ := lotsUp_ok k l h
      exact ⟨fun x hx => ⟨(h1 x hx).1, by have := (h1 x hx).2; omega⟩, h2, by omega⟩
    · obtain ⟨o, ho, rfl⟩ := List.mem_map.mp h
      obtain ⟨h1, h2, h3⟩ := lotsUp_ok k o ho
      refine ⟨fun x hx => ?_, ?_, by simp; omega⟩
      · rcases List.mem_append.mp hx with hx | hx
        · exact ⟨(h1 x hx).1, by have := (h1 x hx).2; omega⟩
        · rw [List.mem_singleton.mp hx]; omega
      · rw [List.pairwise_append]
        exact ⟨h2, List.pairwise_singleton _ _, fun x hx y hy => by rw [List.mem_singleton.mp hy]; exact (h1 x hx).2⟩
theorem lotsUp_has : ∀ k s : Nat, s ≤ k → ∃ l ∈ lotsUp k, l.length = s
  | 0, s, h => ⟨[], by simp [lotsUp], by simp; omega⟩
  | k + 1, s, h => by
    unfold lotsUp
    by_cases hs : s ≤ k
    · obtain ⟨l, h1, h2⟩ := lotsUp_has k s hs
      exact ⟨l, List.mem_append_left _ h1, h2⟩
    · obtain ⟨l, h1, h2⟩ := lotsUp_has k k (Nat.le_refl _)
      exact ⟨l ++ [(k : Int)], List.mem_append_right _ (List.mem_map.mpr ⟨l, h1, rfl⟩), by simp; omega⟩
def lotsOf (k : Nat) : List (List Int) := sortLots (lotsUp k)
theorem mem_sortLots {l : List Int} {ls : List (List Int)} : l ∈ sortLots ls ↔ l ∈ ls := (List.mergeSort_perm ls lexLe).mem_iff
theorem lotsOf_ok {k : Nat} (hk : k ≤ 6) : ∀ l ∈ lotsOf k, LotOk k l := fun l hl => by
  obtain ⟨h1, h2, h3⟩ := lotsUp_ok k l (mem_sortLots.mp hl)
  exact ⟨fun x hx => ⟨(h1 x hx).1, by have := (h1 x hx).2; omega⟩, h2, by omega⟩
theorem lotsOf_len (k : Nat) : (lotsOf k).length = 2 ^ k := by unfold lotsOf; rw [sortLots_len, lotsUp_len]
theorem rng1 {j : Int} (h : 0 ≤ j ∧ j < 1000000) : rngOf [.int j] = some (rngL 0 j) := by
  have h2 : -(2 ^ 62) ≤ j ∧ j < 2 ^ 62 := by omega
  unfold rngOf
  simp only [h2, and_self, if_true]
theorem rngL_len (j : Nat) : (rngL 0 (j : Int)).length = j := by simp [rngL]
theorem rngL_at {j i : Nat} {d : D} (h : (rngL 0 (j : Int))[i]? = some d) : i < j ∧ d = .int i := by
  have hi : i < j := by
    have := (List.getElem?_eq_some_iff.mp h).1
    simpa [rngL] using this
  refine ⟨hi, ?_⟩
  unfold rngL at h
  rw [List.getElem?_map, List.getElem?_range (by omega)] at h
  simp at h
  exact h.symm
theorem b_mulW {i j : Int} (h1 : i.natAbs < 2 ^ 4000) (h2 : j.natAbs < 2 ^ 4000) : bop .mul (.int i) (.int j) m = .val (.int (i * j)) := if_pos (.inl ⟨h1, h2⟩)
theorem b_powW {i : Int} {j : Nat} (h1 : i.natAbs < 2 ^ 64) (h2 : j ≤ 1000000) : bop .pow (.int i) (.int j) m = .val (.int (i ^ j)) := by
  have h : 0 ≤ (j : Int) ∧ (j : Int) ≤ 1000000 ∧ i.natAbs < 2 ^ 64 := ⟨by omega, by omega, h1⟩
  unfold bop
  simp only [h, and_self, if_true, Int.toNat_natCast]
theorem y_forE {F : Fns} {cl : Option (Nat × Clo)} {ρ : Env} {m m1 : M} {t : Tg} {it : It} {b : Ss} {ds : List D} {r : ResS} (hi : evi F cl it ρ m = .ok ds m1) (hf : forL (fun d ρ m => bt F cl t d ρ m) (fun ρ m => exSs F cl b ρ m) ds ρ m1 = r) : exS F cl (.for_ t it b) ρ m = r := by
  rw [y_for, hi]
  exact hf
theorem evi_rng1 {F : Fns} {cl : Option (Nat × Clo)} {ρ : Env} {m m1 : M} {e : E} {j : Int} (h : ev F cl e ρ m = .ok (.int j) m1) (hj : 0 ≤ j ∧ j < 1000000) : evi F cl (.rng (.cons e .nil)) ρ m = .ok (rngL 0 j) m1 := by
  have hh : evs F cl (.cons e .nil) ρ m = .ok [.int j] m1 := by simp only [x_cons, h, Res.bind_ok, x_nil]
  have hr := rng1 hj
  rw [x_rng, hh, Res.bind_ok, hr, opt_some]
end PM

end

section
set_option maxHeartbeats 4000000
/-! PM, plain part C: books drawn from a pool. -/
namespace PM
open PySem (Str)
theorem PoolAt.mono {m : M} {l c c' : Nat} (h : PoolAt m l c) (hc : c ≤ c') : PoolAt m l c' := by
  obtain ⟨a, b, k, h1, h2, h3, h4, h5⟩ := h
  exact ⟨a, b, k, h1, h2, h3, h4, by omega⟩
theorem compL_actsN {b1 : D → M → Res Env} {cnd : Env → M → Res Bool} {elt : Env → M → Res D} {r : D → Env} {N : Nat} {I : Nat → M → Prop} {Rr : D → Prop} (hb : ∀ d m, b1 d m = .ok (r d) m) (hc : ∀ d m, cnd (r d) m = .ok true m)
    (he : ∀ i d m, i < N → I i m → ∃ y m', elt (r d) m = .ok y m' ∧ I (i + 1) m' ∧ Rr y) : ∀ (ds : List D) (i : Nat) (m : M), i + ds.length ≤ N → I i m → ∃ ys m', compL b1 cnd elt ds m = .ok ys m' ∧ I (i + ds.length) m' ∧ ys.length = ds.length ∧ ∀ y ∈ ys, Rr y
  | [], i, m, _, h => ⟨[], m, rfl, h, rfl, fun y hy => by cases hy⟩
  | d :: ds, i, m, hN, h => by
    rw [List.length_cons] at hN
    obtain ⟨y, m1, e1, h1, r1⟩ := he i d m (by omega) h
    obtain ⟨ys, m2, e2, h2, l2, r2⟩ := compL_actsN hb hc he ds (i + 1) m1 (by omega) h1
    refine ⟨y :: ys, m2, ?_, by rw [List.length_cons, show i + (ds.length + 1) = i + 1 + ds.length by omega]; exact h2, by simp [l2], fun z hz => ?_⟩
    · unfold compL
      rw [hb, Res.bind_ok, hc, Res.bind_ok, if_pos rfl, e1, Res.bind_ok, e2]
      rfl
    · rcases List.mem_cons.mp hz with e | hz
      · subst e; exact r1
      · exact r2 z hz
/-- lots kept by a test -/
theorem compL_flt {b1 : D → M → Res Env} {cnd : Env → M → Res Bool} {elt : Env → M → Res D} {m : M} {r : List Int → Env} {q : List Int → Bool} : ∀ {us : List (List Int)}, (∀ u ∈ us, b1 (lotD u) m = .ok (r u) m) → (∀ u ∈ us, cnd (r u) m = .ok (q u) m) → (∀ u ∈ us, elt (r u) m = .ok (lotD u) m) → compL b1 cnd elt (us.map lotD) m = .ok ((us.filter q).map lotD) m
  | [], _, _, _ => rfl
  | u :: us, h1, h2, h3 => by
    have ih := compL_flt (fun x hx => h1 x (List.mem_cons_of_mem _ hx)) (fun x hx => h2 x (List.mem_cons_of_mem _ hx)) (fun x hx => h3 x (List.mem_cons_of_mem _ hx))
    rw [List.map_cons]
    unfold compL
    rw [h1 u (List.mem_cons_self ..), Res.bind_ok, h2 u (List.mem_cons_self ..), Res.bind_ok]
    cases hq : q u with
    | false => rw [if_neg (by decide), ih, List.filter_cons_of_neg (by simp [hq])]
    | true =>
      rw [if_pos rfl, h3 u (List.mem_cons_self ..)]
      simp only [Res.bind_ok]
      rw [ih, List.filter_cons_of_pos hq]
      rfl
theorem c_neE (ls : List (List Int)) (m : M) : cop .ne (.lst (ls.map lotD)) (.lst []) m = some (!ls.isEmpty) := by
  have h : ok8 (.lst (ls.map lotD)) = true := by
    unfold ok8
    rw [okd_lst, List.all_eq_true]
    intro x hx
    obtain ⟨l, _, rfl⟩ := List.mem_map.mp hx
    exact okd_lotD 6 l
  have h2 : ok8 (.lst []) = true := rfl
  show (if ok8 (deref (.lst (ls.map lotD)) m) && ok8 (deref (.lst []) m) then some (!(deref (.lst (ls.map lotD)) m).eqv (deref (.lst []) m)) else none) = _
  simp only [deref_lst, h, h2, Bool.and_self, if_true, Option.some.injEq]
  cases ls <;> rfl
theorem lots_back {ev : List (List Int)} : ∀ {ys : List D}, (∀ y ∈ ys, ∃ o ∈ ev, y = lotD o) → ∃ os : List (List Int), ys = os.map lotD ∧ ∀ o ∈ os, o ∈ ev
  | [], _ => ⟨[], rfl, fun _ h => by cases h⟩
  | y :: ys, h => by
    obtain ⟨o, ho, rfl⟩ := h y (List.mem_cons_self ..)
    obtain ⟨os, rfl, hos⟩ := lots_back (fun z hz => h z (List.mem_cons_of_mem _ hz))
    exact ⟨o :: os, rfl, fun z hz => by
      rcases List.mem_cons.mp hz with e | hz
      · subst e; exact ho
      · exact hos z hz⟩
theorem filter_le {α : Type} {p q : α → Bool} (h : ∀ u, p u = true → q u = true) : ∀ us : List α, (us.filter p).length ≤ (us.filter q).length
  | [] => Nat.le_refl _
  | u :: us => by
    have ih := filter_le h us
    cases hp : p u with
    | true =>
      rw [List.filter_cons_of_pos hp, List.filter_cons_of_pos (h u hp)]
      exact Nat.succ_le_succ ih
    | false =>
      rw [List.filter_cons_of_neg (by simp [hp])]
      cases hq : q u with
      | true =>
        rw [List.filter_cons_of_pos hq]
        exact Nat.le_succ_of_le ih
      | false =>
        rw [List.filter_cons_of_neg (by simp [hq])]
        exact ih
theorem nodup_sub : ∀ (a w : List Int), a.Nodup → (∀ x ∈ a, x ∈ w) → a.length ≤ w.length
  | [], _, _, _ => Nat.zero_le _
  | x :: a, w, hn, hs => by
    obtain ⟨h1, h2⟩ := List.nodup_cons.mp hn
    have ih := nodup_sub a (w.erase x) h2 fun y hy => (List.mem_erase_of_ne (fun (e : y = x) => h1 (by rw [← e]; exact hy))).mpr (hs y (List.mem_cons_of_mem _ hy))
    have hx := hs x (List.mem_cons_self ..)
    rw [List.length_erase_of_mem hx] at ih
    have : 1 ≤ w.length := List.length_pos_of_mem hx
    rw [List.length_cons]
    omega
theorem asc_set (ls : List (List Int)) : (sortLots (dedup ls)).Pairwise fun a b => lexLt a b = true := by
  have s2 : (sortLots (dedup ls)).Pairwise fun x y => lexLt y x = false := by
    have q := List.pairwise_mergeSort lexLe_trans lexLe_total (dedup ls)
    exact q.imp fun {a b} h => by unfold lexLe at h; simpa using h
  have nd : (sortLots (dedup ls)).Nodup := (List.mergeSort_perm (dedup ls) lexLe).nodup_iff.mpr (dedup_nodup ls)
  refine (s2.and nd).imp fun {a b} h => ?_
  cases hab : lexLt a b with
  | true => rfl
  | false => exact absurd (lexLt_tri a b hab h.1) h.2
theorem wide_few {t : Nat} (ht : t ≤ 6) (w : List Int) (hw : w.length ≤ 3) : ((lotsOf t).filter fun u => u.all fun x => decide (x ∈ w)).length ≤ 32 := by
  have hp : ((lotsOf t).filter fun u => u.all fun x => decide (x ∈ w)).length = ((lotsUp t).filter fun u => u.all fun x => decide (x ∈ w)).length := ((List.mergeSort_perm (lotsUp t) lexLe).filter _).length_eq
  rw [hp]
  by_cases h5 : t ≤ 5
  · refine Nat.le_trans (List.length_filter_le _ _) ?_
    rw [lotsUp_len]
    exact Nat.le_trans (Nat.pow_le_pow_right (by decide) h5) (by decide)
  · have e : t = 6 := by omega
    subst e
    have hx : ∃ x ∈ [(0 : Int), 1, 2, 3, 4, 5], x ∉ w := by
      by_cases h : ∃ x ∈ [(0 : Int), 1, 2, 3, 4, 5], x ∉ w
      · exact h
      · exfalso
        have hs : ∀ x ∈ [(0 : Int), 1, 2, 3, 4, 5], x ∈ w := fun x hx => by
          by_cases hxw : x ∈ w
          · exact hxw
          · exact absurd ⟨x, hx, hxw⟩ h
        have hn : ([(0 : Int), 1, 2, 3, 4, 5]).Nodup := by decide
        have := nodup_sub _ w hn hs
        simp at this
        omega
    obtain ⟨x, hx, hxw⟩ := hx
    have hsub : ((lotsUp 6).filter fun u => u.all fun x => decide (x ∈ w)).length ≤ ((lotsUp 6).filter fun u => !decide (x ∈ u)).length := by
      refine filter_le (fun u h => ?_) _
      by_cases hu : x ∈ u
      · exact absurd (by simpa using (List.all_eq_true.mp h) x hu) hxw
      · simp [hu]
    refine Nat.le_trans hsub ?_
    have hall : ∀ x ∈ [(0 : Int), 1, 2, 3, 4, 5], ((lotsUp 6).filter fun u => !decide (x ∈ u)).length ≤ 32 := by decide +kernel
    exact hall x hx
end PM

end

section
set_option maxHeartbeats 4000000
/-! PM, plain part G: typed rules, one a form; what a program prints is made of these. -/
namespace PM
open PySem (Str)
def eT {α : Type} (e : α → D) (xs : List α) : D := .tup (xs.map e)
def eL {α : Type} (e : α → D) (xs : List α) : D := .lst (xs.map e)
def eP {α β : Type} (e1 : α → D) (e2 : β → D) (p : α × β) : D := .tup [e1 p.1, e2 p.2]
def eP3 {α β γ : Type} (e1 : α → D) (e2 : β → D) (e3 : γ → D) (p : α × β × γ) : D := .tup [e1 p.1, e2 p.2.1, e3 p.2.2]
def eO {α : Type} (e : α → D) : Option α → D
  | none => .non
  | some a => e a
def eN (_ : Unit) : D := .non
/-- pure data -/
class PEnc {α : Type} (e : α → D) : Prop where
  pure : ∀ a, (e a).pure = true
instance : PEnc D.int := ⟨fun _ => by simp⟩
instance : PEnc D.bl := ⟨fun _ => by simp⟩
instance : PEnc D.str := ⟨fun _ => by simp⟩
instance : PEnc eN := ⟨fun _ => by simp [eN]⟩
instance : PEnc lotD := ⟨fun _ => by simp⟩
theorem pureL_map {α : Type} {e : α → D} [h : PEnc e] (xs : List α) : pureL (xs.map e) = true := by
  rw [pureL_mem]; intro x hx; obtain ⟨i, _, rfl⟩ := List.mem_map.mp hx; exact h.pure i
instance {α : Type} {e : α → D} [PEnc e] : PEnc (eT e) := ⟨fun xs => by unfold eT; rw [pure_tup]; exact pureL_map xs⟩
instance {α : Type} {e : α → D} [PEnc e] : PEnc (eL e) := ⟨fun xs => by unfold eL; rw [pure_lst]; exact pureL_map xs⟩
instance {α β : Type} {e1 : α → D} {e2 : β → D} [h1 : PEnc e1] [h2 : PEnc e2] : PEnc (eP e1 e2) := ⟨fun p => by unfold eP; simp [h1.pure, h2.pure]⟩
instance {α β γ : Type} {e1 : α → D} {e2 : β → D} {e3 : γ → D} [h1 : PEnc e1] [h2 : PEnc e2] [h3 : PEnc e3] : PEnc (eP3 e1 e2 e3) := ⟨fun p => by unfold eP3; simp [h1.pure, h2.pure, h3.pure]⟩
instance {α : Type} {e : α → D} [h : PEnc e] : PEnc (eO e) := ⟨fun p => by cases p <;> simp [eO, h.pure]⟩
/-- == tells what is the same -/
class QEnc (n : Nat) {α : Type} [DecidableEq α] (e : α → D) : Prop where
  okd : ∀ a, okd n (e a) = true
  eqv : ∀ a b, (e a).eqv (e b) = decide (a = b)
instance (n : Nat) : QEnc n D.int := ⟨fun _ => by simp, fun a b => by simp only [D.eqv]; by_cases h : a = b <;> simp [h]⟩
instance (n : Nat) : QEnc n D.bl := ⟨fun _ => by simp, fun a b => by simp only [D.eqv]; by_cases h : a = b <;> simp [h]⟩
theorem eqvL_map (n : Nat) {α : Type} [DecidableEq α] {e : α → D} [h : QEnc n e] : ∀ xs ys : List α, eqvL (xs.map e) (ys.map e) = decide (xs = ys)
  | [], [] => rfl
  | [], _ :: _ => rfl
  | _ :: _, [] => rfl
  | x :: xs, y :: ys => by
    show ((e x).eqv (e y) && eqvL (xs.map e) (ys.map e)) = _
    rw [h.eqv, eqvL_map n xs ys]
    by_cases h1 : x = y <;> by_cases h2 : xs = ys <;> simp [h1, h2]
instance {n : Nat} {α : Type} [DecidableEq α] {e : α → D} [h : QEnc n e] : QEnc (n + 1) (eT e) := ⟨fun xs => by
  unfold eT
  rw [okd_tup, List.all_eq_true]; intro x hx; obtain ⟨i, _, rfl⟩ := List.mem_map.mp hx; exact h.okd i, fun a b => eqvL_map n a b⟩
instance {n : Nat} {α : Type} [DecidableEq α] {e : α → D} [h : QEnc n e] : QEnc (n + 1) (eL e) := ⟨fun xs => by
  unfold eL
  rw [okd_lst, List.all_eq_true]; intro x hx; obtain ⟨i, _, rfl⟩ := List.mem_map.mp hx; exact h.okd i, fun a b => eqvL_map n a b⟩
instance {n : Nat} : QEnc (n + 1) lotD := (inferInstance : QEnc (n + 1) (eT D.int))
instance {n : Nat} {α β : Type} [DecidableEq α] [DecidableEq β] {e1 : α → D} {e2 : β → D} [h1 : QEnc n e1] [h2 : QEnc n e2] : QEnc (n + 1) (eP e1 e2) := ⟨fun p => by
  unfold eP
  simp [okd_tup, h1.okd, h2.okd], fun a b => by
  show ((e1 a.1).eqv (e1 b.1) && ((e2 a.2).eqv (e2 b.2) && true)) = _
  rw [h1.eqv, h2.eqv]
  obtain ⟨a1, a2⟩ := a; obtain ⟨b1, b2⟩ := b
  by_cases h1 : a1 = b1 <;> by_cases h2 : a2 = b2 <;> simp [h1, h2]⟩
instance {n : Nat} {α β γ : Type} [DecidableEq α] [DecidableEq β] [DecidableEq γ] {e1 : α → D} {e2 : β → D} {e3 : γ → D} [h1 : QEnc n e1] [h2 : QEnc n e2] [h3 : QEnc n e3] : QEnc (n + 1) (eP3 e1 e2 e3) := ⟨fun p => by
  unfold eP3
  simp [okd_tup, h1.okd, h2.okd, h3.okd], fun a b => by
  show ((e1 a.1).eqv (e1 b.1) && ((e2 a.2.1).eqv (e2 b.2.1) && ((e3 a.2.2).eqv (e3 b.2.2) && true))) = _
  rw [h1.eqv, h2.eqv, h3.eqv]
  obtain ⟨a1, a2, a3⟩ := a; obtain ⟨b1, b2, b3⟩ := b
  by_cases h1 : a1 = b1 <;> by_cases h2 : a2 = b2 <;> by_cases h3 : a3 = b3 <;> simp [h1, h2, h3]⟩
/-- never None -/
class NEnc {α : Type} (e : α → D) : Prop where
  nn : ∀ a, e a ≠ .non
instance : NEnc D.int := ⟨fun _ => by simp⟩
instance : NEnc D.bl := ⟨fun _ => by simp⟩
instance : NEnc D.str := ⟨fun _ => by simp⟩
instance : NEnc lotD := ⟨fun _ => by simp [lotD]⟩
instance {α : Type} {e : α → D} : NEnc (eT e) := ⟨fun _ => by simp [eT]⟩
instance {α : Type} {e : α → D} : NEnc (eL e) := ⟨fun _ => by simp [eL]⟩
instance {α β : Type} {e1 : α → D} {e2 : β → D} : NEnc (eP e1 e2) := ⟨fun _ => by simp [eP]⟩
instance {α β γ : Type} {e1 : α → D} {e2 : β → D} {e3 : γ → D} : NEnc (eP3 e1 e2 e3) := ⟨fun _ => by simp [eP3]⟩
instance {n : Nat} {α : Type} [DecidableEq α] {e : α → D} [h : QEnc n e] [h2 : NEnc e] : QEnc n (eO e) := ⟨fun p => by cases p <;> simp [eO, h.okd], fun a b => by
  have z : ∀ x, (D.non).eqv (e x) = false := fun x => by
    have q := h2.nn x
    cases hx : e x <;> first | (exact absurd hx q) | rfl
  have z2 : ∀ x, (e x).eqv D.non = false := fun x => by
    have q := h2.nn x
    cases hx : e x <;> first | (exact absurd hx q) | rfl
  cases a <;> cases b <;> simp [eO, h.eqv, z, z2]
  rfl⟩
theorem deref_okd {n : Nat} {d : D} {m : M} (h : okd n d = true) : deref d m = d := by
  cases d <;> first | rfl | (cases n <;> simp [okd] at h)
section
variable {F : Fns} {cl : Option (Nat × Clo)} {ρ ρ1 ρ2 : Env} {m m1 m2 m3 : M} {n : Nat} {a b c e : E} {es : Es} {d d1 d2 : D} {ds : List D} {α β γ : Type}
theorem e_v {i : Nat} (h : get ρ i = some d) : ev F cl (.v i) ρ m = .ok d m := by rw [x_v, h]; rfl
theorem e_c : ev F cl (.c d) ρ m = .ok d m := x_c d
theorem e_g {x : Str} : ev F cl (.g x d) ρ m = .ok d m := x_g x d
theorem es_nil : evs F cl .nil ρ m = .ok [] m := x_nil
theorem es_cons (h : ev F cl a ρ m = .ok d m1) (hr : evs F cl es ρ m1 = .ok ds m2) : evs F cl (.cons a es) ρ m = .ok (d :: ds) m2 := by
  rw [x_cons, h, Res.bind_ok, hr, Res.bind_ok]
theorem e_tup (h : evs F cl es ρ m = .ok ds m1) (hc : ds.length ≤ 16777216) : ev F cl (.tup es) ρ m = .ok (.tup ds) m1 := by
  rw [x_tup, h, Res.bind_ok, o_tup hc]
theorem e_lst (h : evs F cl es ρ m = .ok ds m1) (hc : ds.length ≤ 16777216) : ev F cl (.lst false es) ρ m = .ok (.lst ds) m1 := by
  rw [x_lst, h, Res.bind_ok, o_lst hc]
theorem o_lstR {xs : List D} (h : xs.length ≤ cap) (hp : pureL xs = true) : (Raw.lst xs).out true m = .ok (.ref m.length) (m ++ [.lst xs]) := by simp [Raw.out, h, hp]
theorem e_lstR (h : evs F cl es ρ m = .ok ds m1) (hc : ds.length ≤ 16777216) (hp : pureL ds = true) : ev F cl (.lst true es) ρ m = .ok (.ref m1.length) (m1 ++ [.lst ds]) := by
  rw [x_lst, h, Res.bind_ok, o_lstR hc hp]
section Ints
variable {i j : Int} {k : Bool}
theorem e_add (ha : ev F cl a ρ m = .ok (.int i) m1) (hb : ev F cl b ρ m1 = .ok (.int j) m2) : ev F cl (.bin .add k a b) ρ m = .ok (.int (i + j)) m2 := by
  rw [x_bin, ha, Res.bind_ok, hb, Res.bind_ok]; rfl
theorem e_sub (ha : ev F cl a ρ m = .ok (.int i) m1) (hb : ev F cl b ρ m1 = .ok (.int j) m2) : ev F cl (.bin .sub k a b) ρ m = .ok (.int (i - j)) m2 := by
  rw [x_bin, ha, Res.bind_ok, hb, Res.bind_ok]; rfl
theorem e_mul (ha : ev F cl a ρ m = .ok (.int i) m1) (hb : ev F cl b ρ m1 = .ok (.int j) m2) (h : (i.natAbs < 2 ^ 4000 ∧ j.natAbs < 2 ^ 4000) ∨ i.natAbs < 2 ^ 63 ∨ j.natAbs < 2 ^ 63) : ev F cl (.bin .mul k a b) ρ m = .ok (.int (i * j)) m2 := by
  rw [x_bin, ha, Res.bind_ok, hb, Res.bind_ok, b_mul, if_pos h]; rfl
theorem e_fdiv (ha : ev F cl a ρ m = .ok (.int i) m1) (hb : ev F cl b ρ m1 = .ok (.int j) m2) (h : 0 < j ∧ j < 2 ^ 62) : ev F cl (.bin .fdiv k a b) ρ m = .ok (.int (i / j)) m2 := by
  rw [x_bin, ha, Res.bind_ok, hb, Res.bind_ok, b_fdivS h.1 (by omega)]; rfl
theorem e_mod (ha : ev F cl a ρ m = .ok (.int i) m1) (hb : ev F cl b ρ m1 = .ok (.int j) m2) (h : 0 < j) : ev F cl (.bin .mod k a b) ρ m = .ok (.int (i % j)) m2 := by
  rw [x_bin, ha, Res.bind_ok, hb, Res.bind_ok, b_modS h]; rfl
theorem e_pow (ha : ev F cl a ρ m = .ok (.int i) m1) (hb : ev F cl b ρ m1 = .ok (.int j) m2) (h : 0 ≤ j ∧ j ≤ 1000000 ∧ i.natAbs < 2 ^ 64) : ev F cl (.bin .pow k a b) ρ m = .ok (.int (i ^ j.toNat)) m2 := by
  rw [x_bin, ha, Res.bind_ok, hb, Res.bind_ok]
  show ((if 0 ≤ j ∧ j ≤ 1000000 ∧ i.natAbs < 2 ^ 64 then Raw.val (.int (i ^ j.toNat)) else .bad).out k m2) = _
  rw [if_pos h]; rfl
theorem e_shl (ha : ev F cl a ρ m = .ok (.int i) m1) (hb : ev F cl b ρ m1 = .ok (.int j) m2) (h : 0 ≤ j ∧ j ≤ 1000000 ∧ i.natAbs < 2 ^ 64) : ev F cl (.bin .shl k a b) ρ m = .ok (.int (i * 2 ^ j.toNat)) m2 := by
  rw [x_bin, ha, Res.bind_ok, hb, Res.bind_ok]
  show ((if 0 ≤ j ∧ j ≤ 1000000 ∧ i.natAbs < 2 ^ 64 then Raw.val (.int (i * 2 ^ j.toNat)) else .bad).out k m2) = _
  rw [if_pos h]; rfl
theorem e_neg (ha : ev F cl a ρ m = .ok (.int i) m1) : ev F cl (.neg a) ρ m = .ok (.int (-i)) m1 := by rw [x_neg, ha]; rfl
theorem e_lt (ha : ev F cl a ρ m = .ok (.int i) m1) (hb : ev F cl b ρ m1 = .ok (.int j) m2) : ev F cl (.cmp .lt a b) ρ m = .ok (.bl (decide (i < j))) m2 := by
  rw [x_cmp, ha, Res.bind_ok, hb, Res.bind_ok]; rfl
theorem e_le (ha : ev F cl a ρ m = .ok (.int i) m1) (hb : ev F cl b ρ m1 = .ok (.int j) m2) : ev F cl (.cmp .le a b) ρ m = .ok (.bl (decide (i ≤ j))) m2 := by
  rw [x_cmp, ha, Res.bind_ok, hb, Res.bind_ok]; rfl
theorem e_gt (ha : ev F cl a ρ m = .ok (.int i) m1) (hb : ev F cl b ρ m1 = .ok (.int j) m2) : ev F cl (.cmp .gt a b) ρ m = .ok (.bl (decide (j < i))) m2 := by
  rw [x_cmp, ha, Res.bind_ok, hb, Res.bind_ok]; rfl
theorem e_ge (ha : ev F cl a ρ m = .ok (.int i) m1) (hb : ev F cl b ρ m1 = .ok (.int j) m2) : ev F cl (.cmp .ge a b) ρ m = .ok (.bl (decide (j ≤ i))) m2 := by
  rw [x_cmp, ha, Res.bind_ok, hb, Res.bind_ok]; rfl
theorem e_ltL {x y : List Int} (ha : ev F cl a ρ m = .ok (lotD x) m1) (hb : ev F cl b ρ m1 = .ok (lotD y) m2) : ev F cl (.cmp .lt a b) ρ m = .ok (.bl (lexLt x y)) m2 := by
  rw [x_cmp, ha, Res.bind_ok, hb, Res.bind_ok, c_ltL]; rfl
theorem cop_eq [DecidableEq α] (e : α → D) [h : QEnc 8 e] (x y : α) : cop .eq (e x) (e y) m = some (decide (x = y)) := by
  have h1 := h.okd x
  have h2 := h.okd y
  unfold cop
  simp only [deref_okd h1, deref_okd h2, ok8, h1, h2, Bool.and_self, if_true, h.eqv]
  split
  · rename_i q hq
    unfold txt2 at hq
    split at hq
    · rename_i u v e1 e2
      have := h.eqv x y
      rw [e1, e2] at this
      injection hq with hq
      rw [← hq, ← this]
      rfl
    · cases hq
  · rfl
theorem cop_ne [DecidableEq α] (e : α → D) [h : QEnc 8 e] (x y : α) : cop .ne (e x) (e y) m = some (!decide (x = y)) := by
  have h1 := h.okd x
  have h2 := h.okd y
  unfold cop
  simp only [deref_okd h1, deref_okd h2, ok8, h1, h2, Bool.and_self, if_true, h.eqv]
  split
  · rename_i q hq
    unfold txt2 at hq
    split at hq
    · rename_i u v e1 e2
      have := h.eqv x y
      rw [e1, e2] at this
      injection hq with hq
      rw [← hq, ← this]
      rfl
    · cases hq
  · rfl
theorem e_eq [DecidableEq α] (e : α → D) [QEnc 8 e] {x y : α} (ha : ev F cl a ρ m = .ok (e x) m1) (hb : ev F cl b ρ m1 = .ok (e y) m2) : ev F cl (.cmp .eq a b) ρ m = .ok (.bl (decide (x = y))) m2 := by
  rw [x_cmp, ha, Res.bind_ok, hb, Res.bind_ok, cop_eq e]; rfl
theorem e_ne [DecidableEq α] (e : α → D) [QEnc 8 e] {x y : α} (ha : ev F cl a ρ m = .ok (e x) m1) (hb : ev F cl b ρ m1 = .ok (e y) m2) : ev F cl (.cmp .ne a b) ρ m = .ok (.bl (!decide (x = y))) m2 := by
  rw [x_cmp, ha, Res.bind_ok, hb, Res.bind_ok, cop_ne e]; rfl
theorem e_eqS {x y : Str} (ha : ev F cl a ρ m = .ok (.str x) m1) (hb : ev F cl b ρ m1 = .ok (.str y) m2) : ev F cl (.cmp .eq a b) ρ m = .ok (.bl (decide (x = y))) m2 := by
  rw [x_cmp, ha, Res.bind_ok, hb, Res.bind_ok]; rfl
theorem e_neS {x y : Str} (ha : ev F cl a ρ m = .ok (.str x) m1) (hb : ev F cl b ρ m1 = .ok (.str y) m2) : ev F cl (.cmp .ne a b) ρ m = .ok (.bl (!decide (x = y))) m2 := by
  rw [x_cmp, ha, Res.bind_ok, hb, Res.bind_ok]; rfl
/-- a list or a tuple of the same -/
inductive Sq (e : α → D) (xs : List α) : D → Prop
  | t : Sq e xs (.tup (xs.map e))
  | l : Sq e xs (.lst (xs.map e))
theorem Sq.seq {e : α → D} {xs : List α} {d : D} (h : Sq e xs d) : seqOf d m = some (xs.map e) := by cases h <;> rfl
theorem any_eqv [DecidableEq α] (e : α → D) [h : QEnc 8 e] (x : α) (xs : List α) : ((xs.map e).any fun z => z.eqv (e x)) = decide (x ∈ xs) := by
  induction xs with
  | nil => rfl
  | cons y ys ih =>
    rw [List.map_cons, List.any_cons, ih, h.eqv]
    by_cases e : x = y
    · subst e; simp
    · have : ¬ y = x := fun z => e z.symm
      simp [e, this]
theorem all_ok8 [DecidableEq α] (e : α → D) [h : QEnc 8 e] (xs : List α) : (xs.map e).all ok8 = true := by
  rw [List.all_eq_true]; intro x hx; obtain ⟨i, _, rfl⟩ := List.mem_map.mp hx; exact h.okd i
theorem e_in [DecidableEq α] (e : α → D) [h : QEnc 8 e] {x : α} {xs : List α} {d : D} (ha : ev F cl a ρ m = .ok (e x) m1) (hb : ev F cl b ρ m1 = .ok d m2) (hs : Sq e xs d) : ev F cl (.cmp .inn a b) ρ m = .ok (.bl (decide (x ∈ xs))) m2 := by
  rw [x_cmp, ha, Res.bind_ok, hb, Res.bind_ok]
  have h1 := h.okd x
  unfold cop
  simp only [hs.seq, deref_okd h1, all_ok8 e, any_eqv e, show ok8 (e x) = true from h1, Bool.and_self, if_true]
  rfl
theorem e_notIn [DecidableEq α] (e : α → D) [h : QEnc 8 e] {x : α} {xs : List α} {d : D} (ha : ev F cl a ρ m = .ok (e x) m1) (hb : ev F cl b ρ m1 = .ok d m2) (hs : Sq e xs d) : ev F cl (.cmp .notIn a b) ρ m = .ok (.bl (!decide (x ∈ xs))) m2 := by
  rw [x_cmp, ha, Res.bind_ok, hb, Res.bind_ok]
  have h1 := h.okd x
  unfold cop
  simp only [hs.seq, deref_okd h1, all_ok8 e, any_eqv e, show ok8 (e x) = true from h1, Bool.and_self, if_true]
  rfl
theorem e_isN (e : α → D) [h : NEnc e] {x : Option α} (ha : ev F cl a ρ m = .ok (eO e x) m1) : ev F cl (.cmp .is a (.c .non)) ρ m = .ok (.bl x.isNone) m1 := by
  rw [x_cmp, ha, Res.bind_ok, x_c, Res.bind_ok]
  cases x with
  | none => rfl
  | some y =>
    have := h.nn y
    show (opt (cop .is (e y) .non m1) m1).bind _ = _
    cases hx : e y <;> first | (exact absurd hx this) | rfl
theorem e_isNotN (e : α → D) [h : NEnc e] {x : Option α} (ha : ev F cl a ρ m = .ok (eO e x) m1) : ev F cl (.cmp .isNot a (.c .non)) ρ m = .ok (.bl x.isSome) m1 := by
  rw [x_cmp, ha, Res.bind_ok, x_c, Res.bind_ok]
  cases x with
  | none => rfl
  | some y =>
    have := h.nn y
    show (opt (cop .isNot (e y) .non m1) m1).bind _ = _
    cases hx : e y <;> first | (exact absurd hx this) | rfl
end Ints
section Bools
variable {p q r : Bool}
theorem e_not (ha : ev F cl a ρ m = .ok (.bl p) m1) : ev F cl (.not a) ρ m = .ok (.bl (!p)) m1 := by rw [x_not, ha]; rfl
theorem e_and (ha : ev F cl a ρ m = .ok (.bl p) m1) (hb : p = true → ev F cl b ρ m1 = .ok (.bl q) m1) : ev F cl (.and a b) ρ m = .ok (.bl (p && q)) m1 := by
  rw [x_and, ha, Res.bind_ok, boolOf_bl, Res.bind_ok]
  cases p with
  | true => rw [if_pos rfl, hb rfl]; rfl
  | false => rfl
theorem e_or (ha : ev F cl a ρ m = .ok (.bl p) m1) (hb : p = false → ev F cl b ρ m1 = .ok (.bl q) m1) : ev F cl (.or a b) ρ m = .ok (.bl (p || q)) m1 := by
  rw [x_or, ha, Res.bind_ok, boolOf_bl, Res.bind_ok]
  cases p with
  | true => rfl
  | false => rw [if_neg (by decide), hb rfl]; rfl
/-- two ways, one kind of value; the store behind by the state -/
theorem e_ite {σ : Type} (O : σ → Res D) {x y : σ} (hc : ev F cl c ρ m = .ok (.bl p) m1) (ha : p = true → ev F cl a ρ m1 = O x) (hb : p = false → ev F cl b ρ m1 = O y) : ev F cl (.ite c a b) ρ m = O (if p then x else y) := by
  rw [x_ite, hc, Res.bind_ok, boolOf_bl, Res.bind_ok]
  cases p with
  | true => rw [if_pos rfl, if_pos rfl, ha rfl]
  | false => rw [if_neg (by decide), if_neg (by decide), hb rfl]
theorem e_chain {o1 o2 : COp} (ha : ev F cl a ρ m = .ok d m1) (hb : ev F cl b ρ m1 = .ok d1 m1) (h1 : cop o1 d d1 m1 = some p) (hc : p = true → ev F cl c ρ m1 = .ok d2 m1) (h2 : cop o2 d1 d2 m1 = some q) : ev F cl (.chain o1 o2 a b c) ρ m = .ok (.bl (p && q)) m1 := by
  rw [x_chain, ha, Res.bind_ok, hb, Res.bind_ok, h1, opt_some, Res.bind_ok]
  cases p with
  | true => rw [if_pos rfl, hc rfl, Res.bind_ok, h2]; rfl
  | false => rfl
end Bools
section Seqs
variable {e1 : α → D} {e2 : β → D} {xs ys : List α}
theorem e_addT {k : Bool} (ha : ev F cl a ρ m = .ok (.tup (xs.map e1)) m1) (hb : ev F cl b ρ m1 = .ok (.tup (ys.map e1)) m2) (h : (xs ++ ys).length ≤ 16777216) : ev F cl (.bin .add k a b) ρ m = .ok (.tup ((xs ++ ys).map e1)) m2 := by
  rw [x_bin, ha, Res.bind_ok, hb, Res.bind_ok, b_addT, ← List.map_append, o_tup (by rw [List.length_map]; exact h)]
theorem e_addL (ha : ev F cl a ρ m = .ok (.lst (xs.map e1)) m1) (hb : ev F cl b ρ m1 = .ok (.lst (ys.map e1)) m2) (h : (xs ++ ys).length ≤ 16777216) : ev F cl (.bin .add false a b) ρ m = .ok (.lst ((xs ++ ys).map e1)) m2 := by
  rw [x_bin, ha, Res.bind_ok, hb, Res.bind_ok, b_addL, ← List.map_append, o_lst (by rw [List.length_map]; exact h)]
theorem e_ix {k : Int} {x : α} (ha : ev F cl a ρ m = .ok d m1) (hs : Sq e1 xs d) (hi : ev F cl b ρ m1 = .ok (.int k) m2) (hx : (ixN xs.length k).bind (fun j => xs[j]?) = some x) : ev F cl (.ix a b) ρ m = .ok (e1 x) m2 := by
  rw [x_ix, ha, Res.bind_ok, hi, Res.bind_ok]
  unfold ixD
  simp only [hs.seq, List.length_map]
  cases hj : ixN xs.length k with
  | none => rw [hj] at hx; cases hx
  | some j =>
    rw [hj] at hx
    simp only [Option.bind_some] at hx ⊢
    rw [List.getElem?_map, hx]; rfl
theorem e_ixP0 {x : α × β} (ha : ev F cl a ρ m = .ok (eP e1 e2 x) m1) : ev F cl (.ix a (.c (.int 0))) ρ m = .ok (e1 x.1) m1 := by
  rw [x_ix, ha, Res.bind_ok, x_c, Res.bind_ok]; rfl
theorem e_ixP1 {x : α × β} (ha : ev F cl a ρ m = .ok (eP e1 e2 x) m1) : ev F cl (.ix a (.c (.int 1))) ρ m = .ok (e2 x.2) m1 := by
  rw [x_ix, ha, Res.bind_ok, x_c, Res.bind_ok]; rfl
theorem cut_len (lo hi : Option Int) : (cut xs lo hi).length ≤ xs.length := by
  unfold cut
  exact Nat.le_trans (List.length_take_le' _ _) (by simp)
theorem cut_map (lo hi : Option Int) : cut (xs.map e1) lo hi = (cut xs lo hi).map e1 := by simp [cut]
theorem e_slT {lo hi : Eo} {l h : Option D} {i j : Option Int} {k : Bool} (ha : ev F cl a ρ m = .ok (.tup (xs.map e1)) m1) (hl : evo F cl lo ρ m1 = .ok l m1) (hi' : partD l = some i) (hh : evo F cl hi ρ m1 = .ok h m2) (hj : partD h = some j) (hc : xs.length ≤ 16777216) : ev F cl (.sl k a lo hi) ρ m = .ok (.tup ((cut xs i j).map e1)) m2 := by
  unfold ev
  rw [ha, Res.bind_ok, hl, Res.bind_ok, hi', opt_some, Res.bind_ok, hh, Res.bind_ok, hj, opt_some, Res.bind_ok, sl_tup, cut_map, o_tup (by rw [List.length_map]; exact Nat.le_trans (cut_len i j) hc)]
theorem e_slL {lo hi : Eo} {l h : Option D} {i j : Option Int} (ha : ev F cl a ρ m = .ok (.lst (xs.map e1)) m1) (hl : evo F cl lo ρ m1 = .ok l m1) (hi' : partD l = some i) (hh : evo F cl hi ρ m1 = .ok h m2) (hj : partD h = some j) (hc : xs.length ≤ 16777216) : ev F cl (.sl false a lo hi) ρ m = .ok (.lst ((cut xs i j).map e1)) m2 := by
  unfold ev
  rw [ha, Res.bind_ok, hl, Res.bind_ok, hi', opt_some, Res.bind_ok, hh, Res.bind_ok, hj, opt_some, Res.bind_ok, sl_lst, cut_map, o_lst (by rw [List.length_map]; exact Nat.le_trans (cut_len i j) hc)]
theorem o_no : evo F cl .no ρ m = .ok none m := x_no
theorem o_yes (h : ev F cl a ρ m = .ok d m1) : evo F cl (.yes a) ρ m = .ok (some d) m1 := by rw [x_yes, h]; rfl
-- what is gone through
theorem i_t (h : ev F cl a ρ m = .ok (.tup ds) m1) : evi F cl (.seq a) ρ m = .ok ds m1 := by rw [x_seq, h]; rfl
theorem i_l (h : ev F cl a ρ m = .ok (.lst ds) m1) : evi F cl (.seq a) ρ m = .ok ds m1 := by rw [x_seq, h]; rfl
def rngS (lo hi : Int) : List Int := (List.range (hi - lo).toNat).map fun (i : Nat) => lo + (i : Int)
theorem rngL_S (lo hi : Int) : rngL lo hi = (rngS lo hi).map D.int := by unfold rngL rngS; rw [List.map_map]; rfl
theorem g_rng1 {j : Int} (h : ev F cl a ρ m = .ok (.int j) m1) (hj : -4611686018427387904 ≤ j ∧ j < 4611686018427387904) : evi F cl (.rng (.cons a .nil)) ρ m = .ok ((rngS 0 j).map D.int) m1 := by
  rw [x_rng, es_cons h es_nil, Res.bind_ok, ← rngL_S]
  have hj2 : -(2 ^ 62) ≤ j ∧ j < 2 ^ 62 := hj
  show opt (if -(2 ^ 62) ≤ j ∧ j < 2 ^ 62 then some (rngL 0 j) else none) m1 = _
  rw [if_pos hj2]; rfl
theorem g_rng2 {i j : Int} (hi : ev F cl a ρ m = .ok (.int i) m1) (h : ev F cl b ρ m1 = .ok (.int j) m2) (hj : (-4611686018427387904 ≤ i ∧ i < 4611686018427387904) ∧ (-4611686018427387904 ≤ j ∧ j < 4611686018427387904)) : evi F cl (.rng (.cons a (.cons b .nil))) ρ m = .ok ((rngS i j).map D.int) m2 := by
  rw [x_rng, es_cons hi (es_cons h es_nil), Res.bind_ok, ← rngL_S]
  have hj2 : (-(2 ^ 62) ≤ i ∧ i < 2 ^ 62) ∧ (-(2 ^ 62) ≤ j ∧ j < 2 ^ 62) := hj
  show opt (if (-(2 ^ 62) ≤ i ∧ i < 2 ^ 62) ∧ (-(2 ^ 62) ≤ j ∧ j < 2 ^ 62) then some (rngL i j) else none) m2 = _
  rw [if_pos hj2]; rfl
def enumS : Int → List α → List (Int × α)
  | _, [] => []
  | i, x :: xs => (i, x) :: enumS (i + 1) xs
theorem enumL_S (k : Nat) : ∀ xs : List α, enumL k (xs.map e1) = (enumS (k : Int) xs).map (eP D.int e1)
  | [] => by cases k <;> rfl
  | x :: xs => by
    show D.tup [.int k, e1 x] :: enumL (k + 1) (xs.map e1) = _
    rw [enumL_S (k + 1) xs]; rfl
theorem g_enum (h : ev F cl a ρ m = .ok d m1) (hs : Sq e1 xs d) : evi F cl (.enum a) ρ m = .ok ((enumS 0 xs).map (eP D.int e1)) m1 := by
  rw [x_enum, h, Res.bind_ok]
  cases hs <;> exact congrArg (fun z => Res.ok z m1) (enumL_S 0 xs)
theorem zipL_S : ∀ (xs : List α) (ys : List β), zipL (xs.map e1) (ys.map e2) = (xs.zip ys).map (eP e1 e2)
  | [], _ => by simp [zipL]
  | _ :: _, [] => by simp [zipL]
  | x :: xs, y :: ys => by
    show D.tup [e1 x, e2 y] :: zipL (xs.map e1) (ys.map e2) = _
    rw [zipL_S xs ys]; rfl
theorem i_zipT {ys : List β} (ha : ev F cl a ρ m = .ok (.tup (xs.map e1)) m1) (hb : ev F cl b ρ m1 = .ok (.tup (ys.map e2)) m2) : evi F cl (.zip a b) ρ m = .ok ((xs.zip ys).map (eP e1 e2)) m2 := by
  rw [x_zip, ha, Res.bind_ok, hb, Res.bind_ok]
  exact congrArg (fun z => Res.ok z m2) (zipL_S xs ys)
theorem i_zipL {ys : List β} (ha : ev F cl a ρ m = .ok (.lst (xs.map e1)) m1) (hb : ev F cl b ρ m1 = .ok (.lst (ys.map e2)) m2) : evi F cl (.zip a b) ρ m = .ok ((xs.zip ys).map (eP e1 e2)) m2 := by
  rw [x_zip, ha, Res.bind_ok, hb, Res.bind_ok]
  exact congrArg (fun z => Res.ok z m2) (zipL_S xs ys)
-- targets
theorem b_n {i : Nat} (h : ρ.set i (some d) = ρ1) : bt F cl (.n i) d ρ m = .ok ρ1 m := by rw [x_n, h]
theorem b_t2 {i j : Nat} {p : α × β} (h : (ρ.set i (some (e1 p.1))).set j (some (e2 p.2)) = ρ1) : bt F cl (.t (.cons (.n i) (.cons (.n j) .nil))) (eP e1 e2 p) ρ m = .ok ρ1 m := by
  show bt F cl _ (.tup [e1 p.1, e2 p.2]) ρ m = _
  rw [x_tt, x_tcons, x_n, Res.bind_ok, x_tcons, x_n, Res.bind_ok, x_tnil, h]
-- comprehensions
theorem compL_map' {b1 : D → M → Res Env} {cnd : Env → M → Res Bool} {elt : Env → M → Res D} {r : α → Env} {p : α → Bool} {f : α → β} : ∀ {xs : List α}, (∀ x ∈ xs, b1 (e1 x) m = .ok (r x) m) → (∀ x ∈ xs, cnd (r x) m = .ok (p x) m) → (∀ x ∈ xs, p x = true → elt (r x) m = .ok (e2 (f x)) m) → compL b1 cnd elt (xs.map e1) m = .ok (((xs.filter p).map f).map e2) m
  | [], _, _, _ => rfl
  | d :: ds, h1, h2, h3 => by
    rw [List.map_cons]
    unfold compL
    rw [h1 d (List.mem_cons_self ..), Res.bind_ok, h2 d (List.mem_cons_self ..), Res.bind_ok]
    have ih := compL_map' (fun e he => h1 e (List.mem_cons_of_mem _ he)) (fun e he => h2 e (List.mem_cons_of_mem _ he)) (fun e he => h3 e (List.mem_cons_of_mem _ he))
    cases hp : p d with
    | false => rw [if_neg (by decide), ih]; simp [hp]
    | true =>
      rw [if_pos rfl, h3 d (List.mem_cons_self ..) hp]
      simp only [Res.bind_ok]
      rw [ih]
      simp [hp]
variable {own : List (Str × Nat)} {t : Tg} {it : It} {c2 : E}
theorem e_compN {r : α → Env} {f : α → β} (hi : evi F cl it ρ m = .ok (xs.map e1) m1) (hl : xs.length ≤ 16777216) (hb : ∀ x, bt F cl t (e1 x) (wipe ρ (own.map (·.2))) m1 = .ok (r x) m1) (he : ∀ x, x ∈ xs → ev F cl e (r x) m1 = .ok (e2 (f x)) m1) :
    ev F cl (.comp false own t it .no e) ρ m = .ok (.lst ((xs.map f).map e2)) m1 := by
  have z := compL_map' (e1 := e1) (e2 := e2) (b1 := fun d m => bt F cl t d (wipe ρ (own.map (·.2))) m) (cnd := fun _ m => .ok true m) (elt := fun ρ m => ev F cl e ρ m) (p := fun _ => true) (m := m1) (fun x (_ : x ∈ xs) => hb x) (fun _ _ => rfl) (fun x hx _ => he x hx)
  rw [List.filter_eq_self.mpr (fun _ _ => rfl)] at z
  exact ev_compN hi (by rw [List.length_map]; exact hl) z (by rw [List.length_map, List.length_map]; exact hl)
theorem e_compY {r : α → Env} {f : α → β} {p : α → Bool} (hi : evi F cl it ρ m = .ok (xs.map e1) m1) (hl : xs.length ≤ 16777216) (hb : ∀ x, bt F cl t (e1 x) (wipe ρ (own.map (·.2))) m1 = .ok (r x) m1) (hc : ∀ x, x ∈ xs → ev F cl c2 (r x) m1 = .ok (.bl (p x)) m1) (he : ∀ x, x ∈ xs → p x = true → ev F cl e (r x) m1 = .ok (e2 (f x)) m1) :
    ev F cl (.comp false own t it (.yes c2) e) ρ m = .ok (.lst (((xs.filter p).map f).map e2)) m1 := by
  have z := compL_map' (e1 := e1) (e2 := e2) (b1 := fun d m => bt F cl t d (wipe ρ (own.map (·.2))) m) (cnd := fun ρ m => (ev F cl c2 ρ m).bind boolOf) (elt := fun ρ m => ev F cl e ρ m) (m := m1) (fun x (_ : x ∈ xs) => hb x) (fun x hx => by
    show (ev F cl c2 (r x) m1).bind boolOf = _
    rw [hc x hx]; rfl) (fun x hx hp => he x hx hp)
  exact ev_compY hi (by rw [List.length_map]; exact hl) z (by rw [List.length_map, List.length_map]; exact Nat.le_trans (List.length_filter_le _ _) hl)
/-- the things themselves, sifted -/
theorem e_compF {r : α → Env} {p : α → Bool} (hi : evi F cl it ρ m = .ok (xs.map e1) m1) (hl : xs.length ≤ 16777216) (hb : ∀ x, bt F cl t (e1 x) (wipe ρ (own.map (·.2))) m1 = .ok (r x) m1) (hc : ∀ x, x ∈ xs → ev F cl c2 (r x) m1 = .ok (.bl (p x)) m1) (he : ∀ x, x ∈ xs → p x = true → ev F cl e (r x) m1 = .ok (e1 x) m1) :
    ev F cl (.comp false own t it (.yes c2) e) ρ m = .ok (.lst ((xs.filter p).map e1)) m1 := by
  have := e_compY (f := fun x => x) hi hl hb hc he
  rwa [List.map_id' (xs.filter p)] at this
/-- a comprehension whose list lives in the store -/
theorem ev_compR {ys : List D} {p' : Eo} (h : ev F cl (.comp false own t it p' e) ρ m = .ok (.lst ys) m1) (hp : pureL ys = true) : ev F cl (.comp true own t it p' e) ρ m = .ok (.ref m1.length) (m1 ++ [.lst ys]) := by
  rw [ev] at h ⊢
  cases hi : evi F cl it ρ m with
  | exc x m => simp only [hi, Res.bind_exc] at h; cases h
  | bad => simp only [hi, Res.bind_bad] at h; cases h
  | ok ds m2 =>
    simp only [hi] at h ⊢
    simp only [Res.bind_ok] at h ⊢
    split at h
    · rename_i hl
      rw [if_pos hl]
      generalize (compL _ _ _ ds m2).nox = R at h ⊢
      cases R with
      | exc x m => cases h
      | bad => cases h
      | ok zs m3 =>
        simp only [Res.bind_ok] at h ⊢
        unfold Raw.out at h
        simp only [Bool.false_eq_true, if_false] at h
        split at h
        · rename_i hz
          injection h with h1 h2
          injection h1 with h1
          subst h1 h2
          exact o_lstR hz hp
        · cases h
    · cases h
-- built-ins
theorem e_len {k : Bool} (ha : ev F cl a ρ m = .ok d m1) (hs : Sq e1 xs d) : ev F cl (.prim .len k (.cons a .nil)) ρ m = .ok (.int (xs.length : Int)) m1 := by
  rw [x_prim, es_cons ha es_nil, Res.bind_ok]
  cases hs <;> (simp only [p_len_tup, p_len_lst, List.length_map]; rfl)
theorem e_tupL {k : Bool} (ha : ev F cl a ρ m = .ok (.lst ds) m1) (hc : ds.length ≤ 16777216) : ev F cl (.prim .tuple k (.cons a .nil)) ρ m = .ok (.tup ds) m1 := by
  rw [x_prim, es_cons ha es_nil, Res.bind_ok, p_tup_lst, o_tup hc]
theorem e_tupT {k : Bool} (ha : ev F cl a ρ m = .ok (.tup ds) m1) : ev F cl (.prim .tuple k (.cons a .nil)) ρ m = .ok (.tup ds) m1 := by
  rw [x_prim, es_cons ha es_nil, Res.bind_ok, p_tup_tup]; rfl
theorem e_tupR {k : Bool} {l : Nat} (ha : ev F cl a ρ m = .ok (.ref l) m1) (hl : m1[l]? = some (.lst ds)) (hc : ds.length ≤ 16777216) : ev F cl (.prim .tuple k (.cons a .nil)) ρ m = .ok (.tup ds) m1 := by
  rw [x_prim, es_cons ha es_nil, Res.bind_ok]
  have : prim .tuple [.ref l] m1 = .tup ds := by unfold prim; simp only [items, hl]
  rw [this, o_tup hc]
theorem e_listS {d : D} (ha : ev F cl a ρ m = .ok d m1) (hs : Sq e1 xs d) (hc : xs.length ≤ 16777216) : ev F cl (.prim .list false (.cons a .nil)) ρ m = .ok (.lst (xs.map e1)) m1 := by
  rw [x_prim, es_cons ha es_nil, Res.bind_ok]
  have : prim .list [d] m1 = .lst (xs.map e1) := by unfold prim; simp only [hs.seq]
  rw [this, o_lst (by rw [List.length_map]; exact hc)]
theorem e_all {k : Bool} {bs : List Bool} (ha : ev F cl a ρ m = .ok (.lst (bs.map D.bl)) m1) : ev F cl (.prim .all k (.cons a .nil)) ρ m = .ok (.bl (bs.all id)) m1 := by
  rw [x_prim, es_cons ha es_nil, Res.bind_ok, p_all]; rfl
theorem p_any (bs : List Bool) : prim .any [.lst (bs.map .bl)] m = .val (.bl (bs.any id)) := by simp [prim]
theorem e_any {k : Bool} {bs : List Bool} (ha : ev F cl a ρ m = .ok (.lst (bs.map D.bl)) m1) : ev F cl (.prim .any k (.cons a .nil)) ρ m = .ok (.bl (bs.any id)) m1 := by
  rw [x_prim, es_cons ha es_nil, Res.bind_ok, p_any]; rfl
theorem e_sum {k : Bool} {is : List Int} (ha : ev F cl a ρ m = .ok (.lst (is.map D.int)) m1) : ev F cl (.prim .sum k (.cons a .nil)) ρ m = .ok (.int is.sum) m1 := by
  rw [x_prim, es_cons ha es_nil, Res.bind_ok, p_sum]; rfl
theorem e_max2 {k : Bool} {i j : Int} (ha : ev F cl a ρ m = .ok (.int i) m1) (hb : ev F cl b ρ m1 = .ok (.int j) m2) : ev F cl (.prim .max k (.cons a (.cons b .nil))) ρ m = .ok (.int (if j > i then j else i)) m2 := by
  rw [x_prim, es_cons ha (es_cons hb es_nil), Res.bind_ok, p_max]; rfl
theorem e_min2 {k : Bool} {i j : Int} (ha : ev F cl a ρ m = .ok (.int i) m1) (hb : ev F cl b ρ m1 = .ok (.int j) m2) : ev F cl (.prim .min k (.cons a (.cons b .nil))) ρ m = .ok (.int (if j < i then j else i)) m2 := by
  rw [x_prim, es_cons ha (es_cons hb es_nil), Res.bind_ok, p_min]; rfl
theorem e_abs {k : Bool} {i : Int} (ha : ev F cl a ρ m = .ok (.int i) m1) : ev F cl (.prim .abs k (.cons a .nil)) ρ m = .ok (.int (if i < 0 then -i else i)) m1 := by
  rw [x_prim, es_cons ha es_nil, Res.bind_ok, p_abs]; rfl
theorem e_intB {k : Bool} {q : Bool} (ha : ev F cl a ρ m = .ok (.bl q) m1) : ev F cl (.prim .int k (.cons a .nil)) ρ m = .ok (.int (if q then 1 else 0)) m1 := by
  rw [x_prim, es_cons ha es_nil, Res.bind_ok]; rfl
theorem e_divmod {k : Bool} {i j : Int} (ha : ev F cl a ρ m = .ok (.int i) m1) (hb : ev F cl b ρ m1 = .ok (.int j) m2) (h : 0 < j ∧ j < 1073741824) : ev F cl (.prim .divmod k (.cons a (.cons b .nil))) ρ m = .ok (eP D.int D.int (i / j, i % j)) m2 := by
  rw [x_prim, es_cons ha (es_cons hb es_nil), Res.bind_ok, p_divmod, if_pos h]
  exact o_tup (show 2 ≤ cap by decide)
theorem e_sorted {ls : List (List Int)} (ha : ev F cl a ρ m = .ok (.lst (ls.map lotD)) m1) (hc : ls.length ≤ 16777216) : ev F cl (.prim .sorted false (.cons a .nil)) ρ m = .ok (.lst ((sortLots ls).map lotD)) m1 := by
  rw [x_prim, es_cons ha es_nil, Res.bind_ok, p_sorted, o_lst (by rw [List.length_map, sortLots_len]; exact hc)]
theorem e_sortedR {ls : List (List Int)} {l : Nat} (ha : ev F cl a ρ m = .ok (.ref l) m1) (hl : m1[l]? = some (.lst (ls.map lotD))) (hc : ls.length ≤ 16777216) : ev F cl (.prim .sorted false (.cons a .nil)) ρ m = .ok (.lst ((sortLots ls).map lotD)) m1 := by
  rw [x_prim, es_cons ha es_nil, Res.bind_ok]
  have : prim .sorted [.ref l] m1 = .lst ((sortLots ls).map lotD) := by unfold prim; simp only [items, hl, Option.bind_some, lots_map]
  rw [this, o_lst (by rw [List.length_map, sortLots_len]; exact hc)]
theorem e_sset {ls : List (List Int)} (ha : ev F cl a ρ m = .ok (.lst (ls.map lotD)) m1) (hc : ls.length < 64) : ev F cl (.sset false a) ρ m = .ok (.lst ((sortLots (dedup ls)).map lotD)) m1 := x_sset_lots ha hc
theorem e_call {x : Str} (hs : evs F cl es ρ m = .ok ds m1) (hc : F.call x ds m1 = .ok d m2) : ev F cl (.call x es) ρ m = .ok d m2 := by
  rw [x_call, hs, Res.bind_ok, hc]
theorem e_callK {x : Str} {ks : List Str} {vs : Es} {ws as : List D} (hs : evs F cl es ρ m = .ok ds m1) (hv : evs F cl vs ρ m1 = .ok ws m2) (hb : (F.ps x).bind (fun ps => bindP ps ds (ks.zip ws)) = some as) (hc : F.call x as m2 = .ok d m3) : ev F cl (.callK x es ks vs) ρ m = .ok d m3 := by
  rw [x_callK, hs, Res.bind_ok, hv, Res.bind_ok, hb, opt_some, Res.bind_ok, hc]
end Seqs
-- statements
theorem st_set {i : Nat} {e : E} (he : ev F cl e ρ m = .ok d m1) (h : ρ.set i (some d) = ρ1) : exS F cl (.set (.n i) e) ρ m = .nx ρ1 m1 := by
  rw [y_set, he, of_ok, x_n, Res.nox_ok, of_ok, h]
theorem st_set2 {e1 : α → D} {e2 : β → D} {i j : Nat} {e : E} {p : α × β} (he : ev F cl e ρ m = .ok (eP e1 e2 p) m1) (h : (ρ.set i (some (e1 p.1))).set j (some (e2 p.2)) = ρ1) : exS F cl (.set (.t (.cons (.n i) (.cons (.n j) .nil))) e) ρ m = .nx ρ1 m1 := by
  rw [y_set, he, of_ok, b_t2 (e1 := e1) (e2 := e2) h, Res.nox_ok, of_ok]
theorem st_par {ts : List Nat} (he : evs F cl es ρ m = .ok ds m1) (h : setMany ρ ts ds = some ρ1) : exS F cl (.par ts es) ρ m = .nx ρ1 m1 := by
  rw [y_par, he, of_ok, h]
theorem st_ex {e : E} (he : ev F cl e ρ m = .ok d m1) : exS F cl (.ex e) ρ m = .nx ρ m1 := by
  rw [y_ex, he, of_ok]
theorem st_append {l e : E} {k : Nat} {xs : List D} (hl : ev F cl l ρ m = .ok (.ref k) m) (he : ev F cl e ρ m = .ok d m1) (hx : m1[k]? = some (.lst xs)) (hp : d.pure = true) (hc : xs.length < 16777216) (hm : m1.set k (.lst (xs ++ [d])) = m2) : exS F cl (.append l e) ρ m = .nx ρ m2 := by
  rw [exS, hl, of_ok]
  simp only [he, of_ok, hx, hp, Bool.true_and, decide_eq_true_eq]
  rw [if_pos hc, hm]
/-- two ways that both go on -/
theorem st_ite {σ : Type} (O : σ → ResS) {x y : σ} {c : E} {a b : Ss} {k : Bool} (hc : ev F cl c ρ m = .ok (.bl k) m1) (ha : k = true → exSs F cl a ρ m1 = O x) (hb : k = false → exSs F cl b ρ m1 = O y) : exS F cl (.ite c a b) ρ m = O (if k then x else y) := by
  rw [y_ite, hc, Res.bind_ok, boolOf_bl, of_ok]
  cases k with
  | true => rw [if_pos rfl, if_pos rfl, ha rfl]
  | false => rw [if_neg (by decide), if_neg (by decide), hb rfl]
theorem ss_nil : exSs F cl .nil ρ m = .nx ρ m := y_nil
theorem ss_nx {s : S} {r : Ss} {o : ResS} (hs : exS F cl s ρ m = .nx ρ1 m1) (hr : exSs F cl r ρ1 m1 = o) : exSs F cl (.cons s r) ρ m = o := by
  rw [y_cons, hs, seq_nx, hr]
theorem ss_ret {e : E} {r : Ss} (he : ev F cl e ρ m = .ok d m1) : exSs F cl (.cons (.ret e) r) ρ m = .ret d m1 := by
  rw [y_cons, y_ret, he]; rfl
theorem ss_retN {r : Ss} : exSs F cl (.cons .retN r) ρ m = .ret .non m := by
  rw [y_cons, exS]; rfl
/-- a loop that goes on to its end -/
theorem forL_fold {σ J : Type} {e1 : α → D} (G : σ → J → Env) (Gm : σ → M) (step : σ → α → σ) (Inv : Nat → σ → Prop) {b1 : D → Env → M → Res Env} {body : Env → M → ResS} : ∀ (xs : List α) (i : Nat) (s : σ) (j : J), (∀ k s j x, i ≤ k → xs[k - i]? = some x → x ∈ xs → Inv k s → ∃ ρ1 j', b1 (e1 x) (G s j) (Gm s) = .ok ρ1 (Gm s) ∧ body ρ1 (Gm s) = .nx (G (step s x) j') (Gm (step s x)) ∧ Inv (k + 1) (step s x)) → Inv i s →
    (∃ j', forL b1 body (xs.map e1) (G s j) (Gm s) = .nx (G (xs.foldl step s) j') (Gm (xs.foldl step s))) ∧ Inv (i + xs.length) (xs.foldl step s)
  | [], i, s, j, _, h => ⟨⟨j, rfl⟩, h⟩
  | x :: xs, i, s, j, hs, h => by
    obtain ⟨ρ1, j', h1, h2, h3⟩ := hs i s j x (Nat.le_refl _) (by simp) (List.mem_cons_self ..) h
    obtain ⟨⟨j2, e2⟩, h4⟩ := forL_fold G Gm step Inv xs (i + 1) (step s x) j' (fun k s j y hk hy' hy => hs k s j y (by omega) (by rw [show k - i = (k - (i + 1)) + 1 by omega]; simpa using hy') (List.mem_cons_of_mem _ hy)) h3
    refine ⟨⟨j2, ?_⟩, by rw [List.length_cons, show i + (xs.length + 1) = i + 1 + xs.length by omega]; exact h4⟩
    rw [List.map_cons]
    unfold forL
    rw [h1]
    simp only [Res.nox_ok, ResS.of]
    rw [h2]
    exact e2
theorem st_for {σ J : Type} {e1 : α → D} (G : σ → J → Env) (Gm : σ → M) (step : σ → α → σ) (Inv : Nat → σ → Prop) {t : Tg} {it : It} {b : Ss} {xs : List α} {s : σ} {j : J} (hi : evi F cl it ρ m = .ok (xs.map e1) (Gm s)) (hρ : ρ = G s j)
    (hs : ∀ i s j x, xs[i]? = some x → x ∈ xs → Inv i s → ∃ ρ1 j', bt F cl t (e1 x) (G s j) (Gm s) = .ok ρ1 (Gm s) ∧ exSs F cl b ρ1 (Gm s) = .nx (G (step s x) j') (Gm (step s x)) ∧ Inv (i + 1) (step s x)) (h0 : Inv 0 s) :
    (∃ j', exS F cl (.for_ t it b) ρ m = .nx (G (xs.foldl step s) j') (Gm (xs.foldl step s))) ∧ Inv xs.length (xs.foldl step s) := by
  subst hρ
  obtain ⟨⟨j', e⟩, h⟩ := forL_fold G Gm step Inv (b1 := fun d ρ m => bt F cl t d ρ m) (body := fun ρ m => exSs F cl b ρ m) xs 0 s j (fun k s j x _ hx' hx hI => hs k s j x (by simpa using hx') hx hI) h0
  exact ⟨⟨j', y_forE hi e⟩, by rw [Nat.zero_add] at h; exact h⟩
/-- a loop that may hand back -/
def loopE {σ α β : Type} (step : σ → α → σ ⊕ β) : List α → σ → σ ⊕ β
  | [], s => .inl s
  | x :: xs, s => match step s x with
    | .inl s' => loopE step xs s'
    | .inr b => .inr b
theorem forL_ret {σ J δ : Type} {e1 : α → D} (G : σ → J → Env) (Gm : σ → M) (step : σ → α → σ ⊕ δ) (Inv : Nat → σ → Prop) (Rt : δ → ResS → Prop) {b1 : D → Env → M → Res Env} {body : Env → M → ResS} (hR : ∀ δ R, Rt δ R → ∃ d m, R = .ret d m) : ∀ (xs : List α) (i : Nat) (s : σ) (j : J), (∀ k s j x, i ≤ k → xs[k - i]? = some x → x ∈ xs → Inv k s → ∃ ρ1, b1 (e1 x) (G s j) (Gm s) = .ok ρ1 (Gm s) ∧ match step s x with
      | .inl s' => (∃ j', body ρ1 (Gm s) = .nx (G s' j') (Gm s')) ∧ Inv (k + 1) s'
      | .inr b => Rt b (body ρ1 (Gm s))) → Inv i s →
    match loopE step xs s with
      | .inl s' => (∃ j', forL b1 body (xs.map e1) (G s j) (Gm s) = .nx (G s' j') (Gm s')) ∧ Inv (i + xs.length) s'
      | .inr b => Rt b (forL b1 body (xs.map e1) (G s j) (Gm s))
  | [], i, s, j, _, h => ⟨⟨j, rfl⟩, h⟩
  | x :: xs, i, s, j, hs, h => by
    obtain ⟨ρ1, h1, h2⟩ := hs i s j x (Nat.le_refl _) (by simp) (List.mem_cons_self ..) h
    rw [List.map_cons]
    unfold loopE forL
    rw [h1]
    simp only [Res.nox_ok, ResS.of]
    cases hst : step s x with
    | inl s' =>
      rw [hst] at h2
      obtain ⟨⟨j', h2⟩, h3⟩ := h2
      rw [h2]
      have := forL_ret G Gm step Inv Rt hR xs (i + 1) s' j' (fun k s j y hk hy' hy => hs k s j y (by omega) (by rw [show k - i = (k - (i + 1)) + 1 by omega]; simpa using hy') (List.mem_cons_of_mem _ hy)) h3
      rw [List.length_cons, show i + (xs.length + 1) = i + 1 + xs.length by omega]
      exact this
    | inr b =>
      rw [hst] at h2
      obtain ⟨d, m', e⟩ := hR _ _ h2
      rw [e] at h2 ⊢
      exact h2
/-- a body's word: it hands back (b) and is done so -/
def J (b z : Bool) (n : Nat) (R : ResS) (o : Res D) : Prop := finish z n R = o ∧ (b = true → ∃ d m, R = .ret d m)
theorem J.fin {b z : Bool} {R : ResS} {o : Res D} (h : J b z n R o) : finish z n R = o := h.1
theorem fin_enc {z : Bool} {e : α → D} [he : PEnc e] {x : α} {m0 : M} (h : m1.take n = m0) : finish z n (.ret (e x) m1) = .ok (e x) m0 := by
  have hp := he.pure x
  unfold finish close
  simp only
  cases hx : e x with
  | ref l => rw [hx] at hp; simp at hp
  | _ => cases z <;> (simp only [Bool.false_eq_true, if_false, if_true]; rw [hx] at hp; simp only [hp, if_true, h])
/-- a list made here is given away -/
theorem fin_frz {l : Nat} {xs : List D} {m0 : M} (hl : n ≤ l) (hx : m1[l]? = some (.lst xs)) (hp : pureL xs = true) (h : m1.take n = m0) : finish true n (.ret (.ref l) m1) = .ok (.lst xs) m0 := by
  unfold finish close
  simp only [if_true, hl, hx, pure_lst, hp, h]
theorem j_ret {b z : Bool} {e : E} {r : Ss} {o : Res D} (he : ev F cl e ρ m = .ok d m1) (hf : finish z n (.ret d m1) = o) : J b z n (exSs F cl (.cons (.ret e) r) ρ m) o := by
  rw [ss_ret he]; exact ⟨hf, fun _ => ⟨_, _, rfl⟩⟩
theorem j_retN {b z : Bool} {r : Ss} {m0 : M} (h : m.take n = m0) : J b z n (exSs F cl (.cons .retN r) ρ m) (.ok .non m0) := by
  rw [ss_retN]; exact ⟨fin_enc (e := eN) (x := ()) h, fun _ => ⟨_, _, rfl⟩⟩
theorem j_end {z : Bool} {m0 : M} (h : m.take n = m0) : J false z n (exSs F cl .nil ρ m) (.ok .non m0) := by
  rw [ss_nil]
  refine ⟨?_, fun h => by cases h⟩
  have := fin_enc (e := eN) (x := ()) (z := z) (n := n) (m1 := m) h
  exact this
theorem j_nx {b z : Bool} {s : S} {r : Ss} {o : Res D} (hs : exS F cl s ρ m = .nx ρ1 m1) (hr : J b z n (exSs F cl r ρ1 m1) o) : J b z n (exSs F cl (.cons s r) ρ m) o := by
  rw [y_cons, hs, seq_nx]; exact hr
theorem j_ex {b z : Bool} {τ : Type} {Q : τ → Env × M} {s : S} {r : Ss} {o : Res D} (hs : ∃ j, exS F cl s ρ m = .nx (Q j).1 (Q j).2) (hr : ∀ j, J b z n (exSs F cl r (Q j).1 (Q j).2) o) : J b z n (exSs F cl (.cons s r) ρ m) o := by
  obtain ⟨j, hs⟩ := hs
  exact j_nx hs (hr j)
/-- if c: .. return; then the rest -/
theorem j_ite {b z : Bool} {σ : Type} (O : σ → Res D) {x y : σ} {c : E} {a : Ss} {r : Ss} {k : Bool} (hc : ev F cl c ρ m = .ok (.bl k) m1) (ha : k = true → J true z n (exSs F cl a ρ m1) (O x)) (hb : k = false → J b z n (exSs F cl r ρ m1) (O y)) : J b z n (exSs F cl (.cons (.ite c a .nil) r) ρ m) (O (if k then x else y)) := by
  rw [y_cons, y_ite, hc, Res.bind_ok, boolOf_bl, of_ok]
  cases k with
  | true =>
    rw [if_pos rfl, if_pos rfl]
    obtain ⟨h1, h2⟩ := ha rfl
    obtain ⟨d, m', e⟩ := h2 rfl
    rw [e] at h1 ⊢
    exact ⟨h1, fun _ => ⟨_, _, rfl⟩⟩
  | false =>
    rw [if_neg (by decide), if_neg (by decide), ss_nil, seq_nx]
    exact hb rfl
/-- both ways hand back -/
theorem j_ite2 {b z : Bool} {σ : Type} (O : σ → Res D) {x y : σ} {c : E} {a1 a2 : Ss} {r : Ss} {k : Bool} (hc : ev F cl c ρ m = .ok (.bl k) m1) (ha : k = true → J true z n (exSs F cl a1 ρ m1) (O x)) (hb : k = false → J true z n (exSs F cl a2 ρ m1) (O y)) : J b z n (exSs F cl (.cons (.ite c a1 a2) r) ρ m) (O (if k then x else y)) := by
  rw [y_cons, y_ite, hc, Res.bind_ok, boolOf_bl, of_ok]
  cases k with
  | true =>
    rw [if_pos rfl, if_pos rfl]
    obtain ⟨h1, h2⟩ := ha rfl
    obtain ⟨d, m', e⟩ := h2 rfl
    rw [e] at h1 ⊢
    exact ⟨h1, fun _ => ⟨_, _, rfl⟩⟩
  | false =>
    rw [if_neg (by decide), if_neg (by decide)]
    obtain ⟨h1, h2⟩ := hb rfl
    obtain ⟨d, m', e⟩ := h2 rfl
    rw [e] at h1 ⊢
    exact ⟨h1, fun _ => ⟨_, _, rfl⟩⟩
end
end PM
namespace PM
open PySem (Str)
section
variable {F : Fns} {cl : Option (Nat × Clo)} {ρ ρ1 ρ2 : Env} {m m1 m2 m3 : M} {n : Nat}
/-- a turn of a loop: it goes on, or hands back -/
def LB {σ τ δ : Type} (G : σ → τ → Env) (Gm : σ → M) (Inv : σ → Prop) (z : Bool) (n : Nat) (O : δ → Res D) : σ ⊕ δ → ResS → Prop
  | .inl s, R => (∃ j, R = .nx (G s j) (Gm s)) ∧ Inv s
  | .inr b, R => J true z n R (O b)
section
variable {σ τ δ : Type} {G : σ → τ → Env} {Gm : σ → M} {Inv : σ → Prop} {z : Bool} {O : δ → Res D}
theorem lb_nx {o : σ ⊕ δ} {s : S} {r : Ss} (hs : exS F cl s ρ m = .nx ρ1 m1) (hr : LB G Gm Inv z n O o (exSs F cl r ρ1 m1)) : LB G Gm Inv z n O o (exSs F cl (.cons s r) ρ m) := by
  rw [y_cons, hs, seq_nx]; exact hr
theorem lb_nil {s : σ} (j : τ) (hρ : ρ = G s j) (hm : m = Gm s) (h : Inv s) : LB G Gm Inv z n O (.inl s) (exSs F cl .nil ρ m) := by
  rw [ss_nil]; subst hρ hm; exact ⟨⟨j, rfl⟩, h⟩
theorem lb_ret {b : δ} {R : ResS} (h : J true z n R (O b)) : LB G Gm Inv z n O (.inr b) R := h
theorem lb_ite {x : δ} {y : σ ⊕ δ} {c : E} {a r : Ss} {k : Bool} (hc : ev F cl c ρ m = .ok (.bl k) m1) (ha : k = true → J true z n (exSs F cl a ρ m1) (O x)) (hb : k = false → LB G Gm Inv z n O y (exSs F cl r ρ m1)) : LB G Gm Inv z n O (if k then .inr x else y) (exSs F cl (.cons (.ite c a .nil) r) ρ m) := by
  rw [y_cons, y_ite, hc, Res.bind_ok, boolOf_bl, of_ok]
  cases k with
  | true =>
    rw [if_pos rfl, if_pos rfl]
    obtain ⟨h1, h2⟩ := ha rfl
    obtain ⟨d, m', e⟩ := h2 rfl
    rw [e] at h1 ⊢
    exact ⟨h1, fun _ => ⟨_, _, rfl⟩⟩
  | false =>
    rw [if_neg (by decide), if_neg (by decide), ss_nil, seq_nx]
    exact hb rfl
end
def outE {σ δ : Type} (k : σ → δ) : σ ⊕ δ → δ
  | .inl s => k s
  | .inr b => b
theorem j_for {α σ τ δ : Type} {e1 : α → D} (G : σ → τ → Env) (Gm : σ → M) (step : σ → α → σ ⊕ δ) (Inv : Nat → σ → Prop) (O : δ → Res D) {b z : Bool} {t : Tg} {it : It} {bd r : Ss} {xs : List α} {s : σ} (j : τ) {k : σ → δ} (hi : evi F cl it ρ m = .ok (xs.map e1) (Gm s)) (hρ : ρ = G s j)
    (hs : ∀ i s j x, xs[i]? = some x → x ∈ xs → Inv i s → ∃ ρ1, bt F cl t (e1 x) (G s j) (Gm s) = .ok ρ1 (Gm s) ∧ LB G Gm (Inv (i + 1)) z n O (step s x) (exSs F cl bd ρ1 (Gm s))) (h0 : Inv 0 s)
    (hk : ∀ s' j', loopE step xs s = .inl s' → Inv xs.length s' → J b z n (exSs F cl r (G s' j') (Gm s')) (O (k s'))) :
    J b z n (exSs F cl (.cons (.for_ t it bd) r) ρ m) (O (outE k (loopE step xs s))) := by
  subst hρ
  have h := forL_ret (e1 := e1) G Gm step Inv (fun b R => J true z n R (O b)) (b1 := fun d ρ m => bt F cl t d ρ m) (body := fun ρ m => exSs F cl bd ρ m) (fun δ R h => h.2 rfl) xs 0 s j (fun i s j x _ hx' hx hI => by
    obtain ⟨ρ1, h1, h2⟩ := hs i s j x (by simpa using hx') hx hI
    refine ⟨ρ1, h1, ?_⟩
    cases hst : step s x with
    | inl s' => rw [hst] at h2; exact h2
    | inr b => rw [hst] at h2; exact h2) h0
  cases hl : loopE step xs s with
  | inl s' =>
    rw [hl] at h
    obtain ⟨⟨j', e⟩, h3⟩ := h
    rw [Nat.zero_add] at h3
    rw [y_cons, y_forE hi e, seq_nx]
    exact hk s' j' hl h3
  | inr b' =>
    rw [hl] at h
    obtain ⟨h1, h2⟩ := h
    obtain ⟨d, m', e⟩ := h2 rfl
    rw [y_cons, y_for, hi, of_ok]
    have e' : forL (fun d ρ m => bt F cl t d ρ m) (fun ρ m => exSs F cl bd ρ m) (xs.map e1) (G s j) (Gm s) = .ret d m' := e
    rw [e', seq_ret]
    have h1' : finish z n (forL (fun d ρ m => bt F cl t d ρ m) (fun ρ m => exSs F cl bd ρ m) (xs.map e1) (G s j) (Gm s)) = O b' := h1
    rw [e'] at h1'
    exact ⟨h1', fun _ => ⟨_, _, rfl⟩⟩
/-- a loop without a state that hands back: the first item that does -/
theorem loopE_find {α β : Type} {step : Unit → α → Unit ⊕ β} {p : α → Bool} {f : α → β} : ∀ {xs : List α}, (∀ x ∈ xs, step () x = if p x then .inr (f x) else .inl ()) → loopE step xs () = match xs.find? p with
    | some x => .inr (f x)
    | none => .inl ()
  | [], _ => rfl
  | x :: xs, h => by
    unfold loopE
    rw [h x (List.mem_cons_self ..)]
    cases hp : p x with
    | true => simp [hp]
    | false =>
      simp only [Bool.false_eq_true, if_false, List.find?_cons, hp]
      exact loopE_find fun y hy => h y (List.mem_cons_of_mem _ hy)
/-- lengths -/
theorem len_map {α β : Type} {f : α → β} {xs : List α} {k : Nat} (h : xs.length ≤ k) : (xs.map f).length ≤ k := by rw [List.length_map]; exact h
theorem len_filter {α : Type} {p : α → Bool} {xs : List α} {k : Nat} (h : xs.length ≤ k) : (xs.filter p).length ≤ k := Nat.le_trans (List.length_filter_le _ _) h
theorem len_sort {xs : List (List Int)} {k : Nat} (h : xs.length ≤ k) : (sortLots xs).length ≤ k := by rw [sortLots_len]; exact h
theorem len_dedup {xs : List (List Int)} {k : Nat} (h : xs.length ≤ k) : (dedup xs).length ≤ k := Nat.le_trans (dedup_len _) h
theorem len_cut {α : Type} {xs : List α} {lo hi : Option Int} {k : Nat} (h : xs.length ≤ k) : (cut xs lo hi).length ≤ k := Nat.le_trans (cut_len _ _) h
theorem len_zip {α β : Type} {xs : List α} {ys : List β} {k : Nat} (h : xs.length ≤ k) : (xs.zip ys).length ≤ k := by rw [List.length_zip]; omega
theorem enumS_len {α : Type} : ∀ (i : Int) (xs : List α), (enumS i xs).length = xs.length
  | _, [] => rfl
  | i, x :: xs => by show (enumS (i + 1) xs).length + 1 = _; rw [enumS_len]; rfl
theorem len_enum {α : Type} {xs : List α} {i : Int} {k : Nat} (h : xs.length ≤ k) : (enumS i xs).length ≤ k := by rw [enumS_len]; exact h
theorem rngS_len (i j : Int) : (rngS i j).length = (j - i).toNat := by simp [rngS]
theorem len_rng {i j : Int} {k : Nat} (h : j - i ≤ k) : (rngS i j).length ≤ k := by rw [rngS_len]; omega
theorem mem_rngS {i j x : Int} : x ∈ rngS i j ↔ i ≤ x ∧ x < j := by
  unfold rngS
  rw [List.mem_map]
  constructor
  · rintro ⟨k, hk, rfl⟩
    rw [List.mem_range] at hk
    omega
  · intro h
    exact ⟨(x - i).toNat, by rw [List.mem_range]; omega, by omega⟩
end
end PM
namespace PM
open PySem (Str)
/-- an item by its place -/
def ixS {α : Type} [Inhabited α] (xs : List α) (k : Int) : α := ((ixN xs.length k).bind fun j => xs[j]?).getD default
theorem ixS_ok {α : Type} [Inhabited α] {xs : List α} {k : Int} (h : -(xs.length : Int) ≤ k ∧ k < xs.length) : (ixN xs.length k).bind (fun j => xs[j]?) = some (ixS xs k) := by
  have : ∃ x, (ixN xs.length k).bind (fun j => xs[j]?) = some x := by
    unfold ixN
    by_cases h0 : 0 ≤ k
    · rw [if_pos h0, if_pos h.2]
      exact ⟨xs[k.toNat]'(by omega), by simp⟩
    · rw [if_neg h0, if_pos h.1]
      exact ⟨xs[(k + xs.length).toNat]'(by omega), by simp⟩
  obtain ⟨x, hx⟩ := this
  unfold ixS
  rw [hx]; rfl
theorem ixS_nat {α : Type} [Inhabited α] {xs : List α} {k : Nat} (h : k < xs.length) : ixS xs (k : Int) = xs[k] := by
  unfold ixS ixN
  rw [if_pos (by omega), if_pos (by omega)]
  simp [h]
theorem ixS_mem {α : Type} [Inhabited α] {xs : List α} {k : Int} (h : 0 ≤ k ∧ k < xs.length) : ixS xs k ∈ xs := by
  have e : k = ((k.toNat : Nat) : Int) := by omega
  have hk : k.toNat < xs.length := by omega
  rw [e, ixS_nat hk]
  exact List.getElem_mem hk
theorem fns_ps' (P : List Def) (N : Nat) (x : Str) : (fns P N).ps x = (find P x).map (·.ps) := by cases N <;> rfl
/-- a pool of draws: its three numbers; the store with it -/
abbrev Pool := Int × Int × Int
def pc (p : Pool) : Cell := .lst [.int p.1, .int p.2.1, .int p.2.2]
def mp (m : M) (l : Nat) (p : Pool) : M := m.set l (pc p)
theorem mp_len (m : M) (l : Nat) (p : Pool) : (mp m l p).length = m.length := by simp [mp]
theorem mp_at {m : M} {l : Nat} {p : Pool} (h : l < m.length) : (mp m l p)[l]? = some (pc p) := by simp [mp, h]
theorem mp_take {m : M} {l : Nat} {p q : Pool} : (mp m l p).take (mp m l q).length = mp m l p := by rw [mp_len, ← mp_len m l p, List.take_length]
theorem mp_mp {m : M} {l : Nat} {p q : Pool} : mp (mp m l p) l q = mp m l q := by simp [mp]
theorem mp_app {m ms : M} {l : Nat} {p : Pool} (h : l < m.length) : mp (m ++ ms) l p = mp m l p ++ ms := by
  unfold mp; rw [List.set_append_left _ _ h]
theorem app_get {m : M} {x : Cell} : (m ++ [x])[m.length]? = some x := by simp
theorem app_get' {m : M} {x : Cell} {n : Nat} (h : m.length = n) : (m ++ [x])[n]? = some x := by subst h; simp
theorem app_set {m : M} {x y : Cell} : (m ++ [x]).set m.length y = m ++ [y] := by simp
theorem app_set' {m : M} {x y : Cell} {n : Nat} (h : m.length = n) : (m ++ [x]).set n y = m ++ [y] := by subst h; simp
theorem app_take {m ms : M} : (m ++ ms).take m.length = m := by simp
theorem app_take' {m ms : M} {n : Nat} (h : m.length = n) : (m ++ ms).take n = m := by subst h; simp
section
variable {F : Fns} {cl : Option (Nat × Clo)} {ρ ρ1 ρ2 : Env} {m m1 m2 m3 : M} {n : Nat} {a b c e : E} {es : Es} {d d1 d2 : D} {ds : List D} {α β γ : Type}
theorem as_ (d : D) (h : ev F cl e ρ m = .ok d m1) : ev F cl e ρ m = .ok d m1 := h
theorem e_intI {k : Bool} {i : Int} (ha : ev F cl a ρ m = .ok (.int i) m1) : ev F cl (.prim .int k (.cons a .nil)) ρ m = .ok (.int i) m1 := by
  rw [x_prim, es_cons ha es_nil, Res.bind_ok]; rfl
theorem e_ixQ0 {e1 : α → D} {e2 : β → D} {e3 : γ → D} {x : α × β × γ} (ha : ev F cl a ρ m = .ok (eP3 e1 e2 e3 x) m1) : ev F cl (.ix a (.c (.int 0))) ρ m = .ok (e1 x.1) m1 := by
  rw [x_ix, ha, Res.bind_ok, x_c, Res.bind_ok]; rfl
theorem e_ixQ1 {e1 : α → D} {e2 : β → D} {e3 : γ → D} {x : α × β × γ} (ha : ev F cl a ρ m = .ok (eP3 e1 e2 e3 x) m1) : ev F cl (.ix a (.c (.int 1))) ρ m = .ok (e2 x.2.1) m1 := by
  rw [x_ix, ha, Res.bind_ok, x_c, Res.bind_ok]; rfl
theorem e_ixQ2 {e1 : α → D} {e2 : β → D} {e3 : γ → D} {x : α × β × γ} (ha : ev F cl a ρ m = .ok (eP3 e1 e2 e3 x) m1) : ev F cl (.ix a (.c (.int 2))) ρ m = .ok (e3 x.2.2) m1 := by
  rw [x_ix, ha, Res.bind_ok, x_c, Res.bind_ok]; rfl
/-- a comprehension that draws -/
def mapS {α β : Type} (f : α → Pool → β × Pool) : List α → Pool → List β × Pool
  | [], p => ([], p)
  | x :: xs, p => ((f x p).1 :: (mapS f xs (f x p).2).1, (mapS f xs (f x p).2).2)
theorem mapS_len {α β : Type} (f : α → Pool → β × Pool) : ∀ (xs : List α) (p : Pool), (mapS f xs p).1.length = xs.length
  | [], _ => rfl
  | x :: xs, p => by show (mapS f xs (f x p).2).1.length + 1 = _; rw [mapS_len]; rfl
theorem mapS_mem {α β : Type} {f : α → Pool → β × Pool} {Q : β → Prop} : ∀ {xs : List α} {p : Pool}, (∀ x ∈ xs, ∀ p, Q (f x p).1) → ∀ y ∈ (mapS f xs p).1, Q y
  | [], _, _, y, hy => by cases hy
  | x :: xs, p, h, y, hy => by
    rcases List.mem_cons.mp hy with e | hy
    · rw [e]; exact h x (List.mem_cons_self ..) p
    · exact mapS_mem (fun z hz => h z (List.mem_cons_of_mem _ hz)) y hy
theorem e_compS {e1 : α → D} {e2 : β → D} {xs : List α} {own : List (Str × Nat)} {t : Tg} {it : It} {r : α → Env} {f : α → Pool → β × Pool} {p : Pool} (Gm : Pool → M) (hi : evi F cl it ρ m = .ok (xs.map e1) (Gm p)) (hl : xs.length ≤ 16777216) (hb : ∀ x m1, bt F cl t (e1 x) (wipe ρ (own.map (·.2))) m1 = .ok (r x) m1) (he : ∀ x p, x ∈ xs → ev F cl e (r x) (Gm p) = .ok (e2 (f x p).1) (Gm (f x p).2)) :
    ev F cl (.comp false own t it .no e) ρ m = .ok (.lst ((mapS f xs p).1.map e2)) (Gm (mapS f xs p).2) := by
  have key : ∀ (ys : List α) (p : Pool), (∀ y ∈ ys, y ∈ xs) → compL (fun d m => bt F cl t d (wipe ρ (own.map (·.2))) m) (fun _ m => .ok true m) (fun ρ m => ev F cl e ρ m) (ys.map e1) (Gm p) = .ok ((mapS f ys p).1.map e2) (Gm (mapS f ys p).2) := by
    intro ys
    induction ys with
    | nil => intro p _; rfl
    | cons y ys ih =>
      intro p hs
      rw [List.map_cons]
      unfold compL
      rw [hb, Res.bind_ok, Res.bind_ok, if_pos rfl, he y p (hs y (List.mem_cons_self ..)), Res.bind_ok, ih _ (fun z hz => hs z (List.mem_cons_of_mem _ hz)), Res.bind_ok]
      rfl
  exact ev_compN hi (by rw [List.length_map]; exact hl) (key xs p fun _ h => h) (by rw [List.length_map, mapS_len]; exact hl)
end
/-! what can be shown -/
inductive Fit : Nat → Nat → D → Prop
  | non : Fit 0 4 .non
  | bl (b : Bool) : Fit 0 5 (.bl b)
  | int {i : Int} (h : i.natAbs < 1000000) : Fit 0 8 (.int i)
  | tup {k n c : Nat} {xs : List D} (h : ∀ x ∈ xs, Fit k n x) (hc : xs.length ≤ c) : Fit (k + 1) (3 + c * (n + 2)) (.tup xs)
  | lst {k n c : Nat} {xs : List D} (h : ∀ x ∈ xs, Fit k n x) (hc : xs.length ≤ c) : Fit (k + 1) (3 + c * (n + 2)) (.lst xs)
  | mono {k n k' n' : Nat} {d : D} (h : Fit k n d) (hk : k ≤ k') (hn : n ≤ n') : Fit k' n' d
end PM
namespace PM
open PySem (Str)
section
variable {F : Fns} {cl : Option (Nat × Clo)} {ρ ρ1 ρ2 : Env} {m m1 m2 m3 : M} {n : Nat}
theorem j_forF {α σ J' : Type} {e1 : α → D} (G : σ → J' → Env) (Gm : σ → M) (step : σ → α → σ) (Inv : Nat → σ → Prop) {bb z : Bool} {o : Res D} {t : Tg} {it : It} {b r : Ss} {xs : List α} {s : σ} {j : J'} (hi : evi F cl it ρ m = .ok (xs.map e1) (Gm s)) (hρ : ρ = G s j)
    (hs : ∀ i s j x, xs[i]? = some x → x ∈ xs → Inv i s → ∃ ρ1 j', bt F cl t (e1 x) (G s j) (Gm s) = .ok ρ1 (Gm s) ∧ exSs F cl b ρ1 (Gm s) = .nx (G (step s x) j') (Gm (step s x)) ∧ Inv (i + 1) (step s x)) (h0 : Inv 0 s)
    (hk : ∀ j', Inv xs.length (xs.foldl step s) → J bb z n (exSs F cl r (G (xs.foldl step s) j') (Gm (xs.foldl step s))) o) : J bb z n (exSs F cl (.cons (.for_ t it b) r) ρ m) o := by
  obtain ⟨⟨j', e⟩, h⟩ := st_for G Gm step Inv hi hρ hs h0
  exact j_nx e (hk j' h)
theorem lb_forF {α σ J' : Type} {σ2 τ2 δ2 : Type} {G2 : σ2 → τ2 → Env} {Gm2 : σ2 → M} {Inv2 : σ2 → Prop} {z : Bool} {O : δ2 → Res D} {o : σ2 ⊕ δ2} {e1 : α → D} (G : σ → J' → Env) (Gm : σ → M) (step : σ → α → σ) (Inv : Nat → σ → Prop) {t : Tg} {it : It} {b r : Ss} {xs : List α} {s : σ} {j : J'} (hi : evi F cl it ρ m = .ok (xs.map e1) (Gm s)) (hρ : ρ = G s j)
    (hs : ∀ i s j x, xs[i]? = some x → x ∈ xs → Inv i s → ∃ ρ1 j', bt F cl t (e1 x) (G s j) (Gm s) = .ok ρ1 (Gm s) ∧ exSs F cl b ρ1 (Gm s) = .nx (G (step s x) j') (Gm (step s x)) ∧ Inv (i + 1) (step s x)) (h0 : Inv 0 s)
    (hk : ∀ j', Inv xs.length (xs.foldl step s) → LB G2 Gm2 Inv2 z n O o (exSs F cl r (G (xs.foldl step s) j') (Gm (xs.foldl step s)))) : LB G2 Gm2 Inv2 z n O o (exSs F cl (.cons (.for_ t it b) r) ρ m) := by
  obtain ⟨⟨j', e⟩, h⟩ := st_for G Gm step Inv hi hρ hs h0
  exact lb_nx e (hk j' h)
theorem rngS_nat (k : Nat) : rngS 0 (k : Int) = (List.range k).map fun (i : Nat) => (i : Int) := by
  unfold rngS
  rw [show ((k : Int) - 0).toNat = k by omega]
  exact List.map_congr_left fun i _ => by omega
end
end PM
namespace PM
open PySem (Str)
section
variable {F : Fns} {cl : Option (Nat × Clo)} {ρ ρ1 ρ2 : Env} {m m1 m2 m3 : M} {n : Nat} {a b c e : E} {l : Nat} {p : Pool} {x : Int}
theorem pool_at (hl : l < m.length) : (mp m l p)[l]? = some (.lst [.int p.1, .int p.2.1, .int p.2.2]) := mp_at hl
theorem e_pool0 (hl : l < m.length) (ha : ev F cl a ρ m1 = .ok (.ref l) (mp m l p)) : ev F cl (.ix a (.c (.int 0))) ρ m1 = .ok (.int p.1) (mp m l p) := by
  rw [x_ix, ha, Res.bind_ok, x_c, Res.bind_ok, (ix_ref3 (pool_at hl)).1]; rfl
theorem e_pool1 (hl : l < m.length) (ha : ev F cl a ρ m1 = .ok (.ref l) (mp m l p)) : ev F cl (.ix a (.c (.int 1))) ρ m1 = .ok (.int p.2.1) (mp m l p) := by
  rw [x_ix, ha, Res.bind_ok, x_c, Res.bind_ok, (ix_ref3 (pool_at hl)).2.1]; rfl
theorem e_pool2 (hl : l < m.length) (ha : ev F cl a ρ m1 = .ok (.ref l) (mp m l p)) : ev F cl (.ix a (.c (.int 2))) ρ m1 = .ok (.int p.2.2) (mp m l p) := by
  rw [x_ix, ha, Res.bind_ok, x_c, Res.bind_ok, (ix_ref3 (pool_at hl)).2.2]; rfl
theorem b_pool0 (hl : l < m.length) (ha : ev F cl a ρ (mp m l p) = .ok (.ref l) (mp m l p)) : bt F cl (.sub a (.c (.int 0))) (.int x) ρ (mp m l p) = .ok ρ (mp m l (x, p.2.1, p.2.2)) := by
  rw [x_sub, ha, Res.bind_ok, x_c, Res.bind_ok, (put_ref3 (pool_at hl) (by simp)).1]
  simp [mp, pc]
theorem b_pool1 (hl : l < m.length) (ha : ev F cl a ρ (mp m l p) = .ok (.ref l) (mp m l p)) : bt F cl (.sub a (.c (.int 1))) (.int x) ρ (mp m l p) = .ok ρ (mp m l (p.1, x, p.2.2)) := by
  rw [x_sub, ha, Res.bind_ok, x_c, Res.bind_ok, (put_ref3 (pool_at hl) (by simp)).2.1]
  simp [mp, pc]
theorem b_pool2 (hl : l < m.length) (ha : ev F cl a ρ (mp m l p) = .ok (.ref l) (mp m l p)) : bt F cl (.sub a (.c (.int 2))) (.int x) ρ (mp m l p) = .ok ρ (mp m l (p.1, p.2.1, x)) := by
  rw [x_sub, ha, Res.bind_ok, x_c, Res.bind_ok, (put_ref3 (pool_at hl) (by simp)).2.2]
  simp [mp, pc]
theorem st_bt {t : Tg} {d : D} (he : ev F cl e ρ m = .ok d m1) (hb : bt F cl t d ρ m1 = .ok ρ1 m2) : exS F cl (.set t e) ρ m = .nx ρ1 m2 := by
  rw [y_set, he, of_ok, hb, Res.nox_ok, of_ok]
/-- a, b = .. where the first one stands in a list -/
theorem b_tsub {α β : Type} {e1 : α → D} {e2 : β → D} {q : α × β} {t : Tg} {i : Nat} (h : bt F cl t (e1 q.1) ρ m = .ok ρ1 m1) (h2 : ρ1.set i (some (e2 q.2)) = ρ2) : bt F cl (.t (.cons t (.cons (.n i) .nil))) (eP e1 e2 q) ρ m = .ok ρ2 m1 := by
  show bt F cl _ (.tup [e1 q.1, e2 q.2]) ρ m = _
  rw [x_tt, x_tcons, h, Res.bind_ok, x_tcons, x_n, Res.bind_ok, x_tnil, h2]
end
end PM
namespace PM
theorem cut_toG {α : Type} (xs : List α) (j : Nat) : cut xs none (some (j : Int)) = xs.take j := by
  unfold cut sIx
  simp only [List.drop_zero, Nat.sub_zero]
  rw [if_neg (by omega)]
  simp only [Int.toNat_natCast]
  by_cases h : j ≤ xs.length
  · rw [Nat.min_eq_left h]
  · rw [Nat.min_eq_right (by omega), List.take_length, List.take_of_length_le (by omega)]
end PM
namespace PM
theorem fin_new {m m' : M} : finish false m.length (.ret (.ref m.length) m') = .ok (.ref m.length) m' := by
  unfold finish close
  simp
theorem loopE_inl {α β : Type} {step : Unit → α → Unit ⊕ β} : ∀ {xs : List α}, (∀ x ∈ xs, step () x = .inl ()) → loopE step xs () = .inl ()
  | [], _ => rfl
  | x :: xs, h => by
    unfold loopE
    rw [h x (List.mem_cons_self ..)]
    exact loopE_inl fun y hy => h y (List.mem_cons_of_mem _ hy)
/-- a loop whose turns all go on, while a word holds -/
theorem loopE_inv {σ α β : Type} {step : σ → α → σ ⊕ β} {Q : σ → Prop} : ∀ {xs : List α} {s : σ}, (∀ x ∈ xs, ∀ s, Q s → ∃ s', step s x = .inl s' ∧ Q s') → Q s → ∃ s', loopE step xs s = .inl s' ∧ Q s'
  | [], s, _, h => ⟨s, rfl, h⟩
  | x :: xs, s, hs, h => by
    obtain ⟨s1, e, h1⟩ := hs x (List.mem_cons_self ..) s h
    unfold loopE
    rw [e]
    exact loopE_inv (fun y hy => hs y (List.mem_cons_of_mem _ hy)) h1
end PM
namespace PM
open PySem (Str)
def memB {α : Type} [DecidableEq α] (x : α) (xs : List α) : Bool := decide (x ∈ xs)
theorem memB_iff {α : Type} [DecidableEq α] {x : α} {xs : List α} : memB x xs = true ↔ x ∈ xs := by unfold memB; exact decide_eq_true_iff
theorem memB_false {α : Type} [DecidableEq α] {x : α} {xs : List α} : memB x xs = false ↔ x ∉ xs := by unfold memB; exact decide_eq_false_iff_not
section
variable {F : Fns} {cl : Option (Nat × Clo)} {ρ : Env} {m m1 m2 : M} {a b : E} {α : Type}
theorem e_inB [DecidableEq α] (e : α → D) [h : QEnc 8 e] {x : α} {xs : List α} {d : D} (ha : ev F cl a ρ m = .ok (e x) m1) (hb : ev F cl b ρ m1 = .ok d m2) (hs : Sq e xs d) : ev F cl (.cmp .inn a b) ρ m = .ok (.bl (memB x xs)) m2 := e_in e ha hb hs
theorem e_notInB [DecidableEq α] (e : α → D) [h : QEnc 8 e] {x : α} {xs : List α} {d : D} (ha : ev F cl a ρ m = .ok (e x) m1) (hb : ev F cl b ρ m1 = .ok d m2) (hs : Sq e xs d) : ev F cl (.cmp .notIn a b) ρ m = .ok (.bl (!memB x xs)) m2 := e_notIn e ha hb hs
end
end PM
namespace PM
instance (t : Int) (l : List Int) : Decidable (LotOk t l) := by unfold LotOk; infer_instance
theorem book_by {t : Int} {ls : List (List Int)} (h : (∀ l ∈ ls, LotOk t l) ∧ (ls.Pairwise fun a b => lexLt a b = true) ∧ ls.length ≤ 20) : BookOk t ls := ⟨h.1, h.2.1, h.2.2⟩
end PM

end

section
set_option maxHeartbeats 4000000
/-! PM, plain part F: what can be shown. -/
namespace PM
open PySem
theorem showAll_map {α : Type} {e : α → D} : ∀ xs : List D, PyData.shownAll (pyL xs) = xs.map fun x => x.py.shown
  | [] => by simp [pyL, PyData.shownAll]
  | x :: xs => by unfold pyL; simp only [PyData.shownAll, List.map_cons]; rw [showAll_map (e := e) xs]
theorem showableAll_of : ∀ xs : List D, (∀ x ∈ xs, x.py.showable = true) → PyData.showableAll (pyL xs) = true
  | [], _ => by simp [pyL, PyData.showableAll]
  | x :: xs, h => by
    unfold pyL
    simp only [PyData.showableAll, h x (List.mem_cons_self ..), showableAll_of xs fun y hy => h y (List.mem_cons_of_mem _ hy), Bool.and_self]
theorem depthAll_of {k : Nat} : ∀ xs : List D, (∀ x ∈ xs, x.py.depth ≤ k) → PyData.depthAll (pyL xs) ≤ k
  | [], _ => by simp [pyL, PyData.depthAll]
  | x :: xs, h => by
    unfold pyL
    simp only [PyData.depthAll]
    exact Nat.max_le.mpr ⟨h x (List.mem_cons_self ..), depthAll_of xs fun y hy => h y (List.mem_cons_of_mem _ hy)⟩
theorem piled_of {n : Nat} : ∀ ts : List Str, (∀ t ∈ ts, t.length ≤ n) → piled ts ≤ ts.length * (n + 2)
  | [], _ => by simp [piled]
  | t :: ts, h => by
    rw [piled_cons]
    have h1 := h t (List.mem_cons_self ..)
    have h2 := piled_of ts fun y hy => h y (List.mem_cons_of_mem _ hy)
    rw [List.length_cons, Nat.succ_mul]
    omega
theorem listText_le {n : Nat} (ts : List Str) (h : ∀ t ∈ ts, t.length ≤ n) : (listText ts).length ≤ 3 + ts.length * (n + 2) := by
  have hp := piled_of ts h
  unfold listText
  rw [strLen_append]
  have e0 : ((("]" : String) : Str)).length = 1 := rfl
  have e1 : ((("[" : String) : Str)).length = 1 := rfl
  cases ts with
  | nil =>
    show ((("[" : String) : Str)).length + _ ≤ _
    rw [e0, e1]; omega
  | cons t r =>
    have z := textFrom_length_pos r 1 (("[" : Str) ++ (if (0 : Nat) > 0 then ", " else "" : String) ++ t) (Nat.succ_pos 0)
    have z' : (textFrom 0 "[" (t :: r)).length = _ := z
    rw [z', strLen_append, strLen_append, e0, e1]
    rw [piled_cons] at hp
    have e2 : ((((if (0 : Nat) > 0 then ", " else "" : String)) : Str)).length = 0 := rfl
    rw [e2]
    omega
theorem tupleText_le {n : Nat} (ts : List Str) (h : ∀ t ∈ ts, t.length ≤ n) : (tupleText ts).length ≤ 3 + ts.length * (n + 2) := by
  have hp := piled_of ts h
  unfold tupleText
  rw [strLen_append, strLen_append]
  have e1 : ((("(" : String) : Str)).length = 1 := rfl
  have e2 : ((((if ts.length == 1 then ",)" else ")" : String)) : Str)).length ≤ 2 := by
    split
    · exact Nat.le_refl 2
    · exact Nat.le_succ 1
  cases ts with
  | nil =>
    have : (Str.join ", " ([] : List Str)).length = 0 := rfl
    rw [this, e1]
    omega
  | cons t r =>
    have := join_length_add (t :: r) (by simp)
    rw [e1]
    omega
theorem fit_all {k n : Nat} {d : D} (h : Fit k n d) : d.pure = true ∧ d.py.showable = true ∧ d.py.depth ≤ k ∧ d.py.shown.length ≤ n := by
  induction h with
  | non => exact ⟨by simp, by simp [D.py, PyData.showable], by simp [D.py, PyData.depth], by unfold D.py PyData.shown; exact Nat.le_refl 4⟩
  | bl b => exact ⟨by simp, by simp [D.py, PyData.showable], by simp [D.py, PyData.depth], by cases b <;> (unfold D.py PyData.shown; first | exact Nat.le_refl 5 | exact Nat.le_succ 4)⟩
  | @int i h =>
    refine ⟨by simp, ?_, by simp [D.py, PyData.depth], ?_⟩
    · unfold D.py PyData.showable
      refine decide_eq_true ?_
      by_cases h0 : i.natAbs = 0
      · rw [h0]; decide
      · have := (Nat.log2_lt h0).mpr (show i.natAbs < 2 ^ 1920 from Nat.lt_of_lt_of_le h (by decide +kernel))
        exact this
    · unfold D.py PyData.shown
      have := int_text_length_le10 (a := i) (k := 6) (by decide) (by exact h)
      show (Str.ofString (toString i)).length ≤ 8
      have e : (Str.ofString (toString i)).length = (toString i).length := ofString_length _
      omega
  | @tup k n c xs h hc ih =>
    refine ⟨by rw [pure_tup, pureL_mem]; exact fun x hx => (ih x hx).1, ?_, ?_, ?_⟩
    · unfold D.py PyData.showable; exact showableAll_of xs fun x hx => (ih x hx).2.1
    · unfold D.py PyData.depth; exact Nat.succ_le_succ (depthAll_of xs fun x hx => (ih x hx).2.2.1)
    · unfold D.py PyData.shown
      rw [showAll_map (e := D.int)]
      have := tupleText_le (n := n) (xs.map fun x => x.py.shown) (fun t ht => by obtain ⟨x, hx, rfl⟩ := List.mem_map.mp ht; exact (ih x hx).2.2.2)
      rw [List.length_map] at this
      exact Nat.le_trans this (Nat.add_le_add_left (Nat.mul_le_mul_right _ hc) _)
  | @lst k n c xs h hc ih =>
    refine ⟨by rw [pure_lst, pureL_mem]; exact fun x hx => (ih x hx).1, ?_, ?_, ?_⟩
    · unfold D.py PyData.showable; exact showableAll_of xs fun x hx => (ih x hx).2.1
    · unfold D.py PyData.depth; exact Nat.succ_le_succ (depthAll_of xs fun x hx => (ih x hx).2.2.1)
    · unfold D.py PyData.shown
      rw [showAll_map (e := D.int)]
      have := listText_le (n := n) (xs.map fun x => x.py.shown) (fun t ht => by obtain ⟨x, hx, rfl⟩ := List.mem_map.mp ht; exact (ih x hx).2.2.2)
      rw [List.length_map] at this
      exact Nat.le_trans this (Nat.add_le_add_left (Nat.mul_le_mul_right _ hc) _)
  | mono h hk hn ih => exact ⟨ih.1, ih.2.1, Nat.le_trans ih.2.2.1 hk, Nat.le_trans ih.2.2.2 hn⟩
theorem shB_fit {k n : Nat} {d : D} (h : Fit k n d) (hk : k ≤ 60) (hn : n ≤ 16777216) : shB d = true := by
  obtain ⟨h1, h2, h3, h4⟩ := fit_all h
  unfold shB
  simp only [h1, h2, Bool.and_eq_true, decide_eq_true_eq, true_and]
  exact ⟨Nat.le_trans h3 hk, Nat.le_trans h4 hn⟩
theorem deref_fit {k n : Nat} {d : D} {m : M} (h : Fit k n d) : deref d m = d := by
  have := (fit_all h).1
  cases d <;> first | rfl | simp at this
/-- it can be shown -/
def Shw (d : D) : Prop := ∃ k j, Fit k j d ∧ k ≤ 60 ∧ j ≤ 16777216
section
variable {F : Fns} {cl : Option (Nat × Clo)} {ρ ρ1 ρ2 : Env} {m m1 m2 m3 : M} {n : Nat} {a b c e : E} {d : D} {α β : Type}
theorem e_repr {c : Bool} (ha : ev F cl a ρ m = .ok d m1) (h : Shw d) : ev F cl (.prim .repr c (.cons a .nil)) ρ m = .ok (.str d.py.shown) m1 := by
  obtain ⟨k, j, h, hk, hn⟩ := h
  rw [x_prim, es_cons ha es_nil, Res.bind_ok, p_repr, deref_fit h, if_pos (shB_fit h hk hn)]; rfl
end
theorem shw_bl (b : Bool) : Shw (.bl b) := ⟨0, 5, .bl b, by decide, by decide⟩
theorem shw_int {i : Int} (h : i.natAbs < 1000000) : Shw (.int i) := ⟨0, 8, .int h, by decide, by decide⟩
theorem fit_lot {l : List Int} {c : Nat} (h : ∀ x ∈ l, x.natAbs < 1000000) (hc : l.length ≤ c) : Fit 1 (3 + c * 10) (lotD l) :=
  Fit.tup (fun d hd => by obtain ⟨x, hx, rfl⟩ := List.mem_map.mp hd; exact .int (h x hx)) (by rw [List.length_map]; exact hc)
theorem fit_eT {α : Type} {e : α → D} {k n c : Nat} {xs : List α} (h : ∀ x ∈ xs, Fit k n (e x)) (hc : xs.length ≤ c) : Fit (k + 1) (3 + c * (n + 2)) (eT e xs) :=
  Fit.tup (fun d hd => by obtain ⟨x, hx, rfl⟩ := List.mem_map.mp hd; exact h x hx) (by rw [List.length_map]; exact hc)
theorem fit_eL {α : Type} {e : α → D} {k n c : Nat} {xs : List α} (h : ∀ x ∈ xs, Fit k n (e x)) (hc : xs.length ≤ c) : Fit (k + 1) (3 + c * (n + 2)) (eL e xs) :=
  Fit.lst (fun d hd => by obtain ⟨x, hx, rfl⟩ := List.mem_map.mp hd; exact h x hx) (by rw [List.length_map]; exact hc)
theorem fit_lots {ls : List (List Int)} (h1 : ls.length ≤ 64) (h2 : ∀ l ∈ ls, l.length ≤ 64 ∧ ∀ x ∈ l, x.natAbs < 1000000) : Fit 2 41283 (eT lotD ls) :=
  fit_eT (c := 64) (n := 643) (fun l hl => fit_lot (c := 64) (h2 l hl).2 (h2 l hl).1) h1
theorem shw_L {α : Type} {e : α → D} {k n c : Nat} {xs : List α} (h : ∀ x ∈ xs, Fit k n (e x)) (hc : xs.length ≤ c) (hk : k ≤ 50) (hn : c * (n + 2) ≤ 16777210) : Shw (eL e xs) := ⟨_, _, fit_eL h hc, by omega, by omega⟩
theorem shw_T {α : Type} {e : α → D} {k n c : Nat} {xs : List α} (h : ∀ x ∈ xs, Fit k n (e x)) (hc : xs.length ≤ c) (hk : k ≤ 50) (hn : c * (n + 2) ≤ 16777210) : Shw (eT e xs) := ⟨_, _, fit_eT h hc, by omega, by omega⟩
/-- of two things -/
theorem shw_L2 {α : Type} {e : α → D} {k n : Nat} {x y : α} (h1 : Fit k n (e x)) (h2 : Fit k n (e y)) (hk : k ≤ 50) (hn : n ≤ 8000000) : Shw (eL e [x, y]) :=
  shw_L (c := 2) (fun z hz => by
    rcases List.mem_cons.mp hz with e | hz
    · rw [e]; exact h1
    · rw [List.mem_singleton.mp hz]; exact h2) (Nat.le_refl 2) hk (by omega)
end PM

end

section
set_option maxHeartbeats 4000000
/-! PM, plain part S: books in order; what is the same. -/
namespace PM
/-- in order, each once -/
abbrev Asc (ls : List (List Int)) : Prop := ls.Pairwise fun a b => lexLt a b = true
theorem lexLe_anti (a b : List Int) (h1 : lexLe a b = true) (h2 : lexLe b a = true) : a = b := by
  unfold lexLe at h1 h2
  exact lexLt_tri a b (by simpa using h2) (by simpa using h1)
theorem lexLe_of_lt {a b : List Int} (h : lexLt a b = true) : lexLe a b = true := by
  unfold lexLe
  rw [lexLt_asym a b h]; rfl
/-- two lists in order with the same items are one -/
theorem perm_sorted_eq {xs ys : List (List Int)} (hp : xs.Perm ys) (h1 : xs.Pairwise fun a b => lexLe a b = true) (h2 : ys.Pairwise fun a b => lexLe a b = true) : xs = ys :=
  hp.eq_of_pairwise (fun a b _ _ => lexLe_anti a b) h1 h2
theorem sortLots_perm (ls : List (List Int)) : (sortLots ls).Perm ls := List.mergeSort_perm ls lexLe
theorem sortLots_sorted (ls : List (List Int)) : (sortLots ls).Pairwise fun a b => lexLe a b = true := List.pairwise_mergeSort lexLe_trans lexLe_total ls
theorem asc_le {ls : List (List Int)} (h : Asc ls) : ls.Pairwise fun a b => lexLe a b = true := h.imp lexLe_of_lt
theorem asc_nodup {ls : List (List Int)} (h : Asc ls) : ls.Nodup := h.imp fun {a b} hab e => by subst e; rw [lexLt_irr] at hab; cases hab
theorem sortLots_of_perm {xs ys : List (List Int)} (h : xs.Perm ys) : sortLots xs = sortLots ys :=
  perm_sorted_eq ((sortLots_perm xs).trans (h.trans (sortLots_perm ys).symm)) (sortLots_sorted xs) (sortLots_sorted ys)
theorem sortLots_id {ls : List (List Int)} (h : Asc ls) : sortLots ls = ls := perm_sorted_eq (sortLots_perm ls) (sortLots_sorted ls) (asc_le h)
/-- a book is its lots -/
theorem asc_ext {xs ys : List (List Int)} (h1 : Asc xs) (h2 : Asc ys) (h : ∀ x, x ∈ xs ↔ x ∈ ys) : xs = ys :=
  perm_sorted_eq ((List.perm_ext_iff_of_nodup (asc_nodup h1) (asc_nodup h2)).mpr h) (asc_le h1) (asc_le h2)
theorem asc_sort {ls : List (List Int)} (h : ls.Nodup) : Asc (sortLots ls) := by
  have nd : (sortLots ls).Nodup := (sortLots_perm ls).nodup_iff.mpr h
  refine ((sortLots_sorted ls).and nd).imp fun {a b} h => ?_
  cases hab : lexLt a b with
  | true => rfl
  | false =>
    have h1 := h.1
    unfold lexLe at h1
    exact absurd (lexLt_tri a b hab (by simpa using h1)) h.2
theorem asc_sset (ls : List (List Int)) : Asc (sortLots (dedup ls)) := asc_sort (dedup_nodup ls)
theorem mem_sset {x : List Int} {ls : List (List Int)} : x ∈ sortLots (dedup ls) ↔ x ∈ ls := by rw [mem_sortLots, dedup_mem]
theorem asc_filter {ls : List (List Int)} {p : List Int → Bool} (h : Asc ls) : Asc (ls.filter p) := h.sublist List.filter_sublist
theorem dedup_id : ∀ {ls : List (List Int)}, ls.Nodup → dedup ls = ls
  | [], _ => rfl
  | x :: xs, h => by
    obtain ⟨h1, h2⟩ := List.nodup_cons.mp h
    unfold dedup
    rw [if_neg h1, dedup_id h2]
/-- by setting in: for written books -/
def insL (x : List Int) : List (List Int) → List (List Int)
  | [] => [x]
  | y :: ys => if lexLt y x then y :: insL x ys else x :: y :: ys
def sortI : List (List Int) → List (List Int)
  | [] => []
  | x :: xs => insL x (sortI xs)
theorem insL_perm (x : List Int) : ∀ ys, (insL x ys).Perm (x :: ys)
  | [] => List.Perm.refl _
  | y :: ys => by
    unfold insL
    split
    · exact ((insL_perm x ys).cons y).trans (List.Perm.swap x y ys)
    · exact List.Perm.refl _
theorem insL_sorted (x : List Int) : ∀ ys, (ys.Pairwise fun a b => lexLe a b = true) → (insL x ys).Pairwise fun a b => lexLe a b = true
  | [], _ => List.pairwise_singleton _ _
  | y :: ys, h => by
    obtain ⟨h1, h2⟩ := List.pairwise_cons.mp h
    unfold insL
    split
    · rename_i hl
      refine List.pairwise_cons.mpr ⟨fun z hz => ?_, insL_sorted x ys h2⟩
      rcases List.mem_cons.mp ((insL_perm x ys).mem_iff.mp hz) with e | hz
      · subst e; exact lexLe_of_lt hl
      · exact h1 z hz
    · rename_i hl
      have hxy : lexLe x y = true := by unfold lexLe; simpa using hl
      refine List.pairwise_cons.mpr ⟨fun z hz => ?_, h⟩
      rcases List.mem_cons.mp hz with e | hz
      · subst e; exact hxy
      · exact lexLe_trans _ _ _ hxy (h1 z hz)
theorem sortI_ok : ∀ ls, (sortI ls).Perm ls ∧ (sortI ls).Pairwise fun a b => lexLe a b = true
  | [] => ⟨List.Perm.refl _, List.Pairwise.nil⟩
  | x :: xs => by
    obtain ⟨h1, h2⟩ := sortI_ok xs
    exact ⟨(insL_perm x _).trans (h1.cons x), insL_sorted x _ h2⟩
theorem sortLots_I (ls : List (List Int)) : sortLots ls = sortI ls := perm_sorted_eq ((sortLots_perm ls).trans (sortI_ok ls).1.symm) (sortLots_sorted ls) (sortI_ok ls).2
/-- lots: ascending things -/
abbrev AscI (l : List Int) : Prop := l.Pairwise (· < ·)
theorem ascI_ext {a b : List Int} (h1 : AscI a) (h2 : AscI b) (h : ∀ x, x ∈ a ↔ x ∈ b) : a = b := by
  have n1 : a.Nodup := h1.imp fun {x y} h e => by omega
  have n2 : b.Nodup := h2.imp fun {x y} h e => by omega
  exact ((List.perm_ext_iff_of_nodup n1 n2).mpr h).eq_of_pairwise (le := fun x y => x ≤ y) (fun x y _ _ h1 h2 => by omega) (h1.imp fun h => by omega) (h2.imp fun h => by omega)
theorem ascI_filter {a : List Int} {p : Int → Bool} (h : AscI a) : AscI (a.filter p) := h.sublist List.filter_sublist
end PM

end

section
set_option maxHeartbeats 4000000
/-! PM, plain part H: combinations, extend, list(range). -/
namespace PM
open PySem (Str)
/-- k of these, in order -/
def combsL {α : Type} : Nat → List α → List (List α)
  | 0, _ => [[]]
  | _ + 1, [] => []
  | k + 1, x :: xs => (combsL k xs).map (x :: ·) ++ combsL (k + 1) xs
theorem combsL_map {α β : Type} (f : α → β) : ∀ (k : Nat) (xs : List α), combsL k (xs.map f) = (combsL k xs).map fun l => l.map f
  | 0, _ => by simp [combsL]
  | _ + 1, [] => by simp [combsL]
  | k + 1, x :: xs => by
    rw [List.map_cons]
    unfold combsL
    rw [combsL_map f k xs, combsL_map f (k + 1) xs, List.map_append, List.map_map, List.map_map]
    rfl
theorem combsL_none {α : Type} : ∀ (k : Nat) (xs : List α), xs.length < k → combsL k xs = []
  | 0, _, h => by simp at h
  | _ + 1, [], _ => rfl
  | k + 1, x :: xs, h => by
    rw [List.length_cons] at h
    unfold combsL
    rw [combsL_none k xs (by omega), combsL_none (k + 1) xs (by omega)]
    rfl
theorem mem_combsL {α : Type} : ∀ {k : Nat} {xs l : List α}, l ∈ combsL k xs ↔ l.Sublist xs ∧ l.length = k
  | 0, xs, l => by
    simp only [combsL, List.mem_singleton]
    constructor
    · rintro rfl; exact ⟨List.nil_sublist _, rfl⟩
    · rintro ⟨_, h⟩; exact List.length_eq_zero_iff.mp h
  | k + 1, [], l => by
    simp only [combsL, List.not_mem_nil, List.sublist_nil, false_iff, not_and]
    rintro rfl h; cases h
  | k + 1, x :: xs, l => by
    unfold combsL
    rw [List.mem_append, List.mem_map, mem_combsL (k := k + 1)]
    constructor
    · rintro (⟨a, ha, rfl⟩ | ⟨h1, h2⟩)
      · obtain ⟨h1, h2⟩ := mem_combsL.mp ha
        exact ⟨h1.cons₂ x, by rw [List.length_cons, h2]⟩
      · exact ⟨h1.cons x, h2⟩
    · rintro ⟨h1, h2⟩
      cases h1 with
      | cons _ h => exact .inr ⟨h, h2⟩
      | cons_cons _ h => exact .inl ⟨_, mem_combsL.mpr ⟨h, by simpa using h2⟩, rfl⟩
theorem combK_small : ∀ n ≤ 8, ∀ k ≤ n, combK n k = some (combsL k (List.range n)) := by decide +kernel
theorem combK_eq {n k : Nat} (hn : n ≤ 8) : combK n k = some (combsL k (List.range n)) := by
  by_cases h : k ≤ n
  · exact combK_small n hn k h
  · unfold combK combI
    rw [if_pos (by omega), combsL_none k _ (by simp; omega)]
    rfl
section
variable {F : Fns} {cl : Option (Nat × Clo)} {ρ ρ1 ρ2 : Env} {m m1 m2 m3 : M} {n : Nat} {a b c e : E} {d : D} {α β : Type}
theorem combD_eq {e1 : α → D} {xs : List α} {k : Int} (hk : 0 ≤ k ∧ k ≤ 1000) (hn : xs.length ≤ 8) : combD (xs.map e1) k = some ((combsL k.toNat xs).map (eT e1)) := by
  unfold combD
  rw [if_pos hk, List.length_map, combK_eq hn]
  simp only [Option.map_some, Option.some.injEq]
  have h1 : combsL k.toNat (xs.map e1) = (combsL k.toNat (List.range xs.length)).map fun l => l.map fun j => (xs.map e1).getD j .non := by
    rw [← combsL_map]
    congr 1
    apply List.ext_getElem
    · simp
    · intro i h1 h2
      simp at h1
      simp [List.getD, h1]
  rw [combsL_map] at h1
  have h2 : (combsL k.toNat xs).map (eT e1) = ((combsL k.toNat xs).map fun l => l.map e1).map D.tup := by rw [List.map_map]; rfl
  rw [h2, h1, List.map_map]
  rfl
theorem g_comb {e1 : α → D} {xs : List α} {k : Int} {d : D} (ha : ev F cl a ρ m = .ok d m1) (hs : Sq e1 xs d) (hb : ev F cl b ρ m1 = .ok (.int k) m2) (hk : 0 ≤ k ∧ k ≤ 1000) (hn : xs.length ≤ 8) : evi F cl (.comb a b) ρ m = .ok ((combsL k.toNat xs).map (eT e1)) m2 := by
  rw [evi, ha, Res.bind_ok, hb, Res.bind_ok]
  cases hs <;> (show opt (combD (xs.map e1) k) m2 = _; rw [combD_eq hk hn]; rfl)
theorem e_lrng {j : Int} (ha : ev F cl a ρ m = .ok (.int j) m1) (hj : 0 ≤ j ∧ j ≤ 16777216) : ev F cl (.lrng false a) ρ m = .ok (.lst ((rngS 0 j).map D.int)) m1 := by
  rw [ev, ha, Res.bind_ok, ← rngL_S]
  have hj2 : -(2 ^ 62) ≤ j ∧ j < 2 ^ 62 := by omega
  rw [show rngOf [.int j] = some (rngL 0 j) from if_pos hj2, opt_some, Res.bind_ok, o_lst (by rw [rngL_S, List.length_map, rngS_len]; show _ ≤ 16777216; omega)]
theorem st_extend {l e : E} {k : Nat} {e1 : α → D} {xs ys : List α} [PEnc e1] (hl : ev F cl l ρ m = .ok (.ref k) m) (he : ev F cl e ρ m = .ok (.lst (ys.map e1)) m1) (hx : m1[k]? = some (.lst (xs.map e1))) (hc : (xs ++ ys).length ≤ 16777216) (hm : m1.set k (.lst ((xs ++ ys).map e1)) = m2) : exS F cl (.extend l e) ρ m = .nx ρ m2 := by
  rw [exS, hl, of_ok]
  simp only [he, of_ok, hx, pureL_map, Bool.true_and, decide_eq_true_eq]
  rw [if_pos (by rw [List.length_map, List.length_map, ← List.length_append]; exact hc), ← List.map_append, hm]
end
/-! all lots -/
theorem combsL_len {α : Type} : ∀ (k : Nat) (xs : List α), (combsL k xs).length ≤ 2 ^ xs.length
  | 0, xs => by simp [combsL]; exact Nat.one_le_two_pow
  | _ + 1, [] => by simp [combsL]
  | k + 1, x :: xs => by
    unfold combsL
    rw [List.length_append, List.length_map, List.length_cons, Nat.pow_succ]
    have := combsL_len k xs
    have := combsL_len (k + 1) xs
    omega
end PM
namespace PM
theorem e_ssetR {F : Fns} {cl : Option (Nat × Clo)} {ρ : Env} {m m1 : M} {a : E} {ls : List (List Int)} {l : Nat} (ha : ev F cl a ρ m = .ok (.ref l) m1) (hl : m1[l]? = some (.lst (ls.map lotD))) (hc : ls.length < 64) : ev F cl (.sset false a) ρ m = .ok (.lst ((sortLots (dedup ls)).map lotD)) m1 := by
  have hz : ((sortLots (dedup ls)).map lotD).length ≤ cap := by
    rw [List.length_map, sortLots_len]
    exact Nat.le_trans (Nat.le_trans (dedup_len ls) (Nat.le_of_lt hc)) (by decide)
  rw [x_sset, ha, Res.bind_ok]
  have e : (items (.ref l) m1).bind lots? = some ls := by simp only [items, hl, Option.bind_some, lots_map]
  rw [e]
  simp only [if_pos hc]
  exact o_lst hz
end PM
namespace PM
theorem foldl_inv {σ α : Type} {Inv : Nat → σ → Prop} {step : σ → α → σ} : ∀ (xs : List α) (i : Nat) (s : σ), (∀ k s x, xs[k - i]? = some x → i ≤ k → Inv k s → Inv (k + 1) (step s x)) → Inv i s → Inv (i + xs.length) (xs.foldl step s)
  | [], i, s, _, h => h
  | x :: xs, i, s, hs, h => by
    rw [List.foldl_cons, List.length_cons, show i + (xs.length + 1) = i + 1 + xs.length by omega]
    refine foldl_inv xs (i + 1) _ (fun k s y hy hk hI => hs k s y (by rw [show k - i = (k - (i + 1)) + 1 by omega]; simpa using hy) (by omega) hI) ?_
    exact hs i s x (by simp) (Nat.le_refl _) h
theorem foldl_inv0 {σ α : Type} {Inv : Nat → σ → Prop} {step : σ → α → σ} (xs : List α) (s : σ) (hs : ∀ k s x, xs[k]? = some x → Inv k s → Inv (k + 1) (step s x)) (h : Inv 0 s) : Inv xs.length (xs.foldl step s) := by
  have := foldl_inv xs 0 s (fun k s x hx _ hI => hs k s x (by simpa using hx) hI) h
  rwa [Nat.zero_add] at this
theorem cut_from {α : Type} (xs : List α) (j : Nat) : cut xs (some (j : Int)) none = xs.drop j := by
  unfold cut sIx
  simp only
  rw [if_neg (by omega)]
  simp only [Int.toNat_natCast]
  by_cases h : j ≤ xs.length
  · rw [Nat.min_eq_left h, List.take_of_length_le (by simp)]
  · rw [Nat.min_eq_right (by omega), List.drop_length, List.drop_of_length_le (by omega)]; simp
theorem book_step {E : List (List Int)} {x : List Int} {i : Nat} {s : List (List Int)} (h : s.length = i ∧ ∀ o ∈ s, o ∈ E) (hx : x ∈ E) : (s ++ [x]).length = i + 1 ∧ ∀ o ∈ s ++ [x], o ∈ E := by
  refine ⟨by rw [List.length_append, List.length_singleton, h.1], fun o ho => ?_⟩
  rcases List.mem_append.mp ho with ho | ho
  · exact h.2 o ho
  · rw [List.mem_singleton.mp ho]; exact hx
end PM

end

section
set_option maxHeartbeats 4000000
/-! PM, plain part L: lots as sets of things; least lots; touching lots. -/
namespace PM
def Sub (a b : List Int) : Prop := ∀ x ∈ a, x ∈ b
theorem Sub.refl (a : List Int) : Sub a a := fun _ h => h
theorem Sub.trans {a b c : List Int} (h1 : Sub a b) (h2 : Sub b c) : Sub a c := fun x h => h2 x (h1 x h)
theorem Sub.anti {a b : List Int} (ha : AscI a) (hb : AscI b) (h1 : Sub a b) (h2 : Sub b a) : a = b := ascI_ext ha hb fun x => ⟨h1 x, h2 x⟩
theorem ascI_nodup {a : List Int} (h : AscI a) : a.Nodup := h.imp fun {x y} h e => by omega
theorem Sub.len {a b : List Int} (ha : AscI a) (h : Sub a b) : a.length ≤ b.length := nodup_sub a b (ascI_nodup ha) h
theorem Sub.eq {a b : List Int} (ha : AscI a) (hb : AscI b) (h : Sub a b) (hl : b.length ≤ a.length) : a = b := by
  refine Sub.anti ha hb h fun x hx => ?_
  refine Classical.byContradiction fun hn => ?_
  have : a.length ≤ (b.erase x).length := nodup_sub a (b.erase x) (ascI_nodup ha) fun y hy => (List.mem_erase_of_ne (fun e => hn (by rw [← e]; exact hy))).mpr (h y hy)
  rw [List.length_erase_of_mem hx] at this
  have := List.length_pos_of_mem hx
  omega
theorem Sub.lt {a b : List Int} (ha : AscI a) (hb : AscI b) (h : Sub a b) : a.length < b.length ↔ a ≠ b :=
  ⟨fun hl e => by rw [e] at hl; omega, fun hn => by
    have h1 := Sub.len ha h
    have h2 : ¬ b.length ≤ a.length := fun z => hn (Sub.eq ha hb h z)
    omega⟩
/-- every ascending lot of k things is told -/
theorem lotsUp_all : ∀ (k : Nat) (l : List Int), AscI l → (∀ x ∈ l, 0 ≤ x ∧ x < (k : Int)) → l ∈ lotsUp k
  | 0, l, _, h => by
    cases l with
    | nil => simp [lotsUp]
    | cons x l => have := h x (List.mem_cons_self ..); omega
  | k + 1, l, ha, h => by
    unfold lotsUp
    rcases List.eq_nil_or_concat l with rfl | ⟨a, x, rfl⟩
    · exact List.mem_append_left _ (lotsUp_all k [] .nil (fun x hx => by cases hx))
    · rw [List.concat_eq_append] at ha h ⊢
      obtain ⟨h1, _, h3⟩ := List.pairwise_append.mp ha
      have hx := h x (by simp)
      by_cases e : x = k
      · subst e
        exact List.mem_append_right _ (List.mem_map.mpr ⟨a, lotsUp_all k a h1 fun y hy => ⟨(h y (by simp [hy])).1, h3 y hy _ (by simp)⟩, rfl⟩)
      · refine List.mem_append_left _ (lotsUp_all k _ ha fun y hy => ?_)
        have hy1 := h y hy
        rcases List.mem_append.mp hy with hy | hy
        · have := h3 y hy x (by simp); omega
        · rw [List.mem_singleton.mp hy]; omega
theorem mem_lotsOf {k : Nat} {l : List Int} : l ∈ lotsOf k ↔ AscI l ∧ ∀ x ∈ l, 0 ≤ x ∧ x < (k : Int) := by
  unfold lotsOf
  rw [mem_sortLots]
  exact ⟨fun h => ⟨(lotsUp_ok k l h).2.1, (lotsUp_ok k l h).1⟩, fun h => lotsUp_all k l h.1 h.2⟩
theorem lotsUp_nodup (k : Nat) : (lotsUp k).Nodup := by
  induction k with
  | zero => simp [lotsUp]
  | succ k ih =>
    unfold lotsUp
    rw [List.nodup_append]
    refine ⟨ih, ?_, fun a ha b hb e => ?_⟩
    · rw [List.nodup_iff_pairwise_ne] at ih ⊢
      rw [List.pairwise_map]
      exact ih.imp fun h e => h (List.append_inj_left' e rfl)
    · obtain ⟨u, hu, rfl⟩ := List.mem_map.mp hb
      have := (lotsUp_ok k a ha).1 (k : Int) (by rw [e]; simp)
      omega
theorem asc_lotsOf (k : Nat) : Asc (lotsOf k) := asc_sort (lotsUp_nodup k)
theorem lotOk_iff {t : Nat} (ht : t ≤ 6) {l : List Int} : LotOk (t : Int) l ↔ l ∈ lotsOf t := by
  rw [mem_lotsOf]
  constructor
  · intro h; exact ⟨h.2.1, fun x hx => by have := h.1 x hx; omega⟩
  · intro h
    refine ⟨fun x hx => by have := h.2 x hx; omega, h.1, ?_⟩
    have := Nat.le_trans (lotsUp_ok t l (mem_sortLots.mp (mem_lotsOf.mpr h))).2.2 ht
    omega
/-- all things of k that l has not -/
def rest (k : Nat) (l : List Int) : List Int := (rngS 0 (k : Int)).filter fun x => !decide (x ∈ l)
theorem mem_rest {k : Nat} {l : List Int} {x : Int} : x ∈ rest k l ↔ (0 ≤ x ∧ x < (k : Int)) ∧ x ∉ l := by
  unfold rest
  rw [List.mem_filter, mem_rngS]
  simp
theorem rngS_asc (i j : Int) : AscI (rngS i j) := by
  unfold rngS
  rw [AscI, List.pairwise_map]
  exact List.pairwise_lt_range.imp fun {a b} h => by omega
theorem rest_lot (k : Nat) (l : List Int) : rest k l ∈ lotsOf k := mem_lotsOf.mpr ⟨ascI_filter (rngS_asc _ _), fun x hx => (mem_rest.mp hx).1⟩
/-- the least ones of some lots -/
def IsMin (S : List (List Int)) (l : List Int) : Prop := l ∈ S ∧ ∀ o ∈ S, Sub o l → o = l
theorem min_below {S : List (List Int)} (ha : ∀ l ∈ S, AscI l) : ∀ (n : Nat) (l : List Int), l.length ≤ n → l ∈ S → ∃ m, IsMin S m ∧ Sub m l
  | n, l, hn, hl => by
    by_cases h : ∃ o ∈ S, Sub o l ∧ o ≠ l
    · obtain ⟨o, ho, h1, h2⟩ := h
      have hlt := (Sub.lt (ha o ho) (ha l hl) h1).mpr h2
      cases n with
      | zero => omega
      | succ n =>
        obtain ⟨m, hm, hs⟩ := min_below ha n o (by omega) ho
        exact ⟨m, hm, hs.trans h1⟩
    · refine ⟨l, ⟨hl, fun o ho hs => ?_⟩, Sub.refl l⟩
      exact Classical.byContradiction fun hne => h ⟨o, ho, hs, hne⟩
theorem min_ex {S : List (List Int)} (ha : ∀ l ∈ S, AscI l) {l : List Int} (hl : l ∈ S) : ∃ m, IsMin S m ∧ Sub m l := min_below ha l.length l (Nat.le_refl _) hl
/-- l has a thing of each lot -/
def Tch (B : List (List Int)) (l : List Int) : Prop := ∀ b ∈ B, ∃ x, x ∈ l ∧ x ∈ b
theorem Tch.mono {B : List (List Int)} {l m : List Int} (h : Tch B l) (hs : Sub l m) : Tch B m := fun b hb => by
  obtain ⟨x, h1, h2⟩ := h b hb
  exact ⟨x, hs x h1, h2⟩
theorem tch_min {B : List (List Int)} (ha : ∀ l ∈ B, AscI l) {l : List Int} {B' : List (List Int)} (hB : ∀ b, b ∈ B' ↔ IsMin B b) : Tch B' l ↔ Tch B l :=
  ⟨fun h b hb => by
    obtain ⟨m, hm, hs⟩ := min_ex ha hb
    obtain ⟨x, h1, h2⟩ := h m ((hB m).mpr hm)
    exact ⟨x, h1, hs x h2⟩, fun h b hb => h b ((hB b).mp hb).1⟩
/-- the least touching lots of k things -/
def IsTc (k : Nat) (B : List (List Int)) (l : List Int) : Prop := l ∈ lotsOf k ∧ Tch B l ∧ ∀ o ∈ lotsOf k, Tch B o → Sub o l → o = l
theorem tc_below {k : Nat} {B : List (List Int)} {l : List Int} (hl : l ∈ lotsOf k) (ht : Tch B l) : ∃ m, IsTc k B m ∧ Sub m l := by
  classical
  have ha : ∀ o ∈ (lotsOf k).filter (fun o => decide (Tch B o)), AscI o := fun o ho => (mem_lotsOf.mp (List.mem_filter.mp ho).1).1
  obtain ⟨m, ⟨h1, h2⟩, hs⟩ := min_ex ha (List.mem_filter.mpr ⟨hl, decide_eq_true ht⟩)
  have h3 := List.mem_filter.mp h1
  exact ⟨m, ⟨h3.1, of_decide_eq_true h3.2, fun o ho hto hso => h2 o (List.mem_filter.mpr ⟨ho, decide_eq_true hto⟩) hso⟩, hs⟩
/-- what touches all least touching lots has a lot within it -/
theorem tch_tc {k : Nat} {B D : List (List Int)} (hB : ∀ b ∈ B, b ∈ lotsOf k) (hD : ∀ d, d ∈ D ↔ IsTc k B d) {l : List Int} : Tch D l ↔ ∃ b ∈ B, Sub b l := by
  constructor
  · intro h
    refine Classical.byContradiction fun hn => ?_
    have hc : Tch B (rest k l) := fun b hb => by
      refine Classical.byContradiction fun hz => hn ⟨b, hb, fun x hx => ?_⟩
      refine Classical.byContradiction fun hxl => hz ⟨x, mem_rest.mpr ⟨(mem_lotsOf.mp (hB b hb)).2 x hx, hxl⟩, hx⟩
    obtain ⟨m, hm, hs⟩ := tc_below (rest_lot k l) hc
    obtain ⟨x, h1, h2⟩ := h m ((hD m).mpr hm)
    exact (mem_rest.mp (hs x h2)).2 h1
  · rintro ⟨b, hb, hs⟩ d hd
    obtain ⟨x, h1, h2⟩ := ((hD d).mp hd).2.1 b hb
    exact ⟨x, hs x h2, h1⟩
/-- Edmonds and Fulkerson: the touching lots of the touching lots are the least ones -/
theorem tc_tc {k : Nat} {B D : List (List Int)} (hB : ∀ b ∈ B, b ∈ lotsOf k) (hD : ∀ d, d ∈ D ↔ IsTc k B d) {l : List Int} : IsTc k D l ↔ IsMin B l := by
  constructor
  · rintro ⟨h1, h2, h3⟩
    obtain ⟨b, hb, hs⟩ := (tch_tc hB hD).mp h2
    have e := h3 b (hB b hb) ((tch_tc hB hD).mpr ⟨b, hb, Sub.refl b⟩) hs
    subst e
    exact ⟨hb, fun o ho hso => h3 o (hB o ho) ((tch_tc hB hD).mpr ⟨o, ho, Sub.refl o⟩) hso⟩
  · rintro ⟨h1, h2⟩
    refine ⟨hB l h1, (tch_tc hB hD).mpr ⟨l, h1, Sub.refl l⟩, fun o ho hto hso => ?_⟩
    obtain ⟨b, hb, hs⟩ := (tch_tc hB hD).mp hto
    have e := h2 b hb (hs.trans hso)
    subst e
    exact Sub.anti (mem_lotsOf.mp ho).1 (mem_lotsOf.mp (hB b h1)).1 hso hs
theorem tc_none {k : Nat} {B : List (List Int)} (h : [] ∈ B) {l : List Int} : ¬ IsTc k B l := fun z => by
  obtain ⟨x, _, h2⟩ := z.2.1 [] h
  cases h2
theorem tc_some {k : Nat} {B : List (List Int)} (hB : ∀ b ∈ B, b ∈ lotsOf k) (h : [] ∉ B) : ∃ l, IsTc k B l := by
  have hc : Tch B (rest k []) := fun b hb => by
    cases b with
    | nil => exact absurd hb h
    | cons x b => exact ⟨x, mem_rest.mpr ⟨(mem_lotsOf.mp (hB _ hb)).2 x (List.mem_cons_self ..), by simp⟩, List.mem_cons_self ..⟩
  obtain ⟨m, hm, _⟩ := tc_below (rest_lot k []) hc
  exact ⟨m, hm⟩
theorem tc_nil {k : Nat} {l : List Int} : IsTc k [] l ↔ l = [] := by
  constructor
  · rintro ⟨_, _, h⟩
    have t0 : Tch [] [] := fun b hb => absurd hb (by simp)
    exact (h [] (mem_lotsOf.mpr ⟨.nil, fun x hx => absurd hx (by simp)⟩) t0 fun x hx => absurd hx (by simp)).symm
  · rintro rfl
    have t0 : Tch [] [] := fun b hb => absurd hb (by simp)
    refine ⟨mem_lotsOf.mpr ⟨.nil, fun x hx => absurd hx (by simp)⟩, t0, fun o _ _ hs => ?_⟩
    cases o with
    | nil => rfl
    | cons x o => exact absurd (hs x (List.mem_cons_self ..)) (by simp)
end PM

end

section
set_option maxHeartbeats 4000000
/-! PM, plain part X: typed rules of starred displays, max and min with default, defs as values, two clauses. -/
namespace PM
variable {F : Fns} {cl : Option (Nat × Clo)} {ρ ρ1 : Env} {m m1 m2 m3 : M} {α β γ : Type}
/-- a def as a value -/
def eF (x : PySem.Str) (_ : Unit) : D := .fn x
theorem ed_nil {e1 : α → D} : evd F cl .nil ρ m = .ok (([] : List α).map e1) m := by simp [evd]
theorem ed_cons {a : E} {ds : Eds} {e1 : α → D} {x : α} {xs : List α} (h : ev F cl a ρ m = .ok (e1 x) m1) (hr : evd F cl ds ρ m1 = .ok (xs.map e1) m2) : evd F cl (.cons a ds) ρ m = .ok ((x :: xs).map e1) m2 := by
  rw [evd, h, Res.bind_ok, hr, Res.bind_ok]; rfl
theorem ed_starL {a : E} {ds : Eds} {e1 : α → D} {xs ys : List α} (h : ev F cl a ρ m = .ok (eL e1 xs) m1) (hr : evd F cl ds ρ m1 = .ok (ys.map e1) m2) : evd F cl (.star a ds) ρ m = .ok ((xs ++ ys).map e1) m2 := by
  rw [evd, h, Res.bind_ok]
  show (opt (seqOf (.lst (xs.map e1)) m1) m1).bind _ = _
  rw [seqOf_lst, opt_some, Res.bind_ok, hr, Res.bind_ok, List.map_append]
theorem ed_starT {a : E} {ds : Eds} {e1 : α → D} {xs ys : List α} (h : ev F cl a ρ m = .ok (eT e1 xs) m1) (hr : evd F cl ds ρ m1 = .ok (ys.map e1) m2) : evd F cl (.star a ds) ρ m = .ok ((xs ++ ys).map e1) m2 := by
  rw [evd, h, Res.bind_ok]
  show (opt (seqOf (.tup (xs.map e1)) m1) m1).bind _ = _
  rw [seqOf_tup, opt_some, Res.bind_ok, hr, Res.bind_ok, List.map_append]
theorem ed_starR {a : E} {ds : Eds} {l : Nat} {e1 : α → D} {xs ys : List α} (h : ev F cl a ρ m = .ok (.ref l) m1) (hl : m1[l]? = some (.lst (xs.map e1))) (hr : evd F cl ds ρ m1 = .ok (ys.map e1) m2) : evd F cl (.star a ds) ρ m = .ok ((xs ++ ys).map e1) m2 := by
  rw [evd, h, Res.bind_ok]
  have : seqOf (.ref l) m1 = some (xs.map e1) := by unfold seqOf items; simp only [hl]
  rw [this, opt_some, Res.bind_ok, hr, Res.bind_ok, List.map_append]
theorem e_dspT {ds : Eds} {k : Bool} {e1 : α → D} {xs : List α} (h : evd F cl ds ρ m = .ok (xs.map e1) m1) (hc : xs.length ≤ 16777216) : ev F cl (.dsp true k ds) ρ m = .ok (eT e1 xs) m1 := by
  rw [ev, h, Res.bind_ok, if_pos rfl, o_tup (by rw [List.length_map]; exact hc)]; rfl
theorem e_dspL {ds : Eds} {e1 : α → D} {xs : List α} (h : evd F cl ds ρ m = .ok (xs.map e1) m1) (hc : xs.length ≤ 16777216) : ev F cl (.dsp false false ds) ρ m = .ok (eL e1 xs) m1 := by
  rw [ev, h, Res.bind_ok, if_neg (by decide), o_lst (by rw [List.length_map]; exact hc)]; rfl
theorem e_dspR {ds : Eds} {e1 : α → D} {xs : List α} (h : evd F cl ds ρ m = .ok (xs.map e1) m1) (hc : xs.length ≤ 16777216) (hp : pureL (xs.map e1) = true) : ev F cl (.dsp false true ds) ρ m = .ok (.ref m1.length) (m1 ++ [.lst (xs.map e1)]) := by
  rw [ev, h, Res.bind_ok, if_neg (by decide), o_lstR (by rw [List.length_map]; exact hc) hp]
/-- max, min of ints, or the default -/
def mmO (mx : Bool) (d : Int) : List Int → Int
  | [] => d
  | i :: is => mmI mx i is
def mmN (mx : Bool) : List Int → Option Int
  | [] => none
  | i :: is => some (mmI mx i is)
theorem mmB_ints {mx : Bool} {i : Int} {is : List Int} : mmB mx (eL D.int (i :: is)) m = some (.int (mmI mx i is)) := by
  show (items (.lst ((i :: is).map D.int)) m).bind _ = _
  rw [items_lst, Option.bind_some, asInts_map]
theorem mmB_lots {mx : Bool} {l : List Int} {ls : List (List Int)} : mmB mx (eL lotD (l :: ls)) m = some (lotD (mmL mx l ls)) := by
  show (items (.lst ((l :: ls).map lotD)) m).bind _ = _
  rw [items_lst, Option.bind_some]
  have : asInts ((l :: ls).map lotD) = none := rfl
  rw [this, lots_map]
theorem e_mmO {a b : E} {mx : Bool} {is : List Int} {d : Int} (ha : ev F cl a ρ m = .ok (eL D.int is) m1) (hb : ev F cl b ρ m1 = .ok (.int d) m2) : ev F cl (.mm mx a b) ρ m = .ok (.int (mmO mx d is)) m2 := by
  rw [ev, ha, Res.bind_ok, hb, Res.bind_ok]
  have : mmD mx (eL D.int is) (.int d) m2 = some (.int (mmO mx d is)) := by
    cases is with
    | nil => rfl
    | cons i is => exact mmB_ints
  rw [this, opt_some]
theorem e_mmN {a b : E} {mx : Bool} {is : List Int} (ha : ev F cl a ρ m = .ok (eL D.int is) m1) (hb : ev F cl b ρ m1 = .ok .non m2) : ev F cl (.mm mx a b) ρ m = .ok (eO D.int (mmN mx is)) m2 := by
  rw [ev, ha, Res.bind_ok, hb, Res.bind_ok]
  have : mmD mx (eL D.int is) .non m2 = some (eO D.int (mmN mx is)) := by
    cases is with
    | nil => rfl
    | cons i is => exact mmB_ints
  rw [this, opt_some]
/-- min, max of lots, or none -/
def mmLN (mx : Bool) : List (List Int) → Option (List Int)
  | [] => none
  | l :: ls => some (mmL mx l ls)
theorem e_mmLN {a b : E} {mx : Bool} {ls : List (List Int)} (ha : ev F cl a ρ m = .ok (eL lotD ls) m1) (hb : ev F cl b ρ m1 = .ok .non m2) : ev F cl (.mm mx a b) ρ m = .ok (eO lotD (mmLN mx ls)) m2 := by
  rw [ev, ha, Res.bind_ok, hb, Res.bind_ok]
  have : mmD mx (eL lotD ls) .non m2 = some (eO lotD (mmLN mx ls)) := by
    cases ls with
    | nil => rfl
    | cons i is => exact mmB_lots
  rw [this, opt_some]
def mmLO (mx : Bool) : List (List Int) → List Int
  | [] => []
  | l :: ls => mmL mx l ls
theorem e_trng {e : E} {j : Int} (he : ev F cl e ρ m = .ok (.int j) m1) (hj : -(2 ^ 62) ≤ j ∧ j < 2 ^ 62 ∧ (rngS 0 j).length ≤ 16777216) : ev F cl (.trng e) ρ m = .ok (eT D.int (rngS 0 j)) m1 := by
  obtain ⟨h1, h2, h3⟩ := hj
  rw [ev, he, Res.bind_ok]
  have e1 : rngOf [.int j] = some (rngL 0 j) := if_pos ⟨h1, h2⟩
  have e2 : rngL 0 j = (rngS 0 j).map D.int := by unfold rngL rngS; rw [List.map_map]; rfl
  rw [e1, opt_some, Res.bind_ok, e2, o_tup (by rw [List.length_map]; exact h3)]
  rfl
theorem e_lset {e : E} {is : List Int} (he : ev F cl e ρ m = .ok (eL D.int is) m1) (hl : is.length < 64) : ev F cl (.lset e) ρ m = .ok (.int ((dedZ is).length : Int)) m1 := by
  rw [ev, he, Res.bind_ok]
  have : (items (eL D.int is) m1).bind asInts = some is := by
    show (items (.lst (is.map D.int)) m1).bind asInts = _
    rw [items_lst, Option.bind_some, asInts_map]
  rw [this]
  simp only [if_pos hl]
theorem st_skip {c : E} {a : Ss} {k : Bool} (hc : ev F cl c ρ m = .ok (.bl k) m1) (hk : k = false) : exS F cl (.ite c a .nil) ρ m = .nx ρ m1 := by
  subst hk
  rw [y_ite, hc, Res.bind_ok, boolOf_bl, of_ok, if_neg (by decide)]
  rw [exSs]
theorem e_max1 {a : E} {k : Bool} {is : List Int} (ha : ev F cl a ρ m = .ok (eL D.int is) m1) (h : 0 < is.length) : ev F cl (.prim .max k (.cons a .nil)) ρ m = .ok (.int (mmO true 0 is)) m1 := by
  cases is with
  | nil => simp at h
  | cons i is =>
    rw [x_prim, es_cons ha es_nil, Res.bind_ok]
    have : prim .max [eL D.int (i :: is)] m1 = .val (.int (mmO true 0 (i :: is))) := by
      show (match mmB true (eL D.int (i :: is)) m1 with | some z => Raw.val z | none => .bad) = _
      rw [mmB_ints]; rfl
    rw [this]; rfl
theorem e_min1 {a : E} {k : Bool} {is : List Int} (ha : ev F cl a ρ m = .ok (eL D.int is) m1) (h : 0 < is.length) : ev F cl (.prim .min k (.cons a .nil)) ρ m = .ok (.int (mmO false 0 is)) m1 := by
  cases is with
  | nil => simp at h
  | cons i is =>
    rw [x_prim, es_cons ha es_nil, Res.bind_ok]
    have : prim .min [eL D.int (i :: is)] m1 = .val (.int (mmO false 0 (i :: is))) := by
      show (match mmB false (eL D.int (i :: is)) m1 with | some z => Raw.val z | none => .bad) = _
      rw [mmB_ints]; rfl
    rw [this]; rfl
theorem e_min1L {a : E} {k : Bool} {ls : List (List Int)} (ha : ev F cl a ρ m = .ok (eL lotD ls) m1) (h : 0 < ls.length) : ev F cl (.prim .min k (.cons a .nil)) ρ m = .ok (lotD (mmLO false ls)) m1 := by
  cases ls with
  | nil => simp at h
  | cons i is =>
    rw [x_prim, es_cons ha es_nil, Res.bind_ok]
    have : prim .min [eL lotD (i :: is)] m1 = .val (lotD (mmLO false (i :: is))) := by
      show (match mmB false (eL lotD (i :: is)) m1 with | some z => Raw.val z | none => .bad) = _
      rw [mmB_lots]; rfl
    rw [this]; rfl
theorem e_sortedZ {a : E} {is : List Int} (ha : ev F cl a ρ m = .ok (eL D.int is) m1) (h : is.length < 64) : ev F cl (.prim .sorted false (.cons a .nil)) ρ m = .ok (eL D.int (sortZ is)) m1 := by
  rw [x_prim, es_cons ha es_nil, Res.bind_ok]
  have hz : (sortZ is).length = is.length := (sortZ_perm is).length_eq
  cases is with
  | nil =>
    have : prim .sorted [eL D.int []] m1 = .lst ((sortLots []).map lotD) := rfl
    rw [this, show sortLots [] = [] from by simp [sortLots]]; rfl
  | cons i is =>
    have : prim .sorted [eL D.int (i :: is)] m1 = .lst ((sortZ (i :: is)).map D.int) := by
      show (match (items (.lst ((i :: is).map D.int)) m1).bind lots? with | some ls => Raw.lst ((sortLots ls).map lotD) | none => (match (items (.lst ((i :: is).map D.int)) m1).bind asInts with | some is => if is.length < 64 then .lst ((sortZ is).map .int) else .bad | none => (match items (.lst ((i :: is).map D.int)) m1 with | some xs => if srtB xs then .lst (sortA xs) else .bad | none => .bad))) = _
      rw [items_lst, Option.bind_some, Option.bind_some, asInts_map]
      have : lots? ((i :: is).map D.int) = none := rfl
      rw [this]
      simp only [if_pos h]
    rw [this, o_lst (by rw [List.length_map, hz]; exact Nat.le_trans (Nat.le_of_lt h) (by decide))]; rfl
theorem e_f {x : PySem.Str} : ev F cl (.f x) ρ m = .ok (.fn x) m := by simp [ev]
theorem e_callV {i : Nat} {x : PySem.Str} {es : Es} {ds : List D} {d : D} (hv : get ρ i = some (.fn x)) (hp : (F.ps x).isSome = true) (hs : evs F cl es ρ m = .ok ds m1) (hc : F.call x ds m1 = .ok d m2) : ev F cl (.callV i es) ρ m = .ok d m2 := by
  rw [ev, hv]
  simp only [hp, if_true]
  rw [hs, Res.bind_ok, hc]
/-! ### two clauses -/
theorem flt_true (xs : List α) : xs.filter (fun _ => true) = xs := List.filter_eq_self.mpr fun _ _ => rfl
theorem cN : condR F cl .no ρ m = .ok true m := rfl
theorem cY {c : E} {b : Bool} (h : ev F cl c ρ m = .ok (.bl b) m1) : condR F cl (.yes c) ρ m = .ok b m1 := by
  show (ev F cl c ρ m).bind boolOf = _
  rw [h]; rfl
theorem compF_map {e1 : α → D} {e3 : γ → D} {b1 : D → M → Res Env} {cnd : Env → M → Res Bool} {inner : Env → M → Res (List D)} {r : α → Env} {p : α → Bool} {g : α → List γ} : ∀ {xs : List α}, (∀ x, x ∈ xs → b1 (e1 x) m = .ok (r x) m) → (∀ x, x ∈ xs → cnd (r x) m = .ok (p x) m) → (∀ x, x ∈ xs → p x = true → inner (r x) m = .ok ((g x).map e3) m) →
    compF b1 cnd inner (xs.map e1) m = .ok (((xs.filter p).flatMap g).map e3) m
  | [], _, _, _ => rfl
  | x :: xs, hb, hc, he => by
    have ih := compF_map (xs := xs) (e1 := e1) (e3 := e3) (b1 := b1) (cnd := cnd) (inner := inner) (r := r) (p := p) (g := g) (fun y hy => hb y (List.mem_cons_of_mem _ hy)) (fun y hy => hc y (List.mem_cons_of_mem _ hy)) (fun y hy => he y (List.mem_cons_of_mem _ hy))
    rw [List.map_cons, compF, hb x (List.mem_cons_self ..), Res.bind_ok, hc x (List.mem_cons_self ..), Res.bind_ok]
    cases hp : p x with
    | true =>
      rw [if_pos rfl, he x (List.mem_cons_self ..) hp, Res.bind_ok, ih, Res.bind_ok, List.filter_cons, hp, if_pos rfl, List.flatMap_cons, List.map_append]
    | false =>
      rw [if_neg (by decide), ih, List.filter_cons, hp, if_neg (by decide)]
theorem compL_map2 {e1 : α → D} {e2 : β → D} {b1 : D → M → Res Env} {cnd : Env → M → Res Bool} {elt : Env → M → Res D} {r : α → Env} {p : α → Bool} {f : α → β} : ∀ {xs : List α}, (∀ x, x ∈ xs → b1 (e1 x) m = .ok (r x) m) → (∀ x, x ∈ xs → cnd (r x) m = .ok (p x) m) → (∀ x, x ∈ xs → p x = true → elt (r x) m = .ok (e2 (f x)) m) →
    compL b1 cnd elt (xs.map e1) m = .ok (((xs.filter p).map f).map e2) m
  | [], _, _, _ => rfl
  | x :: xs, hb, hc, he => by
    have ih := compL_map2 (xs := xs) (e1 := e1) (e2 := e2) (b1 := b1) (cnd := cnd) (elt := elt) (r := r) (p := p) (f := f) (fun y hy => hb y (List.mem_cons_of_mem _ hy)) (fun y hy => hc y (List.mem_cons_of_mem _ hy)) (fun y hy => he y (List.mem_cons_of_mem _ hy))
    rw [List.map_cons, compL, hb x (List.mem_cons_self ..), Res.bind_ok, hc x (List.mem_cons_self ..), Res.bind_ok]
    cases hp : p x with
    | true =>
      rw [if_pos rfl, he x (List.mem_cons_self ..) hp, Res.bind_ok, ih, Res.bind_ok, List.filter_cons, hp, if_pos rfl]; rfl
    | false =>
      rw [if_neg (by decide), ih, List.filter_cons, hp, if_neg (by decide)]
theorem e_comp2 {own : List (PySem.Str × Nat)} {t t1 : Tg} {it it1 : It} {c c1 : Eo} {e : E} {e1 : α → D} {e2 : β → D} {e3 : γ → D} {xs xs' : List α} {ys ys' : α → List β} {r : α → Env} {r1 : α → β → Env} {p : α → Bool} {q : α → β → Bool} {f : α → β → γ}
    (hi : evi F cl it ρ m = .ok (xs.map e1) m1) (hl : xs.length ≤ 16777216) (hb : ∀ x, bt F cl t (e1 x) (wipe ρ (own.map (·.2))) m1 = .ok (r x) m1) (hc : ∀ x, x ∈ xs → condR F cl c (r x) m1 = .ok (p x) m1)
    (hi1 : ∀ x, x ∈ xs → p x = true → evi F cl it1 (r x) m1 = .ok ((ys x).map e2) m1) (hl1 : ∀ x, x ∈ xs → (ys x).length ≤ 16777216) (hb1 : ∀ x y, bt F cl t1 (e2 y) (wipe (r x) (tgN t1)) m1 = .ok (r1 x y) m1) (hc1 : ∀ x y, x ∈ xs → y ∈ ys x → condR F cl c1 (r1 x y) m1 = .ok (q x y) m1)
    (he : ∀ x y, x ∈ xs → p x = true → y ∈ ys x → q x y = true → ev F cl e (r1 x y) m1 = .ok (e3 (f x y)) m1) (hx : xs.filter p = xs') (hy : ∀ x, (ys x).filter (q x) = ys' x) (hz : (xs'.flatMap fun x => (ys' x).map (f x)).length ≤ 16777216) :
    ev F cl (.comp2 false own t it c t1 it1 c1 e) ρ m = .ok (.lst ((xs'.flatMap fun x => (ys' x).map (f x)).map e3)) m1 := by
  rw [ev_comp2, hi, Res.bind_ok, if_pos (by rw [List.length_map]; exact hl)]
  rw [compF_map (r := r) (p := p) (g := fun x => (ys' x).map (f x)) (e3 := e3) (fun x _ => hb x) hc fun x hx' hp => ?_]
  · rw [Res.nox_ok, Res.bind_ok, hx, o_lst (by rw [List.length_map]; exact hz)]
  · unfold innR
    rw [hi1 x hx' hp, Res.bind_ok, if_pos (by rw [List.length_map]; exact hl1 x hx')]
    rw [compL_map2 (r := r1 x) (p := q x) (f := f x) (e2 := e3) (fun y _ => hb1 x y) (fun y hy' => hc1 x y hx' hy') fun y hy' hq => he x y hx' hp hy' hq]
    rw [hy x]
end PM
namespace PM
open PySem (Str)
/-! ### more typed rules (session 3) -/
section
variable {α β γ : Type} {F : Fns} {cl : Option (Nat × Clo)} {ρ ρ1 ρ2 : Env} {m m1 m2 m3 : M} {a b c e : E} {es : Es}
theorem e_rep {e1 : α → D} {xs : List α} {j : Int} (h : evs F cl es ρ m = .ok (xs.map e1) m1) (hk : ev F cl a ρ m1 = .ok (.int j) m2) (hj : xs.length ≤ 16777216 ∧ -4611686018427387904 ≤ j ∧ j < 4611686018427387904 ∧ xs.length * j.toNat ≤ 16777216) :
    ev F cl (.rep es a) ρ m = .ok (eL e1 (List.replicate j.toNat xs).flatten) m2 := by
  obtain ⟨h1, h2, h3, h4⟩ := hj
  rw [ev, h, Res.bind_ok, if_pos (by rw [List.length_map]; exact h1), hk, Res.bind_ok]
  show (if _ then _ else _) = _
  rw [if_pos ⟨h2, h3, by rw [List.length_map]; exact h4⟩]
  have e2 : (List.replicate j.toNat (xs.map e1)).flatten = (List.replicate j.toNat xs).flatten.map e1 := by
    rw [List.map_flatten, List.map_replicate]
  have e3 : (List.replicate j.toNat (xs.map e1)).flatten.length ≤ cap := by
    rw [List.length_flatten, List.map_replicate, List.sum_replicate_nat, List.length_map, Nat.mul_comm]; exact h4
  show (if _ then _ else _) = _
  rw [if_pos e3, e2]; rfl
theorem countP_eqv [DecidableEq α] (e : α → D) [h : QEnc 8 e] (y : α) (xs : List α) : ((xs.map e).countP fun z => z.eqv (e y)) = xs.countP fun z => decide (z = y) := by
  rw [List.countP_map]
  congr 1
  funext z
  exact h.eqv z y
theorem e_cnt [DecidableEq α] (e1 : α → D) [h : QEnc 8 e1] {xs : List α} {y : α} (ha : ev F cl a ρ m = .ok (eL e1 xs) m1) (hb : ev F cl b ρ m1 = .ok (e1 y) m2) : ev F cl (.cnt a b) ρ m = .ok (.int ((xs.countP fun z => decide (z = y) : Nat) : Int)) m2 := by
  rw [ev, ha, Res.bind_ok]
  show (ev F cl b ρ m1).bind _ = _
  rw [hb, Res.bind_ok]
  have e2 : cntD (eL e1 xs) (e1 y) m2 = some ((xs.countP fun z => decide (z = y) : Nat) : Int) := by
    show (if ((xs.map e1).all ok8 && ok8 (e1 y)) = true then some (((xs.map e1).countP fun z => z.eqv (e1 y) : Nat) : Int) else none) = _
    rw [all_ok8 e1 xs, show ok8 (e1 y) = true from h.okd y, countP_eqv]; rfl
  rw [e2]; rfl
theorem e_lsetL {ls : List (List Int)} (he : ev F cl a ρ m = .ok (eL lotD ls) m1) (hl : ls.length < 64) : ev F cl (.lset a) ρ m = .ok (.int ((dedup ls).length : Int)) m1 := by
  rw [ev, he, Res.bind_ok]
  have e0 : items (eL lotD ls) m1 = some (ls.map lotD) := rfl
  rw [e0]
  simp only [Option.bind_some]
  cases ls with
  | nil => rfl
  | cons l ls =>
    have e1 : asInts ((l :: ls).map lotD) = none := rfl
    rw [e1, lots_map]
    show (if _ then _ else _) = _
    rw [if_pos hl]
theorem e_isi {k : Bool} {d : D} {t n : String} {x : Str} (ha : ev F cl a ρ m = .ok d m1) (ht : tyOf d = some t) (hn : n ∈ ["int", "bool", "str", "tuple", "list"]) : ev F cl (.prim .isinst k (.cons a (.cons (.t x n) .nil))) ρ m = .ok (.bl (isTy t n)) m1 := by
  rw [ev, evs, ha, Res.bind_ok, evs, ev]
  simp only [Res.bind_ok, evs]
  show Raw.out k (prim .isinst [d, .ty n] m1) m1 = _
  unfold prim
  simp only [ht]
  rw [if_pos hn]; rfl
theorem e_bor {i j : Int} {k : Bool} (ha : ev F cl a ρ m = .ok (.int i) m1) (hb : ev F cl b ρ m1 = .ok (.int j) m2) : ev F cl (.bin .bor k a b) ρ m = .ok (.int (PySem.Builtin.bitOr i j)) m2 := by
  rw [x_bin, ha, Res.bind_ok, hb, Res.bind_ok]; rfl
theorem seqOf_tupE {e1 : α → D} {xs : List α} : seqOf (eT e1 xs) m = some (xs.map e1) := rfl
theorem e_max1T {k : Bool} {is : List Int} (ha : ev F cl a ρ m = .ok (lotD is) m1) (h : 0 < is.length) : ev F cl (.prim .max k (.cons a .nil)) ρ m = .ok (.int (mmO true 0 is)) m1 := by
  rw [ev, evs, ha, Res.bind_ok, evs]
  simp only [Res.bind_ok]
  cases is with
  | nil => simp at h
  | cons i is =>
    have : mmB true (lotD (i :: is)) m1 = some (.int (mmI true i is)) := by
      show (some ((i :: is).map D.int)).bind _ = _
      simp only [Option.bind_some, asInts_map]
    show Raw.out k (match mmB true (lotD (i :: is)) m1 with
      | some z => .val z
      | none => .bad) m1 = _
    rw [this]; rfl
theorem e_min1T {k : Bool} {is : List Int} (ha : ev F cl a ρ m = .ok (lotD is) m1) (h : 0 < is.length) : ev F cl (.prim .min k (.cons a .nil)) ρ m = .ok (.int (mmO false 0 is)) m1 := by
  rw [ev, evs, ha, Res.bind_ok, evs]
  simp only [Res.bind_ok]
  cases is with
  | nil => simp at h
  | cons i is =>
    have : mmB false (lotD (i :: is)) m1 = some (.int (mmI false i is)) := by
      show (some ((i :: is).map D.int)).bind _ = _
      simp only [Option.bind_some, asInts_map]
    show Raw.out k (match mmB false (lotD (i :: is)) m1 with
      | some z => .val z
      | none => .bad) m1 = _
    rw [this]; rfl
theorem fin_frzE {e1 : α → D} [PEnc e1] {xs : List α} {m m' : M} {l : Nat} (h1 : m.length ≤ l) (h2 : m'[l]? = some (.lst (xs.map e1))) (h3 : m'.take m.length = m) : finish true m.length (.ret (.ref l) m') = .ok (eL e1 xs) m := by
  show close true m.length (.ref l) m' = _
  unfold close
  simp only [if_true, if_pos h1, h2]
  rw [if_pos (show (D.lst (xs.map e1)).pure = true by rw [pure_lst]; exact pureL_map xs), h3]; rfl
/-- what stands in a loop's other names -/
def jfold {σ J' : Type} (step : σ → α → σ) (jstep : σ → J' → α → J') (s : σ) (j : J') (xs : List α) : J' := (xs.foldl (fun p x => (step p.1 x, jstep p.1 p.2 x)) (s, j)).2
theorem jfold_fst {σ J' : Type} (step : σ → α → σ) (jstep : σ → J' → α → J') : ∀ (xs : List α) (s : σ) (j : J'), (xs.foldl (fun p x => (step p.1 x, jstep p.1 p.2 x)) (s, j)).1 = xs.foldl step s
  | [], _, _ => rfl
  | x :: xs, s, j => jfold_fst step jstep xs (step s x) (jstep s j x)
theorem st_forD {σ J' : Type} {e1 : α → D} (G : σ → J' → Env) (Gm : σ → M) (step : σ → α → σ) (jstep : σ → J' → α → J') (Inv : Nat → σ → Prop) {t : Tg} {it : It} {b : Ss} {xs : List α} {s : σ} {j : J'} (hi : evi F cl it ρ m = .ok (xs.map e1) (Gm s)) (hρ : ρ = G s j)
    (hs : ∀ i s j x, xs[i]? = some x → x ∈ xs → Inv i s → ∃ ρ1, bt F cl t (e1 x) (G s j) (Gm s) = .ok ρ1 (Gm s) ∧ exSs F cl b ρ1 (Gm s) = .nx (G (step s x) (jstep s j x)) (Gm (step s x)) ∧ Inv (i + 1) (step s x)) (h0 : Inv 0 s) :
    exS F cl (.for_ t it b) ρ m = .nx (G (xs.foldl step s) (jfold step jstep s j xs)) (Gm (xs.foldl step s)) := by
  obtain ⟨⟨_, e⟩, _⟩ := st_for (σ := σ × J') (J := Unit) (F := F) (cl := cl) (ρ := ρ) (m := m) (e1 := e1) (fun p _ => G p.1 p.2) (fun p => Gm p.1) (fun p x => (step p.1 x, jstep p.1 p.2 x)) (fun i p => Inv i p.1) (t := t) (it := it) (b := b) (xs := xs) (s := (s, j)) (j := ()) hi hρ
    (fun i p _ x h1 h2 h3 => by
      obtain ⟨ρ1, q1, q2, q3⟩ := hs i p.1 p.2 x h1 h2 h3
      exact ⟨ρ1, (), q1, q2, q3⟩) h0
  rw [jfold_fst] at e
  exact e
end
end PM
namespace PM
open PySem (Str)
section
variable {α β γ : Type} {F : Fns} {cl : Option (Nat × Clo)} {ρ ρ1 ρ2 : Env} {m m1 m2 m3 : M} {a b c e : E} {es : Es}
theorem e_getS [Inhabited α] {e1 : α → D} {o : Option α} (h : ev F cl e ρ m = .ok (eO e1 o) m1) (ho : o.isSome = true) : ev F cl e ρ m = .ok (e1 (o.getD default)) m1 := by
  cases o with
  | none => cases ho
  | some x => exact h
theorem e_vS [Inhabited α] {e1 : α → D} {o : Option α} {i : Nat} (h : get ρ i = some (eO e1 o)) (ho : o.isSome = true) : ev F cl (.v i) ρ m = .ok (e1 (o.getD default)) m := by
  cases o with
  | none => cases ho
  | some x => exact e_v h
theorem opt_some_of {o : Option α} (h : o.isNone = false) : o.isSome = true := by cases o <;> simp_all
theorem get_app {m0 xs : M} {l : Nat} {x : Cell} (h : m0[l]? = some x) : (m0 ++ xs)[l]? = some x := by
  rw [List.getElem?_append_left (List.getElem?_eq_some_iff.mp h).1]; exact h
theorem tk_app {m0 m1 xs : M} (h : m1.take m0.length = m0) : (m1 ++ xs).take m0.length = m0 := by
  have hl : m0.length ≤ m1.length := by
    have := congrArg List.length h
    rw [List.length_take] at this; omega
  rw [List.take_append_of_le_length hl]; exact h
theorem tk_len {m0 m1 : M} (h : m1.take m0.length = m0) : m0.length ≤ m1.length := by
  have := congrArg List.length h
  rw [List.length_take] at this; omega
theorem e_ixR {e1 : α → D} {xs : List α} {l : Nat} {k : Int} {x : α} (ha : ev F cl a ρ m = .ok (.ref l) m1) (hi : ev F cl b ρ m1 = .ok (.int k) m2) (hl : m2[l]? = some (.lst (xs.map e1))) (hx : (ixN xs.length k).bind (fun j => xs[j]?) = some x) : ev F cl (.ix a b) ρ m = .ok (e1 x) m2 := by
  rw [x_ix, ha, Res.bind_ok, hi, Res.bind_ok]
  have : ixD (.ref l) (.int k) m2 = some (e1 x) := by
    have e0 : seqOf (.ref l) m2 = some (xs.map e1) := by
      show items (.ref l) m2 = _
      unfold items
      simp only [hl]
    unfold ixD
    simp only [e0, List.length_map]
    cases h : ixN xs.length k with
    | none => rw [h] at hx; cases hx
    | some j =>
      rw [h] at hx
      simp only [Option.bind_some, List.getElem?_map] at hx ⊢
      rw [hx]; rfl
  rw [this]; rfl
theorem deref_ref {l : Nat} {ds : List D} (hl : m[l]? = some (.lst ds)) : deref (.ref l) m = .lst ds := by
  have e0 : items (.ref l) m = some ds := by
    unfold items
    simp only [hl]
  unfold deref
  rw [e0]
theorem e_neR [DecidableEq α] (e1 : α → D) [h : QEnc 7 e1] {xs : List α} {l : Nat} (ha : ev F cl a ρ m = .ok (.ref l) m1) (hl : m1[l]? = some (.lst (xs.map e1))) : ev F cl (.cmp .ne a (.lst false .nil)) ρ m = .ok (.bl (!decide (xs = []))) m1 := by
  rw [x_cmp, ha, Res.bind_ok, x_lst, x_nil, Res.bind_ok]
  have e0 : (Raw.lst []).out false m1 = .ok (.lst []) m1 := rfl
  rw [e0, Res.bind_ok]
  have e2 : cop .ne (.ref l) (.lst []) m1 = some (!decide (xs = [])) := by
    have q : QEnc 8 (eL e1) := inferInstance
    have k1 : ok8 (.lst (xs.map e1)) = true := q.okd xs
    show (match txt2 (.ref l) (.lst []) with
      | some b => some (!b)
      | none => if ok8 (deref (.ref l) m1) && ok8 (deref (.lst []) m1) then some (!(deref (.ref l) m1).eqv (deref (.lst []) m1)) else none) = _
    rw [deref_ref hl]
    show (if ok8 (.lst (xs.map e1)) && ok8 (.lst []) then some (!(D.lst (xs.map e1)).eqv (.lst [])) else none) = _
    rw [k1, if_pos (by rfl)]
    have := q.eqv xs []
    show some (!(eL e1 xs).eqv (eL e1 [])) = _
    rw [this]
  rw [e2]; rfl
theorem e_eqR [DecidableEq α] (e1 : α → D) [h : QEnc 7 e1] {xs : List α} {l : Nat} (ha : ev F cl a ρ m = .ok (.ref l) m1) (hl : m1[l]? = some (.lst (xs.map e1))) : ev F cl (.cmp .eq a (.lst false .nil)) ρ m = .ok (.bl (decide (xs = []))) m1 := by
  rw [x_cmp, ha, Res.bind_ok, x_lst, x_nil, Res.bind_ok]
  have e0 : (Raw.lst []).out false m1 = .ok (.lst []) m1 := rfl
  rw [e0, Res.bind_ok]
  have e2 : cop .eq (.ref l) (.lst []) m1 = some (decide (xs = [])) := by
    have q : QEnc 8 (eL e1) := inferInstance
    have k1 : ok8 (.lst (xs.map e1)) = true := q.okd xs
    show (match txt2 (.ref l) (.lst []) with
      | some b => some b
      | none => if ok8 (deref (.ref l) m1) && ok8 (deref (.lst []) m1) then some ((deref (.ref l) m1).eqv (deref (.lst []) m1)) else none) = _
    rw [deref_ref hl]
    show (if ok8 (.lst (xs.map e1)) && ok8 (.lst []) then some ((D.lst (xs.map e1)).eqv (.lst [])) else none) = _
    rw [k1, if_pos (by rfl)]
    have := q.eqv xs []
    show some ((eL e1 xs).eqv (eL e1 [])) = _
    rw [this]
  rw [e2]; rfl
theorem e_lenR {k : Bool} {e1 : α → D} {xs : List α} {l : Nat} (ha : ev F cl a ρ m = .ok (.ref l) m1) (hl : m1[l]? = some (.lst (xs.map e1))) : ev F cl (.prim .len k (.cons a .nil)) ρ m = .ok (.int (xs.length : Int)) m1 := by
  rw [ev, evs, ha, Res.bind_ok, evs]
  simp only [Res.bind_ok]
  have e0 : seqOf (.ref l) m1 = some (xs.map e1) := by
    show items (.ref l) m1 = _
    unfold items
    simp only [hl]
  show Raw.out k (match seqOf (.ref l) m1 with
    | some xs => .val (.int xs.length)
    | none => .bad) m1 = _
  rw [e0]
  show Raw.out k (.val (.int ((xs.map e1).length : Nat))) m1 = _
  rw [List.length_map]; rfl
/-- through a list of the store that stays -/
theorem forI_fold {σ J' : Type} {e1 : α → D} (G : σ → J' → Env) (Gm : σ → M) (step : σ → α → σ) (jstep : σ → J' → α → J') (Inv : Nat → σ → Prop) {b1 : D → Env → M → Res Env} {body : Env → M → ResS} {l : Nat} {zs : List α} (hl : ∀ s, (Gm s)[l]? = some (.lst (zs.map e1)))
    (hs : ∀ i s j x, zs[i]? = some x → x ∈ zs → Inv i s → ∃ ρ1, b1 (e1 x) (G s j) (Gm s) = .ok ρ1 (Gm s) ∧ body ρ1 (Gm s) = .nx (G (step s x) (jstep s j x)) (Gm (step s x)) ∧ Inv (i + 1) (step s x)) :
    ∀ (n i : Nat) (s : σ) (j : J'), Inv i s → zs.length < n + i → i ≤ zs.length → forI b1 body l n i (G s j) (Gm s) = .nx (G ((zs.drop i).foldl step s) (jfold step jstep s j (zs.drop i))) (Gm ((zs.drop i).foldl step s)) ∧ Inv zs.length ((zs.drop i).foldl step s)
  | 0, i, s, j, _, h1, h2 => absurd h1 (by omega)
  | n + 1, i, s, j, hI, h1, h2 => by
    unfold forI
    rw [hl s]
    simp only [List.getElem?_map]
    by_cases h : i < zs.length
    · have hz : zs[i]? = some zs[i] := List.getElem?_eq_getElem h
      rw [hz, List.drop_eq_getElem_cons h]
      simp only [Option.map_some]
      obtain ⟨ρ1, q1, q2, q3⟩ := hs i s j zs[i] hz (List.getElem_mem h) hI
      rw [q1]
      simp only [Res.nox_ok, ResS.of]
      rw [q2]
      exact forI_fold G Gm step jstep Inv hl hs n (i + 1) (step s zs[i]) (jstep s j zs[i]) q3 (by omega) h
    · have hz : zs[i]? = none := List.getElem?_eq_none (by omega)
      rw [hz, List.drop_of_length_le (by omega)]
      refine ⟨rfl, ?_⟩
      rw [show zs.length = i by omega]; exact hI
theorem st_forRD {σ J' : Type} {e1 : α → D} (G : σ → J' → Env) (Gm : σ → M) (step : σ → α → σ) (jstep : σ → J' → α → J') (Inv : Nat → σ → Prop) {n : Nat} {t : Tg} {e : E} {b : Ss} {xs : List α} {s : σ} {j : J'} {l : Nat} (hi : ev F cl e ρ m = .ok (.ref l) (Gm s)) (hρ : ρ = G s j) (hl : ∀ s, (Gm s)[l]? = some (.lst (xs.map e1))) (hn : xs.length < n)
    (hs : ∀ i s j x, xs[i]? = some x → x ∈ xs → Inv i s → ∃ ρ1, bt F cl t (e1 x) (G s j) (Gm s) = .ok ρ1 (Gm s) ∧ exSs F cl b ρ1 (Gm s) = .nx (G (step s x) (jstep s j x)) (Gm (step s x)) ∧ Inv (i + 1) (step s x)) (h0 : Inv 0 s) :
    exS F cl (.forR n t e b) ρ m = .nx (G (xs.foldl step s) (jfold step jstep s j xs)) (Gm (xs.foldl step s)) := by
  rw [exS, hi]
  show forI _ _ l n 0 ρ (Gm s) = _
  rw [hρ]
  exact (forI_fold G Gm step jstep Inv hl hs n 0 s j h0 (by omega) (Nat.zero_le _)).1
/-! ### while -/
def whS {σ : Type} (cd : σ → Bool) (step : σ → σ) : Nat → σ → Option σ
  | 0, _ => none
  | n + 1, s => if cd s then whS cd step n (step s) else some s
def whE {σ : Type} (cd : σ → Bool) (step : σ → σ) (n : Nat) (s : σ) : σ := (whS cd step n s).getD s
theorem whL_rel {σ : Type} (R : σ → Env → M → Prop) (Inv : σ → Prop) (cd : σ → Bool) (step : σ → σ) {cnd : Env → M → Res Bool} {body : Env → M → ResS}
    (hs : ∀ s ρ m, R s ρ m → Inv s → cnd ρ m = .ok (cd s) m ∧ (cd s = true → Inv (step s) ∧ ∃ ρ' m', body ρ m = .nx ρ' m' ∧ R (step s) ρ' m')) :
    ∀ (n : Nat) (s s' : σ) (ρ : Env) (m : M), R s ρ m → Inv s → whS cd step n s = some s' → (∃ ρ' m', whL cnd body n ρ m = .nx ρ' m' ∧ R s' ρ' m') ∧ Inv s'
  | 0, s, s', ρ, m, _, _, h => by cases h
  | n + 1, s, s', ρ, m, hR, hI, h => by
    unfold whS at h
    obtain ⟨h1, h2⟩ := hs s ρ m hR hI
    unfold whL
    rw [h1]
    simp only [ResS.of]
    cases hc : cd s with
    | false =>
      rw [hc] at h
      simp only [Bool.false_eq_true, if_false, Option.some.injEq] at h ⊢
      subst h
      exact ⟨⟨ρ, m, rfl, hR⟩, hI⟩
    | true =>
      rw [hc] at h
      simp only [if_true] at h ⊢
      obtain ⟨h3, ρ', m', h4, h5⟩ := h2 hc
      rw [h4]
      exact whL_rel R Inv cd step hs n (step s) s' ρ' m' h5 h3 h
theorem j_wh {σ : Type} {bb z : Bool} {n : Nat} {o : Res D} {N : Nat} {c : E} {b r : Ss} (R : σ → Env → M → Prop) (Inv : σ → Prop) (cd : σ → Bool) (step : σ → σ) {s : σ} (h0 : R s ρ m) (hI : Inv s)
    (hs : ∀ s ρ m, R s ρ m → Inv s → ev F cl c ρ m = .ok (.bl (cd s)) m ∧ (cd s = true → Inv (step s) ∧ ∃ ρ' m', exSs F cl b ρ m = .nx ρ' m' ∧ R (step s) ρ' m'))
    (hr : (whS cd step N s).isSome = true)
    (hk : ∀ ρ' m', R (whE cd step N s) ρ' m' → Inv (whE cd step N s) → J bb z n (exSs F cl r ρ' m') o) : J bb z n (exSs F cl (.cons (.wh N c b) r) ρ m) o := by
  obtain ⟨s', e⟩ := Option.isSome_iff_exists.mp hr
  have e2 : whE cd step N s = s' := by unfold whE; rw [e]; rfl
  rw [e2] at hk
  obtain ⟨⟨ρ', m', h1, h2⟩, h3⟩ := whL_rel R Inv cd step (cnd := fun ρ m => (ev F cl c ρ m).bind boolOf) (body := fun ρ m => exSs F cl b ρ m) (fun s ρ m hR hI => by
    obtain ⟨q1, q2⟩ := hs s ρ m hR hI
    exact ⟨by rw [q1]; rfl, q2⟩) N s s' ρ m h0 hI e
  exact j_nx (by rw [exS]; exact h1) (hk ρ' m' h2 h3)
end
end PM

end

set_option maxHeartbeats 4000000
namespace PMG
open PM PySem
def b_is_whole : Ss := (.cons (.ret (.and (.prim .isinst false (.cons (.v 0) (.cons (.t "int" "int") .nil))) (.not (.prim .isinst false (.cons (.v 0) (.cons (.t "bool" "bool") .nil)))))) .nil)
def d_is_whole : Def := ⟨"is_whole", ["value"], ["value"], false, false, false, b_is_whole⟩
def b_is_between : Ss := (.cons (.ret (.and (.call "is_whole" (.cons (.v 0) .nil)) (.chain .le .le (.v 1) (.v 0) (.v 2)))) .nil)
def d_is_between : Def := ⟨"is_between", ["value", "least", "most"], ["value", "least", "most"], false, false, false, b_is_between⟩
def b_is_row : Ss := (.cons (.ret (.and (.prim .isinst false (.cons (.v 0) (.cons (.t "tuple" "tuple") .nil))) (.chain .le .le (.v 1) (.prim .len false (.cons (.v 0) .nil)) (.v 2)))) .nil)
def d_is_row : Def := ⟨"is_row", ["value", "least", "most"], ["value", "least", "most"], false, false, false, b_is_row⟩
def b_first_wrong : Ss := (.cons (.for_ (.t (.cons (.n 2) (.cons (.n 3) .nil))) (.enum (.v 0)) (.cons (.ite (.not (.callC 1 (.cons (.v 3) (.cons (.sl false (.v 0) .no (.yes (.v 2))) .nil)))) (.cons (.ret (.v 2)) .nil) .nil) .nil)) (.cons (.ret (.c .non)) .nil))
def d_first_wrong : Def := ⟨"first_wrong", ["value", "is_right"], ["value", "is_right", "index", "each"], false, true, false, b_first_wrong⟩
def b_is_things : Ss := (.cons (.ret (.call "is_between" (.cons (.v 0) (.cons (.c (.int 1)) (.cons (.g "MOST_THINGS" (.int 6)) .nil))))) .nil)
def d_is_things : Def := ⟨"is_things", ["value"], ["value"], false, false, false, b_is_things⟩
def b_check_things : Ss := (.cons (.ite (.not (.call "is_things" (.cons (.v 0) .nil))) (.cons (.raise "" .nil) .nil) .nil) .nil)
def d_check_things : Def := ⟨"check_things", ["things"], ["things"], false, false, false, b_check_things⟩
def b_is_thing : Ss := (.cons (.ret (.call "is_between" (.cons (.v 1) (.cons (.c (.int 0)) (.cons (.bin .sub false (.v 0) (.c (.int 1))) .nil))))) .nil)
def d_is_thing : Def := ⟨"is_thing", ["things", "value"], ["things", "value"], false, false, false, b_is_thing⟩
def b_is_lot : Ss := (.cons (.ite (.or (.not (.prim .isinst false (.cons (.v 1) (.cons (.t "tuple" "tuple") .nil)))) (.not (.prim .all false (.cons (.comp false [("thing", 2)] (.n 2) (.seq (.v 1)) .no (.call "is_thing" (.cons (.v 0) (.cons (.v 2) .nil)))) .nil)))) (.cons (.ret (.c (.bl false))) .nil) .nil) (.cons (.ret (.prim .all false (.cons (.comp false [("one", 3), ("other", 4)] (.t (.cons (.n 3) (.cons (.n 4) .nil))) (.zip (.v 1) (.sl false (.v 1) (.yes (.c (.int 1))) .no)) .no (.cmp .lt (.v 3) (.v 4))) .nil))) .nil))
def d_is_lot : Def := ⟨"is_lot", ["things", "value"], ["things", "value", "thing", "one", "other"], false, false, false, b_is_lot⟩
def b_all_lots : Ss := (.cons (.set (.n 1) (.lst true .nil)) (.cons (.for_ (.n 2) (.rng (.cons (.bin .add false (.v 0) (.c (.int 1))) .nil)) (.cons (.extend (.v 1) (.comp false [("lot", 3)] (.n 3) (.comb (.lrng false (.v 0)) (.prim .int false (.cons (.v 2) .nil))) .no (.v 3))) .nil)) (.cons (.ret (.prim .sorted false (.cons (.v 1) .nil))) .nil)))
def d_all_lots : Def := ⟨"all_lots", ["things"], ["things", "found", "many", "lot"], false, false, false, b_all_lots⟩
def b_is_within : Ss := (.cons (.ret (.prim .all false (.cons (.comp false [("thing", 2)] (.n 2) (.seq (.v 0)) .no (.cmp .inn (.v 2) (.v 1))) .nil))) .nil)
def d_is_within : Def := ⟨"is_within", ["lot", "other"], ["lot", "other", "thing"], false, false, false, b_is_within⟩
def b_common_of : Ss := (.cons (.ret (.prim .tuple false (.cons (.comp false [("thing", 2)] (.n 2) (.seq (.v 0)) (.yes (.cmp .inn (.v 2) (.v 1))) (.v 2)) .nil))) .nil)
def d_common_of : Def := ⟨"common_of", ["lot", "other"], ["lot", "other", "thing"], false, false, false, b_common_of⟩
def b_wrong_lot : Ss := (.cons (.ret (.callL "first_wrong" (.v 1) [2, 3] (.and (.call "is_lot" (.cons (.v 0) (.cons (.v 2) .nil))) (.or (.cmp .eq (.v 3) (.tup .nil)) (.cmp .lt (.ix (.v 3) (.neg (.c (.int 1)))) (.v 2)))))) .nil)
def d_wrong_lot : Def := ⟨"wrong_lot", ["things", "value"], ["things", "value", "lot", "ahead"], false, false, true, b_wrong_lot⟩
def b_check_lots : Ss := (.cons (.ite (.not (.call "is_row" (.cons (.v 1) (.cons (.c (.int 0)) (.cons (.g "MOST_LOTS" (.int 20)) .nil))))) (.cons (.raise "" .nil) .nil) .nil) (.cons (.set (.n 2) (.call "wrong_lot" (.cons (.v 0) (.cons (.v 1) .nil)))) (.cons (.ite (.cmp .isNot (.v 2) (.c .non)) (.cons (.raise "" .nil) .nil) .nil) .nil)))
def d_check_lots : Def := ⟨"check_lots", ["things", "book"], ["things", "book", "wrong"], false, false, false, b_check_lots⟩
def b_check_book : Ss := (.cons (.ex (.call "check_things" (.cons (.v 0) .nil))) (.cons (.ex (.call "check_lots" (.cons (.v 0) (.cons (.v 1) .nil)))) .nil))
def d_check_book : Def := ⟨"check_book", ["things", "book"], ["things", "book"], false, false, false, b_check_book⟩
def b_does_touch : Ss := (.cons (.ret (.prim .all false (.cons (.comp false [("own", 2)] (.n 2) (.seq (.v 0)) .no (.cmp .ne (.call "common_of" (.cons (.v 1) (.cons (.v 2) .nil))) (.tup .nil))) .nil))) .nil)
def d_does_touch : Def := ⟨"does_touch", ["book", "lot"], ["book", "lot", "own"], false, false, false, b_does_touch⟩
def b_touching_by : Ss := (.cons (.set (.n 2) (.comp false [("lot", 3)] (.n 3) (.seq (.call "all_lots" (.cons (.v 0) .nil))) (.yes (.call "does_touch" (.cons (.v 1) (.cons (.v 3) .nil)))) (.v 3))) (.cons (.ret (.prim .tuple false (.cons (.comp false [("lot", 3)] (.n 3) (.seq (.v 2)) (.yes (.not (.prim .any false (.cons (.comp false [("own", 4)] (.n 4) (.seq (.v 2)) .no (.and (.cmp .ne (.v 4) (.v 3)) (.call "is_within" (.cons (.v 4) (.cons (.v 3) .nil))))) .nil)))) (.v 3)) .nil))) .nil))
def d_touching_by : Def := ⟨"touching_by", ["things", "book"], ["things", "book", "told", "lot", "own"], false, false, false, b_touching_by⟩
def b_cover_by : Ss := (.cons (.ret (.mm false (.comp false [("lot", 2)] (.n 2) (.seq (.call "touching_by" (.cons (.v 0) (.cons (.v 1) .nil)))) .no (.prim .len false (.cons (.v 2) .nil))) (.c .non))) .nil)
def d_cover_by : Def := ⟨"cover_by", ["things", "book"], ["things", "book", "lot"], false, false, false, b_cover_by⟩
def b_packing_by : Ss := (.cons (.par [1, 2] (.cons (.lst true (.cons (.tup .nil) .nil)) (.cons (.tup .nil) .nil))) (.cons (.wh 64 (.cmp .ne (.v 1) (.lst false .nil)) (.cons (.par [2, 3] (.cons (.ix (.v 1) (.c (.int 0))) (.cons (.lst true .nil) .nil))) (.cons (.forR 1000 (.n 4) (.v 1) (.cons (.for_ (.n 5) (.rng (.cons (.ite (.cmp .ne (.v 4) (.tup .nil)) (.bin .add false (.ix (.v 4) (.neg (.c (.int 1)))) (.c (.int 1))) (.c (.int 0))) (.cons (.prim .len false (.cons (.v 0) .nil)) .nil))) (.cons (.ite (.prim .all false (.cons (.comp false [("own", 6)] (.n 6) (.seq (.v 4)) .no (.cmp .eq (.call "common_of" (.cons (.ix (.v 0) (.v 5)) (.cons (.ix (.v 0) (.v 6)) .nil))) (.tup .nil))) .nil)) (.cons (.append (.v 3) (.dsp true false (.star (.v 4) (.cons (.v 5) .nil)))) .nil) .nil) .nil)) .nil)) (.cons (.set (.n 1) (.v 3)) .nil)))) (.cons (.ret (.v 2)) .nil)))
def d_packing_by : Def := ⟨"packing_by", ["book"], ["book", "front", "best", "later", "some", "at", "own"], false, false, false, b_packing_by⟩
def b_cover_number : Ss := (.cons (.ex (.call "check_book" (.cons (.v 0) (.cons (.v 1) .nil)))) (.cons (.ret (.call "cover_by" (.cons (.v 0) (.cons (.v 1) .nil)))) .nil))
def d_cover_number : Def := ⟨"cover_number", ["things", "book"], ["things", "book"], false, false, false, b_cover_number⟩
def b_packing_number : Ss := (.cons (.ex (.call "check_book" (.cons (.v 0) (.cons (.v 1) .nil)))) (.cons (.ret (.prim .len false (.cons (.call "packing_by" (.cons (.v 1) .nil)) .nil))) .nil))
def d_packing_number : Def := ⟨"packing_number", ["things", "book"], ["things", "book"], false, false, false, b_packing_number⟩
def b_first_packing : Ss := (.cons (.ex (.call "check_book" (.cons (.v 0) (.cons (.v 1) .nil)))) (.cons (.ret (.call "packing_by" (.cons (.v 1) .nil))) .nil))
def d_first_packing : Def := ⟨"first_packing", ["things", "book"], ["things", "book"], false, false, false, b_first_packing⟩
def b__law_bag : Ss := (.cons (.set (.n 2) (.bin .add false (.c (.int 52027)) (.bin .mul false (.c (.int 8009)) (.v 1)))) (.cons (.for_ (.n 3) (.seq (.sl false (.v 0) .no (.yes (.c (.int 16))))) (.cons (.set (.n 2) (.bin .mod false (.prim .int false (.cons (.bin .add false (.bin .add false (.bin .mul false (.v 2) (.c (.int 48271))) (.bin .mod false (.prim .int false (.cons (.v 3) .nil)) (.c (.int 2147483629)))) (.c (.int 23))) .nil)) (.c (.int 2147483647)))) .nil)) (.cons (.set (.n 4) (.ite (.cmp .lt (.v 1) (.prim .len false (.cons (.v 0) .nil))) (.prim .int false (.cons (.ix (.v 0) (.v 1)) .nil)) (.c (.int 0)))) (.cons (.set (.n 2) (.bin .mod false (.prim .int false (.cons (.bin .add false (.bin .add false (.bin .mul false (.v 2) (.c (.int 31))) (.bin .mul false (.bin .mod false (.prim .int false (.cons (.v 4) .nil)) (.c (.int 2147483629))) (.c (.int 17)))) (.c (.int 3))) .nil)) (.c (.int 2147483647)))) (.cons (.ret (.lst true (.cons (.ite (.or (.cmp .lt (.v 4) (.c (.int 0))) (.cmp .ge (.v 4) (.bin .pow false (.c (.int 10)) (.c (.int 15))))) (.prim .abs false (.cons (.v 4) .nil)) (.c (.int 0))) (.cons (.v 2) (.cons (.c (.int 0)) .nil))))) .nil)))))
def d__law_bag : Def := ⟨"_law_bag", ["script", "lap"], ["script", "lap", "stirred", "cell", "own"], false, false, false, b__law_bag⟩
def b__law_take : Ss := (.cons (.ite (.cmp .gt (.ix (.v 0) (.c (.int 0))) (.c (.int 0))) (.cons (.set (.t (.cons (.sub (.v 0) (.c (.int 0))) (.cons (.n 2) .nil))) (.prim .divmod false (.cons (.ix (.v 0) (.c (.int 0))) (.cons (.v 1) .nil)))) (.cons (.ret (.v 2)) .nil)) .nil) (.cons (.set (.sub (.v 0) (.c (.int 2))) (.bin .add false (.ix (.v 0) (.c (.int 2))) (.c (.int 1)))) (.cons (.set (.sub (.v 0) (.c (.int 1))) (.bin .mod false (.prim .int false (.cons (.bin .add false (.bin .add false (.bin .mul false (.ix (.v 0) (.c (.int 1))) (.c (.int 16807))) (.bin .mul false (.c (.int 4099)) (.ix (.v 0) (.c (.int 2))))) (.c (.int 1))) .nil)) (.c (.int 2147483647)))) (.cons (.ret (.bin .mod false (.prim .int false (.cons (.bin .fdiv false (.ix (.v 0) (.c (.int 1))) (.c (.int 911))) .nil)) (.v 1))) .nil))))
def d__law_take : Def := ⟨"_law_take", ["bag", "top"], ["bag", "top", "digit"], false, false, false, b__law_take⟩
def b__law_pull : Ss := (.cons (.ret (.ix (.v 1) (.call "_law_take" (.cons (.v 0) (.cons (.prim .len false (.cons (.v 1) .nil)) .nil))))) .nil)
def d__law_pull : Def := ⟨"_law_pull", ["bag", "some"], ["bag", "some"], false, false, false, b__law_pull⟩
def b__law_lots : Ss := (.cons (.set (.n 1) (.lst false (.cons (.tup .nil) .nil))) (.cons (.for_ (.n 2) (.rng (.cons (.v 0) .nil)) (.cons (.set (.n 1) (.bin .add false (.v 1) (.comp false [("lot", 3)] (.n 3) (.seq (.v 1)) .no (.bin .add false (.v 3) (.tup (.cons (.v 2) .nil)))))) .nil)) (.cons (.ret (.prim .sorted false (.cons (.v 1) .nil))) .nil)))
def d__law_lots : Def := ⟨"_law_lots", ["things"], ["things", "found", "thing", "lot"], false, false, false, b__law_lots⟩
def b__law_book : Ss := (.cons (.par [3, 4] (.cons (.lst true .nil) (.cons (.call "_law_lots" (.cons (.v 1) .nil)) .nil))) (.cons (.set (.n 4) (.ite (.cmp .gt (.call "_law_take" (.cons (.v 0) (.cons (.c (.int 4)) .nil))) (.c (.int 0))) (.sl false (.v 4) (.yes (.c (.int 1))) .no) (.v 4))) (.cons (.set (.n 5) (.call "_law_take" (.cons (.v 0) (.cons (.bin .add false (.v 1) (.c (.int 1))) .nil)))) (.cons (.for_ (.n 6) (.rng (.cons (.call "_law_take" (.cons (.v 0) (.cons (.bin .add false (.v 2) (.c (.int 1))) .nil))) .nil)) (.cons (.set (.n 7) (.call "_law_pull" (.cons (.v 0) (.cons (.v 4) .nil)))) (.cons (.set (.n 8) (.comp false [("own", 9)] (.n 9) (.seq (.v 4)) (.yes (.cmp .eq (.prim .len false (.cons (.v 9) .nil)) (.v 5))) (.v 9))) (.cons (.append (.v 3) (.ite (.and (.cmp .eq (.call "_law_take" (.cons (.v 0) (.cons (.c (.int 3)) .nil))) (.c (.int 0))) (.cmp .ne (.v 8) (.lst false .nil))) (.call "_law_pull" (.cons (.v 0) (.cons (.v 8) .nil))) (.v 7))) .nil)))) (.cons (.ret (.prim .tuple false (.cons (.sset false (.v 3)) .nil))) .nil)))))
def d__law_book : Def := ⟨"_law_book", ["bag", "things", "most"], ["bag", "things", "most", "some", "every", "size", "turn", "lot", "same", "own"], false, false, false, b__law_book⟩
def b__law_meet : Ss := (.cons (.ret (.prim .tuple false (.cons (.comp false [("thing", 2)] (.n 2) (.seq (.v 0)) (.yes (.cmp .inn (.v 2) (.v 1))) (.v 2)) .nil))) .nil)
def d__law_meet : Def := ⟨"_law_meet", ["one", "two"], ["one", "two", "thing"], false, false, false, b__law_meet⟩
def b__law_is_within : Ss := (.cons (.ret (.not (.prim .any false (.cons (.comp false [("thing", 2)] (.n 2) (.seq (.v 0)) .no (.cmp .notIn (.v 2) (.v 1))) .nil)))) .nil)
def d__law_is_within : Def := ⟨"_law_is_within", ["one", "two"], ["one", "two", "thing"], false, false, false, b__law_is_within⟩
def b__law_some_of : Ss := (.cons (.set (.n 1) (.lst false (.cons (.tup .nil) .nil))) (.cons (.for_ (.n 2) (.rng (.cons (.v 0) .nil)) (.cons (.set (.n 1) (.bin .add false (.v 1) (.comp false [("lot", 3)] (.n 3) (.seq (.v 1)) .no (.bin .add false (.v 3) (.tup (.cons (.v 2) .nil)))))) .nil)) (.cons (.ret (.prim .sorted false (.cons (.v 1) .nil))) .nil)))
def d__law_some_of : Def := ⟨"_law_some_of", ["many"], ["many", "found", "k", "lot"], false, false, false, b__law_some_of⟩
def b__law_touching : Ss := (.cons (.set (.n 2) (.comp false [("lot", 3)] (.n 3) (.seq (.call "_law_lots" (.cons (.v 0) .nil))) (.yes (.not (.prim .any false (.cons (.comp false [("own", 4)] (.n 4) (.seq (.v 1)) .no (.cmp .eq (.call "_law_meet" (.cons (.v 3) (.cons (.v 4) .nil))) (.tup .nil))) .nil)))) (.v 3))) (.cons (.set (.n 5) (.lst false .nil)) (.cons (.for_ (.n 3) (.seq (.v 2)) (.cons (.set (.n 6) (.comp false [("own", 4)] (.n 4) (.seq (.v 2)) (.yes (.and (.cmp .lt (.prim .len false (.cons (.v 4) .nil)) (.prim .len false (.cons (.v 3) .nil))) (.call "_law_is_within" (.cons (.v 4) (.cons (.v 3) .nil))))) (.v 4))) (.cons (.set (.n 5) (.bin .add false (.v 5) (.ite (.cmp .eq (.v 6) (.lst false .nil)) (.lst false (.cons (.v 3) .nil)) (.lst false .nil)))) .nil))) (.cons (.ret (.prim .tuple false (.cons (.v 5) .nil))) .nil))))
def d__law_touching : Def := ⟨"_law_touching", ["things", "book"], ["things", "book", "some", "lot", "own", "found", "less"], false, false, false, b__law_touching⟩
def b__law_first_packing : Ss := (.cons (.set (.n 1) (.tup .nil)) (.cons (.for_ (.n 2) (.seq (.call "_law_some_of" (.cons (.prim .len false (.cons (.v 0) .nil)) .nil))) (.cons (.set (.n 3) (.c (.bl true))) (.cons (.for_ (.n 4) (.rng (.cons (.prim .len false (.cons (.v 2) .nil)) .nil)) (.cons (.set (.n 3) (.and (.v 3) (.not (.prim .any false (.cons (.comp false [("j", 5)] (.n 5) (.rng (.cons (.v 4) .nil)) .no (.cmp .ne (.call "_law_meet" (.cons (.ix (.v 0) (.ix (.v 2) (.v 5))) (.cons (.ix (.v 0) (.ix (.v 2) (.v 4))) .nil))) (.tup .nil))) .nil))))) .nil)) (.cons (.set (.n 1) (.ite (.and (.v 3) (.cmp .gt (.prim .len false (.cons (.v 2) .nil)) (.prim .len false (.cons (.v 1) .nil)))) (.v 2) (.v 1))) .nil)))) (.cons (.ret (.v 1)) .nil)))
def d__law_first_packing : Def := ⟨"_law_first_packing", ["book"], ["book", "best", "lot", "fine", "k", "j"], false, false, false, b__law_first_packing⟩
def b__law_right : Ss := (.cons (.set (.n 1) (.bin .add false (.c (.int 1)) (.call "_law_take" (.cons (.v 0) (.cons (.c (.int 5)) .nil))))) (.cons (.set (.n 2) (.call "_law_book" (.cons (.v 0) (.cons (.v 1) (.cons (.c (.int 7)) .nil))))) (.cons (.set (.n 3) (.call "_law_touching" (.cons (.v 1) (.cons (.v 2) .nil)))) (.cons (.set (.n 4) (.ite (.cmp .ne (.v 3) (.tup .nil)) (.prim .min false (.cons (.comp false [("lot", 5)] (.n 5) (.seq (.v 3)) .no (.prim .len false (.cons (.v 5) .nil))) .nil)) (.c .non))) (.cons (.ite (.cmp .ne (.prim .repr false (.cons (.lst false (.cons (.call "cover_number" (.cons (.v 1) (.cons (.v 2) .nil))) (.cons (.callK "cover_number" .nil ["book", "things"] (.cons (.v 2) (.cons (.v 1) .nil))) .nil))) .nil)) (.prim .repr false (.cons (.lst false (.cons (.v 4) (.cons (.v 4) .nil))) .nil))) (.cons (.ret (.c (.bl false))) .nil) .nil) (.cons (.set (.n 6) (.call "_law_first_packing" (.cons (.v 2) .nil))) (.cons (.ite (.cmp .ne (.prim .repr false (.cons (.lst false (.cons (.call "first_packing" (.cons (.v 1) (.cons (.v 2) .nil))) (.cons (.callK "first_packing" .nil ["book", "things"] (.cons (.v 2) (.cons (.v 1) .nil))) .nil))) .nil)) (.prim .repr false (.cons (.lst false (.cons (.v 6) (.cons (.v 6) .nil))) .nil))) (.cons (.ret (.c (.bl false))) .nil) .nil) (.cons (.ite (.cmp .ne (.prim .repr false (.cons (.lst false (.cons (.call "packing_number" (.cons (.v 1) (.cons (.v 2) .nil))) (.cons (.callK "packing_number" .nil ["book", "things"] (.cons (.v 2) (.cons (.v 1) .nil))) .nil))) .nil)) (.prim .repr false (.cons (.rep (.cons (.prim .len false (.cons (.v 6) .nil)) .nil) (.c (.int 2))) .nil))) (.cons (.ret (.c (.bl false))) .nil) .nil) (.cons (.ite (.or (.and (.cmp .isNot (.v 4) (.c .non)) (.cmp .gt (.prim .len false (.cons (.v 6) .nil)) (.v 4))) (.or (.cmp .ne (.call "cover_number" (.cons (.v 1) (.cons (.tup .nil) .nil))) (.c (.int 0))) (.cmp .ne (.call "packing_number" (.cons (.v 1) (.cons (.tup .nil) .nil))) (.c (.int 0))))) (.cons (.ret (.c (.bl false))) .nil) .nil) (.cons (.ite (.cmp .eq (.v 2) (.tup .nil)) (.cons (.ret (.c (.bl true))) .nil) .nil) (.cons (.set (.n 7) (.sl false (.v 2) (.yes (.c (.int 1))) .no)) (.cons (.ret (.and (.cmp .le (.call "packing_number" (.cons (.v 1) (.cons (.v 7) .nil))) (.prim .len false (.cons (.v 6) .nil))) (.or (.cmp .is (.v 4) (.c .non)) (.cmp .le (.call "cover_number" (.cons (.v 1) (.cons (.v 7) .nil))) (.v 4))))) .nil))))))))))))
def d__law_right : Def := ⟨"_law_right", ["bag"], ["bag", "things", "book", "some", "due", "lot", "own", "less"], false, false, false, b__law_right⟩
def b_law : Ss := (.cons (.for_ (.n 1) (.rng (.cons (.prim .max false (.cons (.c (.int 2)) (.cons (.prim .min false (.cons (.prim .len false (.cons (.v 0) .nil)) (.cons (.c (.int 3)) .nil))) .nil))) .nil)) (.cons (.set (.n 2) (.call "_law_bag" (.cons (.v 0) (.cons (.v 1) .nil)))) (.cons (.ite (.not (.prim .all false (.cons (.comp false [("turn", 3)] (.n 3) (.rng (.cons (.c (.int 15)) .nil)) .no (.call "_law_right" (.cons (.v 2) .nil))) .nil))) (.cons (.ret (.c (.bl false))) .nil) .nil) .nil))) (.cons (.ret (.c (.bl true))) .nil))
def d_law : Def := ⟨"law", ["script"], ["script", "lap", "bag", "turn"], false, false, false, b_law⟩
def P : List Def := [d_is_whole, d_is_between, d_is_row, d_first_wrong, d_is_things, d_check_things, d_is_thing, d_is_lot, d_all_lots, d_is_within, d_common_of, d_wrong_lot, d_check_lots, d_check_book, d_does_touch, d_touching_by, d_cover_by, d_packing_by, d_cover_number, d_packing_number, d_first_packing, d__law_bag, d__law_take, d__law_pull, d__law_lots, d__law_book, d__law_meet, d__law_is_within, d__law_some_of, d__law_touching, d__law_first_packing, d__law_right, d_law]
def ics : List (Str × Int) := [("MOST_THINGS", 6), ("MOST_LOTS", 20)]
def imps : List (Str × String) := [("combinations", "itertools.combinations")]
def free : List Str := [("abs" : Str), ("all" : Str), ("any" : Str), ("bool" : Str), ("divmod" : Str), ("enumerate" : Str), ("int" : Str), ("isinstance" : Str), ("len" : Str), ("list" : Str), ("max" : Str), ("min" : Str), ("range" : Str), ("repr" : Str), ("set" : Str), ("sorted" : Str), ("tuple" : Str), ("zip" : Str)]
def shapes : List (Str × List Str) := [(("_law_bag" : Str), ([] : List Str)), (("_law_book" : Str), ([] : List Str)), (("_law_first_packing" : Str), ([] : List Str)), (("_law_is_within" : Str), ([] : List Str)), (("_law_lots" : Str), ([] : List Str)), (("_law_meet" : Str), ([] : List Str)), (("_law_pull" : Str), ([] : List Str)), (("_law_right" : Str), ([] : List Str)), (("_law_some_of" : Str), ([] : List Str)), (("_law_take" : Str), ([] : List Str)), (("_law_touching" : Str), ([] : List Str)), (("all_lots" : Str), ([] : List Str)), (("check_book" : Str), ([] : List Str)), (("check_lots" : Str), ([] : List Str)), (("check_things" : Str), ([] : List Str)), (("common_of" : Str), ([] : List Str)), (("cover_by" : Str), ([] : List Str)), (("cover_number" : Str), ([] : List Str)), (("cover_number" : Str), (["book", "things"] : List Str)), (("does_touch" : Str), ([] : List Str)), (("first_packing" : Str), ([] : List Str)), (("first_packing" : Str), (["book", "things"] : List Str)), (("first_wrong" : Str), ([] : List Str)), (("is_between" : Str), ([] : List Str)), (("is_lot" : Str), ([] : List Str)), (("is_row" : Str), ([] : List Str)), (("is_thing" : Str), ([] : List Str)), (("is_things" : Str), ([] : List Str)), (("is_whole" : Str), ([] : List Str)), (("is_within" : Str), ([] : List Str)), (("law" : Str), ([] : List Str)), (("packing_by" : Str), ([] : List Str)), (("packing_number" : Str), ([] : List Str)), (("packing_number" : Str), (["book", "things"] : List Str)), (("touching_by" : Str), ([] : List Str)), (("wrong_lot" : Str), ([] : List Str))]
theorem f_is_whole : find P "is_whole" = some d_is_whole := rfl
theorem f_is_between : find P "is_between" = some d_is_between := rfl
theorem f_is_row : find P "is_row" = some d_is_row := rfl
theorem f_first_wrong : find P "first_wrong" = some d_first_wrong := rfl
theorem f_is_things : find P "is_things" = some d_is_things := rfl
theorem f_check_things : find P "check_things" = some d_check_things := rfl
theorem f_is_thing : find P "is_thing" = some d_is_thing := rfl
theorem f_is_lot : find P "is_lot" = some d_is_lot := rfl
theorem f_all_lots : find P "all_lots" = some d_all_lots := rfl
theorem f_is_within : find P "is_within" = some d_is_within := rfl
theorem f_common_of : find P "common_of" = some d_common_of := rfl
theorem f_wrong_lot : find P "wrong_lot" = some d_wrong_lot := rfl
theorem f_check_lots : find P "check_lots" = some d_check_lots := rfl
theorem f_check_book : find P "check_book" = some d_check_book := rfl
theorem f_does_touch : find P "does_touch" = some d_does_touch := rfl
theorem f_touching_by : find P "touching_by" = some d_touching_by := rfl
theorem f_cover_by : find P "cover_by" = some d_cover_by := rfl
theorem f_packing_by : find P "packing_by" = some d_packing_by := rfl
theorem f_cover_number : find P "cover_number" = some d_cover_number := rfl
theorem f_packing_number : find P "packing_number" = some d_packing_number := rfl
theorem f_first_packing : find P "first_packing" = some d_first_packing := rfl
theorem f__law_bag : find P "_law_bag" = some d__law_bag := rfl
theorem f__law_take : find P "_law_take" = some d__law_take := rfl
theorem f__law_pull : find P "_law_pull" = some d__law_pull := rfl
theorem f__law_lots : find P "_law_lots" = some d__law_lots := rfl
theorem f__law_book : find P "_law_book" = some d__law_book := rfl
theorem f__law_meet : find P "_law_meet" = some d__law_meet := rfl
theorem f__law_is_within : find P "_law_is_within" = some d__law_is_within := rfl
theorem f__law_some_of : find P "_law_some_of" = some d__law_some_of := rfl
theorem f__law_touching : find P "_law_touching" = some d__law_touching := rfl
theorem f__law_first_packing : find P "_law_first_packing" = some d__law_first_packing := rfl
theorem f__law_right : find P "_law_right" = some d__law_right := rfl
theorem f_law : find P "law" = some d_law := rfl
end PMG
namespace PMG
open PM PySem
local macro_rules | `(tactic| walk_at "sz") => `(tactic| (first | assumption | omega | decide | (refine ⟨?_, ?_⟩ <;> omega) | exact .inr (.inl (by decide)) | exact .inr (.inr (by decide)) | (simp only [List.length_append, List.length_cons, List.length_nil, List.length_map]; omega) | (simp only [List.length_map, rngS_len, enumS_len, List.length_append, List.length_cons, List.length_nil]; omega) | (have zz := mem_rngS.mp (by assumption); omega) | exact len_filter (by first | omega | (simp only [List.length_map, rngS_len, enumS_len]; omega)) | (rw [List.length_map]; exact len_filter (by first | omega | (simp only [List.length_map, rngS_len, enumS_len]; omega))) | ((repeat (first | apply len_rng | apply len_map | apply len_filter | apply len_sort | apply len_dedup | apply len_cut | apply len_zip | apply len_enum | apply len_rng)); first | assumption | omega | decide)))
local macro_rules | `(tactic| walk_at "tk") => `(tactic| (first | with_reducible assumption | exact tk_app (by with_reducible assumption) | exact List.take_length | exact mp_take | exact app_take | exact app_take' (by simp [mp]) | (simp [mp]; done)))
local macro_rules | `(tactic| walk_at "st") => `(tactic| (first | with_reducible assumption | exact get_app (by with_reducible assumption) | exact get_app app_get | exact app_get | exact app_set | exact app_get' (by simp [mp]) | (simp [mp]; done)))
local macro_rules | `(tactic| walk_at "ll") => `(tactic| (first | assumption | (simp; omega)))
local macro_rules | `(tactic| walk_at "fitd") => `(tactic| (first | exact .inl ⟨_, rfl⟩ | exact .inr ⟨_, rfl⟩))
local macro_rules | `(tactic| walk_at "ge") => `(tactic| (first | with_reducible assumption | exact tk_len (by with_reducible assumption) | exact Nat.le_trans (tk_len (by with_reducible assumption)) (by simp) | exact Nat.le_refl _ | (simp; done) | (simp; omega)))
theorem s_is_whole (n : Nat) (i : Int) (m : M) : (fns P (n + 1)).call "is_whole" [.int i] m = .ok (.bl true) m := by
  rw [call_eq f_is_whole rfl rfl]
  simp [d_is_whole, b_is_whole, PM.start, PM.finish, close]
theorem s_is_between (n : Nat) (v a b : Int) (m : M) : (fns P (n + 2)).call "is_between" [.int v, .int a, .int b] m = .ok (.bl (decide (a ≤ v) && decide (v ≤ b))) m := by
  rw [call_eq f_is_between rfl rfl]
  simp [d_is_between, b_is_between, PM.start, PM.finish, close, s_is_whole, cop]
  by_cases h : a ≤ v <;> by_cases h2 : v ≤ b <;> simp [h, h2]
theorem s_is_row (n : Nat) (xs : List D) (hx : pureL xs = true) (a b : Int) (m : M) : (fns P (n + 1)).call "is_row" [.tup xs, .int a, .int b] m = .ok (.bl (decide (a ≤ xs.length) && decide ((xs.length : Int) ≤ b))) m := by
  rw [call_eq f_is_row rfl rfl]
  simp [d_is_row, b_is_row, PM.start, PM.finish, close]
  by_cases h : a ≤ xs.length <;> by_cases h2 : (xs.length : Int) ≤ b <;> simp [h, h2]
theorem s_is_things (n : Nat) (t : Int) (h : 1 ≤ t ∧ t ≤ 6) (m : M) : (fns P (n + 3)).call "is_things" [.int t] m = .ok (.bl true) m := by
  rw [call_eq f_is_things rfl rfl]
  simp [d_is_things, b_is_things, PM.start, PM.finish, close, s_is_between, h.1, h.2]
theorem s_check_things (n : Nat) (t : Int) (h : 1 ≤ t ∧ t ≤ 6) (m : M) : (fns P (n + 4)).call "check_things" [.int t] m = .ok .non m := by
  rw [call_eq f_check_things rfl rfl]
  simp [d_check_things, b_check_things, PM.start, PM.finish, close, s_is_things n t h]
theorem s_is_thing (n : Nat) (t v : Int) (m : M) : (fns P (n + 3)).call "is_thing" [.int t, .int v] m = .ok (.bl (decide (0 ≤ v) && decide (v ≤ t - 1))) m := by
  rw [call_eq f_is_thing rfl rfl]
  simp [d_is_thing, b_is_thing, PM.start, PM.finish, close, s_is_between]
theorem zip_asc : ∀ (l : List Int), l.Pairwise (· < ·) → ∀ d ∈ zipL (l.map .int) ((l.drop 1).map .int), ∃ x y : Int, d = .tup [.int x, .int y] ∧ x < y
  | [], _, d, h => by simp [zipL] at h
  | [_], _, d, h => by simp [zipL] at h
  | x :: y :: l, hp, d, h => by
    have h' : d ∈ D.tup [.int x, .int y] :: zipL ((y :: l).map .int) (((y :: l).drop 1).map .int) := h
    rcases List.mem_cons.mp h' with e | h'
    · exact ⟨x, y, e, by simp at hp; exact hp.1.1⟩
    · exact zip_asc (y :: l) (by simp at hp ⊢; exact hp.2) d h'
theorem s_is_lot (n : Nat) (t : Int) (l : List Int) (h : LotOk t l) (m : M) : (fns P (n + 4)).call "is_lot" [.int t, lotD l] m = .ok (.bl true) m := by
  obtain ⟨h1, h2, h3⟩ := h
  rw [call_eq f_is_lot rfl rfl]
  have hc : l.length ≤ cap := Nat.le_trans h3 (by decide)
  have e1 : ev (fns P (n + 3)) none (.comp false [("thing", 2)] (.n 2) (.seq (.v 1)) .no (.call "is_thing" (.cons (.v 0) (.cons (.v 2) .nil)))) [some (.int t), some (lotD l), none, none, none] m = .ok (.lst (List.replicate l.length (.bl true))) m := by
    refine ev_compN (ds := l.map .int) (m1 := m) (by simp [lotD]) (by simpa using hc) ?_ (by simpa using hc)
    rw [compL_pure (r := fun d => [some (.int t), some (lotD l), some d, none, none]) (f := fun _ => .bl true) (fun d _ => by simp [wipe]) (fun d hd => ?_)]
    · rw [List.map_const', List.length_map]
    · obtain ⟨x, hx, rfl⟩ := List.mem_map.mp hd
      simp [s_is_thing, h1 x hx]
  have e2 : ev (fns P (n + 3)) none (.comp false [("one", 3), ("other", 4)] (.t (.cons (.n 3) (.cons (.n 4) .nil))) (.zip (.v 1) (.sl false (.v 1) (.yes (.c (.int 1))) .no)) .no (.cmp .lt (.v 3) (.v 4))) [some (.int t), some (lotD l), none, none, none] m = .ok (.lst (List.replicate (zipL (l.map D.int) ((l.drop 1).map .int)).length (.bl true))) m := by
    have ln : (zipL (l.map D.int) ((l.drop 1).map .int)).length ≤ cap := by
      have : ∀ xs ys : List D, (zipL xs ys).length ≤ xs.length := by
        intro xs
        induction xs with
        | nil => intro ys; simp [zipL]
        | cons x xs ih => intro ys; cases ys <;> simp [zipL, ih]
      exact Nat.le_trans (this _ _) (by simpa using hc)
    refine ev_compN (ds := zipL (l.map .int) ((l.drop 1).map .int)) (m1 := m) ?_ ln ?_ (by simpa using ln)
    · have cu : cut (l.map D.int) (some 1) none = (l.drop 1).map .int := by
        cases l with
        | nil => rfl
        | cons x l => simp [cut, sIx, List.take_of_length_le]
      have ol : (Raw.tup (List.map D.int l).tail).out false m = .ok (.tup (List.map D.int l).tail) m := o_tup (by simp; omega)
      simp [lotD, cu, ol]
    · rw [compL_pure (r := fun d => match d with
          | .tup [x, y] => [some (.int t), some (lotD l), none, some x, some y]
          | _ => []) (f := fun _ => .bl true) (fun d hd => ?_) (fun d hd => ?_)]
      · rw [List.map_const']
      · obtain ⟨x, y, rfl, _⟩ := zip_asc l h2 d hd
        simp [wipe]
      · obtain ⟨x, y, rfl, hxy⟩ := zip_asc l h2 d hd
        simp [hxy]
  have s0 : PM.start d_is_lot.N [.int t, lotD l] = [some (.int t), some (lotD l), none, none, none] := rfl
  rw [s0]
  show PM.finish false m.length (exSs (fns P (n + 3)) none b_is_lot _ m) = _
  simp [b_is_lot, e1, e2, PM.finish, close]
theorem s_first_wrong (n : Nat) (ds : List D) (c : Clo) (m : M) (hl : ds.length ≤ cap) (h : ∀ i d, ds[i]? = some d → c [d, .tup (ds.take i)] m = .ok (.bl true) m) : (fns P (n + 1)).lam "first_wrong" [.tup ds] c m = .ok .non m := by
  rw [lam_eq f_first_wrong rfl rfl]
  have s0 : PM.start d_first_wrong.N [.tup ds] = [some (.tup ds), none, none, none] := rfl
  rw [s0]
  obtain ⟨ρ', m', e, hm', _⟩ := forL_inv (b1 := fun d ρ m => bt (fns P n) (some (1, c)) (.t (.cons (.n 2) (.cons (.n 3) .nil))) d ρ m)
    (body := fun ρ m => exSs (fns P n) (some (1, c)) (.cons (.ite (.not (.callC 1 (.cons (.v 3) (.cons (.sl false (.v 0) .no (.yes (.v 2))) .nil)))) (.cons (.ret (.v 2)) .nil) .nil) .nil) ρ m)
    (I := fun _ ρ m' => m' = m ∧ ∃ a b, ρ = [some (.tup ds), none, a, b]) (enumL 0 ds) 0 [some (.tup ds), none, none, none] m (fun j d ρ m1 _ hd ⟨hm, a, b, hρ⟩ => by
      subst hm hρ
      rw [enumL_at] at hd
      obtain ⟨d0, hd0, rfl⟩ := Option.map_eq_some_iff.mp hd
      refine ⟨[some (.tup ds), none, some (.int ((j - 0 : Nat) : Int)), some d0], m1, [some (.tup ds), none, some (.int ((j - 0 : Nat) : Int)), some d0], m1, by simp, ?_, rfl, _, _, rfl⟩
      have ol : (Raw.tup (ds.take j)).out false m1 = .ok (.tup (ds.take j)) m1 := o_tup (Nat.le_trans (by simp; omega) hl)
      simp [cut_to, ol, h j d0 hd0]) ⟨rfl, _, _, rfl⟩
  rw [hm'] at e
  show PM.finish false m.length (exSs (fns P n) (some (1, c)) b_first_wrong _ m) = _
  rw [b_first_wrong, y_cons, y_for, x_enum, x_v, get_z, opt_some, Res.bind_ok]
  simp only [of_ok]
  rw [e]
  simp [PM.finish, close]
theorem s_wrong_lot (n : Nat) (t : Int) (ls : List (List Int)) (h : BookOk t ls) (m : M) : (fns P (n + 5)).call "wrong_lot" [.int t, .tup (ls.map lotD)] m = .ok .non m := by
  rw [call_eq f_wrong_lot rfl rfl]
  have hcap : (ls.map lotD).length ≤ cap := by rw [List.length_map]; exact Nat.le_trans h.few (by decide)
  show PM.finish false m.length (exSs (fns P (n + 4)) none b_wrong_lot [some (.int t), some (.tup (ls.map lotD)), none, none] m) = _
  rw [b_wrong_lot, y_cons, y_ret, ev]
  simp only [x_v, get_z, get_s, opt_some, Res.bind_ok]
  rw [s_first_wrong (n + 3) (ls.map lotD) _ m hcap (fun i d hd => ?_)]
  · simp [PM.finish, close]
  · rw [List.getElem?_map] at hd
    obtain ⟨l, hl, rfl⟩ := Option.map_eq_some_iff.mp hd
    have hmem := List.mem_of_getElem? hl
    rw [← List.map_take]
    simp only [setMany, List.set_cons_succ, List.set_cons_zero]
    simp only [x_and, x_call, x_cons, x_v, get_z, get_s, opt_some, Res.bind_ok, x_nil]
    rw [s_is_lot n t l (h.lots l hmem) m]
    simp only [Res.bind_ok, boolOf_bl, if_true, x_or, x_cmp, x_v, get_z, get_s, opt_some, x_tup, x_nil]
    rw [show (Raw.tup []).out false m = .ok (.tup []) m from o_tup (by decide)]
    simp only [Res.bind_ok]
    rw [c_eqE]
    simp only [opt_some, Res.bind_ok, boolOf_bl]
    cases e : (ls.take i).isEmpty with
    | true => simp
    | false =>
      obtain ⟨pre, b, hb⟩ : ∃ pre b, ls.take i = pre ++ [b] := by
        have ne : ls.take i ≠ [] := fun z => by rw [z] at e; cases e
        exact ⟨_, _, (List.dropLast_concat_getLast ne).symm⟩
      rw [hb, List.map_append, List.map_singleton]
      simp only [Bool.false_eq_true, if_false, x_ix, x_v, get_z, get_s, opt_some, Res.bind_ok, x_neg, x_c]
      rw [ix_last]
      simp only [opt_some, Res.bind_ok]
      have hlt : lexLt b l = true := by
        have e1 : ls = ls.take i ++ ls.drop i := (List.take_append_drop i ls).symm
        have hd2 : l ∈ ls.drop i := by
          have : (ls.drop i)[0]? = some l := by rw [List.getElem?_drop]; simpa using hl
          exact List.mem_of_getElem? this
        have asc := h.asc
        rw [e1, List.pairwise_append] at asc
        exact asc.2.2 b (by rw [hb]; simp) l hd2
      simp [hlt]
theorem s_check_lots (n : Nat) (t : Int) (ls : List (List Int)) (h : BookOk t ls) (m : M) : (fns P (n + 6)).call "check_lots" [.int t, .tup (ls.map lotD)] m = .ok .non m := by
  rw [call_eq f_check_lots rfl rfl]
  have hf := h.few
  have hr := s_is_row (n + 4) (ls.map lotD) (by simp) 0 20 m
  have hw := s_wrong_lot n t ls h m
  rw [show (decide ((0 : Int) ≤ ((ls.map lotD).length : Nat)) && decide ((((ls.map lotD).length : Nat) : Int) ≤ 20)) = true from by simp; omega] at hr
  simp [d_check_lots, b_check_lots, PM.start, PM.finish, close, hr, hw]
theorem s_check_book (n : Nat) (t : Int) (ht : 1 ≤ t ∧ t ≤ 6) (ls : List (List Int)) (h : BookOk t ls) (m : M) : (fns P (n + 7)).call "check_book" [.int t, .tup (ls.map lotD)] m = .ok .non m := by
  rw [call_eq f_check_book rfl rfl]
  have h1 := s_check_things (n + 2) t ht m
  have h2 := s_check_lots n t ls h m
  simp [d_check_book, b_check_book, PM.start, PM.finish, close, h1, h2]
theorem s'_check_things (N : Nat) (hN : 4 ≤ N) (t : Int) (m : M) (h : 1 ≤ t ∧ t ≤ 6) : (fns P N).call "check_things" [.int t] m = .ok .non m := by
  obtain ⟨n, rfl⟩ : ∃ n, N = n + 4 := ⟨N - 4, by omega⟩; exact s_check_things n t h m
theorem s'_check_book (N : Nat) (hN : 7 ≤ N) (t : Int) (ls : List (List Int)) (m : M) (ht : 1 ≤ t ∧ t ≤ 6) (h : BookOk t ls) : (fns P N).call "check_book" [.int t, eT lotD ls] m = .ok .non m := by
  obtain ⟨n, rfl⟩ : ∃ n, N = n + 7 := ⟨N - 7, by omega⟩; exact s_check_book n t ht ls h m
theorem s'_is_between (N : Nat) (hN : 2 ≤ N) (v a b : Int) (m : M) : (fns P N).call "is_between" [.int v, .int a, .int b] m = .ok (.bl (decide (a ≤ v) && decide (v ≤ b))) m := by
  obtain ⟨n, rfl⟩ : ∃ k, N = k + 2 := ⟨N - 2, by omega⟩; exact s_is_between n v a b m
theorem s'_is_thing (N : Nat) (hN : 3 ≤ N) (t v : Int) (m : M) : (fns P N).call "is_thing" [.int t, .int v] m = .ok (.bl (decide (0 ≤ v) && decide (v ≤ t - 1))) m := by
  obtain ⟨n, rfl⟩ : ∃ k, N = k + 3 := ⟨N - 3, by omega⟩; exact s_is_thing n t v m

theorem ix_ok {n : Nat} {lap : Int} (h : 0 ≤ lap ∧ lap < 1000000) (h2 : decide (lap < (n : Int)) = true) : -(n : Int) ≤ lap ∧ lap < (n : Int) := by
  have := of_decide_eq_true h2
  omega
def g__law_bag_stirred (script : (List Int)) (lap : Int) : Int :=
  (List.foldl (fun (s1 : Int) (cell3 : Int) => ((((s1 * (48271 : Int)) + (cell3 % (2147483629 : Int))) + (23 : Int)) % (2147483647 : Int))) ((52027 : Int) + ((8009 : Int) * lap)) (cut script none (some (16 : Int))))
def g__law_bag_own (script : (List Int)) (lap : Int) : Int :=
  (if (decide (lap < ((script).length : Int))) then (ixS script lap) else (0 : Int))
def g__law_bag_stirred2 (script : (List Int)) (lap : Int) : Int :=
  (((((g__law_bag_stirred script lap) * (31 : Int)) + (((g__law_bag_own script lap) % (2147483629 : Int)) * (17 : Int))) + (3 : Int)) % (2147483647 : Int))
def g__law_bag (script : (List Int)) (lap : Int) : Pool :=
  ((if ((decide ((g__law_bag_own script lap) < (0 : Int))) || (decide (((10 : Int) ^ ((15 : Int)).toNat) ≤ (g__law_bag_own script lap)))) then (if (g__law_bag_own script lap) < 0 then -(g__law_bag_own script lap) else (g__law_bag_own script lap)) else (0 : Int)), (g__law_bag_stirred2 script lap), (0 : Int))

theorem s__law_bag (N : Nat) (hN : 1 ≤ N) (script : (List Int)) (lap : Int) (m : M) (h1 : script.length ≤ 63) (h2 : 0 ≤ lap ∧ lap < 1000000) : (fns P N).call "_law_bag" [((eL D.int) script), (D.int lap)] m = .ok (.ref m.length) (m ++ [pc (g__law_bag script lap)]) := by
  obtain ⟨N, rfl⟩ : ∃ k, N = k + 1 := ⟨N - 1, by omega⟩
  rw [call_eq f__law_bag rfl rfl]
  refine J.fin (b := false) ?_
  show J false false (List.length m) (exSs (fns P N) none b__law_bag [some ((eL D.int) script), some (D.int lap), none, none, none] m) ((fun (v : Pool) => .ok (.ref (List.length m)) (m ++ [pc v])) (g__law_bag script lap))
  unfold g__law_bag b__law_bag
  refine j_nx (st_set (ρ1 := [some ((eL D.int) script), some (D.int lap), some (D.int ((52027 : Int) + ((8009 : Int) * lap))), none, none]) (e_add e_c (e_mul (i := (8009 : Int)) (j := lap) e_c (e_v (d := (D.int lap)) rfl) (by first | with_reducible exact ix_ok h2 (by assumption) | with_reducible exact .inl (by decide +kernel) | with_reducible exact Int.lt_of_lt_of_le (by decide +kernel) (Int.le_refl _) | exact ix_ok h2 (by assumption) | exact .inl (by decide +kernel) | decide +kernel | exact Int.lt_of_lt_of_le (by decide +kernel) (Int.le_refl _) | walk_at "sz"))) rfl) ?_
  refine j_forF (e1 := D.int) (xs := (cut script none (some (16 : Int)))) (fun (s1 : Int) (j2 : Option D) => [some ((eL D.int) script), some (D.int lap), some (D.int s1), j2, none]) (fun (s1 : Int) => m) (fun (s1 : Int) (cell3 : Int) => ((((s1 * (48271 : Int)) + (cell3 % (2147483629 : Int))) + (23 : Int)) % (2147483647 : Int))) (fun _ _ => True) (s := ((52027 : Int) + ((8009 : Int) * lap))) (j := none) (i_l (e_slL (e1 := D.int) (xs := script) (i := none) (j := (some (16 : Int))) (e_v (d := ((eL D.int) script)) rfl) o_no rfl (o_yes e_c) rfl (by first | with_reducible exact ix_ok h2 (by assumption) | with_reducible exact .inl (by decide +kernel) | with_reducible exact Int.lt_of_lt_of_le (by decide +kernel) (Int.le_refl _) | exact ix_ok h2 (by assumption) | exact .inl (by decide +kernel) | decide +kernel | exact Int.lt_of_lt_of_le (by decide +kernel) (Int.le_refl _) | walk_at "sz"))) rfl (fun i7 s1 j2 cell3 hget_ hx8 hV9 => ⟨[some ((eL D.int) script), some (D.int lap), some (D.int s1), some (D.int cell3), none], some (D.int cell3), (b_n rfl), (ss_nx (st_set (ρ1 := [some ((eL D.int) script), some (D.int lap), some (D.int ((((s1 * (48271 : Int)) + (cell3 % (2147483629 : Int))) + (23 : Int)) % (2147483647 : Int))), some (D.int cell3), none]) (e_mod (i := (((s1 * (48271 : Int)) + (cell3 % (2147483629 : Int))) + (23 : Int))) (j := (2147483647 : Int)) (e_intI (e_add (e_add (e_mul (i := s1) (j := (48271 : Int)) (e_v (d := (D.int s1)) rfl) e_c (by first | with_reducible exact ix_ok h2 (by assumption) | with_reducible exact .inl (by decide +kernel) | with_reducible exact Int.lt_of_lt_of_le (by decide +kernel) (Int.le_refl _) | exact ix_ok h2 (by assumption) | exact .inl (by decide +kernel) | decide +kernel | exact Int.lt_of_lt_of_le (by decide +kernel) (Int.le_refl _) | walk_at "sz")) (e_mod (i := cell3) (j := (2147483629 : Int)) (e_intI (e_v (d := (D.int cell3)) rfl)) e_c (by first | with_reducible exact ix_ok h2 (by assumption) | with_reducible exact .inl (by decide +kernel) | with_reducible exact Int.lt_of_lt_of_le (by decide +kernel) (Int.le_refl _) | exact ix_ok h2 (by assumption) | exact .inl (by decide +kernel) | decide +kernel | exact Int.lt_of_lt_of_le (by decide +kernel) (Int.le_refl _) | walk_at "sz"))) e_c)) e_c (by first | with_reducible exact ix_ok h2 (by assumption) | with_reducible exact .inl (by decide +kernel) | with_reducible exact Int.lt_of_lt_of_le (by decide +kernel) (Int.le_refl _) | exact ix_ok h2 (by assumption) | exact .inl (by decide +kernel) | decide +kernel | exact Int.lt_of_lt_of_le (by decide +kernel) (Int.le_refl _) | walk_at "sz")) rfl) ss_nil), trivial⟩) trivial (fun j6 hI5 => ?_)
  refine j_nx (st_set (ρ1 := [some ((eL D.int) script), some (D.int lap), some (D.int (g__law_bag_stirred script lap)), j6, some (D.int (if (decide (lap < ((script).length : Int))) then (ixS script lap) else (0 : Int)))]) (e_ite (fun (v : Int) => .ok (D.int v) m) (x := (ixS script lap)) (y := (0 : Int)) (p := (decide (lap < ((script).length : Int)))) (e_lt (e_v (d := (D.int lap)) rfl) (e_len (e1 := D.int) (xs := script) (e_v (d := ((eL D.int) script)) rfl) .l)) (fun hk10 => (e_intI (e_ix (e1 := D.int) (xs := script) (k := lap) (x := (ixS script lap)) (e_v (d := ((eL D.int) script)) rfl) .l (e_v (d := (D.int lap)) rfl) (ixS_ok (by first | with_reducible exact ix_ok h2 (by assumption) | with_reducible exact .inl (by decide +kernel) | with_reducible exact Int.lt_of_lt_of_le (by decide +kernel) (Int.le_refl _) | exact ix_ok h2 (by assumption) | exact .inl (by decide +kernel) | decide +kernel | exact Int.lt_of_lt_of_le (by decide +kernel) (Int.le_refl _) | walk_at "sz"))))) (fun hk10 => e_c)) rfl) ?_
  refine j_nx (st_set (ρ1 := [some ((eL D.int) script), some (D.int lap), some (D.int (((((g__law_bag_stirred script lap) * (31 : Int)) + (((g__law_bag_own script lap) % (2147483629 : Int)) * (17 : Int))) + (3 : Int)) % (2147483647 : Int))), j6, some (D.int (g__law_bag_own script lap))]) (e_mod (i := ((((g__law_bag_stirred script lap) * (31 : Int)) + (((g__law_bag_own script lap) % (2147483629 : Int)) * (17 : Int))) + (3 : Int))) (j := (2147483647 : Int)) (e_intI (e_add (e_add (e_mul (i := (g__law_bag_stirred script lap)) (j := (31 : Int)) (e_v (d := (D.int (g__law_bag_stirred script lap))) rfl) e_c (by first | with_reducible exact ix_ok h2 (by assumption) | with_reducible exact .inl (by decide +kernel) | with_reducible exact Int.lt_of_lt_of_le (by decide +kernel) (Int.le_refl _) | exact ix_ok h2 (by assumption) | exact .inl (by decide +kernel) | decide +kernel | exact Int.lt_of_lt_of_le (by decide +kernel) (Int.le_refl _) | walk_at "sz")) (e_mul (i := ((g__law_bag_own script lap) % (2147483629 : Int))) (j := (17 : Int)) (e_mod (i := (g__law_bag_own script lap)) (j := (2147483629 : Int)) (e_intI (e_v (d := (D.int (g__law_bag_own script lap))) rfl)) e_c (by first | with_reducible exact ix_ok h2 (by assumption) | with_reducible exact .inl (by decide +kernel) | with_reducible exact Int.lt_of_lt_of_le (by decide +kernel) (Int.le_refl _) | exact ix_ok h2 (by assumption) | exact .inl (by decide +kernel) | decide +kernel | exact Int.lt_of_lt_of_le (by decide +kernel) (Int.le_refl _) | walk_at "sz")) e_c (by first | with_reducible exact ix_ok h2 (by assumption) | with_reducible exact .inl (by decide +kernel) | with_reducible exact Int.lt_of_lt_of_le (by decide +kernel) (Int.le_refl _) | exact ix_ok h2 (by assumption) | exact .inl (by decide +kernel) | decide +kernel | exact Int.lt_of_lt_of_le (by decide +kernel) (Int.le_refl _) | walk_at "sz"))) e_c)) e_c (by first | with_reducible exact ix_ok h2 (by assumption) | with_reducible exact .inl (by decide +kernel) | with_reducible exact Int.lt_of_lt_of_le (by decide +kernel) (Int.le_refl _) | exact ix_ok h2 (by assumption) | exact .inl (by decide +kernel) | decide +kernel | exact Int.lt_of_lt_of_le (by decide +kernel) (Int.le_refl _) | walk_at "sz")) rfl) ?_
  exact j_ret (e_lstR (ds := [.int (if ((decide ((g__law_bag_own script lap) < (0 : Int))) || (decide (((10 : Int) ^ ((15 : Int)).toNat) ≤ (g__law_bag_own script lap)))) then (if (g__law_bag_own script lap) < 0 then -(g__law_bag_own script lap) else (g__law_bag_own script lap)) else (0 : Int)), .int (g__law_bag_stirred2 script lap), .int (0 : Int)]) (es_cons (e_ite (fun (v : Int) => .ok (D.int v) m) (x := (if (g__law_bag_own script lap) < 0 then -(g__law_bag_own script lap) else (g__law_bag_own script lap))) (y := (0 : Int)) (p := ((decide ((g__law_bag_own script lap) < (0 : Int))) || (decide (((10 : Int) ^ ((15 : Int)).toNat) ≤ (g__law_bag_own script lap))))) (e_or (p := (decide ((g__law_bag_own script lap) < (0 : Int)))) (q := (decide (((10 : Int) ^ ((15 : Int)).toNat) ≤ (g__law_bag_own script lap)))) (e_lt (e_v (d := (D.int (g__law_bag_own script lap))) rfl) e_c) (fun hk11 => (e_ge (e_v (d := (D.int (g__law_bag_own script lap))) rfl) (e_pow (i := (10 : Int)) (j := (15 : Int)) e_c e_c (by first | with_reducible exact ix_ok h2 (by assumption) | with_reducible exact .inl (by decide +kernel) | with_reducible exact Int.lt_of_lt_of_le (by decide +kernel) (Int.le_refl _) | exact ix_ok h2 (by assumption) | exact .inl (by decide +kernel) | decide +kernel | exact Int.lt_of_lt_of_le (by decide +kernel) (Int.le_refl _) | walk_at "sz"))))) (fun hk13 => (e_abs (e_v (d := (D.int (g__law_bag_own script lap))) rfl))) (fun hk13 => e_c)) (es_cons (e_v (d := (D.int (g__law_bag_stirred2 script lap))) rfl) (es_cons e_c es_nil))) (Nat.le_of_ble_eq_true rfl) rfl) fin_new

def g__law_take_p (p : Pool) : Pool :=
  ((p).1, (((((p).2.1 * (16807 : Int)) + ((4099 : Int) * ((p).2.2 + (1 : Int)))) + (1 : Int)) % (2147483647 : Int)), ((p).2.2 + (1 : Int)))
def g__law_take (p : Pool) (top : Int) : Int × Pool :=
  (if (decide ((0 : Int) < (p).1)) then (((p).1 % top), (((p).1 / top), (p).2.1, (p).2.2)) else (((((g__law_take_p p)).2.1 / (911 : Int)) % top), (g__law_take_p p)))

theorem s__law_take (N : Nat) (hN : 1 ≤ N) (p : Pool) (top : Int) (m : M) (l : Nat) (hl : l < m.length) (h1 : 0 < top ∧ top < 1073741824) : (fns P N).call "_law_take" [.ref l, (D.int top)] (mp m l p) = .ok (D.int (g__law_take p top).1) (mp m l (g__law_take p top).2) := by
  obtain ⟨N, rfl⟩ : ∃ k, N = k + 1 := ⟨N - 1, by omega⟩
  rw [call_eq f__law_take rfl rfl]
  refine J.fin (b := false) ?_
  show J false false (List.length (mp m l p)) (exSs (fns P N) none b__law_take [some (.ref l), some (D.int top), none] (mp m l p)) ((fun (v : Int × Pool) => .ok (D.int v.1) (mp m l v.2)) (g__law_take p top))
  unfold g__law_take b__law_take
  refine j_ite (fun (v : Int × Pool) => .ok (D.int v.1) (mp m l v.2)) (k := (decide ((0 : Int) < (p).1))) (e_gt (e_pool0 (p := p) (by walk_at "ll") (e_v (d := .ref l) rfl)) e_c) (fun hk1 => ?_) (fun hk1 => ?_)
  · refine j_nx (st_bt (e_divmod (e_pool0 (p := p) (by walk_at "ll") (e_v (d := .ref l) rfl)) (e_v (d := (D.int top)) rfl) (by walk_at "sz")) (b_tsub (e1 := D.int) (e2 := D.int) (q := (((p).1 / top), ((p).1 % top))) (ρ2 := [some (.ref l), some (D.int top), some (D.int ((p).1 % top))]) (b_pool0 (p := p) (x := ((p).1 / top)) (by walk_at "ll") (e_v (d := .ref l) rfl)) rfl)) ?_
    exact j_ret (e_v (d := (D.int ((p).1 % top))) rfl) (fin_enc (e := D.int) (by walk_at "tk"))
  · refine j_nx (st_bt (e_add (e_pool2 (p := p) (by walk_at "ll") (e_v (d := .ref l) rfl)) e_c) (b_pool2 (p := p) (x := ((p).2.2 + (1 : Int))) (by walk_at "ll") (e_v (d := .ref l) rfl))) ?_
    refine j_nx (st_bt (e_mod (i := ((((p).2.1 * (16807 : Int)) + ((4099 : Int) * ((p).2.2 + (1 : Int)))) + (1 : Int))) (j := (2147483647 : Int)) (e_intI (e_add (e_add (e_mul (i := (p).2.1) (j := (16807 : Int)) (e_pool1 (p := ((p).1, (p).2.1, ((p).2.2 + (1 : Int)))) (by walk_at "ll") (e_v (d := .ref l) rfl)) e_c (by walk_at "sz")) (e_mul (i := (4099 : Int)) (j := ((p).2.2 + (1 : Int))) e_c (e_pool2 (p := ((p).1, (p).2.1, ((p).2.2 + (1 : Int)))) (by walk_at "ll") (e_v (d := .ref l) rfl)) (by walk_at "sz"))) e_c)) e_c (by walk_at "sz")) (b_pool1 (p := ((p).1, (p).2.1, ((p).2.2 + (1 : Int)))) (x := (((((p).2.1 * (16807 : Int)) + ((4099 : Int) * ((p).2.2 + (1 : Int)))) + (1 : Int)) % (2147483647 : Int))) (by walk_at "ll") (e_v (d := .ref l) rfl))) ?_
    exact j_ret (e_mod (i := (((g__law_take_p p)).2.1 / (911 : Int))) (j := top) (e_intI (e_fdiv (i := ((g__law_take_p p)).2.1) (j := (911 : Int)) (e_pool1 (p := (g__law_take_p p)) (by walk_at "ll") (e_v (d := .ref l) rfl)) e_c (by walk_at "sz"))) (e_v (d := (D.int top)) rfl) (by walk_at "sz")) (fin_enc (e := D.int) (by walk_at "tk"))

theorem take_b (p : Pool) (k : Int) (h : 0 < k) : 0 ≤ (g__law_take p k).1 ∧ (g__law_take p k).1 < k := by
  unfold g__law_take; split <;> exact ⟨Int.emod_nonneg _ (by omega), Int.emod_lt_of_pos _ h⟩
theorem ix_take {α : Type} {p : Pool} {xs : List α} (h : 0 < xs.length) : -(xs.length : Int) ≤ (g__law_take p xs.length).1 ∧ (g__law_take p xs.length).1 < xs.length := by
  have := take_b p xs.length (by omega); omega
theorem rng_take {p : Pool} {k : Int} (h : 0 < k ∧ k < 1073741824) : -4611686018427387904 ≤ (g__law_take p k).1 ∧ (g__law_take p k).1 < 4611686018427387904 := by
  have := take_b p k h.1; omega
theorem lenr_take {p : Pool} {k : Int} (h : 0 < k ∧ k ≤ 16777216) : (rngS 0 (g__law_take p k).1).length ≤ 16777216 := by
  have := take_b p k h.1; rw [rngS_len]; omega
theorem lots_inv {i : Nat} {s : List (List Int)} {x : Int} (h : s.length = 2 ^ i ∧ ∀ o ∈ s, o.length ≤ i) : (s ++ List.map (fun o : List Int => o ++ [x]) s).length = 2 ^ (i + 1) ∧ ∀ o ∈ s ++ List.map (fun o : List Int => o ++ [x]) s, o.length ≤ i + 1 := by
  refine ⟨by rw [List.length_append, List.length_map, h.1]; omega, fun o ho => ?_⟩
  rcases List.mem_append.mp ho with ho | ho
  · have := h.2 o ho; omega
  · obtain ⟨u, hu, rfl⟩ := List.mem_map.mp ho
    have := h.2 u hu; simp; omega
theorem lots_small {things : Int} {i : Nat} {s : List (List Int)} {x : Int} (hg : (rngS 0 things)[i]? = some x) (ht : 0 ≤ things ∧ things ≤ 6) (h : s.length = 2 ^ i ∧ ∀ o ∈ s, o.length ≤ i) : s.length ≤ 32 ∧ ∀ o ∈ s, o.length ≤ 5 := by
  have hi : i < (rngS 0 things).length := (List.getElem?_eq_some_iff.mp hg).1
  rw [rngS_len] at hi
  refine ⟨?_, fun o ho => Nat.le_trans (h.2 o ho) (by omega)⟩
  rw [h.1]
  exact Nat.le_trans (Nat.pow_le_pow_right (by decide) (show i ≤ 5 by omega)) (by decide)
theorem lots_end {things : Int} {s : List (List Int)} (ht : 0 ≤ things ∧ things ≤ 6) (h : s.length = 2 ^ (rngS 0 things).length ∧ ∀ o ∈ s, o.length ≤ (rngS 0 things).length) : s.length ≤ 64 := by
  rw [h.1, rngS_len]
  exact Nat.le_trans (Nat.pow_le_pow_right (by decide) (show (things - 0).toNat ≤ 6 by omega)) (by decide)
def g__law_pull (p : Pool) (some_ : (List (List Int))) : (List Int) × Pool :=
  ((ixS some_ (g__law_take p ((some_).length : Int)).1), (g__law_take p ((some_).length : Int)).2)

theorem s__law_pull (N : Nat) (hN : 2 ≤ N) (p : Pool) (some_ : (List (List Int))) (m : M) (l : Nat) (hl : l < m.length) (h1 : 0 < some_.length ∧ some_.length < 1073741824) : (fns P N).call "_law_pull" [.ref l, ((eL lotD) some_)] (mp m l p) = .ok (lotD (g__law_pull p some_).1) (mp m l (g__law_pull p some_).2) := by
  obtain ⟨N, rfl⟩ : ∃ k, N = k + 1 := ⟨N - 1, by omega⟩
  rw [call_eq f__law_pull rfl rfl]
  refine J.fin (b := false) ?_
  show J false false (List.length (mp m l p)) (exSs (fns P N) none b__law_pull [some (.ref l), some ((eL lotD) some_)] (mp m l p)) ((fun (v : (List Int) × Pool) => .ok (lotD v.1) (mp m l v.2)) (g__law_pull p some_))
  unfold g__law_pull b__law_pull
  exact j_ret (e_ix (e1 := lotD) (xs := some_) (k := (g__law_take p ((some_).length : Int)).1) (x := (ixS some_ (g__law_take p ((some_).length : Int)).1)) (e_v (d := ((eL lotD) some_)) rfl) .l (e_call (es_cons (e_v (d := .ref l) rfl) (es_cons (e_len (e1 := lotD) (xs := some_) (e_v (d := ((eL lotD) some_)) rfl) .l) es_nil)) (s__law_take N (by omega) p ((some_).length : Int) m l (by walk_at "ll") (by first | with_reducible exact ix_take h1.1 | exact ix_take h1.1 | walk_at "sz"))) (ixS_ok (by first | with_reducible exact ix_take h1.1 | exact ix_take h1.1 | walk_at "sz"))) (fin_enc (e := lotD) (by walk_at "tk"))

def g__law_lots_found (things : Int) : (List (List Int)) :=
  (List.foldl (fun (s1 : (List (List Int))) (thing3 : Int) => (s1 ++ (List.map (fun lot4 : (List Int) => (lot4 ++ [thing3])) s1))) [[]] (rngS 0 things))
def g__law_lots (things : Int) : (List (List Int)) :=
  (sortLots (g__law_lots_found things))

theorem s__law_lots (N : Nat) (hN : 1 ≤ N) (things : Int) (m : M) (h1 : 0 ≤ things ∧ things ≤ 6) : (fns P N).call "_law_lots" [(D.int things)] m = .ok ((eL lotD) (g__law_lots things)) m := by
  obtain ⟨N, rfl⟩ : ∃ k, N = k + 1 := ⟨N - 1, by omega⟩
  rw [call_eq f__law_lots rfl rfl]
  refine J.fin (b := false) ?_
  show J false false (List.length m) (exSs (fns P N) none b__law_lots [some (D.int things), none, none, none] m) ((fun (v : (List (List Int))) => .ok ((eL lotD) v) m) (g__law_lots things))
  unfold g__law_lots b__law_lots
  refine j_nx (st_set (ρ1 := [some (D.int things), some ((eL lotD) [[]]), none, none]) (as_ ((eL lotD) ([[]] : (List (List Int)))) (e_lst (es_cons (as_ (lotD ([] : (List Int))) (e_tup es_nil (Nat.le_of_ble_eq_true rfl))) es_nil) (Nat.le_of_ble_eq_true rfl))) rfl) ?_
  refine j_forF (e1 := D.int) (xs := (rngS 0 things)) (fun (s1 : (List (List Int))) (j2 : Option D) => [some (D.int things), some ((eL lotD) s1), j2, none]) (fun (s1 : (List (List Int))) => m) (fun (s1 : (List (List Int))) (thing3 : Int) => (s1 ++ (List.map (fun lot4 : (List Int) => (lot4 ++ [thing3])) s1))) (fun i s => s.length = 2 ^ i ∧ ∀ o ∈ s, o.length ≤ i) (s := [[]]) (j := none) (g_rng1 (j := things) (e_v (d := (D.int things)) rfl) (by first | with_reducible exact Nat.le_trans (lots_small hget_ h1 (by assumption)).1 (by decide) | with_reducible exact Nat.le_trans (lots_end h1 (by assumption)) (by decide) | exact Nat.le_trans (lots_small hget_ h1 (by assumption)).1 (by decide) | (have z := (lots_small hget_ h1 (by assumption)).2 _ (by assumption); rw [List.length_append, List.length_singleton]; omega) | (have z := (lots_small hget_ h1 (by assumption)).1; simp only [List.length_append, List.length_map]; omega) | exact Nat.le_trans (lots_end h1 (by assumption)) (by decide) | walk_at "sz")) rfl (fun i9 s1 j2 thing3 hget_ hx10 hV11 => ⟨[some (D.int things), some ((eL lotD) s1), some (D.int thing3), none], some (D.int thing3), (b_n rfl), (ss_nx (st_set (ρ1 := [some (D.int things), some ((eL lotD) (s1 ++ (List.map (fun lot4 : (List Int) => (lot4 ++ [thing3])) s1))), some (D.int thing3), none]) (e_addL (e1 := lotD) (xs := s1) (ys := (List.map (fun lot4 : (List Int) => (lot4 ++ [thing3])) s1)) (e_v (d := ((eL lotD) s1)) rfl) (e_compN (e1 := lotD) (e2 := lotD) (xs := s1) (r := (fun (lot4 : (List Int)) => [some (D.int things), some ((eL lotD) s1), some (D.int thing3), some (lotD lot4)])) (f := (fun lot4 : (List Int) => (lot4 ++ [thing3]))) (i_l (e_v (d := ((eL lotD) s1)) rfl)) (by first | with_reducible exact Nat.le_trans (lots_small hget_ h1 (by assumption)).1 (by decide) | with_reducible exact Nat.le_trans (lots_end h1 (by assumption)) (by decide) | exact Nat.le_trans (lots_small hget_ h1 (by assumption)).1 (by decide) | (have z := (lots_small hget_ h1 (by assumption)).2 _ (by assumption); rw [List.length_append, List.length_singleton]; omega) | (have z := (lots_small hget_ h1 (by assumption)).1; simp only [List.length_append, List.length_map]; omega) | exact Nat.le_trans (lots_end h1 (by assumption)) (by decide) | walk_at "sz") (fun lot4 => (b_n rfl)) (fun lot4 hx5 => (e_addT (e1 := D.int) (xs := lot4) (ys := [thing3]) (e_v (d := (lotD lot4)) rfl) (as_ (lotD ([thing3] : (List Int))) (e_tup (es_cons (e_v (d := (D.int thing3)) rfl) es_nil) (Nat.le_of_ble_eq_true rfl))) (by first | with_reducible exact Nat.le_trans (lots_small hget_ h1 (by assumption)).1 (by decide) | with_reducible exact Nat.le_trans (lots_end h1 (by assumption)) (by decide) | exact Nat.le_trans (lots_small hget_ h1 (by assumption)).1 (by decide) | (have z := (lots_small hget_ h1 (by assumption)).2 _ (by assumption); rw [List.length_append, List.length_singleton]; omega) | (have z := (lots_small hget_ h1 (by assumption)).1; simp only [List.length_append, List.length_map]; omega) | exact Nat.le_trans (lots_end h1 (by assumption)) (by decide) | walk_at "sz")))) (by first | with_reducible exact Nat.le_trans (lots_small hget_ h1 (by assumption)).1 (by decide) | with_reducible exact Nat.le_trans (lots_end h1 (by assumption)) (by decide) | exact Nat.le_trans (lots_small hget_ h1 (by assumption)).1 (by decide) | (have z := (lots_small hget_ h1 (by assumption)).2 _ (by assumption); rw [List.length_append, List.length_singleton]; omega) | (have z := (lots_small hget_ h1 (by assumption)).1; simp only [List.length_append, List.length_map]; omega) | exact Nat.le_trans (lots_end h1 (by assumption)) (by decide) | walk_at "sz")) rfl) ss_nil), (by exact lots_inv (by assumption))⟩) (by exact ⟨rfl, by simp⟩) (fun j8 hI7 => ?_)
  exact j_ret (e_sorted (ls := (g__law_lots_found things)) (e_v (d := ((eL lotD) (g__law_lots_found things))) rfl) (by first | with_reducible exact Nat.le_trans (lots_small hget_ h1 (by assumption)).1 (by decide) | with_reducible exact Nat.le_trans (lots_end h1 (by assumption)) (by decide) | exact Nat.le_trans (lots_small hget_ h1 (by assumption)).1 (by decide) | (have z := (lots_small hget_ h1 (by assumption)).2 _ (by assumption); rw [List.length_append, List.length_singleton]; omega) | (have z := (lots_small hget_ h1 (by assumption)).1; simp only [List.length_append, List.length_map]; omega) | exact Nat.le_trans (lots_end h1 (by assumption)) (by decide) | walk_at "sz")) (fin_enc (e := (eL lotD)) (by walk_at "tk"))

theorem lots_eq (k : Nat) : g__law_lots k = lotsOf k := by
  unfold g__law_lots lotsOf g__law_lots_found
  congr 1
  induction k with
  | zero => rfl
  | succ k ih =>
    rw [rngS_nat] at ih ⊢
    rw [List.range_succ, List.map_append, List.foldl_append, ih]
    rfl
theorem lots_of {things : Int} (h : 0 ≤ things) : g__law_lots things = lotsOf things.toNat := by
  have e : things = ((things.toNat : Nat) : Int) := by omega
  rw [e, lots_eq]; rfl
theorem lots_len {things : Int} (h : 0 ≤ things ∧ things ≤ 6) : (g__law_lots things).length ≤ 64 := by
  rw [lots_of h.1, lotsOf_len]
  exact Nat.le_trans (Nat.pow_le_pow_right (by decide) (show things.toNat ≤ 6 by omega)) (by decide)
theorem lots_pos {things : Int} (h : 0 ≤ things) : 0 < (g__law_lots things).length := by
  rw [lots_of h, lotsOf_len]; exact Nat.two_pow_pos _
theorem lots_ok {things : Int} (h : 0 ≤ things ∧ things ≤ 6) : ∀ o ∈ g__law_lots things, LotOk things o := by
  rw [lots_of h.1]
  have := lotsOf_ok (k := things.toNat) (by omega)
  rw [show ((things.toNat : Nat) : Int) = things by omega] at this
  exact this
theorem lots_nodup (k : Nat) : (lotsUp k).Nodup := by
  induction k with
  | zero => simp [lotsUp]
  | succ k ih =>
    unfold lotsUp
    rw [List.nodup_append]
    refine ⟨ih, ?_, fun a ha b hb e => ?_⟩
    · rw [List.nodup_iff_pairwise_ne] at ih ⊢
      rw [List.pairwise_map]
      exact ih.imp fun h e => h (List.append_inj_left' e rfl)
    · obtain ⟨u, hu, rfl⟩ := List.mem_map.mp hb
      have := (lotsUp_ok k a ha).1 (k : Int) (by rw [e]; simp)
      omega

theorem pull_mem {p : Pool} {xs : List (List Int)} (h : 0 < xs.length) : (g__law_pull p xs).1 ∈ xs := by
  unfold g__law_pull
  have := take_b p xs.length (by omega)
  exact ixS_mem this
theorem lots_two {things : Int} (h : 1 ≤ things) : 2 ≤ (g__law_lots things).length := by
  rw [lots_of (by omega), lotsOf_len]
  exact Nat.le_trans (show 2 ≤ 2 ^ 1 by decide) (Nat.pow_le_pow_right (by decide) (by omega))
def g__law_book_every (p : Pool) (things : Int) : (List (List Int)) :=
  (if (decide ((0 : Int) < (g__law_take p (4 : Int)).1)) then (cut (g__law_lots things) (some (1 : Int)) none) else (g__law_lots things))
def g__law_book_it (p : Pool) (things : Int) (most : Int) : (List Int) :=
  (rngS 0 (g__law_take (g__law_take (g__law_take p (4 : Int)).2 (things + (1 : Int))).2 (most + (1 : Int))).1)
def g__law_book_p (p : Pool) (things : Int) (most : Int) : Pool :=
  (g__law_take (g__law_take (g__law_take p (4 : Int)).2 (things + (1 : Int))).2 (most + (1 : Int))).2
def g__law_book_some (p : Pool) (things : Int) (most : Int) : (List (List Int)) :=
  (List.foldl (fun (s2 : (List (List Int)) × Pool) (turn4 : Int) => ((s2.1 ++ [((if ((decide ((g__law_take (g__law_pull s2.2 (g__law_book_every p things)).2 (3 : Int)).1 = (0 : Int))) && (!decide ((List.filter (fun own5 : (List Int) => (decide (((own5).length : Int) = (g__law_take (g__law_take p (4 : Int)).2 (things + (1 : Int))).1))) (g__law_book_every p things)) = []))) then ((g__law_pull (g__law_take (g__law_pull s2.2 (g__law_book_every p things)).2 (3 : Int)).2 (List.filter (fun own5 : (List Int) => (decide (((own5).length : Int) = (g__law_take (g__law_take p (4 : Int)).2 (things + (1 : Int))).1))) (g__law_book_every p things))).1, (g__law_pull (g__law_take (g__law_pull s2.2 (g__law_book_every p things)).2 (3 : Int)).2 (List.filter (fun own5 : (List Int) => (decide (((own5).length : Int) = (g__law_take (g__law_take p (4 : Int)).2 (things + (1 : Int))).1))) (g__law_book_every p things))).2) else ((g__law_pull s2.2 (g__law_book_every p things)).1, (g__law_take (g__law_pull s2.2 (g__law_book_every p things)).2 (3 : Int)).2))).1]), ((if ((decide ((g__law_take (g__law_pull s2.2 (g__law_book_every p things)).2 (3 : Int)).1 = (0 : Int))) && (!decide ((List.filter (fun own5 : (List Int) => (decide (((own5).length : Int) = (g__law_take (g__law_take p (4 : Int)).2 (things + (1 : Int))).1))) (g__law_book_every p things)) = []))) then ((g__law_pull (g__law_take (g__law_pull s2.2 (g__law_book_every p things)).2 (3 : Int)).2 (List.filter (fun own5 : (List Int) => (decide (((own5).length : Int) = (g__law_take (g__law_take p (4 : Int)).2 (things + (1 : Int))).1))) (g__law_book_every p things))).1, (g__law_pull (g__law_take (g__law_pull s2.2 (g__law_book_every p things)).2 (3 : Int)).2 (List.filter (fun own5 : (List Int) => (decide (((own5).length : Int) = (g__law_take (g__law_take p (4 : Int)).2 (things + (1 : Int))).1))) (g__law_book_every p things))).2) else ((g__law_pull s2.2 (g__law_book_every p things)).1, (g__law_take (g__law_pull s2.2 (g__law_book_every p things)).2 (3 : Int)).2))).2)) (([] : (List (List Int))), (g__law_book_p p things most)) (g__law_book_it p things most)).1
def g__law_book_p2 (p : Pool) (things : Int) (most : Int) : Pool :=
  (List.foldl (fun (s2 : (List (List Int)) × Pool) (turn4 : Int) => ((s2.1 ++ [((if ((decide ((g__law_take (g__law_pull s2.2 (g__law_book_every p things)).2 (3 : Int)).1 = (0 : Int))) && (!decide ((List.filter (fun own5 : (List Int) => (decide (((own5).length : Int) = (g__law_take (g__law_take p (4 : Int)).2 (things + (1 : Int))).1))) (g__law_book_every p things)) = []))) then ((g__law_pull (g__law_take (g__law_pull s2.2 (g__law_book_every p things)).2 (3 : Int)).2 (List.filter (fun own5 : (List Int) => (decide (((own5).length : Int) = (g__law_take (g__law_take p (4 : Int)).2 (things + (1 : Int))).1))) (g__law_book_every p things))).1, (g__law_pull (g__law_take (g__law_pull s2.2 (g__law_book_every p things)).2 (3 : Int)).2 (List.filter (fun own5 : (List Int) => (decide (((own5).length : Int) = (g__law_take (g__law_take p (4 : Int)).2 (things + (1 : Int))).1))) (g__law_book_every p things))).2) else ((g__law_pull s2.2 (g__law_book_every p things)).1, (g__law_take (g__law_pull s2.2 (g__law_book_every p things)).2 (3 : Int)).2))).1]), ((if ((decide ((g__law_take (g__law_pull s2.2 (g__law_book_every p things)).2 (3 : Int)).1 = (0 : Int))) && (!decide ((List.filter (fun own5 : (List Int) => (decide (((own5).length : Int) = (g__law_take (g__law_take p (4 : Int)).2 (things + (1 : Int))).1))) (g__law_book_every p things)) = []))) then ((g__law_pull (g__law_take (g__law_pull s2.2 (g__law_book_every p things)).2 (3 : Int)).2 (List.filter (fun own5 : (List Int) => (decide (((own5).length : Int) = (g__law_take (g__law_take p (4 : Int)).2 (things + (1 : Int))).1))) (g__law_book_every p things))).1, (g__law_pull (g__law_take (g__law_pull s2.2 (g__law_book_every p things)).2 (3 : Int)).2 (List.filter (fun own5 : (List Int) => (decide (((own5).length : Int) = (g__law_take (g__law_take p (4 : Int)).2 (things + (1 : Int))).1))) (g__law_book_every p things))).2) else ((g__law_pull s2.2 (g__law_book_every p things)).1, (g__law_take (g__law_pull s2.2 (g__law_book_every p things)).2 (3 : Int)).2))).2)) (([] : (List (List Int))), (g__law_book_p p things most)) (g__law_book_it p things most)).2
def g__law_book (p : Pool) (things : Int) (most : Int) : (List (List Int)) × Pool :=
  ((sortLots (dedup (g__law_book_some p things most))), (g__law_book_p2 p things most))

theorem every_sub {p : Pool} {things : Int} {o : List Int} (h : o ∈ g__law_book_every p things) : o ∈ g__law_lots things := by
  unfold g__law_book_every at h
  split at h
  · rw [show (1 : Int) = ((1 : Nat) : Int) from rfl, cut_from] at h
    exact List.mem_of_mem_drop h
  · exact h
theorem every_len {p : Pool} {things : Int} (ht : 1 ≤ things ∧ things ≤ 6) : 0 < (g__law_book_every p things).length ∧ (g__law_book_every p things).length < 1073741824 := by
  have h1 := lots_len (things := things) ⟨by omega, ht.2⟩
  have h2 := lots_two ht.1
  unfold g__law_book_every
  split
  · rw [show (1 : Int) = ((1 : Nat) : Int) from rfl, cut_from, List.length_drop]; omega
  · omega
theorem every_16 {p : Pool} {things : Int} (ht : 1 ≤ things ∧ things ≤ 6) : (g__law_book_every p things).length ≤ 16777216 := by
  have h1 := lots_len (things := things) ⟨by omega, ht.2⟩
  unfold g__law_book_every
  split
  · rw [show (1 : Int) = ((1 : Nat) : Int) from rfl, cut_from, List.length_drop]; omega
  · omega
theorem every_el {p : Pool} {things : Int} (ht : 1 ≤ things ∧ things ≤ 6) {o : List Int} (h : o ∈ g__law_book_every p things) : o.length ≤ 16777216 :=
  Nat.le_trans (lots_ok ⟨by omega, ht.2⟩ o (every_sub h)).2.2 (by decide)
theorem same_len {p : Pool} {things : Int} {k : List Int → Bool} {c : Bool} (ht : 1 ≤ things ∧ things ≤ 6) (h : (c && !decide (List.filter k (g__law_book_every p things) = [])) = true) : 0 < (List.filter k (g__law_book_every p things)).length ∧ (List.filter k (g__law_book_every p things)).length < 1073741824 := by
  have h1 : List.filter k (g__law_book_every p things) ≠ [] := by simp only [Bool.and_eq_true, Bool.not_eq_true', decide_eq_false_iff_not] at h; exact h.2
  exact ⟨List.length_pos_iff.mpr h1, Nat.lt_of_le_of_lt (List.length_filter_le _ _) (every_len ht).2⟩
theorem pick_mem {E : List (List Int)} {q r a b : Pool} {k : List Int → Bool} {c : Bool} (hE : 0 < E.length) : ((if (c && !decide (List.filter k E = [])) = true then ((g__law_pull q (List.filter k E)).1, a) else ((g__law_pull r E).1, b))).1 ∈ E := by
  split
  · rename_i h
    have h1 : List.filter k E ≠ [] := by simp only [Bool.and_eq_true, Bool.not_eq_true', decide_eq_false_iff_not] at h; exact h.2
    exact (List.mem_filter.mp (pull_mem (List.length_pos_iff.mpr h1))).1
  · exact pull_mem hE
theorem it_len {p : Pool} {things most : Int} (hm : 0 ≤ most ∧ most ≤ 12) : (g__law_book_it p things most).length ≤ 12 := by
  unfold g__law_book_it
  rw [rngS_len]
  have := take_b (g__law_take (g__law_take p (4 : Int)).2 (things + 1)).2 (most + 1) (by omega)
  omega
theorem it_le {p : Pool} {things most : Int} (hm : 0 ≤ most ∧ most ≤ 12) : ((g__law_book_it p things most).length : Int) ≤ most := by
  unfold g__law_book_it
  rw [rngS_len]
  have := take_b (g__law_take (g__law_take p (4 : Int)).2 (things + 1)).2 (most + 1) (by omega)
  omega
theorem it_fit {p : Pool} {things most : Int} {i : Nat} {x : Int} {s : List (List Int)} (hm : 0 ≤ most ∧ most ≤ 12) (hg : (g__law_book_it p things most)[i]? = some x) (h : s.length = i ∧ ∀ o ∈ s, o ∈ g__law_book_every p things) : s.length < 16777216 := by
  have h1 := (List.getElem?_eq_some_iff.mp hg).1
  have h2 := it_len (p := p) (things := things) hm
  rw [h.1]; exact Nat.lt_trans (Nat.lt_of_lt_of_le h1 h2) (by decide)
theorem some_all {p : Pool} {things most : Int} (ht : 1 ≤ things ∧ things ≤ 6) : (g__law_book_some p things most).length = (g__law_book_it p things most).length ∧ ∀ o ∈ g__law_book_some p things most, o ∈ g__law_book_every p things := by
  unfold g__law_book_some
  exact foldl_inv0 (Inv := fun i (s : List (List Int) × Pool) => s.1.length = i ∧ ∀ o ∈ s.1, o ∈ g__law_book_every p things) (g__law_book_it p things most) _ (fun k s x _ hI => book_step hI (pick_mem (every_len ht).1)) ⟨rfl, by simp⟩
theorem book_ok {p : Pool} {things most : Int} (ht : 1 ≤ things ∧ things ≤ 6) (hm : 0 ≤ most ∧ most ≤ 12) : BookOk things (g__law_book p things most).1 := by
  obtain ⟨h1, h2⟩ := some_all (p := p) (most := most) ht
  have h3 := it_len (p := p) (things := things) hm
  refine ⟨fun o ho => lots_ok ⟨by omega, ht.2⟩ o (every_sub (h2 o (mem_sset.mp ho))), asc_sset _, ?_⟩
  exact Nat.le_trans (len_sort (len_dedup (by rw [h1]; exact h3))) (by decide)
theorem book_few {p : Pool} {things most : Int} (ht : 1 ≤ things ∧ things ≤ 6) (hm : 0 ≤ most ∧ most ≤ 12) : ((g__law_book p things most).1.length : Int) ≤ most := by
  obtain ⟨h1, h2⟩ := some_all (p := p) (most := most) ht
  have h3 := it_le (p := p) (things := things) hm
  have : (g__law_book p things most).1.length ≤ (g__law_book_it p things most).length := len_sort (len_dedup (by rw [h1]; exact Nat.le_refl _))
  omega
theorem s__law_book (N : Nat) (hN : 3 ≤ N) (p : Pool) (things : Int) (most : Int) (m : M) (l : Nat) (hl : l < m.length) (h1 : 1 ≤ things ∧ things ≤ 6) (h2 : 0 ≤ most ∧ most ≤ 12) : (fns P N).call "_law_book" [.ref l, (D.int things), (D.int most)] (mp m l p) = .ok ((eT lotD) (g__law_book p things most).1) (mp m l (g__law_book p things most).2) := by
  obtain ⟨N, rfl⟩ : ∃ k, N = k + 1 := ⟨N - 1, by omega⟩
  rw [call_eq f__law_book rfl rfl]
  refine J.fin (b := false) ?_
  show J false false (List.length (mp m l p)) (exSs (fns P N) none b__law_book [some (.ref l), some (D.int things), some (D.int most), none, none, none, none, none, none, none] (mp m l p)) ((fun (v : (List (List Int)) × Pool) => .ok ((eT lotD) v.1) (mp m l v.2)) (g__law_book p things most))
  unfold g__law_book b__law_book
  refine j_nx (st_par (ρ1 := [some (.ref l), some (D.int things), some (D.int most), some (.ref ((mp m l p)).length), some ((eL lotD) (g__law_lots things)), none, none, none, none, none]) (es_cons (e_lstR (ds := List.map lotD ([] : (List (List Int)))) es_nil (Nat.le_of_ble_eq_true rfl) (by first | rfl | exact pureL_map _)) (es_cons (e_call (es_cons (e_v (d := (D.int things)) rfl) es_nil) (s__law_lots N (by omega) things _ (by first | with_reducible exact ⟨by omega, h1.2⟩ | with_reducible exact ⟨by omega, by omega⟩ | with_reducible exact every_len h1 | with_reducible exact Nat.le_of_lt (Nat.lt_trans (every_len h1).2 (by decide)) | with_reducible exact same_len h1 (by assumption) | with_reducible exact every_el h1 (by assumption) | with_reducible exact Nat.le_trans (lots_len ⟨by omega, h1.2⟩) (by decide) | with_reducible exact rng_take ⟨by omega, by omega⟩ | with_reducible exact it_fit h2 hget_ (by assumption) | with_reducible exact Nat.le_trans (Nat.le_of_lt (every_len h1).2) (by decide) | with_reducible exact len_sort (len_dedup (by rw [(some_all h1).1]; exact Nat.le_trans (it_len h2) (by decide))) | with_reducible exact len_filter (Nat.le_trans (Nat.le_of_lt (every_len h1).2) (by decide)) | with_reducible exact every_16 h1 | exact ⟨by omega, h1.2⟩ | exact ⟨by omega, by omega⟩ | exact every_len h1 | exact Nat.le_of_lt (Nat.lt_trans (every_len h1).2 (by decide)) | exact same_len h1 (by assumption) | exact every_el h1 (by assumption) | exact Nat.le_trans (lots_len ⟨by omega, h1.2⟩) (by decide) | exact rng_take ⟨by omega, by omega⟩ | exact it_fit h2 hget_ (by assumption) | exact Nat.le_trans (Nat.le_of_lt (every_len h1).2) (by decide) | (rw [(some_all h1).1]; exact Nat.lt_of_le_of_lt (it_len h2) (by decide)) | exact len_sort (len_dedup (by rw [(some_all h1).1]; exact Nat.le_trans (it_len h2) (by decide))) | (rw [List.length_map]; exact len_sort (len_dedup (by rw [(some_all h1).1]; exact Nat.le_trans (it_len h2) (by decide)))) | exact len_filter (Nat.le_trans (Nat.le_of_lt (every_len h1).2) (by decide)) | exact every_16 h1 | walk_at "sz"))) es_nil)) rfl) ?_
  refine j_nx (st_set (ρ1 := [some (.ref l), some (D.int things), some (D.int most), some (.ref ((mp m l p)).length), some ((eL lotD) (if (decide ((0 : Int) < (g__law_take p (4 : Int)).1)) then (cut (g__law_lots things) (some (1 : Int)) none) else (g__law_lots things))), none, none, none, none, none]) (e_ite (fun (v : (List (List Int))) => .ok ((eL lotD) v) ((mp m l (g__law_take p (4 : Int)).2) ++ [.lst (List.map lotD ([] : (List (List Int))))])) (x := (cut (g__law_lots things) (some (1 : Int)) none)) (y := (g__law_lots things)) (p := (decide ((0 : Int) < (g__law_take p (4 : Int)).1))) (e_gt (e_call (es_cons (e_v (d := .ref l) rfl) (es_cons e_c es_nil)) (by have z := (s__law_take N (by omega) p (4 : Int) (m ++ [.lst (List.map lotD ([] : (List (List Int))))]) l (by walk_at "ll") (by first | with_reducible exact ⟨by omega, h1.2⟩ | with_reducible exact ⟨by omega, by omega⟩ | with_reducible exact every_len h1 | with_reducible exact Nat.le_of_lt (Nat.lt_trans (every_len h1).2 (by decide)) | with_reducible exact same_len h1 (by assumption) | with_reducible exact every_el h1 (by assumption) | with_reducible exact Nat.le_trans (lots_len ⟨by omega, h1.2⟩) (by decide) | with_reducible exact rng_take ⟨by omega, by omega⟩ | with_reducible exact it_fit h2 hget_ (by assumption) | with_reducible exact Nat.le_trans (Nat.le_of_lt (every_len h1).2) (by decide) | with_reducible exact len_sort (len_dedup (by rw [(some_all h1).1]; exact Nat.le_trans (it_len h2) (by decide))) | with_reducible exact len_filter (Nat.le_trans (Nat.le_of_lt (every_len h1).2) (by decide)) | with_reducible exact every_16 h1 | exact ⟨by omega, h1.2⟩ | exact ⟨by omega, by omega⟩ | exact every_len h1 | exact Nat.le_of_lt (Nat.lt_trans (every_len h1).2 (by decide)) | exact same_len h1 (by assumption) | exact every_el h1 (by assumption) | exact Nat.le_trans (lots_len ⟨by omega, h1.2⟩) (by decide) | exact rng_take ⟨by omega, by omega⟩ | exact it_fit h2 hget_ (by assumption) | exact Nat.le_trans (Nat.le_of_lt (every_len h1).2) (by decide) | (rw [(some_all h1).1]; exact Nat.lt_of_le_of_lt (it_len h2) (by decide)) | exact len_sort (len_dedup (by rw [(some_all h1).1]; exact Nat.le_trans (it_len h2) (by decide))) | (rw [List.length_map]; exact len_sort (len_dedup (by rw [(some_all h1).1]; exact Nat.le_trans (it_len h2) (by decide)))) | exact len_filter (Nat.le_trans (Nat.le_of_lt (every_len h1).2) (by decide)) | exact every_16 h1 | walk_at "sz")); rw [mp_app (by walk_at "ll"), mp_app (by walk_at "ll")] at z; exact z)) e_c) (fun hk1 => (e_slL (e1 := lotD) (xs := (g__law_lots things)) (i := (some (1 : Int))) (j := none) (e_v (d := ((eL lotD) (g__law_lots things))) rfl) (o_yes e_c) rfl o_no rfl (by first | with_reducible exact ⟨by omega, h1.2⟩ | with_reducible exact ⟨by omega, by omega⟩ | with_reducible exact every_len h1 | with_reducible exact Nat.le_of_lt (Nat.lt_trans (every_len h1).2 (by decide)) | with_reducible exact same_len h1 (by assumption) | with_reducible exact every_el h1 (by assumption) | with_reducible exact Nat.le_trans (lots_len ⟨by omega, h1.2⟩) (by decide) | with_reducible exact rng_take ⟨by omega, by omega⟩ | with_reducible exact it_fit h2 hget_ (by assumption) | with_reducible exact Nat.le_trans (Nat.le_of_lt (every_len h1).2) (by decide) | with_reducible exact len_sort (len_dedup (by rw [(some_all h1).1]; exact Nat.le_trans (it_len h2) (by decide))) | with_reducible exact len_filter (Nat.le_trans (Nat.le_of_lt (every_len h1).2) (by decide)) | with_reducible exact every_16 h1 | exact ⟨by omega, h1.2⟩ | exact ⟨by omega, by omega⟩ | exact every_len h1 | exact Nat.le_of_lt (Nat.lt_trans (every_len h1).2 (by decide)) | exact same_len h1 (by assumption) | exact every_el h1 (by assumption) | exact Nat.le_trans (lots_len ⟨by omega, h1.2⟩) (by decide) | exact rng_take ⟨by omega, by omega⟩ | exact it_fit h2 hget_ (by assumption) | exact Nat.le_trans (Nat.le_of_lt (every_len h1).2) (by decide) | (rw [(some_all h1).1]; exact Nat.lt_of_le_of_lt (it_len h2) (by decide)) | exact len_sort (len_dedup (by rw [(some_all h1).1]; exact Nat.le_trans (it_len h2) (by decide))) | (rw [List.length_map]; exact len_sort (len_dedup (by rw [(some_all h1).1]; exact Nat.le_trans (it_len h2) (by decide)))) | exact len_filter (Nat.le_trans (Nat.le_of_lt (every_len h1).2) (by decide)) | exact every_16 h1 | walk_at "sz"))) (fun hk1 => (e_v (d := ((eL lotD) (g__law_lots things))) rfl))) rfl) ?_
  refine j_nx (st_set (ρ1 := [some (.ref l), some (D.int things), some (D.int most), some (.ref ((mp m l p)).length), some ((eL lotD) (g__law_book_every p things)), some (D.int (g__law_take (g__law_take p (4 : Int)).2 (things + (1 : Int))).1), none, none, none, none]) (e_call (es_cons (e_v (d := .ref l) rfl) (es_cons (e_add (e_v (d := (D.int things)) rfl) e_c) es_nil)) (by have z := (s__law_take N (by omega) (g__law_take p (4 : Int)).2 (things + (1 : Int)) (m ++ [.lst (List.map lotD ([] : (List (List Int))))]) l (by walk_at "ll") (by first | with_reducible exact ⟨by omega, h1.2⟩ | with_reducible exact ⟨by omega, by omega⟩ | with_reducible exact every_len h1 | with_reducible exact Nat.le_of_lt (Nat.lt_trans (every_len h1).2 (by decide)) | with_reducible exact same_len h1 (by assumption) | with_reducible exact every_el h1 (by assumption) | with_reducible exact Nat.le_trans (lots_len ⟨by omega, h1.2⟩) (by decide) | with_reducible exact rng_take ⟨by omega, by omega⟩ | with_reducible exact it_fit h2 hget_ (by assumption) | with_reducible exact Nat.le_trans (Nat.le_of_lt (every_len h1).2) (by decide) | with_reducible exact len_sort (len_dedup (by rw [(some_all h1).1]; exact Nat.le_trans (it_len h2) (by decide))) | with_reducible exact len_filter (Nat.le_trans (Nat.le_of_lt (every_len h1).2) (by decide)) | with_reducible exact every_16 h1 | exact ⟨by omega, h1.2⟩ | exact ⟨by omega, by omega⟩ | exact every_len h1 | exact Nat.le_of_lt (Nat.lt_trans (every_len h1).2 (by decide)) | exact same_len h1 (by assumption) | exact every_el h1 (by assumption) | exact Nat.le_trans (lots_len ⟨by omega, h1.2⟩) (by decide) | exact rng_take ⟨by omega, by omega⟩ | exact it_fit h2 hget_ (by assumption) | exact Nat.le_trans (Nat.le_of_lt (every_len h1).2) (by decide) | (rw [(some_all h1).1]; exact Nat.lt_of_le_of_lt (it_len h2) (by decide)) | exact len_sort (len_dedup (by rw [(some_all h1).1]; exact Nat.le_trans (it_len h2) (by decide))) | (rw [List.length_map]; exact len_sort (len_dedup (by rw [(some_all h1).1]; exact Nat.le_trans (it_len h2) (by decide)))) | exact len_filter (Nat.le_trans (Nat.le_of_lt (every_len h1).2) (by decide)) | exact every_16 h1 | walk_at "sz")); rw [mp_app (by walk_at "ll"), mp_app (by walk_at "ll")] at z; exact z)) rfl) ?_
  refine j_forF (e1 := D.int) (xs := (g__law_book_it p things most)) (fun (s2 : (List (List Int)) × Pool) (j3 : Option D × Option D × Option D) => [some (.ref l), some (D.int things), some (D.int most), some (.ref ((mp m l p)).length), some ((eL lotD) (g__law_book_every p things)), some (D.int (g__law_take (g__law_take p (4 : Int)).2 (things + (1 : Int))).1), j3.1, j3.2.1, j3.2.2, none]) (fun (s2 : (List (List Int)) × Pool) => ((mp m l s2.2) ++ [.lst (List.map lotD s2.1)])) (fun (s2 : (List (List Int)) × Pool) (turn4 : Int) => ((s2.1 ++ [((if ((decide ((g__law_take (g__law_pull s2.2 (g__law_book_every p things)).2 (3 : Int)).1 = (0 : Int))) && (!decide ((List.filter (fun own5 : (List Int) => (decide (((own5).length : Int) = (g__law_take (g__law_take p (4 : Int)).2 (things + (1 : Int))).1))) (g__law_book_every p things)) = []))) then ((g__law_pull (g__law_take (g__law_pull s2.2 (g__law_book_every p things)).2 (3 : Int)).2 (List.filter (fun own5 : (List Int) => (decide (((own5).length : Int) = (g__law_take (g__law_take p (4 : Int)).2 (things + (1 : Int))).1))) (g__law_book_every p things))).1, (g__law_pull (g__law_take (g__law_pull s2.2 (g__law_book_every p things)).2 (3 : Int)).2 (List.filter (fun own5 : (List Int) => (decide (((own5).length : Int) = (g__law_take (g__law_take p (4 : Int)).2 (things + (1 : Int))).1))) (g__law_book_every p things))).2) else ((g__law_pull s2.2 (g__law_book_every p things)).1, (g__law_take (g__law_pull s2.2 (g__law_book_every p things)).2 (3 : Int)).2))).1]), ((if ((decide ((g__law_take (g__law_pull s2.2 (g__law_book_every p things)).2 (3 : Int)).1 = (0 : Int))) && (!decide ((List.filter (fun own5 : (List Int) => (decide (((own5).length : Int) = (g__law_take (g__law_take p (4 : Int)).2 (things + (1 : Int))).1))) (g__law_book_every p things)) = []))) then ((g__law_pull (g__law_take (g__law_pull s2.2 (g__law_book_every p things)).2 (3 : Int)).2 (List.filter (fun own5 : (List Int) => (decide (((own5).length : Int) = (g__law_take (g__law_take p (4 : Int)).2 (things + (1 : Int))).1))) (g__law_book_every p things))).1, (g__law_pull (g__law_take (g__law_pull s2.2 (g__law_book_every p things)).2 (3 : Int)).2 (List.filter (fun own5 : (List Int) => (decide (((own5).length : Int) = (g__law_take (g__law_take p (4 : Int)).2 (things + (1 : Int))).1))) (g__law_book_every p things))).2) else ((g__law_pull s2.2 (g__law_book_every p things)).1, (g__law_take (g__law_pull s2.2 (g__law_book_every p things)).2 (3 : Int)).2))).2)) (fun i (s : List (List Int) × Pool) => s.1.length = i ∧ ∀ o ∈ s.1, o ∈ g__law_book_every p things) (s := (([] : (List (List Int))), (g__law_book_p p things most))) (j := (none, none, none)) (g_rng1 (j := (g__law_take (g__law_take (g__law_take p (4 : Int)).2 (things + (1 : Int))).2 (most + (1 : Int))).1) (e_call (es_cons (e_v (d := .ref l) rfl) (es_cons (e_add (e_v (d := (D.int most)) rfl) e_c) es_nil)) (by have z := (s__law_take N (by omega) (g__law_take (g__law_take p (4 : Int)).2 (things + (1 : Int))).2 (most + (1 : Int)) (m ++ [.lst (List.map lotD ([] : (List (List Int))))]) l (by walk_at "ll") (by first | with_reducible exact ⟨by omega, h1.2⟩ | with_reducible exact ⟨by omega, by omega⟩ | with_reducible exact every_len h1 | with_reducible exact Nat.le_of_lt (Nat.lt_trans (every_len h1).2 (by decide)) | with_reducible exact same_len h1 (by assumption) | with_reducible exact every_el h1 (by assumption) | with_reducible exact Nat.le_trans (lots_len ⟨by omega, h1.2⟩) (by decide) | with_reducible exact rng_take ⟨by omega, by omega⟩ | with_reducible exact it_fit h2 hget_ (by assumption) | with_reducible exact Nat.le_trans (Nat.le_of_lt (every_len h1).2) (by decide) | with_reducible exact len_sort (len_dedup (by rw [(some_all h1).1]; exact Nat.le_trans (it_len h2) (by decide))) | with_reducible exact len_filter (Nat.le_trans (Nat.le_of_lt (every_len h1).2) (by decide)) | with_reducible exact every_16 h1 | exact ⟨by omega, h1.2⟩ | exact ⟨by omega, by omega⟩ | exact every_len h1 | exact Nat.le_of_lt (Nat.lt_trans (every_len h1).2 (by decide)) | exact same_len h1 (by assumption) | exact every_el h1 (by assumption) | exact Nat.le_trans (lots_len ⟨by omega, h1.2⟩) (by decide) | exact rng_take ⟨by omega, by omega⟩ | exact it_fit h2 hget_ (by assumption) | exact Nat.le_trans (Nat.le_of_lt (every_len h1).2) (by decide) | (rw [(some_all h1).1]; exact Nat.lt_of_le_of_lt (it_len h2) (by decide)) | exact len_sort (len_dedup (by rw [(some_all h1).1]; exact Nat.le_trans (it_len h2) (by decide))) | (rw [List.length_map]; exact len_sort (len_dedup (by rw [(some_all h1).1]; exact Nat.le_trans (it_len h2) (by decide)))) | exact len_filter (Nat.le_trans (Nat.le_of_lt (every_len h1).2) (by decide)) | exact every_16 h1 | walk_at "sz")); rw [mp_app (by walk_at "ll"), mp_app (by walk_at "ll")] at z; exact z)) (by first | with_reducible exact ⟨by omega, h1.2⟩ | with_reducible exact ⟨by omega, by omega⟩ | with_reducible exact every_len h1 | with_reducible exact Nat.le_of_lt (Nat.lt_trans (every_len h1).2 (by decide)) | with_reducible exact same_len h1 (by assumption) | with_reducible exact every_el h1 (by assumption) | with_reducible exact Nat.le_trans (lots_len ⟨by omega, h1.2⟩) (by decide) | with_reducible exact rng_take ⟨by omega, by omega⟩ | with_reducible exact it_fit h2 hget_ (by assumption) | with_reducible exact Nat.le_trans (Nat.le_of_lt (every_len h1).2) (by decide) | with_reducible exact len_sort (len_dedup (by rw [(some_all h1).1]; exact Nat.le_trans (it_len h2) (by decide))) | with_reducible exact len_filter (Nat.le_trans (Nat.le_of_lt (every_len h1).2) (by decide)) | with_reducible exact every_16 h1 | exact ⟨by omega, h1.2⟩ | exact ⟨by omega, by omega⟩ | exact every_len h1 | exact Nat.le_of_lt (Nat.lt_trans (every_len h1).2 (by decide)) | exact same_len h1 (by assumption) | exact every_el h1 (by assumption) | exact Nat.le_trans (lots_len ⟨by omega, h1.2⟩) (by decide) | exact rng_take ⟨by omega, by omega⟩ | exact it_fit h2 hget_ (by assumption) | exact Nat.le_trans (Nat.le_of_lt (every_len h1).2) (by decide) | (rw [(some_all h1).1]; exact Nat.lt_of_le_of_lt (it_len h2) (by decide)) | exact len_sort (len_dedup (by rw [(some_all h1).1]; exact Nat.le_trans (it_len h2) (by decide))) | (rw [List.length_map]; exact len_sort (len_dedup (by rw [(some_all h1).1]; exact Nat.le_trans (it_len h2) (by decide)))) | exact len_filter (Nat.le_trans (Nat.le_of_lt (every_len h1).2) (by decide)) | exact every_16 h1 | walk_at "sz")) rfl (fun i14 s2 j3 turn4 hget_ hx15 hV16 => ⟨[some (.ref l), some (D.int things), some (D.int most), some (.ref ((mp m l p)).length), some ((eL lotD) (g__law_book_every p things)), some (D.int (g__law_take (g__law_take p (4 : Int)).2 (things + (1 : Int))).1), some (D.int turn4), j3.2.1, j3.2.2, none], (some (D.int turn4), some (lotD (g__law_pull s2.2 (g__law_book_every p things)).1), some ((eL lotD) (List.filter (fun own5 : (List Int) => (decide (((own5).length : Int) = (g__law_take (g__law_take p (4 : Int)).2 (things + (1 : Int))).1))) (g__law_book_every p things)))), (b_n rfl), (ss_nx (st_set (ρ1 := [some (.ref l), some (D.int things), some (D.int most), some (.ref ((mp m l p)).length), some ((eL lotD) (g__law_book_every p things)), some (D.int (g__law_take (g__law_take p (4 : Int)).2 (things + (1 : Int))).1), some (D.int turn4), some (lotD (g__law_pull s2.2 (g__law_book_every p things)).1), j3.2.2, none]) (e_call (es_cons (e_v (d := .ref l) rfl) (es_cons (e_v (d := ((eL lotD) (g__law_book_every p things))) rfl) es_nil)) (by have z := (s__law_pull N (by omega) s2.2 (g__law_book_every p things) (m ++ [.lst (List.map lotD s2.1)]) l (by walk_at "ll") (by first | with_reducible exact ⟨by omega, h1.2⟩ | with_reducible exact ⟨by omega, by omega⟩ | with_reducible exact every_len h1 | with_reducible exact Nat.le_of_lt (Nat.lt_trans (every_len h1).2 (by decide)) | with_reducible exact same_len h1 (by assumption) | with_reducible exact every_el h1 (by assumption) | with_reducible exact Nat.le_trans (lots_len ⟨by omega, h1.2⟩) (by decide) | with_reducible exact rng_take ⟨by omega, by omega⟩ | with_reducible exact it_fit h2 hget_ (by assumption) | with_reducible exact Nat.le_trans (Nat.le_of_lt (every_len h1).2) (by decide) | with_reducible exact len_sort (len_dedup (by rw [(some_all h1).1]; exact Nat.le_trans (it_len h2) (by decide))) | with_reducible exact len_filter (Nat.le_trans (Nat.le_of_lt (every_len h1).2) (by decide)) | with_reducible exact every_16 h1 | exact ⟨by omega, h1.2⟩ | exact ⟨by omega, by omega⟩ | exact every_len h1 | exact Nat.le_of_lt (Nat.lt_trans (every_len h1).2 (by decide)) | exact same_len h1 (by assumption) | exact every_el h1 (by assumption) | exact Nat.le_trans (lots_len ⟨by omega, h1.2⟩) (by decide) | exact rng_take ⟨by omega, by omega⟩ | exact it_fit h2 hget_ (by assumption) | exact Nat.le_trans (Nat.le_of_lt (every_len h1).2) (by decide) | (rw [(some_all h1).1]; exact Nat.lt_of_le_of_lt (it_len h2) (by decide)) | exact len_sort (len_dedup (by rw [(some_all h1).1]; exact Nat.le_trans (it_len h2) (by decide))) | (rw [List.length_map]; exact len_sort (len_dedup (by rw [(some_all h1).1]; exact Nat.le_trans (it_len h2) (by decide)))) | exact len_filter (Nat.le_trans (Nat.le_of_lt (every_len h1).2) (by decide)) | exact every_16 h1 | walk_at "sz")); rw [mp_app (by walk_at "ll"), mp_app (by walk_at "ll")] at z; exact z)) rfl) (ss_nx (st_set (ρ1 := [some (.ref l), some (D.int things), some (D.int most), some (.ref ((mp m l p)).length), some ((eL lotD) (g__law_book_every p things)), some (D.int (g__law_take (g__law_take p (4 : Int)).2 (things + (1 : Int))).1), some (D.int turn4), some (lotD (g__law_pull s2.2 (g__law_book_every p things)).1), some ((eL lotD) (List.filter (fun own5 : (List Int) => (decide (((own5).length : Int) = (g__law_take (g__law_take p (4 : Int)).2 (things + (1 : Int))).1))) (g__law_book_every p things))), none]) (e_compF (e1 := lotD) (xs := (g__law_book_every p things)) (r := (fun (own5 : (List Int)) => [some (.ref l), some (D.int things), some (D.int most), some (.ref ((mp m l p)).length), some ((eL lotD) (g__law_book_every p things)), some (D.int (g__law_take (g__law_take p (4 : Int)).2 (things + (1 : Int))).1), some (D.int turn4), some (lotD (g__law_pull s2.2 (g__law_book_every p things)).1), j3.2.2, some (lotD own5)])) (p := (fun own5 : (List Int) => (decide (((own5).length : Int) = (g__law_take (g__law_take p (4 : Int)).2 (things + (1 : Int))).1)))) (i_l (e_v (d := ((eL lotD) (g__law_book_every p things))) rfl)) (by first | with_reducible exact ⟨by omega, h1.2⟩ | with_reducible exact ⟨by omega, by omega⟩ | with_reducible exact every_len h1 | with_reducible exact Nat.le_of_lt (Nat.lt_trans (every_len h1).2 (by decide)) | with_reducible exact same_len h1 (by assumption) | with_reducible exact every_el h1 (by assumption) | with_reducible exact Nat.le_trans (lots_len ⟨by omega, h1.2⟩) (by decide) | with_reducible exact rng_take ⟨by omega, by omega⟩ | with_reducible exact it_fit h2 hget_ (by assumption) | with_reducible exact Nat.le_trans (Nat.le_of_lt (every_len h1).2) (by decide) | with_reducible exact len_sort (len_dedup (by rw [(some_all h1).1]; exact Nat.le_trans (it_len h2) (by decide))) | with_reducible exact len_filter (Nat.le_trans (Nat.le_of_lt (every_len h1).2) (by decide)) | with_reducible exact every_16 h1 | exact ⟨by omega, h1.2⟩ | exact ⟨by omega, by omega⟩ | exact every_len h1 | exact Nat.le_of_lt (Nat.lt_trans (every_len h1).2 (by decide)) | exact same_len h1 (by assumption) | exact every_el h1 (by assumption) | exact Nat.le_trans (lots_len ⟨by omega, h1.2⟩) (by decide) | exact rng_take ⟨by omega, by omega⟩ | exact it_fit h2 hget_ (by assumption) | exact Nat.le_trans (Nat.le_of_lt (every_len h1).2) (by decide) | (rw [(some_all h1).1]; exact Nat.lt_of_le_of_lt (it_len h2) (by decide)) | exact len_sort (len_dedup (by rw [(some_all h1).1]; exact Nat.le_trans (it_len h2) (by decide))) | (rw [List.length_map]; exact len_sort (len_dedup (by rw [(some_all h1).1]; exact Nat.le_trans (it_len h2) (by decide)))) | exact len_filter (Nat.le_trans (Nat.le_of_lt (every_len h1).2) (by decide)) | exact every_16 h1 | walk_at "sz") (fun own5 => (b_n rfl)) (fun own5 hx6 => (e_eq D.int (x := ((own5).length : Int)) (y := (g__law_take (g__law_take p (4 : Int)).2 (things + (1 : Int))).1) (e_len (e1 := D.int) (xs := own5) (e_v (d := (lotD own5)) rfl) .t) (e_v (d := (D.int (g__law_take (g__law_take p (4 : Int)).2 (things + (1 : Int))).1)) rfl))) (fun own5 hx6 hk7 => (e_v (d := (lotD own5)) rfl))) rfl) (ss_nx (st_append (d := (lotD ((if ((decide ((g__law_take (g__law_pull s2.2 (g__law_book_every p things)).2 (3 : Int)).1 = (0 : Int))) && (!decide ((List.filter (fun own5 : (List Int) => (decide (((own5).length : Int) = (g__law_take (g__law_take p (4 : Int)).2 (things + (1 : Int))).1))) (g__law_book_every p things)) = []))) then ((g__law_pull (g__law_take (g__law_pull s2.2 (g__law_book_every p things)).2 (3 : Int)).2 (List.filter (fun own5 : (List Int) => (decide (((own5).length : Int) = (g__law_take (g__law_take p (4 : Int)).2 (things + (1 : Int))).1))) (g__law_book_every p things))).1, (g__law_pull (g__law_take (g__law_pull s2.2 (g__law_book_every p things)).2 (3 : Int)).2 (List.filter (fun own5 : (List Int) => (decide (((own5).length : Int) = (g__law_take (g__law_take p (4 : Int)).2 (things + (1 : Int))).1))) (g__law_book_every p things))).2) else ((g__law_pull s2.2 (g__law_book_every p things)).1, (g__law_take (g__law_pull s2.2 (g__law_book_every p things)).2 (3 : Int)).2))).1)) (m2 := ((mp m l ((if ((decide ((g__law_take (g__law_pull s2.2 (g__law_book_every p things)).2 (3 : Int)).1 = (0 : Int))) && (!decide ((List.filter (fun own5 : (List Int) => (decide (((own5).length : Int) = (g__law_take (g__law_take p (4 : Int)).2 (things + (1 : Int))).1))) (g__law_book_every p things)) = []))) then ((g__law_pull (g__law_take (g__law_pull s2.2 (g__law_book_every p things)).2 (3 : Int)).2 (List.filter (fun own5 : (List Int) => (decide (((own5).length : Int) = (g__law_take (g__law_take p (4 : Int)).2 (things + (1 : Int))).1))) (g__law_book_every p things))).1, (g__law_pull (g__law_take (g__law_pull s2.2 (g__law_book_every p things)).2 (3 : Int)).2 (List.filter (fun own5 : (List Int) => (decide (((own5).length : Int) = (g__law_take (g__law_take p (4 : Int)).2 (things + (1 : Int))).1))) (g__law_book_every p things))).2) else ((g__law_pull s2.2 (g__law_book_every p things)).1, (g__law_take (g__law_pull s2.2 (g__law_book_every p things)).2 (3 : Int)).2))).2) ++ [.lst (List.map lotD (s2.1 ++ [((if ((decide ((g__law_take (g__law_pull s2.2 (g__law_book_every p things)).2 (3 : Int)).1 = (0 : Int))) && (!decide ((List.filter (fun own5 : (List Int) => (decide (((own5).length : Int) = (g__law_take (g__law_take p (4 : Int)).2 (things + (1 : Int))).1))) (g__law_book_every p things)) = []))) then ((g__law_pull (g__law_take (g__law_pull s2.2 (g__law_book_every p things)).2 (3 : Int)).2 (List.filter (fun own5 : (List Int) => (decide (((own5).length : Int) = (g__law_take (g__law_take p (4 : Int)).2 (things + (1 : Int))).1))) (g__law_book_every p things))).1, (g__law_pull (g__law_take (g__law_pull s2.2 (g__law_book_every p things)).2 (3 : Int)).2 (List.filter (fun own5 : (List Int) => (decide (((own5).length : Int) = (g__law_take (g__law_take p (4 : Int)).2 (things + (1 : Int))).1))) (g__law_book_every p things))).2) else ((g__law_pull s2.2 (g__law_book_every p things)).1, (g__law_take (g__law_pull s2.2 (g__law_book_every p things)).2 (3 : Int)).2))).1]))])) (xs := (List.map lotD s2.1)) (e_v (d := .ref ((mp m l p)).length) rfl) (e_ite (fun (v : (List Int) × Pool) => .ok (lotD v.1) ((mp m l v.2) ++ [.lst (List.map lotD s2.1)])) (x := ((g__law_pull (g__law_take (g__law_pull s2.2 (g__law_book_every p things)).2 (3 : Int)).2 (List.filter (fun own5 : (List Int) => (decide (((own5).length : Int) = (g__law_take (g__law_take p (4 : Int)).2 (things + (1 : Int))).1))) (g__law_book_every p things))).1, (g__law_pull (g__law_take (g__law_pull s2.2 (g__law_book_every p things)).2 (3 : Int)).2 (List.filter (fun own5 : (List Int) => (decide (((own5).length : Int) = (g__law_take (g__law_take p (4 : Int)).2 (things + (1 : Int))).1))) (g__law_book_every p things))).2)) (y := ((g__law_pull s2.2 (g__law_book_every p things)).1, (g__law_take (g__law_pull s2.2 (g__law_book_every p things)).2 (3 : Int)).2)) (p := ((decide ((g__law_take (g__law_pull s2.2 (g__law_book_every p things)).2 (3 : Int)).1 = (0 : Int))) && (!decide ((List.filter (fun own5 : (List Int) => (decide (((own5).length : Int) = (g__law_take (g__law_take p (4 : Int)).2 (things + (1 : Int))).1))) (g__law_book_every p things)) = [])))) (e_and (p := (decide ((g__law_take (g__law_pull s2.2 (g__law_book_every p things)).2 (3 : Int)).1 = (0 : Int)))) (q := (!decide ((List.filter (fun own5 : (List Int) => (decide (((own5).length : Int) = (g__law_take (g__law_take p (4 : Int)).2 (things + (1 : Int))).1))) (g__law_book_every p things)) = []))) (e_eq D.int (x := (g__law_take (g__law_pull s2.2 (g__law_book_every p things)).2 (3 : Int)).1) (y := (0 : Int)) (e_call (es_cons (e_v (d := .ref l) rfl) (es_cons e_c es_nil)) (by have z := (s__law_take N (by omega) (g__law_pull s2.2 (g__law_book_every p things)).2 (3 : Int) (m ++ [.lst (List.map lotD s2.1)]) l (by walk_at "ll") (by first | with_reducible exact ⟨by omega, h1.2⟩ | with_reducible exact ⟨by omega, by omega⟩ | with_reducible exact every_len h1 | with_reducible exact Nat.le_of_lt (Nat.lt_trans (every_len h1).2 (by decide)) | with_reducible exact same_len h1 (by assumption) | with_reducible exact every_el h1 (by assumption) | with_reducible exact Nat.le_trans (lots_len ⟨by omega, h1.2⟩) (by decide) | with_reducible exact rng_take ⟨by omega, by omega⟩ | with_reducible exact it_fit h2 hget_ (by assumption) | with_reducible exact Nat.le_trans (Nat.le_of_lt (every_len h1).2) (by decide) | with_reducible exact len_sort (len_dedup (by rw [(some_all h1).1]; exact Nat.le_trans (it_len h2) (by decide))) | with_reducible exact len_filter (Nat.le_trans (Nat.le_of_lt (every_len h1).2) (by decide)) | with_reducible exact every_16 h1 | exact ⟨by omega, h1.2⟩ | exact ⟨by omega, by omega⟩ | exact every_len h1 | exact Nat.le_of_lt (Nat.lt_trans (every_len h1).2 (by decide)) | exact same_len h1 (by assumption) | exact every_el h1 (by assumption) | exact Nat.le_trans (lots_len ⟨by omega, h1.2⟩) (by decide) | exact rng_take ⟨by omega, by omega⟩ | exact it_fit h2 hget_ (by assumption) | exact Nat.le_trans (Nat.le_of_lt (every_len h1).2) (by decide) | (rw [(some_all h1).1]; exact Nat.lt_of_le_of_lt (it_len h2) (by decide)) | exact len_sort (len_dedup (by rw [(some_all h1).1]; exact Nat.le_trans (it_len h2) (by decide))) | (rw [List.length_map]; exact len_sort (len_dedup (by rw [(some_all h1).1]; exact Nat.le_trans (it_len h2) (by decide)))) | exact len_filter (Nat.le_trans (Nat.le_of_lt (every_len h1).2) (by decide)) | exact every_16 h1 | walk_at "sz")); rw [mp_app (by walk_at "ll"), mp_app (by walk_at "ll")] at z; exact z)) e_c) (fun hk8 => (e_ne (eL lotD) (x := (List.filter (fun own5 : (List Int) => (decide (((own5).length : Int) = (g__law_take (g__law_take p (4 : Int)).2 (things + (1 : Int))).1))) (g__law_book_every p things))) (y := []) (e_v (d := ((eL lotD) (List.filter (fun own5 : (List Int) => (decide (((own5).length : Int) = (g__law_take (g__law_take p (4 : Int)).2 (things + (1 : Int))).1))) (g__law_book_every p things)))) rfl) (as_ ((eL lotD) ([] : (List (List Int)))) (e_lst es_nil (Nat.le_of_ble_eq_true rfl)))))) (fun hk10 => (e_call (es_cons (e_v (d := .ref l) rfl) (es_cons (e_v (d := ((eL lotD) (List.filter (fun own5 : (List Int) => (decide (((own5).length : Int) = (g__law_take (g__law_take p (4 : Int)).2 (things + (1 : Int))).1))) (g__law_book_every p things)))) rfl) es_nil)) (by have z := (s__law_pull N (by omega) (g__law_take (g__law_pull s2.2 (g__law_book_every p things)).2 (3 : Int)).2 (List.filter (fun own5 : (List Int) => (decide (((own5).length : Int) = (g__law_take (g__law_take p (4 : Int)).2 (things + (1 : Int))).1))) (g__law_book_every p things)) (m ++ [.lst (List.map lotD s2.1)]) l (by walk_at "ll") (by first | with_reducible exact ⟨by omega, h1.2⟩ | with_reducible exact ⟨by omega, by omega⟩ | with_reducible exact every_len h1 | with_reducible exact Nat.le_of_lt (Nat.lt_trans (every_len h1).2 (by decide)) | with_reducible exact same_len h1 (by assumption) | with_reducible exact every_el h1 (by assumption) | with_reducible exact Nat.le_trans (lots_len ⟨by omega, h1.2⟩) (by decide) | with_reducible exact rng_take ⟨by omega, by omega⟩ | with_reducible exact it_fit h2 hget_ (by assumption) | with_reducible exact Nat.le_trans (Nat.le_of_lt (every_len h1).2) (by decide) | with_reducible exact len_sort (len_dedup (by rw [(some_all h1).1]; exact Nat.le_trans (it_len h2) (by decide))) | with_reducible exact len_filter (Nat.le_trans (Nat.le_of_lt (every_len h1).2) (by decide)) | with_reducible exact every_16 h1 | exact ⟨by omega, h1.2⟩ | exact ⟨by omega, by omega⟩ | exact every_len h1 | exact Nat.le_of_lt (Nat.lt_trans (every_len h1).2 (by decide)) | exact same_len h1 (by assumption) | exact every_el h1 (by assumption) | exact Nat.le_trans (lots_len ⟨by omega, h1.2⟩) (by decide) | exact rng_take ⟨by omega, by omega⟩ | exact it_fit h2 hget_ (by assumption) | exact Nat.le_trans (Nat.le_of_lt (every_len h1).2) (by decide) | (rw [(some_all h1).1]; exact Nat.lt_of_le_of_lt (it_len h2) (by decide)) | exact len_sort (len_dedup (by rw [(some_all h1).1]; exact Nat.le_trans (it_len h2) (by decide))) | (rw [List.length_map]; exact len_sort (len_dedup (by rw [(some_all h1).1]; exact Nat.le_trans (it_len h2) (by decide)))) | exact len_filter (Nat.le_trans (Nat.le_of_lt (every_len h1).2) (by decide)) | exact every_16 h1 | walk_at "sz")); rw [mp_app (by walk_at "ll"), mp_app (by walk_at "ll")] at z; exact z))) (fun hk10 => (e_v (d := (lotD (g__law_pull s2.2 (g__law_book_every p things)).1)) rfl))) (by walk_at "st") (PEnc.pure (e := lotD) _) (by rw [List.length_map]; exact (by first | with_reducible exact ⟨by omega, h1.2⟩ | with_reducible exact ⟨by omega, by omega⟩ | with_reducible exact every_len h1 | with_reducible exact Nat.le_of_lt (Nat.lt_trans (every_len h1).2 (by decide)) | with_reducible exact same_len h1 (by assumption) | with_reducible exact every_el h1 (by assumption) | with_reducible exact Nat.le_trans (lots_len ⟨by omega, h1.2⟩) (by decide) | with_reducible exact rng_take ⟨by omega, by omega⟩ | with_reducible exact it_fit h2 hget_ (by assumption) | with_reducible exact Nat.le_trans (Nat.le_of_lt (every_len h1).2) (by decide) | with_reducible exact len_sort (len_dedup (by rw [(some_all h1).1]; exact Nat.le_trans (it_len h2) (by decide))) | with_reducible exact len_filter (Nat.le_trans (Nat.le_of_lt (every_len h1).2) (by decide)) | with_reducible exact every_16 h1 | exact ⟨by omega, h1.2⟩ | exact ⟨by omega, by omega⟩ | exact every_len h1 | exact Nat.le_of_lt (Nat.lt_trans (every_len h1).2 (by decide)) | exact same_len h1 (by assumption) | exact every_el h1 (by assumption) | exact Nat.le_trans (lots_len ⟨by omega, h1.2⟩) (by decide) | exact rng_take ⟨by omega, by omega⟩ | exact it_fit h2 hget_ (by assumption) | exact Nat.le_trans (Nat.le_of_lt (every_len h1).2) (by decide) | (rw [(some_all h1).1]; exact Nat.lt_of_le_of_lt (it_len h2) (by decide)) | exact len_sort (len_dedup (by rw [(some_all h1).1]; exact Nat.le_trans (it_len h2) (by decide))) | (rw [List.length_map]; exact len_sort (len_dedup (by rw [(some_all h1).1]; exact Nat.le_trans (it_len h2) (by decide)))) | exact len_filter (Nat.le_trans (Nat.le_of_lt (every_len h1).2) (by decide)) | exact every_16 h1 | walk_at "sz")) (by walk_at "st")) ss_nil))), (by exact book_step (by assumption) (pick_mem (every_len h1).1))⟩) (by exact ⟨rfl, by simp⟩) (fun j13 hI12 => ?_)
  exact j_ret (as_ ((eT lotD) (sortLots (dedup (g__law_book_some p things most)))) (e_tupL (ds := List.map lotD (sortLots (dedup (g__law_book_some p things most)))) (e_ssetR (ls := (g__law_book_some p things most)) (e_v (d := .ref ((mp m l p)).length) rfl) (by walk_at "st") (by first | with_reducible exact ⟨by omega, h1.2⟩ | with_reducible exact ⟨by omega, by omega⟩ | with_reducible exact every_len h1 | with_reducible exact Nat.le_of_lt (Nat.lt_trans (every_len h1).2 (by decide)) | with_reducible exact same_len h1 (by assumption) | with_reducible exact every_el h1 (by assumption) | with_reducible exact Nat.le_trans (lots_len ⟨by omega, h1.2⟩) (by decide) | with_reducible exact rng_take ⟨by omega, by omega⟩ | with_reducible exact it_fit h2 hget_ (by assumption) | with_reducible exact Nat.le_trans (Nat.le_of_lt (every_len h1).2) (by decide) | with_reducible exact len_sort (len_dedup (by rw [(some_all h1).1]; exact Nat.le_trans (it_len h2) (by decide))) | with_reducible exact len_filter (Nat.le_trans (Nat.le_of_lt (every_len h1).2) (by decide)) | with_reducible exact every_16 h1 | exact ⟨by omega, h1.2⟩ | exact ⟨by omega, by omega⟩ | exact every_len h1 | exact Nat.le_of_lt (Nat.lt_trans (every_len h1).2 (by decide)) | exact same_len h1 (by assumption) | exact every_el h1 (by assumption) | exact Nat.le_trans (lots_len ⟨by omega, h1.2⟩) (by decide) | exact rng_take ⟨by omega, by omega⟩ | exact it_fit h2 hget_ (by assumption) | exact Nat.le_trans (Nat.le_of_lt (every_len h1).2) (by decide) | (rw [(some_all h1).1]; exact Nat.lt_of_le_of_lt (it_len h2) (by decide)) | exact len_sort (len_dedup (by rw [(some_all h1).1]; exact Nat.le_trans (it_len h2) (by decide))) | (rw [List.length_map]; exact len_sort (len_dedup (by rw [(some_all h1).1]; exact Nat.le_trans (it_len h2) (by decide)))) | exact len_filter (Nat.le_trans (Nat.le_of_lt (every_len h1).2) (by decide)) | exact every_16 h1 | walk_at "sz")) (by first | with_reducible exact ⟨by omega, h1.2⟩ | with_reducible exact ⟨by omega, by omega⟩ | with_reducible exact every_len h1 | with_reducible exact Nat.le_of_lt (Nat.lt_trans (every_len h1).2 (by decide)) | with_reducible exact same_len h1 (by assumption) | with_reducible exact every_el h1 (by assumption) | with_reducible exact Nat.le_trans (lots_len ⟨by omega, h1.2⟩) (by decide) | with_reducible exact rng_take ⟨by omega, by omega⟩ | with_reducible exact it_fit h2 hget_ (by assumption) | with_reducible exact Nat.le_trans (Nat.le_of_lt (every_len h1).2) (by decide) | with_reducible exact len_sort (len_dedup (by rw [(some_all h1).1]; exact Nat.le_trans (it_len h2) (by decide))) | with_reducible exact len_filter (Nat.le_trans (Nat.le_of_lt (every_len h1).2) (by decide)) | with_reducible exact every_16 h1 | exact ⟨by omega, h1.2⟩ | exact ⟨by omega, by omega⟩ | exact every_len h1 | exact Nat.le_of_lt (Nat.lt_trans (every_len h1).2 (by decide)) | exact same_len h1 (by assumption) | exact every_el h1 (by assumption) | exact Nat.le_trans (lots_len ⟨by omega, h1.2⟩) (by decide) | exact rng_take ⟨by omega, by omega⟩ | exact it_fit h2 hget_ (by assumption) | exact Nat.le_trans (Nat.le_of_lt (every_len h1).2) (by decide) | (rw [(some_all h1).1]; exact Nat.lt_of_le_of_lt (it_len h2) (by decide)) | exact len_sort (len_dedup (by rw [(some_all h1).1]; exact Nat.le_trans (it_len h2) (by decide))) | (rw [List.length_map]; exact len_sort (len_dedup (by rw [(some_all h1).1]; exact Nat.le_trans (it_len h2) (by decide)))) | exact len_filter (Nat.le_trans (Nat.le_of_lt (every_len h1).2) (by decide)) | exact every_16 h1 | walk_at "sz"))) (fin_enc (e := (eT lotD)) (by walk_at "tk"))

theorem all_pow {things : Int} (h : 0 ≤ things ∧ things ≤ 6) : 2 ^ (rngS 0 things).length ≤ 16777216 := by
  rw [rngS_len]; exact Nat.le_trans (Nat.pow_le_pow_right (by decide) (show (things - 0).toNat ≤ 6 by omega)) (by decide)
theorem all_pow6 {things : Int} {k : Nat} (h : 0 ≤ things ∧ things ≤ 6) : (combsL k (rngS 0 things)).length ≤ 64 := by
  refine Nat.le_trans (combsL_len _ _) ?_
  rw [rngS_len]; exact Nat.le_trans (Nat.pow_le_pow_right (by decide) (show (things - 0).toNat ≤ 6 by omega)) (by decide)
theorem all_inv {things : Int} {i : Nat} {s : List (List Int)} {x : Int} (h : 0 ≤ things ∧ things ≤ 6) (hx : x ∈ rngS 0 (things + 1)) (hi : s.length ≤ 64 * i) : (s ++ List.map (fun lot : List Int => lot) (combsL x.toNat (rngS 0 things))).length ≤ 64 * (i + 1) := by
  have := all_pow6 (k := x.toNat) h
  rw [List.length_append, List.length_map]; omega
theorem all_step {things : Int} {i : Nat} {s : List (List Int)} {x : Int} (h : 0 ≤ things ∧ things ≤ 6) (hg : (rngS 0 (things + 1))[i]? = some x) (hi : s.length ≤ 64 * i) : (s ++ List.map (fun lot : List Int => lot) (combsL x.toNat (rngS 0 things))).length ≤ 16777216 := by
  have := all_pow6 (k := x.toNat) h
  have hl : i < (rngS 0 (things + 1)).length := (List.getElem?_eq_some_iff.mp hg).1
  rw [rngS_len] at hl
  rw [List.length_append, List.length_map]; omega
theorem all_end {things : Int} {s : List (List Int)} (h : 0 ≤ things ∧ things ≤ 6) (hi : s.length ≤ 64 * (rngS 0 (things + 1)).length) : s.length ≤ 16777216 := by
  rw [rngS_len] at hi; omega
def g_all_lots_found (things : Int) : (List (List Int)) :=
  (List.foldl (fun (s1 : (List (List Int))) (many3 : Int) => (s1 ++ (List.map (fun lot4 : (List Int) => lot4) (combsL (many3).toNat (rngS 0 things))))) ([] : (List (List Int))) (rngS 0 (things + (1 : Int))))
def g_all_lots (things : Int) : (List (List Int)) :=
  (sortLots (g_all_lots_found things))
theorem s_all_lots (N : Nat) (hN : 1 ≤ N) (things : Int) (m : M) (h1 : 0 ≤ things ∧ things ≤ 6) : (fns P N).call "all_lots" [(D.int things)] m = .ok ((eL lotD) (g_all_lots things)) m := by
  obtain ⟨N, rfl⟩ : ∃ k, N = k + 1 := ⟨N - 1, by omega⟩
  rw [call_eq f_all_lots rfl rfl]
  refine J.fin (b := false) ?_
  show J false false (List.length m) (exSs (fns P N) none b_all_lots [some (D.int things), none, none, none] m) ((fun (v : (List (List Int))) => .ok ((eL lotD) v) m) (g_all_lots things))
  unfold g_all_lots b_all_lots
  refine j_nx (st_set (ρ1 := [some (D.int things), some (.ref (m).length), none, none]) (e_lstR (ds := List.map lotD ([] : (List (List Int)))) es_nil (by decide) (by first | rfl | exact pureL_map _)) rfl) ?_
  refine j_forF (e1 := D.int) (xs := (rngS 0 (things + (1 : Int)))) (fun (s1 : (List (List Int))) (j2 : Option D) => [some (D.int things), some (.ref (m).length), j2, none]) (fun (s1 : (List (List Int))) => (m ++ [.lst (List.map lotD s1)])) (fun (s1 : (List (List Int))) (many3 : Int) => (s1 ++ (List.map (fun lot4 : (List Int) => lot4) (combsL (many3).toNat (rngS 0 things))))) (fun i s => s.length ≤ 64 * i) (s := ([] : (List (List Int)))) (j := none) (g_rng1 (j := (things + (1 : Int))) (e_add (e_v (d := (D.int things)) rfl) e_c) (by first | with_reducible exact ⟨by omega, by omega⟩ | with_reducible exact all_step h1 hget_ (by assumption) | with_reducible exact Nat.le_trans (combsL_len _ _) (all_pow h1) | with_reducible exact all_end h1 (by assumption) | exact ⟨by omega, by omega⟩ | (have z := mem_rngS.mp (by assumption); exact ⟨by omega, by omega⟩) | (rw [rngS_len]; omega) | exact all_step h1 hget_ (by assumption) | exact Nat.le_trans (combsL_len _ _) (all_pow h1) | exact all_end h1 (by assumption) | walk_at "sz")) rfl (fun i9 s1 j2 many3 hget_ hx10 hV11 => ⟨[some (D.int things), some (.ref (m).length), some (D.int many3), none], some (D.int many3), (b_n rfl), (ss_nx (st_extend (e1 := lotD) (xs := s1) (ys := (List.map (fun lot4 : (List Int) => lot4) (combsL (many3).toNat (rngS 0 things)))) (m2 := (m ++ [.lst (List.map lotD (s1 ++ (List.map (fun lot4 : (List Int) => lot4) (combsL (many3).toNat (rngS 0 things)))))])) (e_v (d := .ref (m).length) rfl) (e_compN (e1 := lotD) (e2 := lotD) (xs := (combsL (many3).toNat (rngS 0 things))) (r := (fun (lot4 : (List Int)) => [some (D.int things), some (.ref (m).length), some (D.int many3), some (lotD lot4)])) (f := (fun lot4 : (List Int) => lot4)) (g_comb (e1 := D.int) (xs := (rngS 0 things)) (k := many3) (e_lrng (j := things) (e_v (d := (D.int things)) rfl) (by first | with_reducible exact ⟨by omega, by omega⟩ | with_reducible exact all_step h1 hget_ (by assumption) | with_reducible exact Nat.le_trans (combsL_len _ _) (all_pow h1) | with_reducible exact all_end h1 (by assumption) | exact ⟨by omega, by omega⟩ | (have z := mem_rngS.mp (by assumption); exact ⟨by omega, by omega⟩) | (rw [rngS_len]; omega) | exact all_step h1 hget_ (by assumption) | exact Nat.le_trans (combsL_len _ _) (all_pow h1) | exact all_end h1 (by assumption) | walk_at "sz")) .l (e_intI (e_v (d := (D.int many3)) rfl)) (by first | with_reducible exact ⟨by omega, by omega⟩ | with_reducible exact all_step h1 hget_ (by assumption) | with_reducible exact Nat.le_trans (combsL_len _ _) (all_pow h1) | with_reducible exact all_end h1 (by assumption) | exact ⟨by omega, by omega⟩ | (have z := mem_rngS.mp (by assumption); exact ⟨by omega, by omega⟩) | (rw [rngS_len]; omega) | exact all_step h1 hget_ (by assumption) | exact Nat.le_trans (combsL_len _ _) (all_pow h1) | exact all_end h1 (by assumption) | walk_at "sz") (by first | with_reducible exact ⟨by omega, by omega⟩ | with_reducible exact all_step h1 hget_ (by assumption) | with_reducible exact Nat.le_trans (combsL_len _ _) (all_pow h1) | with_reducible exact all_end h1 (by assumption) | exact ⟨by omega, by omega⟩ | (have z := mem_rngS.mp (by assumption); exact ⟨by omega, by omega⟩) | (rw [rngS_len]; omega) | exact all_step h1 hget_ (by assumption) | exact Nat.le_trans (combsL_len _ _) (all_pow h1) | exact all_end h1 (by assumption) | walk_at "sz")) (by first | with_reducible exact ⟨by omega, by omega⟩ | with_reducible exact all_step h1 hget_ (by assumption) | with_reducible exact Nat.le_trans (combsL_len _ _) (all_pow h1) | with_reducible exact all_end h1 (by assumption) | exact ⟨by omega, by omega⟩ | (have z := mem_rngS.mp (by assumption); exact ⟨by omega, by omega⟩) | (rw [rngS_len]; omega) | exact all_step h1 hget_ (by assumption) | exact Nat.le_trans (combsL_len _ _) (all_pow h1) | exact all_end h1 (by assumption) | walk_at "sz") (fun lot4 => (b_n rfl)) (fun lot4 hx5 => (e_v (d := (lotD lot4)) rfl))) (by walk_at "st") (by first | with_reducible exact ⟨by omega, by omega⟩ | with_reducible exact all_step h1 hget_ (by assumption) | with_reducible exact Nat.le_trans (combsL_len _ _) (all_pow h1) | with_reducible exact all_end h1 (by assumption) | exact ⟨by omega, by omega⟩ | (have z := mem_rngS.mp (by assumption); exact ⟨by omega, by omega⟩) | (rw [rngS_len]; omega) | exact all_step h1 hget_ (by assumption) | exact Nat.le_trans (combsL_len _ _) (all_pow h1) | exact all_end h1 (by assumption) | walk_at "sz") (by walk_at "st")) ss_nil), (by exact all_inv h1 (by assumption) (by assumption))⟩) (by simp) (fun j8 hI7 => ?_)
  exact j_ret (e_sortedR (ls := (g_all_lots_found things)) (e_v (d := .ref (m).length) rfl) (by walk_at "st") (by first | with_reducible exact ⟨by omega, by omega⟩ | with_reducible exact all_step h1 hget_ (by assumption) | with_reducible exact Nat.le_trans (combsL_len _ _) (all_pow h1) | with_reducible exact all_end h1 (by assumption) | exact ⟨by omega, by omega⟩ | (have z := mem_rngS.mp (by assumption); exact ⟨by omega, by omega⟩) | (rw [rngS_len]; omega) | exact all_step h1 hget_ (by assumption) | exact Nat.le_trans (combsL_len _ _) (all_pow h1) | exact all_end h1 (by assumption) | walk_at "sz")) (fin_enc (e := (eL lotD)) (by walk_at "tk"))

theorem all_found (k : Nat) : g_all_lots_found k = List.flatMap (fun j => combsL j (rngS 0 k)) (List.range (k + 1)) := by
  unfold g_all_lots_found
  rw [show ((k : Int) + 1) = ((k + 1 : Nat) : Int) by omega, rngS_nat (k + 1)]
  have key : ∀ (js : List Nat) (s : List (List Int)), List.foldl (fun (s : List (List Int)) (many : Int) => s ++ List.map (fun lot : List Int => lot) (combsL many.toNat (rngS 0 (k : Int)))) s (js.map fun i : Nat => (i : Int)) = s ++ js.flatMap fun j => combsL j (rngS 0 (k : Int)) := by
    intro js
    induction js with
    | nil => intro s; simp
    | cons j js ih =>
      intro s
      rw [List.map_cons, List.foldl_cons, ih, List.flatMap_cons, List.map_id', List.append_assoc]
      rfl
  exact (key (List.range (k + 1)) []).trans (List.nil_append _)
theorem all_small : ∀ k ≤ 6, sortI (List.flatMap (fun j => combsL j ((List.range k).map fun i : Nat => (i : Int))) (List.range (k + 1))) = sortI (lotsUp k) := by decide +kernel
theorem all_eq {things : Int} (h : 0 ≤ things ∧ things ≤ 6) : g_all_lots things = lotsOf things.toNat := by
  have e : things = ((things.toNat : Nat) : Int) := by omega
  have hk : things.toNat ≤ 6 := by omega
  generalize things.toNat = k at e hk
  subst e
  unfold g_all_lots lotsOf
  rw [all_found, rngS_nat, sortLots_I, sortLots_I, all_small k hk]
theorem all_len {things : Int} (h : 0 ≤ things ∧ things ≤ 6) : (g_all_lots things).length ≤ 64 := by
  rw [all_eq h, lotsOf_len]; exact Nat.le_trans (Nat.pow_le_pow_right (by decide) (show things.toNat ≤ 6 by omega)) (by decide)
theorem all_ok {things : Int} (h : 0 ≤ things ∧ things ≤ 6) : ∀ o ∈ g_all_lots things, LotOk things o := by
  rw [all_eq h]
  have := lotsOf_ok (k := things.toNat) (by omega)
  rw [show ((things.toNat : Nat) : Int) = things by omega] at this
  exact this
/-! ### fronts that grow -/
theorem fold_if {α β : Type} (p : α → Bool) (f : α → β) : ∀ (xs : List α) (acc : List β), xs.foldl (fun s x => if p x then s ++ [f x] else s) acc = acc ++ (xs.filter p).map f
  | [], acc => by simp
  | x :: xs, acc => by
    rw [List.foldl_cons, fold_if p f xs, List.filter_cons]
    cases p x <;> simp
theorem fold_flat {α β : Type} (f : α → List β) : ∀ (xs : List α) (acc : List β), xs.foldl (fun s x => s ++ f x) acc = acc ++ xs.flatMap f
  | [], acc => by simp
  | x :: xs, acc => by rw [List.foldl_cons, fold_flat f xs, List.flatMap_cons, List.append_assoc]
theorem lex_app2 : ∀ {a b c d : List Int}, a.length = b.length → PM.lexLt a b = true → PM.lexLt (a ++ c) (b ++ d) = true
  | [], [], _, _, _, h => by simp [PM.lexLt] at h
  | x :: a, y :: b, c, d, hl, h => by
    simp only [PM.lexLt, List.cons_append] at h ⊢
    split
    · rename_i e
      rw [if_pos e] at h
      exact lex_app2 (by simpa using hl) h
    · rename_i e
      rw [if_neg e] at h
      exact h
theorem lex_pre2 : ∀ (a : List Int) {x y : Int}, x < y → PM.lexLt (a ++ [x]) (a ++ [y]) = true
  | [], x, y, h => by
    show (if x = y then PM.lexLt [] [] else decide (x < y)) = true
    rw [if_neg (by omega)]; exact decide_eq_true h
  | z :: a, x, y, h => by
    show (if z = z then PM.lexLt (a ++ [x]) (a ++ [y]) else decide (z < z)) = true
    rw [if_pos rfl]; exact lex_pre2 a h
theorem snoc_ne {α : Type} : ∀ {r : List α}, r ≠ [] → ∃ s x, r = s ++ [x]
  | [], h => absurd rfl h
  | [x], _ => ⟨[], x, rfl⟩
  | x :: y :: r, _ => by
    obtain ⟨s, z, e⟩ := snoc_ne (r := y :: r) (by simp)
    exact ⟨x :: s, z, by rw [e]; rfl⟩
theorem ix_last (s : List Int) (a : Int) : ixS (s ++ [a]) (-(1 : Int)) = a := by
  unfold ixS ixN
  rw [if_neg (by decide), if_pos (by rw [List.length_append, List.length_singleton]; omega), List.length_append, List.length_singleton]
  rw [show (-(1 : Int) + ((s.length + 1 : Nat) : Int)).toNat = s.length by omega]
  simp
def lowOf (s : List Int) : Int := if (!decide (s = [])) then ixS s (-(1 : Int)) + 1 else 0
theorem low_nil : lowOf [] = 0 := rfl
theorem low_snoc (s : List Int) (a : Int) : lowOf (s ++ [a]) = a + 1 := by
  unfold lowOf
  rw [if_pos (by simp), ix_last]
theorem asc_low {s : List Int} {a : Int} (h : AscI s) : AscI (s ++ [a]) ↔ (s ≠ [] → lowOf s ≤ a) := by
  by_cases hs : s = []
  · subst hs; simp
  · obtain ⟨r, b, rfl⟩ := snoc_ne hs
    rw [low_snoc]
    constructor
    · intro h2 _
      have := (List.pairwise_append.mp h2).2.2 b (by simp) a (by simp)
      omega
    · intro h2
      have h2 := h2 hs
      refine List.pairwise_append.mpr ⟨h, by simp, fun x hx y hy => ?_⟩
      rw [List.mem_singleton] at hy; subst hy
      rcases List.mem_append.mp hx with hx | hx
      · have := (List.pairwise_append.mp h).2.2 x hx b (by simp)
        omega
      · rw [List.mem_singleton] at hx; omega
/-- the fine lots of indexes of k -/
def lvl (n : Nat) (fine : List Int → Bool) (k : Nat) : List (List Int) := (lotsOf n).filter fun l => decide (l.length = k) && fine l
def grow (n : Nat) (ext : List Int → Int → Bool) (F : List (List Int)) : List (List Int) := F.flatMap fun s => ((rngS (lowOf s) (n : Int)).filter (ext s)).map fun a => s ++ [a]
theorem mem_lvl {n k : Nat} {fine : List Int → Bool} {l : List Int} : l ∈ lvl n fine k ↔ (AscI l ∧ ∀ x ∈ l, 0 ≤ x ∧ x < (n : Int)) ∧ l.length = k ∧ fine l = true := by
  unfold lvl
  rw [List.mem_filter, mem_lotsOf, Bool.and_eq_true, decide_eq_true_eq]
theorem grow_lvl {n k : Nat} {fine : List Int → Bool} {ext : List Int → Int → Bool} (hf : ∀ s a, s.length = k → fine (s ++ [a]) = (fine s && ext s a)) : grow n ext (lvl n fine k) = lvl n fine (k + 1) := by
  refine asc_ext ?_ (asc_filter (asc_lotsOf n)) fun t => ?_
  · unfold grow Asc
    rw [List.pairwise_flatMap]
    refine ⟨fun s _ => List.pairwise_map.mpr (((rngS_asc _ _).sublist List.filter_sublist).imp fun h => lex_pre2 s h), (List.Pairwise.and_mem.mp (asc_filter (asc_lotsOf n) : Asc (lvl n fine k))).imp fun {a b} hab x hx y hy => ?_⟩
    obtain ⟨u, _, rfl⟩ := List.mem_map.mp hx
    obtain ⟨v, _, rfl⟩ := List.mem_map.mp hy
    exact lex_app2 (by rw [(mem_lvl.mp hab.1).2.1, (mem_lvl.mp hab.2.1).2.1]) hab.2.2
  · unfold grow
    rw [List.mem_flatMap, mem_lvl]
    constructor
    · rintro ⟨s, hs, ht⟩
      obtain ⟨a, ha, rfl⟩ := List.mem_map.mp ht
      obtain ⟨⟨h1, h2⟩, h3, h4⟩ := mem_lvl.mp hs
      obtain ⟨ha, he⟩ := List.mem_filter.mp ha
      rw [mem_rngS] at ha
      have h0 : 0 ≤ lowOf s := by
        by_cases hn : s = []
        · subst hn; exact Int.le_refl _
        · obtain ⟨r, b, rfl⟩ := snoc_ne hn
          rw [low_snoc]
          have := (h2 b (by simp)).1; omega
      refine ⟨⟨(asc_low h1).mpr fun _ => ha.1, fun x hx => ?_⟩, by simp [h3], by rw [hf s a h3, h4, he]; rfl⟩
      rcases List.mem_append.mp hx with hx | hx
      · exact h2 x hx
      · rw [List.mem_singleton] at hx; subst hx; exact ⟨by omega, ha.2⟩
    · rintro ⟨⟨h1, h2⟩, h3, h4⟩
      have hne : t ≠ [] := by rintro rfl; simp at h3
      obtain ⟨s, a, rfl⟩ := snoc_ne hne
      rw [List.length_append, List.length_singleton] at h3
      have hs : AscI s := (List.pairwise_append.mp h1).1
      have hk : s.length = k := by omega
      rw [hf s a hk, Bool.and_eq_true] at h4
      refine ⟨s, mem_lvl.mpr ⟨⟨hs, fun x hx => h2 x (List.mem_append_left _ hx)⟩, hk, h4.1⟩, List.mem_map.mpr ⟨a, List.mem_filter.mpr ⟨mem_rngS.mpr ⟨?_, (h2 a (by simp)).2⟩, h4.2⟩, rfl⟩⟩
      by_cases hn : s = []
      · subst hn; exact (h2 a (by simp)).1
      · exact (asc_low hs).mp h1 hn
theorem lvl_len {n k : Nat} {fine : List Int → Bool} : (lvl n fine k).length ≤ 2 ^ n := by
  unfold lvl
  exact len_filter (by rw [lotsOf_len]; exact Nat.le_refl _)
theorem lvl_end {n k : Nat} {fine : List Int → Bool} (h : n < k) : lvl n fine k = [] := by
  refine List.eq_nil_iff_forall_not_mem.mpr fun l hl => ?_
  obtain ⟨⟨h1, h2⟩, h3, _⟩ := mem_lvl.mp hl
  have := nodup_sub l (rngS 0 (n : Int)) (ascI_nodup h1) fun x hx => mem_rngS.mpr (h2 x hx)
  rw [rngS_len] at this
  omega
theorem lvl_zero {n : Nat} {fine : List Int → Bool} (h : fine [] = true) : lvl n fine 0 = [[]] := by
  refine asc_ext (asc_filter (asc_lotsOf n)) (List.pairwise_singleton ..) fun l => ?_
  rw [show l ∈ (lvl n fine 0) ↔ _ from mem_lvl, List.mem_singleton]
  constructor
  · rintro ⟨_, h2, _⟩; exact List.eq_nil_of_length_eq_zero h2
  · rintro rfl; exact ⟨⟨List.Pairwise.nil, by simp⟩, rfl, h⟩
/-- the first fine one of the most -/
def Best (n c : Nat) (fine : List Int → Bool) (b : List Int) : Prop :=
  (b = [] ∧ ∀ l ∈ lotsOf n, fine l = true → l.length ≤ c) ∨ (c < b.length ∧ b ∈ lotsOf n ∧ fine b = true ∧ (∀ l ∈ lotsOf n, fine l = true → l.length ≤ b.length) ∧ ∀ l ∈ lotsOf n, fine l = true → l.length = b.length → l = b ∨ PM.lexLt b l = true)
theorem Best.uniq {n c : Nat} {fine : List Int → Bool} {a b : List Int} (ha : Best n c fine a) (hb : Best n c fine b) : a = b := by
  rcases ha with ⟨rfl, a1⟩ | ⟨a0, a1, a2, a3, a4⟩
  · rcases hb with ⟨rfl, _⟩ | ⟨b0, b1, b2, _, _⟩
    · rfl
    · have := a1 b b1 b2; omega
  · rcases hb with ⟨rfl, b1⟩ | ⟨b0, b1, b2, b3, b4⟩
    · have := b1 a a1 a2; omega
    · have e : a.length = b.length := Nat.le_antisymm (b3 a a1 a2) (a3 b b1 b2)
      rcases a4 b b1 b2 e.symm with h | h
      · exact h.symm
      · rcases b4 a a1 a2 e with h2 | h2
        · exact h2
        · rw [PM.lexLt_asym _ _ h] at h2; cases h2
/-- the law's own way through all of them -/
theorem best_fold {n c : Nat} {fine : List Int → Bool} (q : List Int → List Int → Bool) (hq : ∀ b l, l ∈ lotsOf n → q b l = (decide (max c b.length < l.length) && fine l)) : Best n c fine ((lotsOf n).foldl (fun b l => if q b l then l else b) []) := by
  have key : ∀ (xs ys : List (List Int)) (b : List Int), Asc (ys ++ xs) → (∀ l ∈ xs, l ∈ lotsOf n) → (∀ l ∈ ys, l ∈ lotsOf n) →
      ((b = [] ∧ ∀ l ∈ ys, fine l = true → l.length ≤ c) ∨ (c < b.length ∧ b ∈ ys ∧ fine b = true ∧ (∀ l ∈ ys, fine l = true → l.length ≤ b.length) ∧ ∀ l ∈ ys, fine l = true → l.length = b.length → l = b ∨ PM.lexLt b l = true)) →
      let r := xs.foldl (fun b l => if q b l then l else b) b
      (r = [] ∧ ∀ l ∈ ys ++ xs, fine l = true → l.length ≤ c) ∨ (c < r.length ∧ r ∈ ys ++ xs ∧ fine r = true ∧ (∀ l ∈ ys ++ xs, fine l = true → l.length ≤ r.length) ∧ ∀ l ∈ ys ++ xs, fine l = true → l.length = r.length → l = r ∨ PM.lexLt r l = true) := by
    intro xs
    induction xs with
    | nil => intro ys b _ _ _ h; simpa using h
    | cons x xs ih =>
      intro ys b ha hx hy h
      have e : ys ++ x :: xs = (ys ++ [x]) ++ xs := by simp
      have ha' : Asc ((ys ++ [x]) ++ xs) := by rw [← e]; exact ha
      have before : ∀ l ∈ ys, PM.lexLt l x = true := fun l hl => (List.pairwise_append.mp ha).2.2 l hl x (by simp)
      have hxn := hx x (by simp)
      rw [e]
      refine ih (ys ++ [x]) _ ha' (fun l hl => hx l (by simp [hl])) (fun l hl => ?_) ?_
      · rcases List.mem_append.mp hl with hl | hl
        · exact hy l hl
        · rw [List.mem_singleton] at hl; subst hl; exact hxn
      · simp only [hq b x hxn]
        by_cases hc : max c b.length < x.length ∧ fine x = true
        · rw [if_pos (by rw [Bool.and_eq_true, decide_eq_true_eq]; exact hc)]
          refine .inr ⟨by omega, by simp, hc.2, fun l hl hfl => ?_, fun l hl hfl hlen => ?_⟩
          · rcases List.mem_append.mp hl with hl | hl
            · rcases h with ⟨rfl, h1⟩ | ⟨h0, h1, h2, h3, h4⟩
              · have := h1 l hl hfl; omega
              · have := h3 l hl hfl; omega
            · rw [List.mem_singleton] at hl; subst hl; exact Nat.le_refl _
          · rcases List.mem_append.mp hl with hl | hl
            · exfalso
              rcases h with ⟨rfl, h1⟩ | ⟨h0, h1, h2, h3, h4⟩
              · have := h1 l hl hfl; omega
              · have := h3 l hl hfl; omega
            · rw [List.mem_singleton] at hl; exact .inl hl
        · rw [if_neg (by rw [Bool.and_eq_true, decide_eq_true_eq]; exact hc)]
          rcases h with ⟨rfl, h1⟩ | ⟨h0, h1, h2, h3, h4⟩
          · refine .inl ⟨rfl, fun l hl hfl => ?_⟩
            rcases List.mem_append.mp hl with hl | hl
            · exact h1 l hl hfl
            · rw [List.mem_singleton] at hl; subst hl
              have : ¬ max c ([] : List Int).length < l.length := fun z => hc ⟨z, hfl⟩
              simp at this; omega
          · refine .inr ⟨h0, by simp [h1], h2, fun l hl hfl => ?_, fun l hl hfl hlen => ?_⟩
            · rcases List.mem_append.mp hl with hl | hl
              · exact h3 l hl hfl
              · rw [List.mem_singleton] at hl; subst hl
                have : ¬ max c b.length < l.length := fun z => hc ⟨z, hfl⟩
                omega
            · rcases List.mem_append.mp hl with hl | hl
              · exact h4 l hl hfl hlen
              · rw [List.mem_singleton] at hl; subst hl
                exact .inr (before b h1)
  have := key (lotsOf n) [] [] (by simpa using asc_lotsOf n) (fun l h => h) (by simp) (.inl ⟨rfl, by simp⟩)
  unfold Best
  simpa using this
/-- the head of the last level that is not empty -/
theorem best_lvl {n c k : Nat} {fine : List Int → Bool} {b : List Int} {bs : List (List Int)} (hk : c < k) (h1 : lvl n fine k = b :: bs) (h2 : ∀ j, k < j → lvl n fine j = []) : Best n c fine b := by
  have hb : b ∈ lvl n fine k := by rw [h1]; exact List.mem_cons_self ..
  obtain ⟨q1, q2, q3⟩ := mem_lvl.mp hb
  refine .inr ⟨by omega, mem_lotsOf.mpr q1, q3, fun l hl hf => ?_, fun l hl hf hlen => ?_⟩
  · refine Classical.byContradiction fun hn => ?_
    have : l ∈ lvl n fine l.length := mem_lvl.mpr ⟨mem_lotsOf.mp hl, rfl, hf⟩
    rw [h2 _ (by omega)] at this; cases this
  · have hm : l ∈ lvl n fine k := mem_lvl.mpr ⟨mem_lotsOf.mp hl, by omega, hf⟩
    have ha : Asc (lvl n fine k) := asc_filter (asc_lotsOf n)
    rw [h1] at hm ha
    rcases List.mem_cons.mp hm with e | hm
    · exact .inl e
    · exact .inr ((List.pairwise_cons.mp ha).1 l hm)
theorem lvl_none {n k : Nat} {fine : List Int → Bool} {ext : List Int → Int → Bool} {c : Nat} (hf : ∀ s a, c ≤ s.length → fine (s ++ [a]) = (fine s && ext s a)) (hc : c ≤ k) (h : lvl n fine k = []) : ∀ j, k ≤ j → lvl n fine j = [] := by
  intro j hj
  induction j with
  | zero => rw [show (0 : Nat) = k by omega]; exact h
  | succ j ih =>
    by_cases e : k = j + 1
    · rw [← e]; exact h
    · have := grow_lvl (n := n) (k := j) (fine := fine) (ext := ext) fun s a hs => hf s a (by omega)
      rw [← this, ih (by omega)]; rfl
def g_is_within (lot : (List Int)) (other : (List Int)) : Bool :=
  (List.all (List.map (fun thing1 : Int => (decide (thing1 ∈ other))) lot) id)

theorem s_is_within (N : Nat) (hN : 1 ≤ N) (lot : (List Int)) (other : (List Int)) (m : M) (h1 : lot.length ≤ 64) : (fns P N).call "is_within" [(lotD lot), (lotD other)] m = .ok (D.bl (g_is_within lot other)) m := by
  obtain ⟨N, rfl⟩ : ∃ k, N = k + 1 := ⟨N - 1, by omega⟩
  rw [call_eq f_is_within rfl rfl]
  refine J.fin (b := false) ?_
  show J false false (List.length m) (exSs (fns P N) none b_is_within [some (lotD lot), some (lotD other), none] m) ((fun (v : Bool) => .ok (D.bl v) m) (g_is_within lot other))
  unfold g_is_within b_is_within
  exact j_ret (e_all (bs := (List.map (fun thing1 : Int => (decide (thing1 ∈ other))) lot)) (e_compN (e1 := D.int) (e2 := D.bl) (xs := lot) (r := (fun (thing1 : Int) => [some (lotD lot), some (lotD other), some (D.int thing1)])) (f := (fun thing1 : Int => (decide (thing1 ∈ other)))) (i_t (e_v (d := (lotD lot)) rfl)) (by walk_at "sz") (fun thing1 => (b_n rfl)) (fun thing1 hx2 => (e_in D.int (x := thing1) (xs := other) (e_v (d := (D.int thing1)) rfl) (e_v (d := (lotD other)) rfl) .t)))) (fin_enc (e := D.bl) (by walk_at "tk"))

def g_common_of (lot : (List Int)) (other : (List Int)) : (List Int) :=
  (List.filter (fun thing1 : Int => (decide (thing1 ∈ other))) lot)

theorem s_common_of (N : Nat) (hN : 1 ≤ N) (lot : (List Int)) (other : (List Int)) (m : M) (h1 : lot.length ≤ 64) : (fns P N).call "common_of" [(lotD lot), (lotD other)] m = .ok (lotD (g_common_of lot other)) m := by
  obtain ⟨N, rfl⟩ : ∃ k, N = k + 1 := ⟨N - 1, by omega⟩
  rw [call_eq f_common_of rfl rfl]
  refine J.fin (b := false) ?_
  show J false false (List.length m) (exSs (fns P N) none b_common_of [some (lotD lot), some (lotD other), none] m) ((fun (v : (List Int)) => .ok (lotD v) m) (g_common_of lot other))
  unfold g_common_of b_common_of
  exact j_ret (as_ (lotD (List.filter (fun thing1 : Int => (decide (thing1 ∈ other))) lot)) (e_tupL (ds := List.map D.int (List.filter (fun thing1 : Int => (decide (thing1 ∈ other))) lot)) (e_compF (e1 := D.int) (xs := lot) (r := (fun (thing1 : Int) => [some (lotD lot), some (lotD other), some (D.int thing1)])) (p := (fun thing1 : Int => (decide (thing1 ∈ other)))) (i_t (e_v (d := (lotD lot)) rfl)) (by walk_at "sz") (fun thing1 => (b_n rfl)) (fun thing1 hx2 => (e_in D.int (x := thing1) (xs := other) (e_v (d := (D.int thing1)) rfl) (e_v (d := (lotD other)) rfl) .t)) (fun thing1 hx2 hk3 => (e_v (d := (D.int thing1)) rfl))) (by walk_at "sz"))) (fin_enc (e := lotD) (by walk_at "tk"))

def g_does_touch (book : (List (List Int))) (lot : (List Int)) : Bool :=
  (List.all (List.map (fun own1 : (List Int) => (!decide ((g_common_of lot own1) = []))) book) id)

theorem s_does_touch (N : Nat) (hN : 2 ≤ N) (book : (List (List Int))) (lot : (List Int)) (m : M) (h1 : book.length ≤ 64) (h2 : lot.length ≤ 64) : (fns P N).call "does_touch" [((eT lotD) book), (lotD lot)] m = .ok (D.bl (g_does_touch book lot)) m := by
  obtain ⟨N, rfl⟩ : ∃ k, N = k + 1 := ⟨N - 1, by omega⟩
  rw [call_eq f_does_touch rfl rfl]
  refine J.fin (b := false) ?_
  show J false false (List.length m) (exSs (fns P N) none b_does_touch [some ((eT lotD) book), some (lotD lot), none] m) ((fun (v : Bool) => .ok (D.bl v) m) (g_does_touch book lot))
  unfold g_does_touch b_does_touch
  exact j_ret (e_all (bs := (List.map (fun own1 : (List Int) => (!decide ((g_common_of lot own1) = []))) book)) (e_compN (e1 := lotD) (e2 := D.bl) (xs := book) (r := (fun (own1 : (List Int)) => [some ((eT lotD) book), some (lotD lot), some (lotD own1)])) (f := (fun own1 : (List Int) => (!decide ((g_common_of lot own1) = [])))) (i_t (e_v (d := ((eT lotD) book)) rfl)) (by walk_at "sz") (fun own1 => (b_n rfl)) (fun own1 hx2 => (e_ne lotD (x := (g_common_of lot own1)) (y := []) (e_call (es_cons (e_v (d := (lotD lot)) rfl) (es_cons (e_v (d := (lotD own1)) rfl) es_nil)) (s_common_of N (by omega) lot own1 _ (by walk_at "sz"))) (as_ (lotD ([] : (List Int))) (e_tup es_nil (Nat.le_of_ble_eq_true rfl))))))) (fin_enc (e := D.bl) (by walk_at "tk"))

def g_touching_by_told (things : Int) (book : (List (List Int))) : (List (List Int)) :=
  (List.filter (fun lot1 : (List Int) => (g_does_touch book lot1)) (g_all_lots things))
def g_touching_by (things : Int) (book : (List (List Int))) : (List (List Int)) :=
  (List.filter (fun lot4 : (List Int) => (!(List.any (List.map (fun own6 : (List Int) => ((!decide (own6 = lot4)) && (g_is_within own6 lot4))) (g_touching_by_told things book)) id))) (g_touching_by_told things book))

theorem s_touching_by (N : Nat) (hN : 3 ≤ N) (things : Int) (book : (List (List Int))) (m : M) (h1 : 0 ≤ things ∧ things ≤ 6) (h2 : book.length ≤ 64) : (fns P N).call "touching_by" [(D.int things), ((eT lotD) book)] m = .ok ((eT lotD) (g_touching_by things book)) m := by
  obtain ⟨N, rfl⟩ : ∃ k, N = k + 1 := ⟨N - 1, by omega⟩
  rw [call_eq f_touching_by rfl rfl]
  refine J.fin (b := false) ?_
  show J false false (List.length m) (exSs (fns P N) none b_touching_by [some (D.int things), some ((eT lotD) book), none, none, none] m) ((fun (v : (List (List Int))) => .ok ((eT lotD) v) m) (g_touching_by things book))
  unfold g_touching_by b_touching_by
  refine j_nx (st_set (ρ1 := [some (D.int things), some ((eT lotD) book), some ((eL lotD) (List.filter (fun lot1 : (List Int) => (g_does_touch book lot1)) (g_all_lots things))), none, none]) (e_compF (e1 := lotD) (xs := (g_all_lots things)) (r := (fun (lot1 : (List Int)) => [some (D.int things), some ((eT lotD) book), none, some (lotD lot1), none])) (p := (fun lot1 : (List Int) => (g_does_touch book lot1))) (i_l (e_call (es_cons (e_v (d := (D.int things)) rfl) es_nil) (s_all_lots N (by omega) things _ (by first | with_reducible exact Nat.le_trans (all_len h1) (by decide) | with_reducible exact (all_ok h1 _ (by assumption)).2.2 | with_reducible exact (all_ok h1 _ (List.mem_filter.mp (by assumption)).1).2.2 | with_reducible exact len_filter (Nat.le_trans (all_len h1) (by decide)) | exact Nat.le_trans (all_len h1) (by decide) | exact (all_ok h1 _ (by assumption)).2.2 | exact (all_ok h1 _ (List.mem_filter.mp (by assumption)).1).2.2 | exact len_filter (Nat.le_trans (all_len h1) (by decide)) | (rw [List.length_map]; exact len_filter (len_filter (Nat.le_trans (all_len h1) (by decide)))) | walk_at "sz")))) (by first | with_reducible exact Nat.le_trans (all_len h1) (by decide) | with_reducible exact (all_ok h1 _ (by assumption)).2.2 | with_reducible exact (all_ok h1 _ (List.mem_filter.mp (by assumption)).1).2.2 | with_reducible exact len_filter (Nat.le_trans (all_len h1) (by decide)) | exact Nat.le_trans (all_len h1) (by decide) | exact (all_ok h1 _ (by assumption)).2.2 | exact (all_ok h1 _ (List.mem_filter.mp (by assumption)).1).2.2 | exact len_filter (Nat.le_trans (all_len h1) (by decide)) | (rw [List.length_map]; exact len_filter (len_filter (Nat.le_trans (all_len h1) (by decide)))) | walk_at "sz") (fun lot1 => (b_n rfl)) (fun lot1 hx2 => (e_call (es_cons (e_v (d := ((eT lotD) book)) rfl) (es_cons (e_v (d := (lotD lot1)) rfl) es_nil)) (s_does_touch N (by omega) book lot1 _ (by first | with_reducible exact Nat.le_trans (all_len h1) (by decide) | with_reducible exact (all_ok h1 _ (by assumption)).2.2 | with_reducible exact (all_ok h1 _ (List.mem_filter.mp (by assumption)).1).2.2 | with_reducible exact len_filter (Nat.le_trans (all_len h1) (by decide)) | exact Nat.le_trans (all_len h1) (by decide) | exact (all_ok h1 _ (by assumption)).2.2 | exact (all_ok h1 _ (List.mem_filter.mp (by assumption)).1).2.2 | exact len_filter (Nat.le_trans (all_len h1) (by decide)) | (rw [List.length_map]; exact len_filter (len_filter (Nat.le_trans (all_len h1) (by decide)))) | walk_at "sz") (by first | with_reducible exact Nat.le_trans (all_len h1) (by decide) | with_reducible exact (all_ok h1 _ (by assumption)).2.2 | with_reducible exact (all_ok h1 _ (List.mem_filter.mp (by assumption)).1).2.2 | with_reducible exact len_filter (Nat.le_trans (all_len h1) (by decide)) | exact Nat.le_trans (all_len h1) (by decide) | exact (all_ok h1 _ (by assumption)).2.2 | exact (all_ok h1 _ (List.mem_filter.mp (by assumption)).1).2.2 | exact len_filter (Nat.le_trans (all_len h1) (by decide)) | (rw [List.length_map]; exact len_filter (len_filter (Nat.le_trans (all_len h1) (by decide)))) | walk_at "sz")))) (fun lot1 hx2 hk3 => (e_v (d := (lotD lot1)) rfl))) rfl) ?_
  exact j_ret (as_ ((eT lotD) (List.filter (fun lot4 : (List Int) => (!(List.any (List.map (fun own6 : (List Int) => ((!decide (own6 = lot4)) && (g_is_within own6 lot4))) (g_touching_by_told things book)) id))) (g_touching_by_told things book))) (e_tupL (ds := List.map lotD (List.filter (fun lot4 : (List Int) => (!(List.any (List.map (fun own6 : (List Int) => ((!decide (own6 = lot4)) && (g_is_within own6 lot4))) (g_touching_by_told things book)) id))) (g_touching_by_told things book))) (e_compF (e1 := lotD) (xs := (g_touching_by_told things book)) (r := (fun (lot4 : (List Int)) => [some (D.int things), some ((eT lotD) book), some ((eL lotD) (g_touching_by_told things book)), some (lotD lot4), none])) (p := (fun lot4 : (List Int) => (!(List.any (List.map (fun own6 : (List Int) => ((!decide (own6 = lot4)) && (g_is_within own6 lot4))) (g_touching_by_told things book)) id)))) (i_l (e_v (d := ((eL lotD) (g_touching_by_told things book))) rfl)) (by first | with_reducible exact Nat.le_trans (all_len h1) (by decide) | with_reducible exact (all_ok h1 _ (by assumption)).2.2 | with_reducible exact (all_ok h1 _ (List.mem_filter.mp (by assumption)).1).2.2 | with_reducible exact len_filter (Nat.le_trans (all_len h1) (by decide)) | exact Nat.le_trans (all_len h1) (by decide) | exact (all_ok h1 _ (by assumption)).2.2 | exact (all_ok h1 _ (List.mem_filter.mp (by assumption)).1).2.2 | exact len_filter (Nat.le_trans (all_len h1) (by decide)) | (rw [List.length_map]; exact len_filter (len_filter (Nat.le_trans (all_len h1) (by decide)))) | walk_at "sz") (fun lot4 => (b_n rfl)) (fun lot4 hx5 => (e_not (e_any (bs := (List.map (fun own6 : (List Int) => ((!decide (own6 = lot4)) && (g_is_within own6 lot4))) (g_touching_by_told things book))) (e_compN (e1 := lotD) (e2 := D.bl) (xs := (g_touching_by_told things book)) (r := (fun (own6 : (List Int)) => [some (D.int things), some ((eT lotD) book), some ((eL lotD) (g_touching_by_told things book)), some (lotD lot4), some (lotD own6)])) (f := (fun own6 : (List Int) => ((!decide (own6 = lot4)) && (g_is_within own6 lot4)))) (i_l (e_v (d := ((eL lotD) (g_touching_by_told things book))) rfl)) (by first | with_reducible exact Nat.le_trans (all_len h1) (by decide) | with_reducible exact (all_ok h1 _ (by assumption)).2.2 | with_reducible exact (all_ok h1 _ (List.mem_filter.mp (by assumption)).1).2.2 | with_reducible exact len_filter (Nat.le_trans (all_len h1) (by decide)) | exact Nat.le_trans (all_len h1) (by decide) | exact (all_ok h1 _ (by assumption)).2.2 | exact (all_ok h1 _ (List.mem_filter.mp (by assumption)).1).2.2 | exact len_filter (Nat.le_trans (all_len h1) (by decide)) | (rw [List.length_map]; exact len_filter (len_filter (Nat.le_trans (all_len h1) (by decide)))) | walk_at "sz") (fun own6 => (b_n rfl)) (fun own6 hx7 => (e_and (p := (!decide (own6 = lot4))) (q := (g_is_within own6 lot4)) (e_ne lotD (x := own6) (y := lot4) (e_v (d := (lotD own6)) rfl) (e_v (d := (lotD lot4)) rfl)) (fun hk8 => (e_call (es_cons (e_v (d := (lotD own6)) rfl) (es_cons (e_v (d := (lotD lot4)) rfl) es_nil)) (s_is_within N (by omega) own6 lot4 _ (by first | with_reducible exact Nat.le_trans (all_len h1) (by decide) | with_reducible exact (all_ok h1 _ (by assumption)).2.2 | with_reducible exact (all_ok h1 _ (List.mem_filter.mp (by assumption)).1).2.2 | with_reducible exact len_filter (Nat.le_trans (all_len h1) (by decide)) | exact Nat.le_trans (all_len h1) (by decide) | exact (all_ok h1 _ (by assumption)).2.2 | exact (all_ok h1 _ (List.mem_filter.mp (by assumption)).1).2.2 | exact len_filter (Nat.le_trans (all_len h1) (by decide)) | (rw [List.length_map]; exact len_filter (len_filter (Nat.le_trans (all_len h1) (by decide)))) | walk_at "sz")))))))))) (fun lot4 hx5 hk10 => (e_v (d := (lotD lot4)) rfl))) (by first | with_reducible exact Nat.le_trans (all_len h1) (by decide) | with_reducible exact (all_ok h1 _ (by assumption)).2.2 | with_reducible exact (all_ok h1 _ (List.mem_filter.mp (by assumption)).1).2.2 | with_reducible exact len_filter (Nat.le_trans (all_len h1) (by decide)) | exact Nat.le_trans (all_len h1) (by decide) | exact (all_ok h1 _ (by assumption)).2.2 | exact (all_ok h1 _ (List.mem_filter.mp (by assumption)).1).2.2 | exact len_filter (Nat.le_trans (all_len h1) (by decide)) | (rw [List.length_map]; exact len_filter (len_filter (Nat.le_trans (all_len h1) (by decide)))) | walk_at "sz"))) (fin_enc (e := (eT lotD)) (by walk_at "tk"))

def g__law_meet (one : (List Int)) (two : (List Int)) : (List Int) :=
  (List.filter (fun thing1 : Int => (decide (thing1 ∈ two))) one)

theorem s__law_meet (N : Nat) (hN : 1 ≤ N) (one : (List Int)) (two : (List Int)) (m : M) (h1 : one.length ≤ 64) : (fns P N).call "_law_meet" [(lotD one), (lotD two)] m = .ok (lotD (g__law_meet one two)) m := by
  obtain ⟨N, rfl⟩ : ∃ k, N = k + 1 := ⟨N - 1, by omega⟩
  rw [call_eq f__law_meet rfl rfl]
  refine J.fin (b := false) ?_
  show J false false (List.length m) (exSs (fns P N) none b__law_meet [some (lotD one), some (lotD two), none] m) ((fun (v : (List Int)) => .ok (lotD v) m) (g__law_meet one two))
  unfold g__law_meet b__law_meet
  exact j_ret (as_ (lotD (List.filter (fun thing1 : Int => (decide (thing1 ∈ two))) one)) (e_tupL (ds := List.map D.int (List.filter (fun thing1 : Int => (decide (thing1 ∈ two))) one)) (e_compF (e1 := D.int) (xs := one) (r := (fun (thing1 : Int) => [some (lotD one), some (lotD two), some (D.int thing1)])) (p := (fun thing1 : Int => (decide (thing1 ∈ two)))) (i_t (e_v (d := (lotD one)) rfl)) (by walk_at "sz") (fun thing1 => (b_n rfl)) (fun thing1 hx2 => (e_in D.int (x := thing1) (xs := two) (e_v (d := (D.int thing1)) rfl) (e_v (d := (lotD two)) rfl) .t)) (fun thing1 hx2 hk3 => (e_v (d := (D.int thing1)) rfl))) (by walk_at "sz"))) (fin_enc (e := lotD) (by walk_at "tk"))

def g__law_is_within (one : (List Int)) (two : (List Int)) : Bool :=
  (!(List.any (List.map (fun thing1 : Int => (!decide (thing1 ∈ two))) one) id))

theorem s__law_is_within (N : Nat) (hN : 1 ≤ N) (one : (List Int)) (two : (List Int)) (m : M) (h1 : one.length ≤ 64) : (fns P N).call "_law_is_within" [(lotD one), (lotD two)] m = .ok (D.bl (g__law_is_within one two)) m := by
  obtain ⟨N, rfl⟩ : ∃ k, N = k + 1 := ⟨N - 1, by omega⟩
  rw [call_eq f__law_is_within rfl rfl]
  refine J.fin (b := false) ?_
  show J false false (List.length m) (exSs (fns P N) none b__law_is_within [some (lotD one), some (lotD two), none] m) ((fun (v : Bool) => .ok (D.bl v) m) (g__law_is_within one two))
  unfold g__law_is_within b__law_is_within
  exact j_ret (e_not (e_any (bs := (List.map (fun thing1 : Int => (!decide (thing1 ∈ two))) one)) (e_compN (e1 := D.int) (e2 := D.bl) (xs := one) (r := (fun (thing1 : Int) => [some (lotD one), some (lotD two), some (D.int thing1)])) (f := (fun thing1 : Int => (!decide (thing1 ∈ two)))) (i_t (e_v (d := (lotD one)) rfl)) (by walk_at "sz") (fun thing1 => (b_n rfl)) (fun thing1 hx2 => (e_notIn D.int (x := thing1) (xs := two) (e_v (d := (D.int thing1)) rfl) (e_v (d := (lotD two)) rfl) .t))))) (fin_enc (e := D.bl) (by walk_at "tk"))
theorem tby_16 {things : Int} {book : List (List Int)} (h1 : 0 ≤ things ∧ things ≤ 6) : (g_touching_by things book).length ≤ 16777216 := by
  unfold g_touching_by g_touching_by_told
  exact len_filter (len_filter (Nat.le_trans (all_len h1) (by decide)))
def g_cover_by (things : Int) (book : (List (List Int))) : (Option Int) :=
  (mmN false (List.map (fun lot1 : (List Int) => ((lot1).length : Int)) (g_touching_by things book)))

theorem s_cover_by (N : Nat) (hN : 4 ≤ N) (things : Int) (book : (List (List Int))) (m : M) (h1 : 0 ≤ things ∧ things ≤ 6) (h2 : book.length ≤ 64) : (fns P N).call "cover_by" [(D.int things), ((eT lotD) book)] m = .ok ((eO D.int) (g_cover_by things book)) m := by
  obtain ⟨N, rfl⟩ : ∃ k, N = k + 1 := ⟨N - 1, by omega⟩
  rw [call_eq f_cover_by rfl rfl]
  refine J.fin (b := false) ?_
  show J false false (List.length m) (exSs (fns P N) none b_cover_by [some (D.int things), some ((eT lotD) book), none] m) ((fun (v : (Option Int)) => .ok ((eO D.int) v) m) (g_cover_by things book))
  unfold g_cover_by b_cover_by
  exact j_ret (e_mmN (mx := false) (is := (List.map (fun lot1 : (List Int) => ((lot1).length : Int)) (g_touching_by things book))) (e_compN (e1 := lotD) (e2 := D.int) (xs := (g_touching_by things book)) (r := (fun (lot1 : (List Int)) => [some (D.int things), some ((eT lotD) book), some (lotD lot1)])) (f := (fun lot1 : (List Int) => ((lot1).length : Int))) (i_t (e_call (es_cons (e_v (d := (D.int things)) rfl) (es_cons (e_v (d := ((eT lotD) book)) rfl) es_nil)) (s_touching_by N (by omega) things book _ (by first | with_reducible exact tby_16 h1 | exact tby_16 h1 | walk_at "sz") (by first | with_reducible exact tby_16 h1 | exact tby_16 h1 | walk_at "sz")))) (by first | with_reducible exact tby_16 h1 | exact tby_16 h1 | walk_at "sz") (fun lot1 => (b_n rfl)) (fun lot1 hx2 => (e_len (e1 := D.int) (xs := lot1) (e_v (d := (lotD lot1)) rfl) .t))) e_c) (fin_enc (e := (eO D.int)) (by walk_at "tk"))

def g_cover_number (things : Int) (book : (List (List Int))) : (Option Int) :=
  (g_cover_by things book)

theorem s_cover_number (N : Nat) (hN : 8 ≤ N) (things : Int) (book : (List (List Int))) (m : M) (h1 : 1 ≤ things ∧ things ≤ 6) (h2 : BookOk things book) : (fns P N).call "cover_number" [(D.int things), ((eT lotD) book)] m = .ok ((eO D.int) (g_cover_number things book)) m := by
  obtain ⟨N, rfl⟩ : ∃ k, N = k + 1 := ⟨N - 1, by omega⟩
  rw [call_eq f_cover_number rfl rfl]
  refine J.fin (b := false) ?_
  show J false false (List.length m) (exSs (fns P N) none b_cover_number [some (D.int things), some ((eT lotD) book)] m) ((fun (v : (Option Int)) => .ok ((eO D.int) v) m) (g_cover_number things book))
  unfold g_cover_number b_cover_number
  refine j_nx (st_ex (e_call (es_cons (e_v (d := (D.int things)) rfl) (es_cons (e_v (d := ((eT lotD) book)) rfl) es_nil)) (s'_check_book N (by omega) things book _ (by first | with_reducible exact Nat.le_trans h2.few (by decide) | with_reducible exact ⟨by omega, h1.2⟩ | with_reducible exact fun l hl => (h2.lots l hl).2.2 | exact Nat.le_trans h2.few (by decide) | exact ⟨by omega, h1.2⟩ | exact fun l hl => (h2.lots l hl).2.2 | walk_at "sz") (by first | with_reducible exact Nat.le_trans h2.few (by decide) | with_reducible exact ⟨by omega, h1.2⟩ | with_reducible exact fun l hl => (h2.lots l hl).2.2 | exact Nat.le_trans h2.few (by decide) | exact ⟨by omega, h1.2⟩ | exact fun l hl => (h2.lots l hl).2.2 | walk_at "sz")))) ?_
  exact j_ret (e_call (es_cons (e_v (d := (D.int things)) rfl) (es_cons (e_v (d := ((eT lotD) book)) rfl) es_nil)) (s_cover_by N (by omega) things book _ (by first | with_reducible exact Nat.le_trans h2.few (by decide) | with_reducible exact ⟨by omega, h1.2⟩ | with_reducible exact fun l hl => (h2.lots l hl).2.2 | exact Nat.le_trans h2.few (by decide) | exact ⟨by omega, h1.2⟩ | exact fun l hl => (h2.lots l hl).2.2 | walk_at "sz") (by first | with_reducible exact Nat.le_trans h2.few (by decide) | with_reducible exact ⟨by omega, h1.2⟩ | with_reducible exact fun l hl => (h2.lots l hl).2.2 | exact Nat.le_trans h2.few (by decide) | exact ⟨by omega, h1.2⟩ | exact fun l hl => (h2.lots l hl).2.2 | walk_at "sz"))) (fin_enc (e := (eO D.int)) (by walk_at "tk"))
def g__law_touching_some (things : Int) (book : (List (List Int))) : (List (List Int)) :=
  (List.filter (fun lot1 : (List Int) => (!(List.any (List.map (fun own3 : (List Int) => (decide ((g__law_meet lot1 own3) = []))) book) id))) (g__law_lots things))
def g__law_touching_found (things : Int) (book : (List (List Int))) : (List (List Int)) :=
  (List.foldl (fun (s6 : (List (List Int))) (lot8 : (List Int)) => (s6 ++ (if (decide ((List.filter (fun own9 : (List Int) => ((decide (((own9).length : Int) < ((lot8).length : Int))) && (g__law_is_within own9 lot8))) (g__law_touching_some things book)) = [])) then [lot8] else []))) ([] : (List (List Int))) (g__law_touching_some things book))
def g__law_touching (things : Int) (book : (List (List Int))) : (List (List Int)) :=
  (g__law_touching_found things book)
theorem some_len {things : Int} {book : List (List Int)} (h : 0 ≤ things ∧ things ≤ 6) : (g__law_touching_some things book).length ≤ 16777216 := len_filter (Nat.le_trans (lots_len h) (by decide))
theorem some_len64 {things : Int} {book : List (List Int)} (h : 0 ≤ things ∧ things ≤ 6) : (g__law_touching_some things book).length ≤ 64 := len_filter (lots_len h)
theorem some_ok {things : Int} {book : List (List Int)} {o : List Int} (h : 0 ≤ things ∧ things ≤ 6) (ho : o ∈ g__law_touching_some things book) : o.length ≤ 64 := (lots_ok h o (List.mem_filter.mp ho).1).2.2
theorem found_step {things : Int} {book : List (List Int)} {i : Nat} {x : List Int} {s : List (List Int)} {c : Prop} [Decidable c] (h : 0 ≤ things ∧ things ≤ 6) (hg : (g__law_touching_some things book)[i]? = some x) (hs : s.length ≤ i) : (s ++ (if c then [x] else [])).length ≤ 16777216 := by
  have h1 := (List.getElem?_eq_some_iff.mp hg).1
  have h2 := some_len64 (book := book) h
  split <;> simp only [List.length_append, List.length_cons, List.length_nil] <;> omega
theorem found_end {things : Int} {book : List (List Int)} {s : List (List Int)} (h : 0 ≤ things ∧ things ≤ 6) (hs : s.length ≤ (g__law_touching_some things book).length) : s.length ≤ 16777216 := Nat.le_trans hs (some_len h)
theorem s__law_touching (N : Nat) (hN : 2 ≤ N) (things : Int) (book : (List (List Int))) (m : M) (h1 : 0 ≤ things ∧ things ≤ 6) (h2 : book.length ≤ 64) : (fns P N).call "_law_touching" [(D.int things), ((eT lotD) book)] m = .ok ((eT lotD) (g__law_touching things book)) m := by
  obtain ⟨N, rfl⟩ : ∃ k, N = k + 1 := ⟨N - 1, by omega⟩
  rw [call_eq f__law_touching rfl rfl]
  refine J.fin (b := false) ?_
  show J false false (List.length m) (exSs (fns P N) none b__law_touching [some (D.int things), some ((eT lotD) book), none, none, none, none, none] m) ((fun (v : (List (List Int))) => .ok ((eT lotD) v) m) (g__law_touching things book))
  unfold g__law_touching b__law_touching
  refine j_nx (st_set (ρ1 := [some (D.int things), some ((eT lotD) book), some ((eL lotD) (List.filter (fun lot1 : (List Int) => (!(List.any (List.map (fun own3 : (List Int) => (decide ((g__law_meet lot1 own3) = []))) book) id))) (g__law_lots things))), none, none, none, none]) (e_compF (e1 := lotD) (xs := (g__law_lots things)) (r := (fun (lot1 : (List Int)) => [some (D.int things), some ((eT lotD) book), none, some (lotD lot1), none, none, none])) (p := (fun lot1 : (List Int) => (!(List.any (List.map (fun own3 : (List Int) => (decide ((g__law_meet lot1 own3) = []))) book) id)))) (i_l (e_call (es_cons (e_v (d := (D.int things)) rfl) es_nil) (s__law_lots N (by omega) things _ (by first | with_reducible exact Nat.le_trans (lots_len h1) (by decide) | with_reducible exact (lots_ok h1 _ (by assumption)).2.2 | with_reducible exact some_ok h1 (by assumption) | with_reducible exact some_len h1 | with_reducible exact found_step h1 hget_ (by assumption) | with_reducible exact found_end h1 (by assumption) | exact Nat.le_trans (lots_len h1) (by decide) | exact (lots_ok h1 _ (by assumption)).2.2 | exact some_ok h1 (by assumption) | exact some_len h1 | exact found_step h1 hget_ (by assumption) | exact found_end h1 (by assumption) | (rw [List.length_map]; exact found_end h1 (by assumption)) | walk_at "sz")))) (by first | with_reducible exact Nat.le_trans (lots_len h1) (by decide) | with_reducible exact (lots_ok h1 _ (by assumption)).2.2 | with_reducible exact some_ok h1 (by assumption) | with_reducible exact some_len h1 | with_reducible exact found_step h1 hget_ (by assumption) | with_reducible exact found_end h1 (by assumption) | exact Nat.le_trans (lots_len h1) (by decide) | exact (lots_ok h1 _ (by assumption)).2.2 | exact some_ok h1 (by assumption) | exact some_len h1 | exact found_step h1 hget_ (by assumption) | exact found_end h1 (by assumption) | (rw [List.length_map]; exact found_end h1 (by assumption)) | walk_at "sz") (fun lot1 => (b_n rfl)) (fun lot1 hx2 => (e_not (e_any (bs := (List.map (fun own3 : (List Int) => (decide ((g__law_meet lot1 own3) = []))) book)) (e_compN (e1 := lotD) (e2 := D.bl) (xs := book) (r := (fun (own3 : (List Int)) => [some (D.int things), some ((eT lotD) book), none, some (lotD lot1), some (lotD own3), none, none])) (f := (fun own3 : (List Int) => (decide ((g__law_meet lot1 own3) = [])))) (i_t (e_v (d := ((eT lotD) book)) rfl)) (by first | with_reducible exact Nat.le_trans (lots_len h1) (by decide) | with_reducible exact (lots_ok h1 _ (by assumption)).2.2 | with_reducible exact some_ok h1 (by assumption) | with_reducible exact some_len h1 | with_reducible exact found_step h1 hget_ (by assumption) | with_reducible exact found_end h1 (by assumption) | exact Nat.le_trans (lots_len h1) (by decide) | exact (lots_ok h1 _ (by assumption)).2.2 | exact some_ok h1 (by assumption) | exact some_len h1 | exact found_step h1 hget_ (by assumption) | exact found_end h1 (by assumption) | (rw [List.length_map]; exact found_end h1 (by assumption)) | walk_at "sz") (fun own3 => (b_n rfl)) (fun own3 hx4 => (e_eq lotD (x := (g__law_meet lot1 own3)) (y := []) (e_call (es_cons (e_v (d := (lotD lot1)) rfl) (es_cons (e_v (d := (lotD own3)) rfl) es_nil)) (s__law_meet N (by omega) lot1 own3 _ (by first | with_reducible exact Nat.le_trans (lots_len h1) (by decide) | with_reducible exact (lots_ok h1 _ (by assumption)).2.2 | with_reducible exact some_ok h1 (by assumption) | with_reducible exact some_len h1 | with_reducible exact found_step h1 hget_ (by assumption) | with_reducible exact found_end h1 (by assumption) | exact Nat.le_trans (lots_len h1) (by decide) | exact (lots_ok h1 _ (by assumption)).2.2 | exact some_ok h1 (by assumption) | exact some_len h1 | exact found_step h1 hget_ (by assumption) | exact found_end h1 (by assumption) | (rw [List.length_map]; exact found_end h1 (by assumption)) | walk_at "sz"))) (as_ (lotD ([] : (List Int))) (e_tup es_nil (Nat.le_of_ble_eq_true rfl))))))))) (fun lot1 hx2 hk5 => (e_v (d := (lotD lot1)) rfl))) rfl) ?_
  refine j_nx (st_set (ρ1 := [some (D.int things), some ((eT lotD) book), some ((eL lotD) (g__law_touching_some things book)), none, none, some ((eL lotD) ([] : (List (List Int)))), none]) (as_ ((eL lotD) ([] : (List (List Int)))) (e_lst es_nil (Nat.le_of_ble_eq_true rfl))) rfl) ?_
  refine j_forF (e1 := lotD) (xs := (g__law_touching_some things book)) (fun (s6 : (List (List Int))) (j7 : Option D × Option D) => [some (D.int things), some ((eT lotD) book), some ((eL lotD) (g__law_touching_some things book)), j7.1, none, some ((eL lotD) s6), j7.2]) (fun (s6 : (List (List Int))) => m) (fun (s6 : (List (List Int))) (lot8 : (List Int)) => (s6 ++ (if (decide ((List.filter (fun own9 : (List Int) => ((decide (((own9).length : Int) < ((lot8).length : Int))) && (g__law_is_within own9 lot8))) (g__law_touching_some things book)) = [])) then [lot8] else []))) (fun i s => s.length ≤ i) (s := ([] : (List (List Int)))) (j := (none, none)) (i_l (e_v (d := ((eL lotD) (g__law_touching_some things book))) rfl)) rfl (fun i18 s6 j7 lot8 hget_ hx19 hV20 => ⟨[some (D.int things), some ((eT lotD) book), some ((eL lotD) (g__law_touching_some things book)), some (lotD lot8), none, some ((eL lotD) s6), j7.2], (some (lotD lot8), some ((eL lotD) (List.filter (fun own9 : (List Int) => ((decide (((own9).length : Int) < ((lot8).length : Int))) && (g__law_is_within own9 lot8))) (g__law_touching_some things book)))), (b_n rfl), (ss_nx (st_set (ρ1 := [some (D.int things), some ((eT lotD) book), some ((eL lotD) (g__law_touching_some things book)), some (lotD lot8), none, some ((eL lotD) s6), some ((eL lotD) (List.filter (fun own9 : (List Int) => ((decide (((own9).length : Int) < ((lot8).length : Int))) && (g__law_is_within own9 lot8))) (g__law_touching_some things book)))]) (e_compF (e1 := lotD) (xs := (g__law_touching_some things book)) (r := (fun (own9 : (List Int)) => [some (D.int things), some ((eT lotD) book), some ((eL lotD) (g__law_touching_some things book)), some (lotD lot8), some (lotD own9), some ((eL lotD) s6), j7.2])) (p := (fun own9 : (List Int) => ((decide (((own9).length : Int) < ((lot8).length : Int))) && (g__law_is_within own9 lot8)))) (i_l (e_v (d := ((eL lotD) (g__law_touching_some things book))) rfl)) (by first | with_reducible exact Nat.le_trans (lots_len h1) (by decide) | with_reducible exact (lots_ok h1 _ (by assumption)).2.2 | with_reducible exact some_ok h1 (by assumption) | with_reducible exact some_len h1 | with_reducible exact found_step h1 hget_ (by assumption) | with_reducible exact found_end h1 (by assumption) | exact Nat.le_trans (lots_len h1) (by decide) | exact (lots_ok h1 _ (by assumption)).2.2 | exact some_ok h1 (by assumption) | exact some_len h1 | exact found_step h1 hget_ (by assumption) | exact found_end h1 (by assumption) | (rw [List.length_map]; exact found_end h1 (by assumption)) | walk_at "sz") (fun own9 => (b_n rfl)) (fun own9 hx10 => (e_and (p := (decide (((own9).length : Int) < ((lot8).length : Int)))) (q := (g__law_is_within own9 lot8)) (e_lt (e_len (e1 := D.int) (xs := own9) (e_v (d := (lotD own9)) rfl) .t) (e_len (e1 := D.int) (xs := lot8) (e_v (d := (lotD lot8)) rfl) .t)) (fun hk11 => (e_call (es_cons (e_v (d := (lotD own9)) rfl) (es_cons (e_v (d := (lotD lot8)) rfl) es_nil)) (s__law_is_within N (by omega) own9 lot8 _ (by first | with_reducible exact Nat.le_trans (lots_len h1) (by decide) | with_reducible exact (lots_ok h1 _ (by assumption)).2.2 | with_reducible exact some_ok h1 (by assumption) | with_reducible exact some_len h1 | with_reducible exact found_step h1 hget_ (by assumption) | with_reducible exact found_end h1 (by assumption) | exact Nat.le_trans (lots_len h1) (by decide) | exact (lots_ok h1 _ (by assumption)).2.2 | exact some_ok h1 (by assumption) | exact some_len h1 | exact found_step h1 hget_ (by assumption) | exact found_end h1 (by assumption) | (rw [List.length_map]; exact found_end h1 (by assumption)) | walk_at "sz")))))) (fun own9 hx10 hk13 => (e_v (d := (lotD own9)) rfl))) rfl) (ss_nx (st_set (ρ1 := [some (D.int things), some ((eT lotD) book), some ((eL lotD) (g__law_touching_some things book)), some (lotD lot8), none, some ((eL lotD) (s6 ++ (if (decide ((List.filter (fun own9 : (List Int) => ((decide (((own9).length : Int) < ((lot8).length : Int))) && (g__law_is_within own9 lot8))) (g__law_touching_some things book)) = [])) then [lot8] else []))), some ((eL lotD) (List.filter (fun own9 : (List Int) => ((decide (((own9).length : Int) < ((lot8).length : Int))) && (g__law_is_within own9 lot8))) (g__law_touching_some things book)))]) (e_addL (e1 := lotD) (xs := s6) (ys := (if (decide ((List.filter (fun own9 : (List Int) => ((decide (((own9).length : Int) < ((lot8).length : Int))) && (g__law_is_within own9 lot8))) (g__law_touching_some things book)) = [])) then [lot8] else [])) (e_v (d := ((eL lotD) s6)) rfl) (e_ite (fun (v : (List (List Int))) => .ok ((eL lotD) v) m) (x := [lot8]) (y := []) (p := (decide ((List.filter (fun own9 : (List Int) => ((decide (((own9).length : Int) < ((lot8).length : Int))) && (g__law_is_within own9 lot8))) (g__law_touching_some things book)) = []))) (e_eq (eL lotD) (x := (List.filter (fun own9 : (List Int) => ((decide (((own9).length : Int) < ((lot8).length : Int))) && (g__law_is_within own9 lot8))) (g__law_touching_some things book))) (y := []) (e_v (d := ((eL lotD) (List.filter (fun own9 : (List Int) => ((decide (((own9).length : Int) < ((lot8).length : Int))) && (g__law_is_within own9 lot8))) (g__law_touching_some things book)))) rfl) (as_ ((eL lotD) ([] : (List (List Int)))) (e_lst es_nil (Nat.le_of_ble_eq_true rfl)))) (fun hk14 => (as_ ((eL lotD) ([lot8] : (List (List Int)))) (e_lst (es_cons (e_v (d := (lotD lot8)) rfl) es_nil) (Nat.le_of_ble_eq_true rfl)))) (fun hk14 => (as_ ((eL lotD) ([] : (List (List Int)))) (e_lst es_nil (Nat.le_of_ble_eq_true rfl))))) (by first | with_reducible exact Nat.le_trans (lots_len h1) (by decide) | with_reducible exact (lots_ok h1 _ (by assumption)).2.2 | with_reducible exact some_ok h1 (by assumption) | with_reducible exact some_len h1 | with_reducible exact found_step h1 hget_ (by assumption) | with_reducible exact found_end h1 (by assumption) | exact Nat.le_trans (lots_len h1) (by decide) | exact (lots_ok h1 _ (by assumption)).2.2 | exact some_ok h1 (by assumption) | exact some_len h1 | exact found_step h1 hget_ (by assumption) | exact found_end h1 (by assumption) | (rw [List.length_map]; exact found_end h1 (by assumption)) | walk_at "sz")) rfl) ss_nil)), (by (split <;> simp only [List.length_append, List.length_cons, List.length_nil] <;> omega))⟩) (by exact Nat.le_refl 0) (fun j17 hI16 => ?_)
  exact j_ret (as_ ((eT lotD) (g__law_touching_found things book)) (e_tupL (ds := List.map lotD (g__law_touching_found things book)) (e_v (d := ((eL lotD) (g__law_touching_found things book))) rfl) (by first | with_reducible exact Nat.le_trans (lots_len h1) (by decide) | with_reducible exact (lots_ok h1 _ (by assumption)).2.2 | with_reducible exact some_ok h1 (by assumption) | with_reducible exact some_len h1 | with_reducible exact found_step h1 hget_ (by assumption) | with_reducible exact found_end h1 (by assumption) | exact Nat.le_trans (lots_len h1) (by decide) | exact (lots_ok h1 _ (by assumption)).2.2 | exact some_ok h1 (by assumption) | exact some_len h1 | exact found_step h1 hget_ (by assumption) | exact found_end h1 (by assumption) | (rw [List.length_map]; exact found_end h1 (by assumption)) | walk_at "sz"))) (fin_enc (e := (eT lotD)) (by walk_at "tk"))
theorem of_i {many x : Int} {i : Nat} (hg : (rngS 0 many)[i]? = some x) (h1 : 0 ≤ many ∧ many ≤ 8) : i < 8 := by
  have := (List.getElem?_eq_some_iff.mp hg).1
  rw [rngS_len] at this; omega
theorem of_pow {i : Nat} (h : i ≤ 8) : 2 ^ i ≤ 256 := Nat.le_trans (Nat.pow_le_pow_right (by decide) h) (by decide)
theorem of_sz {many x : Int} {i : Nat} {s : List (List Int)} (hg : (rngS 0 many)[i]? = some x) (h1 : 0 ≤ many ∧ many ≤ 8) (h : s.length = 2 ^ i ∧ ∀ o ∈ s, o.length ≤ i) : s.length ≤ 16777216 := by
  have := of_pow (Nat.le_of_lt (of_i hg h1)); omega
theorem of_el {many x : Int} {i : Nat} {s : List (List Int)} {o : List Int} (hg : (rngS 0 many)[i]? = some x) (h1 : 0 ≤ many ∧ many ≤ 8) (h : s.length = 2 ^ i ∧ ∀ o ∈ s, o.length ≤ i) (ho : o ∈ s) : (o ++ [x]).length ≤ 16777216 := by
  have := h.2 o ho
  have := of_i hg h1
  rw [List.length_append, List.length_singleton]; omega
theorem of_two {many x : Int} {i : Nat} {s : List (List Int)} {f : List Int → List Int} (hg : (rngS 0 many)[i]? = some x) (h1 : 0 ≤ many ∧ many ≤ 8) (h : s.length = 2 ^ i ∧ ∀ o ∈ s, o.length ≤ i) : (s ++ List.map f s).length ≤ 16777216 := by
  have := of_pow (Nat.le_of_lt (of_i hg h1))
  simp only [List.length_append, List.length_map]; omega
theorem of_end {many : Int} {s : List (List Int)} (h1 : 0 ≤ many ∧ many ≤ 8) (h : s.length = 2 ^ (rngS 0 many).length ∧ ∀ o ∈ s, o.length ≤ (rngS 0 many).length) : s.length ≤ 16777216 := by
  have := of_pow (i := (rngS 0 many).length) (by rw [rngS_len]; omega)
  omega
def g__law_some_of_found (many : Int) : (List (List Int)) :=
  (List.foldl (fun (s1 : (List (List Int))) (k3 : Int) => (s1 ++ (List.map (fun lot4 : (List Int) => (lot4 ++ [k3])) s1))) [[]] (rngS 0 many))
def g__law_some_of (many : Int) : (List (List Int)) :=
  (sortLots (g__law_some_of_found many))

theorem s__law_some_of (N : Nat) (hN : 1 ≤ N) (many : Int) (m : M) (h1 : 0 ≤ many ∧ many ≤ 8) : (fns P N).call "_law_some_of" [(D.int many)] m = .ok ((eL lotD) (g__law_some_of many)) m := by
  obtain ⟨N, rfl⟩ : ∃ k, N = k + 1 := ⟨N - 1, by omega⟩
  rw [call_eq f__law_some_of rfl rfl]
  refine J.fin (b := false) ?_
  show J false false (List.length m) (exSs (fns P N) none b__law_some_of [some (D.int many), none, none, none] m) ((fun (v : (List (List Int))) => .ok ((eL lotD) v) m) (g__law_some_of many))
  unfold g__law_some_of b__law_some_of
  refine j_nx (st_set (ρ1 := [some (D.int many), some ((eL lotD) [[]]), none, none]) (as_ ((eL lotD) ([[]] : (List (List Int)))) (e_lst (es_cons (as_ (lotD ([] : (List Int))) (e_tup es_nil (Nat.le_of_ble_eq_true rfl))) es_nil) (Nat.le_of_ble_eq_true rfl))) rfl) ?_
  refine j_forF (e1 := D.int) (xs := (rngS 0 many)) (fun (s1 : (List (List Int))) (j2 : Option D) => [some (D.int many), some ((eL lotD) s1), j2, none]) (fun (s1 : (List (List Int))) => m) (fun (s1 : (List (List Int))) (k3 : Int) => (s1 ++ (List.map (fun lot4 : (List Int) => (lot4 ++ [k3])) s1))) (fun i s => s.length = 2 ^ i ∧ ∀ o ∈ s, o.length ≤ i) (s := [[]]) (j := none) (g_rng1 (j := many) (e_v (d := (D.int many)) rfl) (by first | with_reducible exact of_sz hget_ h1 (by assumption) | with_reducible exact of_el hget_ h1 (by assumption) (by assumption) | with_reducible exact of_two hget_ h1 (by assumption) | with_reducible exact of_end h1 (by assumption) | exact of_sz hget_ h1 (by assumption) | exact of_el hget_ h1 (by assumption) (by assumption) | exact of_two hget_ h1 (by assumption) | exact of_end h1 (by assumption) | walk_at "sz")) rfl (fun i9 s1 j2 k3 hget_ hx10 hV11 => ⟨[some (D.int many), some ((eL lotD) s1), some (D.int k3), none], some (D.int k3), (b_n rfl), (ss_nx (st_set (ρ1 := [some (D.int many), some ((eL lotD) (s1 ++ (List.map (fun lot4 : (List Int) => (lot4 ++ [k3])) s1))), some (D.int k3), none]) (e_addL (e1 := lotD) (xs := s1) (ys := (List.map (fun lot4 : (List Int) => (lot4 ++ [k3])) s1)) (e_v (d := ((eL lotD) s1)) rfl) (e_compN (e1 := lotD) (e2 := lotD) (xs := s1) (r := (fun (lot4 : (List Int)) => [some (D.int many), some ((eL lotD) s1), some (D.int k3), some (lotD lot4)])) (f := (fun lot4 : (List Int) => (lot4 ++ [k3]))) (i_l (e_v (d := ((eL lotD) s1)) rfl)) (by first | with_reducible exact of_sz hget_ h1 (by assumption) | with_reducible exact of_el hget_ h1 (by assumption) (by assumption) | with_reducible exact of_two hget_ h1 (by assumption) | with_reducible exact of_end h1 (by assumption) | exact of_sz hget_ h1 (by assumption) | exact of_el hget_ h1 (by assumption) (by assumption) | exact of_two hget_ h1 (by assumption) | exact of_end h1 (by assumption) | walk_at "sz") (fun lot4 => (b_n rfl)) (fun lot4 hx5 => (e_addT (e1 := D.int) (xs := lot4) (ys := [k3]) (e_v (d := (lotD lot4)) rfl) (as_ (lotD ([k3] : (List Int))) (e_tup (es_cons (e_v (d := (D.int k3)) rfl) es_nil) (Nat.le_of_ble_eq_true rfl))) (by first | with_reducible exact of_sz hget_ h1 (by assumption) | with_reducible exact of_el hget_ h1 (by assumption) (by assumption) | with_reducible exact of_two hget_ h1 (by assumption) | with_reducible exact of_end h1 (by assumption) | exact of_sz hget_ h1 (by assumption) | exact of_el hget_ h1 (by assumption) (by assumption) | exact of_two hget_ h1 (by assumption) | exact of_end h1 (by assumption) | walk_at "sz")))) (by first | with_reducible exact of_sz hget_ h1 (by assumption) | with_reducible exact of_el hget_ h1 (by assumption) (by assumption) | with_reducible exact of_two hget_ h1 (by assumption) | with_reducible exact of_end h1 (by assumption) | exact of_sz hget_ h1 (by assumption) | exact of_el hget_ h1 (by assumption) (by assumption) | exact of_two hget_ h1 (by assumption) | exact of_end h1 (by assumption) | walk_at "sz")) rfl) ss_nil), (by exact lots_inv (by assumption))⟩) (by exact ⟨rfl, by simp⟩) (fun j8 hI7 => ?_)
  exact j_ret (e_sorted (ls := (g__law_some_of_found many)) (e_v (d := ((eL lotD) (g__law_some_of_found many))) rfl) (by first | with_reducible exact of_sz hget_ h1 (by assumption) | with_reducible exact of_el hget_ h1 (by assumption) (by assumption) | with_reducible exact of_two hget_ h1 (by assumption) | with_reducible exact of_end h1 (by assumption) | exact of_sz hget_ h1 (by assumption) | exact of_el hget_ h1 (by assumption) (by assumption) | exact of_two hget_ h1 (by assumption) | exact of_end h1 (by assumption) | walk_at "sz")) (fin_enc (e := (eL lotD)) (by walk_at "tk"))
theorem of_eq {many : Int} (h : 0 ≤ many) : g__law_some_of many = lotsOf many.toNat := (show g__law_some_of many = g__law_lots many from rfl).trans (lots_of h)
theorem of_len {book : List (List Int)} (h : book.length ≤ 8) : (g__law_some_of (book.length : Int)).length ≤ 256 := by
  rw [of_eq (by omega), lotsOf_len]; exact of_pow (by omega)
theorem of_lot {book : List (List Int)} {l : List Int} (hl : l ∈ g__law_some_of (book.length : Int)) : AscI l ∧ ∀ x ∈ l, 0 ≤ x ∧ x < (book.length : Int) := by
  rw [of_eq (by omega)] at hl
  have := mem_lotsOf.mp hl
  simpa using this
theorem of_few {book : List (List Int)} {l : List Int} (hl : l ∈ g__law_some_of (book.length : Int)) : l.length ≤ book.length := by
  obtain ⟨h1, h2⟩ := of_lot hl
  have := nodup_sub l (rngS 0 (book.length : Int)) (ascI_nodup h1) fun y hy => mem_rngS.mpr (h2 y hy)
  rw [rngS_len] at this; omega
section
variable {book : List (List Int)} {l : List Int} {j k : Int}
theorem of_r1 (h : book.length ≤ 8) (hl : l ∈ g__law_some_of (book.length : Int)) (hk : k ∈ rngS 0 (l.length : Int)) : -4611686018427387904 ≤ k ∧ k < 4611686018427387904 := by
  have := of_few hl; have := mem_rngS.mp hk; omega
theorem of_r2 (h : book.length ≤ 8) (hl : l ∈ g__law_some_of (book.length : Int)) (hk : k ∈ rngS 0 (l.length : Int)) : (rngS 0 k).length ≤ 16777216 := by
  have := of_few hl; have := mem_rngS.mp hk; rw [rngS_len]; omega
theorem of_r3 (h : book.length ≤ 8) (hl : l ∈ g__law_some_of (book.length : Int)) : -4611686018427387904 ≤ (l.length : Int) ∧ (l.length : Int) < 4611686018427387904 := by
  have := of_few hl; omega
theorem of_j (hk : k ∈ rngS 0 (l.length : Int)) (hj : j ∈ rngS 0 k) : -(l.length : Int) ≤ j ∧ j < (l.length : Int) := by
  have := mem_rngS.mp hk; have := mem_rngS.mp hj; omega
theorem of_k (hk : k ∈ rngS 0 (l.length : Int)) : -(l.length : Int) ≤ k ∧ k < (l.length : Int) := by
  have := mem_rngS.mp hk; omega
theorem of_bk0 (hl : l ∈ g__law_some_of (book.length : Int)) (hk : k ∈ rngS 0 (l.length : Int)) : 0 ≤ ixS l k ∧ ixS l k < (book.length : Int) := (of_lot hl).2 _ (ixS_mem (mem_rngS.mp hk))
theorem of_bk (hl : l ∈ g__law_some_of (book.length : Int)) (hk : k ∈ rngS 0 (l.length : Int)) : -(book.length : Int) ≤ ixS l k ∧ ixS l k < (book.length : Int) := by have := of_bk0 hl hk; omega
theorem of_jr (hk : k ∈ rngS 0 (l.length : Int)) (hj : j ∈ rngS 0 k) : j ∈ rngS 0 (l.length : Int) := by
  have := mem_rngS.mp hk; have := mem_rngS.mp hj; exact mem_rngS.mpr (by omega)
end
def dj (x y : List Int) : Bool := decide (g_common_of x y = [])
theorem dj_iff {x y : List Int} : dj x y = true ↔ ∀ z ∈ x, z ∉ y := by
  unfold dj g_common_of
  rw [decide_eq_true_eq, List.filter_eq_nil_iff]
  exact forall_congr' fun z => forall_congr' fun _ => by simp
theorem dj_sym (x y : List Int) : dj x y = dj y x := by
  rw [Bool.eq_iff_iff, dj_iff, dj_iff]
  exact ⟨fun h z hz hx => h z hx hz, fun h z hz hx => h z hx hz⟩
def fineP (B : List (List Int)) (l : List Int) : Bool := decide (l.Pairwise fun a b => dj (ixS B a) (ixS B b) = true)
def extP (B : List (List Int)) (s : List Int) (a : Int) : Bool := List.all (List.map (fun own12 : Int => (decide ((g_common_of (ixS B a) (ixS B own12)) = []))) s) id
theorem fineP_snoc (B : List (List Int)) (s : List Int) (a : Int) : fineP B (s ++ [a]) = (fineP B s && extP B s a) := by
  unfold fineP extP
  rw [Bool.eq_iff_iff, Bool.and_eq_true, decide_eq_true_eq, decide_eq_true_eq, List.pairwise_append, List.all_map, List.all_eq_true]
  constructor
  · rintro ⟨h1, _, h3⟩
    exact ⟨h1, fun o ho => by have := h3 o ho a (by simp); rw [dj_sym] at this; exact this⟩
  · rintro ⟨h1, h2⟩
    refine ⟨h1, by simp, fun o ho b hb => ?_⟩
    rw [List.mem_singleton] at hb; subst hb
    rw [dj_sym]; exact h2 o ho
def PkInv (B : List (List Int)) (s : List Int × List (List Int)) : Prop := ∃ k, s.2 = lvl B.length (fineP B) k
theorem lvl_in {n k : Nat} {fine : List Int → Bool} {x : List Int} (h : x ∈ lvl n fine k) : AscI x ∧ (∀ o ∈ x, 0 ≤ o ∧ o < (n : Int)) ∧ x.length ≤ n ∧ 0 ≤ lowOf x ∧ lowOf x ≤ n := by
  obtain ⟨⟨h1, h2⟩, h3, _⟩ := mem_lvl.mp h
  have h4 : x.length ≤ n := by
    have := nodup_sub x (rngS 0 (n : Int)) (ascI_nodup h1) fun y hy => mem_rngS.mpr (h2 y hy)
    rw [rngS_len] at this; omega
  refine ⟨h1, h2, h4, ?_⟩
  by_cases hn : x = []
  · subst hn; rw [low_nil]; omega
  · obtain ⟨r, b, rfl⟩ := snoc_ne hn
    rw [low_snoc]
    have := h2 b (by simp); omega
theorem fr_ix {F : List (List Int)} (h : (!decide (F = [])) = true) : -(F.length : Int) ≤ 0 ∧ (0 : Int) < (F.length : Int) := by
  rw [Bool.not_eq_true', decide_eq_false_iff_not] at h
  have := List.length_pos_iff.mpr h
  omega
theorem fr_last {x : List Int} (h : (!decide (x = [])) = true) : -(x.length : Int) ≤ -(1 : Int) ∧ -(1 : Int) < (x.length : Int) := by
  rw [Bool.not_eq_true', decide_eq_false_iff_not] at h
  have := List.length_pos_iff.mpr h
  omega
theorem lvl_few {n k : Nat} {fine : List Int → Bool} (h : n ≤ 9) : (lvl n fine k).length ≤ 512 := Nat.le_trans lvl_len (Nat.le_trans (Nat.pow_le_pow_right (by decide) h) (by decide))
section
variable {B : List (List Int)} {s : List Int × List (List Int)} {x : List Int} {a : Int}
theorem pk_few (h1 : B.length ≤ 8) (hI : PkInv B s) : s.2.length < 1000 := by
  obtain ⟨k, e⟩ := hI
  rw [e]; exact Nat.lt_of_le_of_lt (lvl_few (by omega)) (by decide)
theorem pk_in (hI : PkInv B s) (hx : x ∈ s.2) : AscI x ∧ (∀ o ∈ x, 0 ≤ o ∧ o < (B.length : Int)) ∧ x.length ≤ B.length ∧ 0 ≤ lowOf x ∧ lowOf x ≤ B.length := by
  obtain ⟨k, e⟩ := hI
  rw [e] at hx; exact lvl_in hx
theorem pk_rng (h1 : B.length ≤ 8) (hI : PkInv B s) (hx : x ∈ s.2) : (-4611686018427387904 ≤ (if (!decide (x = [])) then ((ixS x (-(1 : Int))) + (1 : Int)) else (0 : Int)) ∧ (if (!decide (x = [])) then ((ixS x (-(1 : Int))) + (1 : Int)) else (0 : Int)) < 4611686018427387904) ∧ (-4611686018427387904 ≤ (B.length : Int) ∧ (B.length : Int) < 4611686018427387904) := by
  have := (pk_in hI hx).2.2.2
  unfold lowOf at this
  omega
theorem pk_len (h1 : B.length ≤ 8) (hI : PkInv B s) (hx : x ∈ s.2) : x.length ≤ 16777216 := by
  have := (pk_in hI hx).2.2.1; omega
theorem pk_len1 (h1 : B.length ≤ 8) (hI : PkInv B s) (hx : x ∈ s.2) : (x ++ (a :: [])).length ≤ 16777216 := by
  have := (pk_in hI hx).2.2.1
  rw [List.length_append, List.length_singleton]; omega
theorem pk_at0 (hI : PkInv B s) (hx : x ∈ s.2) (ha : a ∈ rngS (if (!decide (x = [])) then ((ixS x (-(1 : Int))) + (1 : Int)) else (0 : Int)) (B.length : Int)) : 0 ≤ a ∧ a < (B.length : Int) := by
  have := (pk_in hI hx).2.2.2
  have h2 := mem_rngS.mp ha
  unfold lowOf at this
  omega
theorem pk_at (hI : PkInv B s) (hx : x ∈ s.2) (ha : a ∈ rngS (if (!decide (x = [])) then ((ixS x (-(1 : Int))) + (1 : Int)) else (0 : Int)) (B.length : Int)) : -(B.length : Int) ≤ a ∧ a < (B.length : Int) := by
  have := pk_at0 hI hx ha; omega
theorem pk_own (hI : PkInv B s) (hx : x ∈ s.2) (ha : a ∈ x) : -(B.length : Int) ≤ a ∧ a < (B.length : Int) := by
  have := (pk_in hI hx).2.1 a ha; omega
theorem pk_app {s5 s9 : List (List Int)} {i j : Nat} (h1 : B.length ≤ 8) (hI : PkInv B s) (hx : x ∈ s.2) (hg : s.2[i]? = some x) (hg2 : (rngS (if (!decide (x = [])) then ((ixS x (-(1 : Int))) + (1 : Int)) else (0 : Int)) (B.length : Int))[j]? = some a) (e1 : s5.length ≤ 8 * i) (e2 : s9.length ≤ s5.length + j) : s9.length < 16777216 := by
  have q1 := pk_few h1 hI
  have q2 := (List.getElem?_eq_some_iff.mp hg).1
  have q3 := (List.getElem?_eq_some_iff.mp hg2).1
  have := (pk_in hI hx).2.2.2
  unfold lowOf at this
  rw [rngS_len] at q3
  omega
theorem pk_outer {i : Nat} {s5 : List (List Int)} {p : Int → Bool} {f : Int → List Int} (h1 : B.length ≤ 8) (hI : PkInv B s) (hx : x ∈ s.2) (e1 : s5.length ≤ 8 * i) : (List.foldl (fun (s9 : (List (List Int))) (at_11 : Int) => if p at_11 then (s9 ++ [f at_11]) else s9) s5 (rngS (if (!decide (x = [])) then ((ixS x (-(1 : Int))) + (1 : Int)) else (0 : Int)) (B.length : Int))).length ≤ 8 * (i + 1) := by
  rw [fold_if, List.length_append, List.length_map]
  have q := List.length_filter_le p (rngS (if (!decide (x = [])) then ((ixS x (-(1 : Int))) + (1 : Int)) else (0 : Int)) (B.length : Int))
  have := (pk_in hI hx).2.2.2
  unfold lowOf at this
  rw [rngS_len] at q
  omega
end
/-- the step of the program's loop -/
def pkStep (B : List (List Int)) (s1 : (List Int) × (List (List Int))) : (List Int) × (List (List Int)) := ((ixS s1.2 (0 : Int)), (List.foldl (fun (s5 : (List (List Int))) (some_7 : (List Int)) => (List.foldl (fun (s9 : (List (List Int))) (at_11 : Int) => (if (List.all (List.map (fun own12 : Int => (decide ((g_common_of (ixS B at_11) (ixS B own12)) = []))) some_7) id) then (s9 ++ [(some_7 ++ (at_11 :: []))]) else s9)) s5 (rngS (if (!decide (some_7 = [])) then ((ixS some_7 (-(1 : Int))) + (1 : Int)) else (0 : Int)) ((B).length : Int)))) ([] : (List (List Int))) s1.2))
theorem pkStep_eq (B : List (List Int)) (s : (List Int) × (List (List Int))) : pkStep B s = (ixS s.2 0, grow B.length (extP B) s.2) := by
  unfold pkStep
  congr 1
  have e : (fun (s5 : (List (List Int))) (some_7 : (List Int)) => (List.foldl (fun (s9 : (List (List Int))) (at_11 : Int) => (if (List.all (List.map (fun own12 : Int => (decide ((g_common_of (ixS B at_11) (ixS B own12)) = []))) some_7) id) then (s9 ++ [(some_7 ++ (at_11 :: []))]) else s9)) s5 (rngS (if (!decide (some_7 = [])) then ((ixS some_7 (-(1 : Int))) + (1 : Int)) else (0 : Int)) ((B).length : Int)))) = fun s5 some_7 => s5 ++ ((rngS (lowOf some_7) (B.length : Int)).filter (extP B some_7)).map fun a => some_7 ++ [a] := by
    funext s5 x
    exact fold_if (fun a => extP B x a) (fun a => x ++ [a]) _ s5
  rw [e, fold_flat, List.nil_append]
  rfl
theorem pk_step0 {B : List (List Int)} {s : (List Int) × (List (List Int))} (hI : PkInv B s) : PkInv B (pkStep B s) := by
  obtain ⟨k, e⟩ := hI
  refine ⟨k + 1, ?_⟩
  rw [pkStep_eq, e]
  exact grow_lvl fun s a _ => fineP_snoc B s a
theorem pk_start {B : List (List Int)} : PkInv B ([], [[]]) := ⟨0, (lvl_zero (by unfold fineP; simp)).symm⟩
/-- the loop from level k on -/
theorem pk_run {B : List (List Int)} : ∀ (n k : Nat) (b : List Int), k ≤ B.length + 1 → B.length + 2 ≤ n + k → ∃ r, whS (fun (s1 : (List Int) × (List (List Int))) => (!decide (s1.2 = []))) (pkStep B) n (b, lvl B.length (fineP B) k) = some r ∧
    ((lvl B.length (fineP B) k = [] ∧ r.1 = b) ∨ ∃ k' h hs, k ≤ k' ∧ lvl B.length (fineP B) k' = h :: hs ∧ lvl B.length (fineP B) (k' + 1) = [] ∧ r.1 = h)
  | 0, k, b, h, h2 => absurd h2 (by omega)
  | n + 1, k, b, h, h2 => by
    unfold whS
    cases e : lvl B.length (fineP B) k with
    | nil => exact ⟨_, rfl, .inl ⟨rfl, rfl⟩⟩
    | cons x xs =>
      have hk : k ≤ B.length := by
        refine Classical.byContradiction fun hn => ?_
        rw [lvl_end (by omega)] at e; cases e
      have es : pkStep B (b, x :: xs) = (x, lvl B.length (fineP B) (k + 1)) := by
        rw [pkStep_eq, ← e, ← grow_lvl (n := B.length) (k := k) (fine := fineP B) (ext := extP B) fun s a _ => fineP_snoc B s a, e]
        show (ixS (x :: xs) 0, _) = _
        rw [show (0 : Int) = ((0 : Nat) : Int) from rfl, ixS_nat (by simp)]; rfl
      obtain ⟨r, q1, q2⟩ := pk_run (B := B) n (k + 1) x (by omega) (by omega)
      refine ⟨r, ?_, .inr ?_⟩
      · simp only [reduceCtorEq, decide_false, Bool.not_false, if_true, es, q1]
      · rcases q2 with ⟨q2, q3⟩ | ⟨k', h', hs, q3, q4, q5, q6⟩
        · exact ⟨k, x, xs, Nat.le_refl _, e, q2, q3⟩
        · exact ⟨k', h', hs, by omega, q4, q5, q6⟩
theorem pk_ends {B : List (List Int)} (h1 : B.length ≤ 8) : (whS (fun (s1 : (List Int) × (List (List Int))) => (!decide (s1.2 = []))) (pkStep B) 64 ([], [[]])).isSome = true := by
  obtain ⟨r, q, _⟩ := pk_run (B := B) 64 0 [] (by omega) (by omega)
  rw [lvl_zero (by unfold fineP; simp)] at q
  rw [q]; rfl
theorem pk_best {B : List (List Int)} (h1 : B.length ≤ 8) : Best B.length 0 (fineP B) (whE (fun (s1 : (List Int) × (List (List Int))) => (!decide (s1.2 = []))) (pkStep B) 64 ([], [[]])).1 := by
  obtain ⟨r, q, hr⟩ := pk_run (B := B) 64 0 [] (by omega) (by omega)
  have z : lvl B.length (fineP B) 0 = [[]] := lvl_zero (by unfold fineP; simp)
  rw [z] at q hr
  unfold whE
  rw [q]
  show Best _ _ _ r.1
  rcases hr with ⟨q2, _⟩ | ⟨k', h', hs, q3, q4, q5, q6⟩
  · cases q2
  · have none : ∀ j, k' < j → lvl B.length (fineP B) j = [] := fun j hj => lvl_none (c := 0) (ext := extP B) (fun s a _ => fineP_snoc B s a) (Nat.zero_le _) q5 j hj
    rw [q6]
    by_cases h0 : k' = 0
    · subst h0
      rw [z] at q4
      cases q4
      refine .inl ⟨rfl, fun l hl hf => ?_⟩
      refine Classical.byContradiction fun hn => ?_
      have : l ∈ lvl B.length (fineP B) l.length := mem_lvl.mpr ⟨mem_lotsOf.mp hl, rfl, hf⟩
      rw [none _ (by omega)] at this; cases this
    · exact best_lvl (by omega) q4 none
def g_packing_by_front (book : (List (List Int))) : (List (List Int)) :=
  (whE (fun (s1 : (List Int) × (List (List Int))) => (!decide (s1.2 = []))) (fun (s1 : (List Int) × (List (List Int))) => ((ixS s1.2 (0 : Int)), (List.foldl (fun (s5 : (List (List Int))) (some_7 : (List Int)) => (List.foldl (fun (s9 : (List (List Int))) (at_11 : Int) => (if (List.all (List.map (fun own12 : Int => (decide ((g_common_of (ixS book at_11) (ixS book own12)) = []))) some_7) id) then (s9 ++ [(some_7 ++ (at_11 :: []))]) else s9)) s5 (rngS (if (!decide (some_7 = [])) then ((ixS some_7 (-(1 : Int))) + (1 : Int)) else (0 : Int)) ((book).length : Int)))) ([] : (List (List Int))) s1.2))) 64 ([], [[]])).2
def g_packing_by_best (book : (List (List Int))) : (List Int) :=
  (whE (fun (s1 : (List Int) × (List (List Int))) => (!decide (s1.2 = []))) (fun (s1 : (List Int) × (List (List Int))) => ((ixS s1.2 (0 : Int)), (List.foldl (fun (s5 : (List (List Int))) (some_7 : (List Int)) => (List.foldl (fun (s9 : (List (List Int))) (at_11 : Int) => (if (List.all (List.map (fun own12 : Int => (decide ((g_common_of (ixS book at_11) (ixS book own12)) = []))) some_7) id) then (s9 ++ [(some_7 ++ (at_11 :: []))]) else s9)) s5 (rngS (if (!decide (some_7 = [])) then ((ixS some_7 (-(1 : Int))) + (1 : Int)) else (0 : Int)) ((book).length : Int)))) ([] : (List (List Int))) s1.2))) 64 ([], [[]])).1
def g_packing_by (book : (List (List Int))) : (List Int) :=
  (g_packing_by_best book)
theorem s_packing_by (N : Nat) (hN : 2 ≤ N) (book : (List (List Int))) (m : M) (h1 : book.length ≤ 8) (h2 : ∀ l ∈ book, l.length ≤ 64) : (fns P N).call "packing_by" [((eT lotD) book)] m = .ok (lotD (g_packing_by book)) m := by
  obtain ⟨N, rfl⟩ : ∃ k, N = k + 1 := ⟨N - 1, by omega⟩
  rw [call_eq f_packing_by rfl rfl]
  refine J.fin (b := false) ?_
  show J false false (List.length m) (exSs (fns P N) none b_packing_by [some ((eT lotD) book), none, none, none, none, none, none] m) ((fun (v : (List Int)) => .ok (lotD v) m) (g_packing_by book))
  unfold g_packing_by b_packing_by
  refine j_nx (st_par (ρ1 := [some ((eT lotD) book), some (.ref (m).length), some (lotD []), none, none, none, none]) (es_cons (e_lstR (ds := List.map lotD ([[]] : (List (List Int)))) (es_cons (as_ (lotD ([] : (List Int))) (e_tup es_nil (Nat.le_of_ble_eq_true rfl))) es_nil) (Nat.le_of_ble_eq_true rfl) (by first | rfl | exact pureL_map _)) (es_cons (as_ (lotD ([] : (List Int))) (e_tup es_nil (Nat.le_of_ble_eq_true rfl))) es_nil)) rfl) ?_
  refine j_wh (s := ([], [[]])) (fun (s1 : (List Int) × (List (List Int))) (ρw : PM.Env) (mw3 : M) => ∃ (j2 : Option D × Option D × Option D) (lw4 : Nat), ρw = [some ((eT lotD) book), some (.ref lw4), some (lotD s1.1), j2.1, j2.2.1, j2.2.2, none] ∧ List.take (List.length m) mw3 = m ∧ (List.length m ≤ lw4 ∧ mw3[lw4]? = some (.lst (List.map lotD s1.2))) ∧ True) (PkInv book) (fun (s1 : (List Int) × (List (List Int))) => (!decide (s1.2 = []))) (fun (s1 : (List Int) × (List (List Int))) => ((ixS s1.2 (0 : Int)), (List.foldl (fun (s5 : (List (List Int))) (some_7 : (List Int)) => (List.foldl (fun (s9 : (List (List Int))) (at_11 : Int) => (if (List.all (List.map (fun own12 : Int => (decide ((g_common_of (ixS book at_11) (ixS book own12)) = []))) some_7) id) then (s9 ++ [(some_7 ++ (at_11 :: []))]) else s9)) s5 (rngS (if (!decide (some_7 = [])) then ((ixS some_7 (-(1 : Int))) + (1 : Int)) else (0 : Int)) ((book).length : Int)))) ([] : (List (List Int))) s1.2))) ⟨(none, none, none), (m).length, rfl, by walk_at "tk", ⟨by walk_at "ge", by walk_at "st"⟩, trivial⟩ (by exact pk_start) (fun s1 ρw mw3 hR25 hI24 => ?_) (by exact pk_ends h1) (fun ρw mw3 hR25 hI24 => ?_)
  · obtain ⟨j2, lw4, rfl, ht27, ⟨hg_lw4, hl_lw4⟩, _⟩ := hR25
    exact ⟨(e_neR lotD (xs := s1.2) (e_v (d := .ref lw4) rfl) (by walk_at "st")), fun hc26 => ⟨(by exact pk_step0 (by assumption)), _, _, (ss_nx (st_par (ρ1 := [some ((eT lotD) book), some (.ref lw4), some (lotD (ixS s1.2 (0 : Int))), some (.ref (mw3).length), j2.2.1, j2.2.2, none]) (es_cons (e_ixR (e1 := lotD) (xs := s1.2) (k := (0 : Int)) (x := (ixS s1.2 (0 : Int))) (e_v (d := .ref lw4) rfl) e_c (by walk_at "st") (ixS_ok (by first | with_reducible exact fr_ix (by assumption) | with_reducible exact pk_few h1 (by assumption) | with_reducible exact fr_last (by assumption) | with_reducible exact pk_rng h1 (by assumption) (by assumption) | with_reducible exact pk_len h1 (by assumption) (by assumption) | with_reducible exact pk_len1 h1 (by assumption) (by assumption) | with_reducible exact pk_at (by assumption) (by assumption) (by assumption) | with_reducible exact pk_own (by assumption) (by assumption) (by assumption) | with_reducible exact h2 _ (ixS_mem (pk_at0 (by assumption) (by assumption) (by assumption))) | with_reducible exact pk_app h1 (by assumption) (by assumption) (by assumption) (by assumption) (by assumption) (by assumption) | with_reducible exact h2 _ (by assumption) | exact fr_ix (by assumption) | exact pk_few h1 (by assumption) | exact fr_last (by assumption) | exact pk_rng h1 (by assumption) (by assumption) | exact pk_len h1 (by assumption) (by assumption) | exact pk_len1 h1 (by assumption) (by assumption) | exact pk_at (by assumption) (by assumption) (by assumption) | exact pk_own (by assumption) (by assumption) (by assumption) | exact h2 _ (ixS_mem (pk_at0 (by assumption) (by assumption) (by assumption))) | exact pk_app h1 (by assumption) (by assumption) (by assumption) (by assumption) (by assumption) (by assumption) | exact h2 _ (by assumption) | walk_at "sz"))) (es_cons (e_lstR (ds := List.map lotD ([] : (List (List Int)))) es_nil (Nat.le_of_ble_eq_true rfl) (by first | rfl | exact pureL_map _)) es_nil)) rfl) (ss_nx (st_forRD (e1 := lotD) (xs := s1.2) (fun (s5 : (List (List Int))) (j6 : Option D × Option D) => [some ((eT lotD) book), some (.ref lw4), some (lotD (ixS s1.2 (0 : Int))), some (.ref (mw3).length), j6.1, j6.2, none]) (fun (s5 : (List (List Int))) => (mw3 ++ [.lst (List.map lotD s5)])) (fun (s5 : (List (List Int))) (some_7 : (List Int)) => (List.foldl (fun (s9 : (List (List Int))) (at_11 : Int) => (if (List.all (List.map (fun own12 : Int => (decide ((g_common_of (ixS book at_11) (ixS book own12)) = []))) some_7) id) then (s9 ++ [(some_7 ++ (at_11 :: []))]) else s9)) s5 (rngS (if (!decide (some_7 = [])) then ((ixS some_7 (-(1 : Int))) + (1 : Int)) else (0 : Int)) ((book).length : Int)))) (fun (s5 : (List (List Int))) (j6 : Option D × Option D) (some_7 : (List Int)) => (some (lotD some_7), (jfold (fun (s9 : (List (List Int))) (at_11 : Int) => (if (List.all (List.map (fun own12 : Int => (decide ((g_common_of (ixS book at_11) (ixS book own12)) = []))) some_7) id) then (s9 ++ [(some_7 ++ (at_11 :: []))]) else s9)) (fun (s9 : (List (List Int))) (j10 : Option D) (at_11 : Int) => some (D.int at_11)) s5 j6.2 (rngS (if (!decide (some_7 = [])) then ((ixS some_7 (-(1 : Int))) + (1 : Int)) else (0 : Int)) ((book).length : Int))))) (fun i (s : List (List Int)) => s.length ≤ 8 * i) (s := ([] : (List (List Int)))) (j := (j2.2.1, j2.2.2)) (e_v (d := .ref lw4) rfl) rfl (fun _ => by walk_at "st") (by first | with_reducible exact fr_ix (by assumption) | with_reducible exact pk_few h1 (by assumption) | with_reducible exact fr_last (by assumption) | with_reducible exact pk_rng h1 (by assumption) (by assumption) | with_reducible exact pk_len h1 (by assumption) (by assumption) | with_reducible exact pk_len1 h1 (by assumption) (by assumption) | with_reducible exact pk_at (by assumption) (by assumption) (by assumption) | with_reducible exact pk_own (by assumption) (by assumption) (by assumption) | with_reducible exact h2 _ (ixS_mem (pk_at0 (by assumption) (by assumption) (by assumption))) | with_reducible exact pk_app h1 (by assumption) (by assumption) (by assumption) (by assumption) (by assumption) (by assumption) | with_reducible exact h2 _ (by assumption) | exact fr_ix (by assumption) | exact pk_few h1 (by assumption) | exact fr_last (by assumption) | exact pk_rng h1 (by assumption) (by assumption) | exact pk_len h1 (by assumption) (by assumption) | exact pk_len1 h1 (by assumption) (by assumption) | exact pk_at (by assumption) (by assumption) (by assumption) | exact pk_own (by assumption) (by assumption) (by assumption) | exact h2 _ (ixS_mem (pk_at0 (by assumption) (by assumption) (by assumption))) | exact pk_app h1 (by assumption) (by assumption) (by assumption) (by assumption) (by assumption) (by assumption) | exact h2 _ (by assumption) | walk_at "sz") (fun i20 s5 j6 some_7 hget23 hx21 hV22 => ⟨[some ((eT lotD) book), some (.ref lw4), some (lotD (ixS s1.2 (0 : Int))), some (.ref (mw3).length), some (lotD some_7), j6.2, none], (b_n rfl), (ss_nx (st_forD (e1 := D.int) (xs := (rngS (if (!decide (some_7 = [])) then ((ixS some_7 (-(1 : Int))) + (1 : Int)) else (0 : Int)) ((book).length : Int))) (fun (s9 : (List (List Int))) (j10 : Option D) => [some ((eT lotD) book), some (.ref lw4), some (lotD (ixS s1.2 (0 : Int))), some (.ref (mw3).length), some (lotD some_7), j10, none]) (fun (s9 : (List (List Int))) => (mw3 ++ [.lst (List.map lotD s9)])) (fun (s9 : (List (List Int))) (at_11 : Int) => (if (List.all (List.map (fun own12 : Int => (decide ((g_common_of (ixS book at_11) (ixS book own12)) = []))) some_7) id) then (s9 ++ [(some_7 ++ (at_11 :: []))]) else s9)) (fun (s9 : (List (List Int))) (j10 : Option D) (at_11 : Int) => some (D.int at_11)) (fun i (s : List (List Int)) => s.length ≤ s5.length + i) (s := s5) (j := j6.2) (g_rng2 (i := (if (!decide (some_7 = [])) then ((ixS some_7 (-(1 : Int))) + (1 : Int)) else (0 : Int))) (j := ((book).length : Int)) (e_ite (fun (v : Int) => .ok (D.int v) (mw3 ++ [.lst (List.map lotD s5)])) (x := ((ixS some_7 (-(1 : Int))) + (1 : Int))) (y := (0 : Int)) (p := (!decide (some_7 = []))) (e_ne lotD (x := some_7) (y := []) (e_v (d := (lotD some_7)) rfl) (as_ (lotD ([] : (List Int))) (e_tup es_nil (Nat.le_of_ble_eq_true rfl)))) (fun hk8 => (e_add (e_ix (e1 := D.int) (xs := some_7) (k := (-(1 : Int))) (x := (ixS some_7 (-(1 : Int)))) (e_v (d := (lotD some_7)) rfl) .t (e_neg e_c) (ixS_ok (by first | with_reducible exact fr_ix (by assumption) | with_reducible exact pk_few h1 (by assumption) | with_reducible exact fr_last (by assumption) | with_reducible exact pk_rng h1 (by assumption) (by assumption) | with_reducible exact pk_len h1 (by assumption) (by assumption) | with_reducible exact pk_len1 h1 (by assumption) (by assumption) | with_reducible exact pk_at (by assumption) (by assumption) (by assumption) | with_reducible exact pk_own (by assumption) (by assumption) (by assumption) | with_reducible exact h2 _ (ixS_mem (pk_at0 (by assumption) (by assumption) (by assumption))) | with_reducible exact pk_app h1 (by assumption) (by assumption) (by assumption) (by assumption) (by assumption) (by assumption) | with_reducible exact h2 _ (by assumption) | exact fr_ix (by assumption) | exact pk_few h1 (by assumption) | exact fr_last (by assumption) | exact pk_rng h1 (by assumption) (by assumption) | exact pk_len h1 (by assumption) (by assumption) | exact pk_len1 h1 (by assumption) (by assumption) | exact pk_at (by assumption) (by assumption) (by assumption) | exact pk_own (by assumption) (by assumption) (by assumption) | exact h2 _ (ixS_mem (pk_at0 (by assumption) (by assumption) (by assumption))) | exact pk_app h1 (by assumption) (by assumption) (by assumption) (by assumption) (by assumption) (by assumption) | exact h2 _ (by assumption) | walk_at "sz"))) e_c)) (fun hk8 => e_c)) (e_len (e1 := lotD) (xs := book) (e_v (d := ((eT lotD) book)) rfl) .t) (by first | with_reducible exact fr_ix (by assumption) | with_reducible exact pk_few h1 (by assumption) | with_reducible exact fr_last (by assumption) | with_reducible exact pk_rng h1 (by assumption) (by assumption) | with_reducible exact pk_len h1 (by assumption) (by assumption) | with_reducible exact pk_len1 h1 (by assumption) (by assumption) | with_reducible exact pk_at (by assumption) (by assumption) (by assumption) | with_reducible exact pk_own (by assumption) (by assumption) (by assumption) | with_reducible exact h2 _ (ixS_mem (pk_at0 (by assumption) (by assumption) (by assumption))) | with_reducible exact pk_app h1 (by assumption) (by assumption) (by assumption) (by assumption) (by assumption) (by assumption) | with_reducible exact h2 _ (by assumption) | exact fr_ix (by assumption) | exact pk_few h1 (by assumption) | exact fr_last (by assumption) | exact pk_rng h1 (by assumption) (by assumption) | exact pk_len h1 (by assumption) (by assumption) | exact pk_len1 h1 (by assumption) (by assumption) | exact pk_at (by assumption) (by assumption) (by assumption) | exact pk_own (by assumption) (by assumption) (by assumption) | exact h2 _ (ixS_mem (pk_at0 (by assumption) (by assumption) (by assumption))) | exact pk_app h1 (by assumption) (by assumption) (by assumption) (by assumption) (by assumption) (by assumption) | exact h2 _ (by assumption) | walk_at "sz")) rfl (fun i16 s9 j10 at_11 hget19 hx17 hV18 => ⟨[some ((eT lotD) book), some (.ref lw4), some (lotD (ixS s1.2 (0 : Int))), some (.ref (mw3).length), some (lotD some_7), some (D.int at_11), none], (b_n rfl), (ss_nx (st_ite (fun (v15 : (List (List Int))) => .nx [some ((eT lotD) book), some (.ref lw4), some (lotD (ixS s1.2 (0 : Int))), some (.ref (mw3).length), some (lotD some_7), some (D.int at_11), none] (mw3 ++ [.lst (List.map lotD v15)])) (x := (s9 ++ [(some_7 ++ (at_11 :: []))])) (y := s9) (k := (List.all (List.map (fun own12 : Int => (decide ((g_common_of (ixS book at_11) (ixS book own12)) = []))) some_7) id)) (e_all (bs := (List.map (fun own12 : Int => (decide ((g_common_of (ixS book at_11) (ixS book own12)) = []))) some_7)) (e_compN (e1 := D.int) (e2 := D.bl) (xs := some_7) (r := (fun (own12 : Int) => [some ((eT lotD) book), some (.ref lw4), some (lotD (ixS s1.2 (0 : Int))), some (.ref (mw3).length), some (lotD some_7), some (D.int at_11), some (D.int own12)])) (f := (fun own12 : Int => (decide ((g_common_of (ixS book at_11) (ixS book own12)) = [])))) (i_t (e_v (d := (lotD some_7)) rfl)) (by first | with_reducible exact fr_ix (by assumption) | with_reducible exact pk_few h1 (by assumption) | with_reducible exact fr_last (by assumption) | with_reducible exact pk_rng h1 (by assumption) (by assumption) | with_reducible exact pk_len h1 (by assumption) (by assumption) | with_reducible exact pk_len1 h1 (by assumption) (by assumption) | with_reducible exact pk_at (by assumption) (by assumption) (by assumption) | with_reducible exact pk_own (by assumption) (by assumption) (by assumption) | with_reducible exact h2 _ (ixS_mem (pk_at0 (by assumption) (by assumption) (by assumption))) | with_reducible exact pk_app h1 (by assumption) (by assumption) (by assumption) (by assumption) (by assumption) (by assumption) | with_reducible exact h2 _ (by assumption) | exact fr_ix (by assumption) | exact pk_few h1 (by assumption) | exact fr_last (by assumption) | exact pk_rng h1 (by assumption) (by assumption) | exact pk_len h1 (by assumption) (by assumption) | exact pk_len1 h1 (by assumption) (by assumption) | exact pk_at (by assumption) (by assumption) (by assumption) | exact pk_own (by assumption) (by assumption) (by assumption) | exact h2 _ (ixS_mem (pk_at0 (by assumption) (by assumption) (by assumption))) | exact pk_app h1 (by assumption) (by assumption) (by assumption) (by assumption) (by assumption) (by assumption) | exact h2 _ (by assumption) | walk_at "sz") (fun own12 => (b_n rfl)) (fun own12 hx13 => (e_eq lotD (x := (g_common_of (ixS book at_11) (ixS book own12))) (y := []) (e_call (es_cons (e_ix (e1 := lotD) (xs := book) (k := at_11) (x := (ixS book at_11)) (e_v (d := ((eT lotD) book)) rfl) .t (e_v (d := (D.int at_11)) rfl) (ixS_ok (by first | with_reducible exact fr_ix (by assumption) | with_reducible exact pk_few h1 (by assumption) | with_reducible exact fr_last (by assumption) | with_reducible exact pk_rng h1 (by assumption) (by assumption) | with_reducible exact pk_len h1 (by assumption) (by assumption) | with_reducible exact pk_len1 h1 (by assumption) (by assumption) | with_reducible exact pk_at (by assumption) (by assumption) (by assumption) | with_reducible exact pk_own (by assumption) (by assumption) (by assumption) | with_reducible exact h2 _ (ixS_mem (pk_at0 (by assumption) (by assumption) (by assumption))) | with_reducible exact pk_app h1 (by assumption) (by assumption) (by assumption) (by assumption) (by assumption) (by assumption) | with_reducible exact h2 _ (by assumption) | exact fr_ix (by assumption) | exact pk_few h1 (by assumption) | exact fr_last (by assumption) | exact pk_rng h1 (by assumption) (by assumption) | exact pk_len h1 (by assumption) (by assumption) | exact pk_len1 h1 (by assumption) (by assumption) | exact pk_at (by assumption) (by assumption) (by assumption) | exact pk_own (by assumption) (by assumption) (by assumption) | exact h2 _ (ixS_mem (pk_at0 (by assumption) (by assumption) (by assumption))) | exact pk_app h1 (by assumption) (by assumption) (by assumption) (by assumption) (by assumption) (by assumption) | exact h2 _ (by assumption) | walk_at "sz"))) (es_cons (e_ix (e1 := lotD) (xs := book) (k := own12) (x := (ixS book own12)) (e_v (d := ((eT lotD) book)) rfl) .t (e_v (d := (D.int own12)) rfl) (ixS_ok (by first | with_reducible exact fr_ix (by assumption) | with_reducible exact pk_few h1 (by assumption) | with_reducible exact fr_last (by assumption) | with_reducible exact pk_rng h1 (by assumption) (by assumption) | with_reducible exact pk_len h1 (by assumption) (by assumption) | with_reducible exact pk_len1 h1 (by assumption) (by assumption) | with_reducible exact pk_at (by assumption) (by assumption) (by assumption) | with_reducible exact pk_own (by assumption) (by assumption) (by assumption) | with_reducible exact h2 _ (ixS_mem (pk_at0 (by assumption) (by assumption) (by assumption))) | with_reducible exact pk_app h1 (by assumption) (by assumption) (by assumption) (by assumption) (by assumption) (by assumption) | with_reducible exact h2 _ (by assumption) | exact fr_ix (by assumption) | exact pk_few h1 (by assumption) | exact fr_last (by assumption) | exact pk_rng h1 (by assumption) (by assumption) | exact pk_len h1 (by assumption) (by assumption) | exact pk_len1 h1 (by assumption) (by assumption) | exact pk_at (by assumption) (by assumption) (by assumption) | exact pk_own (by assumption) (by assumption) (by assumption) | exact h2 _ (ixS_mem (pk_at0 (by assumption) (by assumption) (by assumption))) | exact pk_app h1 (by assumption) (by assumption) (by assumption) (by assumption) (by assumption) (by assumption) | exact h2 _ (by assumption) | walk_at "sz"))) es_nil)) (s_common_of N (by omega) (ixS book at_11) (ixS book own12) _ (by first | with_reducible exact fr_ix (by assumption) | with_reducible exact pk_few h1 (by assumption) | with_reducible exact fr_last (by assumption) | with_reducible exact pk_rng h1 (by assumption) (by assumption) | with_reducible exact pk_len h1 (by assumption) (by assumption) | with_reducible exact pk_len1 h1 (by assumption) (by assumption) | with_reducible exact pk_at (by assumption) (by assumption) (by assumption) | with_reducible exact pk_own (by assumption) (by assumption) (by assumption) | with_reducible exact h2 _ (ixS_mem (pk_at0 (by assumption) (by assumption) (by assumption))) | with_reducible exact pk_app h1 (by assumption) (by assumption) (by assumption) (by assumption) (by assumption) (by assumption) | with_reducible exact h2 _ (by assumption) | exact fr_ix (by assumption) | exact pk_few h1 (by assumption) | exact fr_last (by assumption) | exact pk_rng h1 (by assumption) (by assumption) | exact pk_len h1 (by assumption) (by assumption) | exact pk_len1 h1 (by assumption) (by assumption) | exact pk_at (by assumption) (by assumption) (by assumption) | exact pk_own (by assumption) (by assumption) (by assumption) | exact h2 _ (ixS_mem (pk_at0 (by assumption) (by assumption) (by assumption))) | exact pk_app h1 (by assumption) (by assumption) (by assumption) (by assumption) (by assumption) (by assumption) | exact h2 _ (by assumption) | walk_at "sz"))) (as_ (lotD ([] : (List Int))) (e_tup es_nil (Nat.le_of_ble_eq_true rfl))))))) (fun hk14 => (ss_nx (st_append (d := (lotD (some_7 ++ (at_11 :: [])))) (m2 := (mw3 ++ [.lst (List.map lotD (s9 ++ [(some_7 ++ (at_11 :: []))]))])) (xs := (List.map lotD s9)) (e_v (d := .ref (mw3).length) rfl) (e_dspT (e1 := D.int) (xs := (some_7 ++ (at_11 :: []))) (ed_starT (e_v (d := (lotD some_7)) rfl) (ed_cons (e_v (d := (D.int at_11)) rfl) ed_nil)) (by first | with_reducible exact fr_ix (by assumption) | with_reducible exact pk_few h1 (by assumption) | with_reducible exact fr_last (by assumption) | with_reducible exact pk_rng h1 (by assumption) (by assumption) | with_reducible exact pk_len h1 (by assumption) (by assumption) | with_reducible exact pk_len1 h1 (by assumption) (by assumption) | with_reducible exact pk_at (by assumption) (by assumption) (by assumption) | with_reducible exact pk_own (by assumption) (by assumption) (by assumption) | with_reducible exact h2 _ (ixS_mem (pk_at0 (by assumption) (by assumption) (by assumption))) | with_reducible exact pk_app h1 (by assumption) (by assumption) (by assumption) (by assumption) (by assumption) (by assumption) | with_reducible exact h2 _ (by assumption) | exact fr_ix (by assumption) | exact pk_few h1 (by assumption) | exact fr_last (by assumption) | exact pk_rng h1 (by assumption) (by assumption) | exact pk_len h1 (by assumption) (by assumption) | exact pk_len1 h1 (by assumption) (by assumption) | exact pk_at (by assumption) (by assumption) (by assumption) | exact pk_own (by assumption) (by assumption) (by assumption) | exact h2 _ (ixS_mem (pk_at0 (by assumption) (by assumption) (by assumption))) | exact pk_app h1 (by assumption) (by assumption) (by assumption) (by assumption) (by assumption) (by assumption) | exact h2 _ (by assumption) | walk_at "sz")) (by walk_at "st") (PEnc.pure (e := lotD) _) (by rw [List.length_map]; exact (by first | with_reducible exact fr_ix (by assumption) | with_reducible exact pk_few h1 (by assumption) | with_reducible exact fr_last (by assumption) | with_reducible exact pk_rng h1 (by assumption) (by assumption) | with_reducible exact pk_len h1 (by assumption) (by assumption) | with_reducible exact pk_len1 h1 (by assumption) (by assumption) | with_reducible exact pk_at (by assumption) (by assumption) (by assumption) | with_reducible exact pk_own (by assumption) (by assumption) (by assumption) | with_reducible exact h2 _ (ixS_mem (pk_at0 (by assumption) (by assumption) (by assumption))) | with_reducible exact pk_app h1 (by assumption) (by assumption) (by assumption) (by assumption) (by assumption) (by assumption) | with_reducible exact h2 _ (by assumption) | exact fr_ix (by assumption) | exact pk_few h1 (by assumption) | exact fr_last (by assumption) | exact pk_rng h1 (by assumption) (by assumption) | exact pk_len h1 (by assumption) (by assumption) | exact pk_len1 h1 (by assumption) (by assumption) | exact pk_at (by assumption) (by assumption) (by assumption) | exact pk_own (by assumption) (by assumption) (by assumption) | exact h2 _ (ixS_mem (pk_at0 (by assumption) (by assumption) (by assumption))) | exact pk_app h1 (by assumption) (by assumption) (by assumption) (by assumption) (by assumption) (by assumption) | exact h2 _ (by assumption) | walk_at "sz")) (by walk_at "st")) ss_nil)) (fun hk14 => ss_nil)) ss_nil), (by (split <;> (try simp only [List.length_append, List.length_cons, List.length_nil]) <;> omega))⟩) (by exact Nat.le_refl _)) ss_nil), (by exact pk_outer h1 (by assumption) (by assumption) (by assumption))⟩) (by exact Nat.le_refl 0)) (ss_nx (st_set (ρ1 := [some ((eT lotD) book), some (.ref (mw3).length), some (lotD (ixS s1.2 (0 : Int))), some (.ref (mw3).length), (jfold (fun (s5 : (List (List Int))) (some_7 : (List Int)) => (List.foldl (fun (s9 : (List (List Int))) (at_11 : Int) => (if (List.all (List.map (fun own12 : Int => (decide ((g_common_of (ixS book at_11) (ixS book own12)) = []))) some_7) id) then (s9 ++ [(some_7 ++ (at_11 :: []))]) else s9)) s5 (rngS (if (!decide (some_7 = [])) then ((ixS some_7 (-(1 : Int))) + (1 : Int)) else (0 : Int)) ((book).length : Int)))) (fun (s5 : (List (List Int))) (j6 : Option D × Option D) (some_7 : (List Int)) => (some (lotD some_7), (jfold (fun (s9 : (List (List Int))) (at_11 : Int) => (if (List.all (List.map (fun own12 : Int => (decide ((g_common_of (ixS book at_11) (ixS book own12)) = []))) some_7) id) then (s9 ++ [(some_7 ++ (at_11 :: []))]) else s9)) (fun (s9 : (List (List Int))) (j10 : Option D) (at_11 : Int) => some (D.int at_11)) s5 j6.2 (rngS (if (!decide (some_7 = [])) then ((ixS some_7 (-(1 : Int))) + (1 : Int)) else (0 : Int)) ((book).length : Int))))) ([] : (List (List Int))) (j2.2.1, j2.2.2) s1.2).1, (jfold (fun (s5 : (List (List Int))) (some_7 : (List Int)) => (List.foldl (fun (s9 : (List (List Int))) (at_11 : Int) => (if (List.all (List.map (fun own12 : Int => (decide ((g_common_of (ixS book at_11) (ixS book own12)) = []))) some_7) id) then (s9 ++ [(some_7 ++ (at_11 :: []))]) else s9)) s5 (rngS (if (!decide (some_7 = [])) then ((ixS some_7 (-(1 : Int))) + (1 : Int)) else (0 : Int)) ((book).length : Int)))) (fun (s5 : (List (List Int))) (j6 : Option D × Option D) (some_7 : (List Int)) => (some (lotD some_7), (jfold (fun (s9 : (List (List Int))) (at_11 : Int) => (if (List.all (List.map (fun own12 : Int => (decide ((g_common_of (ixS book at_11) (ixS book own12)) = []))) some_7) id) then (s9 ++ [(some_7 ++ (at_11 :: []))]) else s9)) (fun (s9 : (List (List Int))) (j10 : Option D) (at_11 : Int) => some (D.int at_11)) s5 j6.2 (rngS (if (!decide (some_7 = [])) then ((ixS some_7 (-(1 : Int))) + (1 : Int)) else (0 : Int)) ((book).length : Int))))) ([] : (List (List Int))) (j2.2.1, j2.2.2) s1.2).2, none]) (e_v (d := .ref (mw3).length) rfl) rfl) ss_nil))), ⟨(some (.ref (mw3).length), (jfold (fun (s5 : (List (List Int))) (some_7 : (List Int)) => (List.foldl (fun (s9 : (List (List Int))) (at_11 : Int) => (if (List.all (List.map (fun own12 : Int => (decide ((g_common_of (ixS book at_11) (ixS book own12)) = []))) some_7) id) then (s9 ++ [(some_7 ++ (at_11 :: []))]) else s9)) s5 (rngS (if (!decide (some_7 = [])) then ((ixS some_7 (-(1 : Int))) + (1 : Int)) else (0 : Int)) ((book).length : Int)))) (fun (s5 : (List (List Int))) (j6 : Option D × Option D) (some_7 : (List Int)) => (some (lotD some_7), (jfold (fun (s9 : (List (List Int))) (at_11 : Int) => (if (List.all (List.map (fun own12 : Int => (decide ((g_common_of (ixS book at_11) (ixS book own12)) = []))) some_7) id) then (s9 ++ [(some_7 ++ (at_11 :: []))]) else s9)) (fun (s9 : (List (List Int))) (j10 : Option D) (at_11 : Int) => some (D.int at_11)) s5 j6.2 (rngS (if (!decide (some_7 = [])) then ((ixS some_7 (-(1 : Int))) + (1 : Int)) else (0 : Int)) ((book).length : Int))))) ([] : (List (List Int))) (j2.2.1, j2.2.2) s1.2).1, (jfold (fun (s5 : (List (List Int))) (some_7 : (List Int)) => (List.foldl (fun (s9 : (List (List Int))) (at_11 : Int) => (if (List.all (List.map (fun own12 : Int => (decide ((g_common_of (ixS book at_11) (ixS book own12)) = []))) some_7) id) then (s9 ++ [(some_7 ++ (at_11 :: []))]) else s9)) s5 (rngS (if (!decide (some_7 = [])) then ((ixS some_7 (-(1 : Int))) + (1 : Int)) else (0 : Int)) ((book).length : Int)))) (fun (s5 : (List (List Int))) (j6 : Option D × Option D) (some_7 : (List Int)) => (some (lotD some_7), (jfold (fun (s9 : (List (List Int))) (at_11 : Int) => (if (List.all (List.map (fun own12 : Int => (decide ((g_common_of (ixS book at_11) (ixS book own12)) = []))) some_7) id) then (s9 ++ [(some_7 ++ (at_11 :: []))]) else s9)) (fun (s9 : (List (List Int))) (j10 : Option D) (at_11 : Int) => some (D.int at_11)) s5 j6.2 (rngS (if (!decide (some_7 = [])) then ((ixS some_7 (-(1 : Int))) + (1 : Int)) else (0 : Int)) ((book).length : Int))))) ([] : (List (List Int))) (j2.2.1, j2.2.2) s1.2).2), (mw3).length, rfl, by walk_at "tk", ⟨by walk_at "ge", by walk_at "st"⟩, trivial⟩⟩⟩
  · obtain ⟨j2, lw4, rfl, ht27, ⟨hg_lw4, hl_lw4⟩, _⟩ := hR25
    exact j_ret (e_v (d := (lotD (g_packing_by_best book))) rfl) (fin_enc (e := lotD) (by walk_at "tk"))
def g_packing_number (things : Int) (book : (List (List Int))) : Int :=
  (((g_packing_by book)).length : Int)

theorem s_packing_number (N : Nat) (hN : 8 ≤ N) (things : Int) (book : (List (List Int))) (m : M) (h1 : 1 ≤ things ∧ things ≤ 6) (h2 : BookOk things book) (h3 : book.length ≤ 8) : (fns P N).call "packing_number" [(D.int things), ((eT lotD) book)] m = .ok (D.int (g_packing_number things book)) m := by
  obtain ⟨N, rfl⟩ : ∃ k, N = k + 1 := ⟨N - 1, by omega⟩
  rw [call_eq f_packing_number rfl rfl]
  refine J.fin (b := false) ?_
  show J false false (List.length m) (exSs (fns P N) none b_packing_number [some (D.int things), some ((eT lotD) book)] m) ((fun (v : Int) => .ok (D.int v) m) (g_packing_number things book))
  unfold g_packing_number b_packing_number
  refine j_nx (st_ex (e_call (es_cons (e_v (d := (D.int things)) rfl) (es_cons (e_v (d := ((eT lotD) book)) rfl) es_nil)) (s'_check_book N (by omega) things book _ (by first | with_reducible exact Nat.le_trans h2.few (by decide) | with_reducible exact ⟨by omega, h1.2⟩ | with_reducible exact fun l hl => (h2.lots l hl).2.2 | exact Nat.le_trans h2.few (by decide) | exact ⟨by omega, h1.2⟩ | exact fun l hl => (h2.lots l hl).2.2 | walk_at "sz") (by first | with_reducible exact Nat.le_trans h2.few (by decide) | with_reducible exact ⟨by omega, h1.2⟩ | with_reducible exact fun l hl => (h2.lots l hl).2.2 | exact Nat.le_trans h2.few (by decide) | exact ⟨by omega, h1.2⟩ | exact fun l hl => (h2.lots l hl).2.2 | walk_at "sz")))) ?_
  exact j_ret (e_len (e1 := D.int) (xs := (g_packing_by book)) (e_call (es_cons (e_v (d := ((eT lotD) book)) rfl) es_nil) (s_packing_by N (by omega) book _ (by first | with_reducible exact Nat.le_trans h2.few (by decide) | with_reducible exact ⟨by omega, h1.2⟩ | with_reducible exact fun l hl => (h2.lots l hl).2.2 | exact Nat.le_trans h2.few (by decide) | exact ⟨by omega, h1.2⟩ | exact fun l hl => (h2.lots l hl).2.2 | walk_at "sz") (by first | with_reducible exact Nat.le_trans h2.few (by decide) | with_reducible exact ⟨by omega, h1.2⟩ | with_reducible exact fun l hl => (h2.lots l hl).2.2 | exact Nat.le_trans h2.few (by decide) | exact ⟨by omega, h1.2⟩ | exact fun l hl => (h2.lots l hl).2.2 | walk_at "sz"))) .t) (fin_enc (e := D.int) (by walk_at "tk"))

def g_first_packing (things : Int) (book : (List (List Int))) : (List Int) :=
  (g_packing_by book)

theorem s_first_packing (N : Nat) (hN : 8 ≤ N) (things : Int) (book : (List (List Int))) (m : M) (h1 : 1 ≤ things ∧ things ≤ 6) (h2 : BookOk things book) (h3 : book.length ≤ 8) : (fns P N).call "first_packing" [(D.int things), ((eT lotD) book)] m = .ok (lotD (g_first_packing things book)) m := by
  obtain ⟨N, rfl⟩ : ∃ k, N = k + 1 := ⟨N - 1, by omega⟩
  rw [call_eq f_first_packing rfl rfl]
  refine J.fin (b := false) ?_
  show J false false (List.length m) (exSs (fns P N) none b_first_packing [some (D.int things), some ((eT lotD) book)] m) ((fun (v : (List Int)) => .ok (lotD v) m) (g_first_packing things book))
  unfold g_first_packing b_first_packing
  refine j_nx (st_ex (e_call (es_cons (e_v (d := (D.int things)) rfl) (es_cons (e_v (d := ((eT lotD) book)) rfl) es_nil)) (s'_check_book N (by omega) things book _ (by first | with_reducible exact Nat.le_trans h2.few (by decide) | with_reducible exact ⟨by omega, h1.2⟩ | with_reducible exact fun l hl => (h2.lots l hl).2.2 | exact Nat.le_trans h2.few (by decide) | exact ⟨by omega, h1.2⟩ | exact fun l hl => (h2.lots l hl).2.2 | walk_at "sz") (by first | with_reducible exact Nat.le_trans h2.few (by decide) | with_reducible exact ⟨by omega, h1.2⟩ | with_reducible exact fun l hl => (h2.lots l hl).2.2 | exact Nat.le_trans h2.few (by decide) | exact ⟨by omega, h1.2⟩ | exact fun l hl => (h2.lots l hl).2.2 | walk_at "sz")))) ?_
  exact j_ret (e_call (es_cons (e_v (d := ((eT lotD) book)) rfl) es_nil) (s_packing_by N (by omega) book _ (by first | with_reducible exact Nat.le_trans h2.few (by decide) | with_reducible exact ⟨by omega, h1.2⟩ | with_reducible exact fun l hl => (h2.lots l hl).2.2 | exact Nat.le_trans h2.few (by decide) | exact ⟨by omega, h1.2⟩ | exact fun l hl => (h2.lots l hl).2.2 | walk_at "sz") (by first | with_reducible exact Nat.le_trans h2.few (by decide) | with_reducible exact ⟨by omega, h1.2⟩ | with_reducible exact fun l hl => (h2.lots l hl).2.2 | exact Nat.le_trans h2.few (by decide) | exact ⟨by omega, h1.2⟩ | exact fun l hl => (h2.lots l hl).2.2 | walk_at "sz"))) (fin_enc (e := lotD) (by walk_at "tk"))
def g__law_first_packing_best (book : (List (List Int))) : (List Int) :=
  (List.foldl (fun (s1 : (List Int)) (lot3 : (List Int)) => (if ((List.foldl (fun (s4 : Bool) (k6 : Int) => (s4 && (!(List.any (List.map (fun j9 : Int => (!decide ((g__law_meet (ixS book (ixS lot3 j9)) (ixS book (ixS lot3 k6))) = []))) (rngS 0 k6)) id)))) true (rngS 0 ((lot3).length : Int))) && (decide (((s1).length : Int) < ((lot3).length : Int)))) then lot3 else s1)) ([] : (List Int)) (g__law_some_of ((book).length : Int)))
def g__law_first_packing (book : (List (List Int))) : (List Int) :=
  (g__law_first_packing_best book)

theorem s__law_first_packing (N : Nat) (hN : 2 ≤ N) (book : (List (List Int))) (m : M) (h1 : book.length ≤ 8) (h2 : ∀ l ∈ book, l.length ≤ 64) : (fns P N).call "_law_first_packing" [((eT lotD) book)] m = .ok (lotD (g__law_first_packing book)) m := by
  obtain ⟨N, rfl⟩ : ∃ k, N = k + 1 := ⟨N - 1, by omega⟩
  rw [call_eq f__law_first_packing rfl rfl]
  refine J.fin (b := false) ?_
  show J false false (List.length m) (exSs (fns P N) none b__law_first_packing [some ((eT lotD) book), none, none, none, none, none] m) ((fun (v : (List Int)) => .ok (lotD v) m) (g__law_first_packing book))
  unfold g__law_first_packing b__law_first_packing
  refine j_nx (st_set (ρ1 := [some ((eT lotD) book), some (lotD ([] : (List Int))), none, none, none, none]) (as_ (lotD ([] : (List Int))) (e_tup es_nil (Nat.le_of_ble_eq_true rfl))) rfl) ?_
  refine j_forF (e1 := lotD) (xs := (g__law_some_of ((book).length : Int))) (fun (s1 : (List Int)) (j2 : Option D × Option D × Option D) => [some ((eT lotD) book), some (lotD s1), j2.1, j2.2.1, j2.2.2, none]) (fun (s1 : (List Int)) => m) (fun (s1 : (List Int)) (lot3 : (List Int)) => (if ((List.foldl (fun (s4 : Bool) (k6 : Int) => (s4 && (!(List.any (List.map (fun j9 : Int => (!decide ((g__law_meet (ixS book (ixS lot3 j9)) (ixS book (ixS lot3 k6))) = []))) (rngS 0 k6)) id)))) true (rngS 0 ((lot3).length : Int))) && (decide (((s1).length : Int) < ((lot3).length : Int)))) then lot3 else s1)) (fun _ _ => True) (s := ([] : (List Int))) (j := (none, none, none)) (i_l (e_call (es_cons (e_len (e1 := lotD) (xs := book) (e_v (d := ((eT lotD) book)) rfl) .t) es_nil) (s__law_some_of N (by omega) ((book).length : Int) _ (by first | with_reducible exact h2 _ (ixS_mem (of_bk0 (by assumption) (by assumption))) | with_reducible exact h2 _ (ixS_mem (of_bk0 (by assumption) (of_jr (by assumption) (by assumption)))) | with_reducible exact ⟨by omega, by omega⟩ | with_reducible exact Nat.le_trans (of_len h1) (by decide) | with_reducible exact of_r1 h1 (by assumption) (by assumption) | with_reducible exact of_r2 h1 (by assumption) (by assumption) | with_reducible exact of_r3 h1 (by assumption) | with_reducible exact of_j (by assumption) (by assumption) | with_reducible exact of_k (by assumption) | with_reducible exact of_bk (by assumption) (by assumption) | with_reducible exact of_bk (by assumption) (of_jr (by assumption) (by assumption)) | with_reducible exact h2 _ (by assumption) | exact h2 _ (ixS_mem (of_bk0 (by assumption) (by assumption))) | exact h2 _ (ixS_mem (of_bk0 (by assumption) (of_jr (by assumption) (by assumption)))) | exact ⟨by omega, by omega⟩ | exact Nat.le_trans (of_len h1) (by decide) | exact of_r1 h1 (by assumption) (by assumption) | exact of_r2 h1 (by assumption) (by assumption) | exact of_r3 h1 (by assumption) | exact of_j (by assumption) (by assumption) | exact of_k (by assumption) | exact of_bk (by assumption) (by assumption) | exact of_bk (by assumption) (of_jr (by assumption) (by assumption)) | exact h2 _ (by assumption) | walk_at "sz")))) rfl (fun i21 s1 j2 lot3 hget_ hx22 hV23 => ⟨[some ((eT lotD) book), some (lotD s1), some (lotD lot3), j2.2.1, j2.2.2, none], (some (lotD lot3), some (D.bl (List.foldl (fun (s4 : Bool) (k6 : Int) => (s4 && (!(List.any (List.map (fun j9 : Int => (!decide ((g__law_meet (ixS book (ixS lot3 j9)) (ixS book (ixS lot3 k6))) = []))) (rngS 0 k6)) id)))) true (rngS 0 ((lot3).length : Int)))), (jfold (fun (s4 : Bool) (k6 : Int) => (s4 && (!(List.any (List.map (fun j9 : Int => (!decide ((g__law_meet (ixS book (ixS lot3 j9)) (ixS book (ixS lot3 k6))) = []))) (rngS 0 k6)) id)))) (fun (s4 : Bool) (j5 : Option D) (k6 : Int) => some (D.int k6)) true j2.2.2 (rngS 0 ((lot3).length : Int)))), (b_n rfl), (ss_nx (st_set (ρ1 := [some ((eT lotD) book), some (lotD s1), some (lotD lot3), some (D.bl true), j2.2.2, none]) e_c rfl) (ss_nx (st_forD (e1 := D.int) (xs := (rngS 0 ((lot3).length : Int))) (fun (s4 : Bool) (j5 : Option D) => [some ((eT lotD) book), some (lotD s1), some (lotD lot3), some (D.bl s4), j5, none]) (fun (s4 : Bool) => m) (fun (s4 : Bool) (k6 : Int) => (s4 && (!(List.any (List.map (fun j9 : Int => (!decide ((g__law_meet (ixS book (ixS lot3 j9)) (ixS book (ixS lot3 k6))) = []))) (rngS 0 k6)) id)))) (fun (s4 : Bool) (j5 : Option D) (k6 : Int) => some (D.int k6)) (fun _ _ => True) (s := true) (j := j2.2.2) (g_rng1 (j := ((lot3).length : Int)) (e_len (e1 := D.int) (xs := lot3) (e_v (d := (lotD lot3)) rfl) .t) (by first | with_reducible exact h2 _ (ixS_mem (of_bk0 (by assumption) (by assumption))) | with_reducible exact h2 _ (ixS_mem (of_bk0 (by assumption) (of_jr (by assumption) (by assumption)))) | with_reducible exact ⟨by omega, by omega⟩ | with_reducible exact Nat.le_trans (of_len h1) (by decide) | with_reducible exact of_r1 h1 (by assumption) (by assumption) | with_reducible exact of_r2 h1 (by assumption) (by assumption) | with_reducible exact of_r3 h1 (by assumption) | with_reducible exact of_j (by assumption) (by assumption) | with_reducible exact of_k (by assumption) | with_reducible exact of_bk (by assumption) (by assumption) | with_reducible exact of_bk (by assumption) (of_jr (by assumption) (by assumption)) | with_reducible exact h2 _ (by assumption) | exact h2 _ (ixS_mem (of_bk0 (by assumption) (by assumption))) | exact h2 _ (ixS_mem (of_bk0 (by assumption) (of_jr (by assumption) (by assumption)))) | exact ⟨by omega, by omega⟩ | exact Nat.le_trans (of_len h1) (by decide) | exact of_r1 h1 (by assumption) (by assumption) | exact of_r2 h1 (by assumption) (by assumption) | exact of_r3 h1 (by assumption) | exact of_j (by assumption) (by assumption) | exact of_k (by assumption) | exact of_bk (by assumption) (by assumption) | exact of_bk (by assumption) (of_jr (by assumption) (by assumption)) | exact h2 _ (by assumption) | walk_at "sz")) rfl (fun i11 s4 j5 k6 hget14 hx12 hV13 => ⟨[some ((eT lotD) book), some (lotD s1), some (lotD lot3), some (D.bl s4), some (D.int k6), none], (b_n rfl), (ss_nx (st_set (ρ1 := [some ((eT lotD) book), some (lotD s1), some (lotD lot3), some (D.bl (s4 && (!(List.any (List.map (fun j9 : Int => (!decide ((g__law_meet (ixS book (ixS lot3 j9)) (ixS book (ixS lot3 k6))) = []))) (rngS 0 k6)) id)))), some (D.int k6), none]) (e_and (p := s4) (q := (!(List.any (List.map (fun j9 : Int => (!decide ((g__law_meet (ixS book (ixS lot3 j9)) (ixS book (ixS lot3 k6))) = []))) (rngS 0 k6)) id))) (e_v (d := (D.bl s4)) rfl) (fun hk7 => (e_not (e_any (bs := (List.map (fun j9 : Int => (!decide ((g__law_meet (ixS book (ixS lot3 j9)) (ixS book (ixS lot3 k6))) = []))) (rngS 0 k6))) (e_compN (e1 := D.int) (e2 := D.bl) (xs := (rngS 0 k6)) (r := (fun (j9 : Int) => [some ((eT lotD) book), some (lotD s1), some (lotD lot3), some (D.bl s4), some (D.int k6), some (D.int j9)])) (f := (fun j9 : Int => (!decide ((g__law_meet (ixS book (ixS lot3 j9)) (ixS book (ixS lot3 k6))) = [])))) (g_rng1 (j := k6) (e_v (d := (D.int k6)) rfl) (by first | with_reducible exact h2 _ (ixS_mem (of_bk0 (by assumption) (by assumption))) | with_reducible exact h2 _ (ixS_mem (of_bk0 (by assumption) (of_jr (by assumption) (by assumption)))) | with_reducible exact ⟨by omega, by omega⟩ | with_reducible exact Nat.le_trans (of_len h1) (by decide) | with_reducible exact of_r1 h1 (by assumption) (by assumption) | with_reducible exact of_r2 h1 (by assumption) (by assumption) | with_reducible exact of_r3 h1 (by assumption) | with_reducible exact of_j (by assumption) (by assumption) | with_reducible exact of_k (by assumption) | with_reducible exact of_bk (by assumption) (by assumption) | with_reducible exact of_bk (by assumption) (of_jr (by assumption) (by assumption)) | with_reducible exact h2 _ (by assumption) | exact h2 _ (ixS_mem (of_bk0 (by assumption) (by assumption))) | exact h2 _ (ixS_mem (of_bk0 (by assumption) (of_jr (by assumption) (by assumption)))) | exact ⟨by omega, by omega⟩ | exact Nat.le_trans (of_len h1) (by decide) | exact of_r1 h1 (by assumption) (by assumption) | exact of_r2 h1 (by assumption) (by assumption) | exact of_r3 h1 (by assumption) | exact of_j (by assumption) (by assumption) | exact of_k (by assumption) | exact of_bk (by assumption) (by assumption) | exact of_bk (by assumption) (of_jr (by assumption) (by assumption)) | exact h2 _ (by assumption) | walk_at "sz")) (by first | with_reducible exact h2 _ (ixS_mem (of_bk0 (by assumption) (by assumption))) | with_reducible exact h2 _ (ixS_mem (of_bk0 (by assumption) (of_jr (by assumption) (by assumption)))) | with_reducible exact ⟨by omega, by omega⟩ | with_reducible exact Nat.le_trans (of_len h1) (by decide) | with_reducible exact of_r1 h1 (by assumption) (by assumption) | with_reducible exact of_r2 h1 (by assumption) (by assumption) | with_reducible exact of_r3 h1 (by assumption) | with_reducible exact of_j (by assumption) (by assumption) | with_reducible exact of_k (by assumption) | with_reducible exact of_bk (by assumption) (by assumption) | with_reducible exact of_bk (by assumption) (of_jr (by assumption) (by assumption)) | with_reducible exact h2 _ (by assumption) | exact h2 _ (ixS_mem (of_bk0 (by assumption) (by assumption))) | exact h2 _ (ixS_mem (of_bk0 (by assumption) (of_jr (by assumption) (by assumption)))) | exact ⟨by omega, by omega⟩ | exact Nat.le_trans (of_len h1) (by decide) | exact of_r1 h1 (by assumption) (by assumption) | exact of_r2 h1 (by assumption) (by assumption) | exact of_r3 h1 (by assumption) | exact of_j (by assumption) (by assumption) | exact of_k (by assumption) | exact of_bk (by assumption) (by assumption) | exact of_bk (by assumption) (of_jr (by assumption) (by assumption)) | exact h2 _ (by assumption) | walk_at "sz") (fun j9 => (b_n rfl)) (fun j9 hx10 => (e_ne lotD (x := (g__law_meet (ixS book (ixS lot3 j9)) (ixS book (ixS lot3 k6)))) (y := []) (e_call (es_cons (e_ix (e1 := lotD) (xs := book) (k := (ixS lot3 j9)) (x := (ixS book (ixS lot3 j9))) (e_v (d := ((eT lotD) book)) rfl) .t (e_ix (e1 := D.int) (xs := lot3) (k := j9) (x := (ixS lot3 j9)) (e_v (d := (lotD lot3)) rfl) .t (e_v (d := (D.int j9)) rfl) (ixS_ok (by first | with_reducible exact h2 _ (ixS_mem (of_bk0 (by assumption) (by assumption))) | with_reducible exact h2 _ (ixS_mem (of_bk0 (by assumption) (of_jr (by assumption) (by assumption)))) | with_reducible exact ⟨by omega, by omega⟩ | with_reducible exact Nat.le_trans (of_len h1) (by decide) | with_reducible exact of_r1 h1 (by assumption) (by assumption) | with_reducible exact of_r2 h1 (by assumption) (by assumption) | with_reducible exact of_r3 h1 (by assumption) | with_reducible exact of_j (by assumption) (by assumption) | with_reducible exact of_k (by assumption) | with_reducible exact of_bk (by assumption) (by assumption) | with_reducible exact of_bk (by assumption) (of_jr (by assumption) (by assumption)) | with_reducible exact h2 _ (by assumption) | exact h2 _ (ixS_mem (of_bk0 (by assumption) (by assumption))) | exact h2 _ (ixS_mem (of_bk0 (by assumption) (of_jr (by assumption) (by assumption)))) | exact ⟨by omega, by omega⟩ | exact Nat.le_trans (of_len h1) (by decide) | exact of_r1 h1 (by assumption) (by assumption) | exact of_r2 h1 (by assumption) (by assumption) | exact of_r3 h1 (by assumption) | exact of_j (by assumption) (by assumption) | exact of_k (by assumption) | exact of_bk (by assumption) (by assumption) | exact of_bk (by assumption) (of_jr (by assumption) (by assumption)) | exact h2 _ (by assumption) | walk_at "sz"))) (ixS_ok (by first | with_reducible exact h2 _ (ixS_mem (of_bk0 (by assumption) (by assumption))) | with_reducible exact h2 _ (ixS_mem (of_bk0 (by assumption) (of_jr (by assumption) (by assumption)))) | with_reducible exact ⟨by omega, by omega⟩ | with_reducible exact Nat.le_trans (of_len h1) (by decide) | with_reducible exact of_r1 h1 (by assumption) (by assumption) | with_reducible exact of_r2 h1 (by assumption) (by assumption) | with_reducible exact of_r3 h1 (by assumption) | with_reducible exact of_j (by assumption) (by assumption) | with_reducible exact of_k (by assumption) | with_reducible exact of_bk (by assumption) (by assumption) | with_reducible exact of_bk (by assumption) (of_jr (by assumption) (by assumption)) | with_reducible exact h2 _ (by assumption) | exact h2 _ (ixS_mem (of_bk0 (by assumption) (by assumption))) | exact h2 _ (ixS_mem (of_bk0 (by assumption) (of_jr (by assumption) (by assumption)))) | exact ⟨by omega, by omega⟩ | exact Nat.le_trans (of_len h1) (by decide) | exact of_r1 h1 (by assumption) (by assumption) | exact of_r2 h1 (by assumption) (by assumption) | exact of_r3 h1 (by assumption) | exact of_j (by assumption) (by assumption) | exact of_k (by assumption) | exact of_bk (by assumption) (by assumption) | exact of_bk (by assumption) (of_jr (by assumption) (by assumption)) | exact h2 _ (by assumption) | walk_at "sz"))) (es_cons (e_ix (e1 := lotD) (xs := book) (k := (ixS lot3 k6)) (x := (ixS book (ixS lot3 k6))) (e_v (d := ((eT lotD) book)) rfl) .t (e_ix (e1 := D.int) (xs := lot3) (k := k6) (x := (ixS lot3 k6)) (e_v (d := (lotD lot3)) rfl) .t (e_v (d := (D.int k6)) rfl) (ixS_ok (by first | with_reducible exact h2 _ (ixS_mem (of_bk0 (by assumption) (by assumption))) | with_reducible exact h2 _ (ixS_mem (of_bk0 (by assumption) (of_jr (by assumption) (by assumption)))) | with_reducible exact ⟨by omega, by omega⟩ | with_reducible exact Nat.le_trans (of_len h1) (by decide) | with_reducible exact of_r1 h1 (by assumption) (by assumption) | with_reducible exact of_r2 h1 (by assumption) (by assumption) | with_reducible exact of_r3 h1 (by assumption) | with_reducible exact of_j (by assumption) (by assumption) | with_reducible exact of_k (by assumption) | with_reducible exact of_bk (by assumption) (by assumption) | with_reducible exact of_bk (by assumption) (of_jr (by assumption) (by assumption)) | with_reducible exact h2 _ (by assumption) | exact h2 _ (ixS_mem (of_bk0 (by assumption) (by assumption))) | exact h2 _ (ixS_mem (of_bk0 (by assumption) (of_jr (by assumption) (by assumption)))) | exact ⟨by omega, by omega⟩ | exact Nat.le_trans (of_len h1) (by decide) | exact of_r1 h1 (by assumption) (by assumption) | exact of_r2 h1 (by assumption) (by assumption) | exact of_r3 h1 (by assumption) | exact of_j (by assumption) (by assumption) | exact of_k (by assumption) | exact of_bk (by assumption) (by assumption) | exact of_bk (by assumption) (of_jr (by assumption) (by assumption)) | exact h2 _ (by assumption) | walk_at "sz"))) (ixS_ok (by first | with_reducible exact h2 _ (ixS_mem (of_bk0 (by assumption) (by assumption))) | with_reducible exact h2 _ (ixS_mem (of_bk0 (by assumption) (of_jr (by assumption) (by assumption)))) | with_reducible exact ⟨by omega, by omega⟩ | with_reducible exact Nat.le_trans (of_len h1) (by decide) | with_reducible exact of_r1 h1 (by assumption) (by assumption) | with_reducible exact of_r2 h1 (by assumption) (by assumption) | with_reducible exact of_r3 h1 (by assumption) | with_reducible exact of_j (by assumption) (by assumption) | with_reducible exact of_k (by assumption) | with_reducible exact of_bk (by assumption) (by assumption) | with_reducible exact of_bk (by assumption) (of_jr (by assumption) (by assumption)) | with_reducible exact h2 _ (by assumption) | exact h2 _ (ixS_mem (of_bk0 (by assumption) (by assumption))) | exact h2 _ (ixS_mem (of_bk0 (by assumption) (of_jr (by assumption) (by assumption)))) | exact ⟨by omega, by omega⟩ | exact Nat.le_trans (of_len h1) (by decide) | exact of_r1 h1 (by assumption) (by assumption) | exact of_r2 h1 (by assumption) (by assumption) | exact of_r3 h1 (by assumption) | exact of_j (by assumption) (by assumption) | exact of_k (by assumption) | exact of_bk (by assumption) (by assumption) | exact of_bk (by assumption) (of_jr (by assumption) (by assumption)) | exact h2 _ (by assumption) | walk_at "sz"))) es_nil)) (s__law_meet N (by omega) (ixS book (ixS lot3 j9)) (ixS book (ixS lot3 k6)) _ (by first | with_reducible exact h2 _ (ixS_mem (of_bk0 (by assumption) (by assumption))) | with_reducible exact h2 _ (ixS_mem (of_bk0 (by assumption) (of_jr (by assumption) (by assumption)))) | with_reducible exact ⟨by omega, by omega⟩ | with_reducible exact Nat.le_trans (of_len h1) (by decide) | with_reducible exact of_r1 h1 (by assumption) (by assumption) | with_reducible exact of_r2 h1 (by assumption) (by assumption) | with_reducible exact of_r3 h1 (by assumption) | with_reducible exact of_j (by assumption) (by assumption) | with_reducible exact of_k (by assumption) | with_reducible exact of_bk (by assumption) (by assumption) | with_reducible exact of_bk (by assumption) (of_jr (by assumption) (by assumption)) | with_reducible exact h2 _ (by assumption) | exact h2 _ (ixS_mem (of_bk0 (by assumption) (by assumption))) | exact h2 _ (ixS_mem (of_bk0 (by assumption) (of_jr (by assumption) (by assumption)))) | exact ⟨by omega, by omega⟩ | exact Nat.le_trans (of_len h1) (by decide) | exact of_r1 h1 (by assumption) (by assumption) | exact of_r2 h1 (by assumption) (by assumption) | exact of_r3 h1 (by assumption) | exact of_j (by assumption) (by assumption) | exact of_k (by assumption) | exact of_bk (by assumption) (by assumption) | exact of_bk (by assumption) (of_jr (by assumption) (by assumption)) | exact h2 _ (by assumption) | walk_at "sz"))) (as_ (lotD ([] : (List Int))) (e_tup es_nil (Nat.le_of_ble_eq_true rfl)))))))))) rfl) ss_nil), trivial⟩) trivial) (ss_nx (st_set (ρ1 := [some ((eT lotD) book), some (lotD (if ((List.foldl (fun (s4 : Bool) (k6 : Int) => (s4 && (!(List.any (List.map (fun j9 : Int => (!decide ((g__law_meet (ixS book (ixS lot3 j9)) (ixS book (ixS lot3 k6))) = []))) (rngS 0 k6)) id)))) true (rngS 0 ((lot3).length : Int))) && (decide (((s1).length : Int) < ((lot3).length : Int)))) then lot3 else s1)), some (lotD lot3), some (D.bl (List.foldl (fun (s4 : Bool) (k6 : Int) => (s4 && (!(List.any (List.map (fun j9 : Int => (!decide ((g__law_meet (ixS book (ixS lot3 j9)) (ixS book (ixS lot3 k6))) = []))) (rngS 0 k6)) id)))) true (rngS 0 ((lot3).length : Int)))), (jfold (fun (s4 : Bool) (k6 : Int) => (s4 && (!(List.any (List.map (fun j9 : Int => (!decide ((g__law_meet (ixS book (ixS lot3 j9)) (ixS book (ixS lot3 k6))) = []))) (rngS 0 k6)) id)))) (fun (s4 : Bool) (j5 : Option D) (k6 : Int) => some (D.int k6)) true j2.2.2 (rngS 0 ((lot3).length : Int))), none]) (e_ite (fun (v : (List Int)) => .ok (lotD v) m) (x := lot3) (y := s1) (p := ((List.foldl (fun (s4 : Bool) (k6 : Int) => (s4 && (!(List.any (List.map (fun j9 : Int => (!decide ((g__law_meet (ixS book (ixS lot3 j9)) (ixS book (ixS lot3 k6))) = []))) (rngS 0 k6)) id)))) true (rngS 0 ((lot3).length : Int))) && (decide (((s1).length : Int) < ((lot3).length : Int))))) (e_and (p := (List.foldl (fun (s4 : Bool) (k6 : Int) => (s4 && (!(List.any (List.map (fun j9 : Int => (!decide ((g__law_meet (ixS book (ixS lot3 j9)) (ixS book (ixS lot3 k6))) = []))) (rngS 0 k6)) id)))) true (rngS 0 ((lot3).length : Int)))) (q := (decide (((s1).length : Int) < ((lot3).length : Int)))) (e_v (d := (D.bl (List.foldl (fun (s4 : Bool) (k6 : Int) => (s4 && (!(List.any (List.map (fun j9 : Int => (!decide ((g__law_meet (ixS book (ixS lot3 j9)) (ixS book (ixS lot3 k6))) = []))) (rngS 0 k6)) id)))) true (rngS 0 ((lot3).length : Int))))) rfl) (fun hk15 => (e_gt (e_len (e1 := D.int) (xs := lot3) (e_v (d := (lotD lot3)) rfl) .t) (e_len (e1 := D.int) (xs := s1) (e_v (d := (lotD s1)) rfl) .t)))) (fun hk17 => (e_v (d := (lotD lot3)) rfl)) (fun hk17 => (e_v (d := (lotD s1)) rfl))) rfl) ss_nil))), trivial⟩) trivial (fun j20 hI19 => ?_)
  exact j_ret (e_v (d := (lotD (g__law_first_packing_best book))) rfl) (fin_enc (e := lotD) (by walk_at "tk"))
theorem meet_eq (x y : List Int) : g__law_meet x y = g_common_of x y := rfl
theorem fold_and {α : Type} (g : α → Bool) : ∀ (xs : List α) (b : Bool), xs.foldl (fun s x => s && g x) b = (b && xs.all g)
  | [], b => by simp
  | x :: xs, b => by rw [List.foldl_cons, fold_and g xs, List.all_cons, Bool.and_assoc]
theorem fineL_eq (B : List (List Int)) (lot3 : List Int) : (List.foldl (fun (s4 : Bool) (k6 : Int) => (s4 && (!(List.any (List.map (fun j9 : Int => (!decide ((g__law_meet (ixS B (ixS lot3 j9)) (ixS B (ixS lot3 k6))) = []))) (rngS 0 k6)) id)))) true (rngS 0 ((lot3).length : Int))) = fineP B lot3 := by
  rw [fold_and, Bool.true_and]
  unfold fineP
  rw [Bool.eq_iff_iff, List.all_eq_true, decide_eq_true_eq, List.pairwise_iff_getElem]
  constructor
  · intro h i j hi hj hij
    have := h (j : Int) (mem_rngS.mpr (by omega))
    rw [Bool.not_eq_true', List.any_map, List.any_eq_false] at this
    have := this (i : Int) (mem_rngS.mpr (by omega))
    have e : (id ∘ fun j9 : Int => !decide (g__law_meet (ixS B (ixS lot3 j9)) (ixS B (ixS lot3 (j : Int))) = [])) (i : Int) = !dj (ixS B (ixS lot3 (i : Int))) (ixS B (ixS lot3 (j : Int))) := rfl
    rw [e, ixS_nat hi, ixS_nat hj] at this
    simpa using this
  · intro h k hk
    have hk := mem_rngS.mp hk
    rw [Bool.not_eq_true', List.any_map, List.any_eq_false]
    intro j hj
    have hj := mem_rngS.mp hj
    have e : (id ∘ fun j9 : Int => !decide (g__law_meet (ixS B (ixS lot3 j9)) (ixS B (ixS lot3 k)) = [])) j = !dj (ixS B (ixS lot3 j)) (ixS B (ixS lot3 k)) := rfl
    rw [e]
    have := h j.toNat k.toNat (by omega) (by omega) (by omega)
    rw [← ixS_nat (xs := lot3) (k := j.toNat) (by omega), ← ixS_nat (xs := lot3) (k := k.toNat) (by omega), show ((j.toNat : Nat) : Int) = j by omega, show ((k.toNat : Nat) : Int) = k by omega] at this
    rw [this]; simp
theorem lpack_best {B : List (List Int)} : Best B.length 0 (fineP B) (g__law_first_packing B) := by
  unfold g__law_first_packing g__law_first_packing_best
  rw [of_eq (by omega), show ((B.length : Int)).toNat = B.length by omega]
  exact best_fold (fun (s1 : (List Int)) (lot3 : (List Int)) => ((List.foldl (fun (s4 : Bool) (k6 : Int) => (s4 && (!(List.any (List.map (fun j9 : Int => (!decide ((g__law_meet (ixS B (ixS lot3 j9)) (ixS B (ixS lot3 k6))) = []))) (rngS 0 k6)) id)))) true (rngS 0 ((lot3).length : Int))) && (decide (((s1).length : Int) < ((lot3).length : Int))))) fun b l _ => by
    rw [fineL_eq, Bool.and_comm]
    congr 1
    rw [decide_eq_decide]; omega
theorem pack_eq {B : List (List Int)} (h : B.length ≤ 8) : g_packing_by B = g__law_first_packing B := (pk_best h).uniq lpack_best
theorem best_max {n c : Nat} {fine : List Int → Bool} {b l : List Int} (h : Best n c fine b) (hl : l ∈ lotsOf n) (hf : fine l = true) : l.length ≤ max c b.length := by
  rcases h with ⟨rfl, h⟩ | ⟨_, _, _, h, _⟩
  · have := h l hl hf; omega
  · have := h l hl hf; omega
theorem best_in {n c : Nat} {fine : List Int → Bool} {b : List Int} (h : Best n c fine b) (h0 : fine [] = true) : b ∈ lotsOf n ∧ fine b = true := by
  rcases h with ⟨rfl, _⟩ | ⟨_, h1, h2, _⟩
  · exact ⟨mem_lotsOf.mpr ⟨List.Pairwise.nil, by simp⟩, h0⟩
  · exact ⟨h1, h2⟩
theorem fine_nil (B : List (List Int)) : fineP B [] = true := by unfold fineP; simp
/-- with the first lot left out no more -/
theorem pack_less {b : List Int} {B : List (List Int)} : (g__law_first_packing B).length ≤ (g__law_first_packing (b :: B)).length := by
  obtain ⟨h1, h2⟩ := best_in (lpack_best (B := B)) (fine_nil B)
  obtain ⟨h3, h4⟩ := mem_lotsOf.mp h1
  have hl : ((g__law_first_packing B).map fun x => x + 1) ∈ lotsOf (b :: B).length := by
    refine mem_lotsOf.mpr ⟨List.pairwise_map.mpr (h3.imp fun h => by omega), fun x hx => ?_⟩
    obtain ⟨y, hy, rfl⟩ := List.mem_map.mp hx
    have := h4 y hy
    rw [List.length_cons]; omega
  have hf : fineP (b :: B) ((g__law_first_packing B).map fun x => x + 1) = true := by
    unfold fineP at h2 ⊢
    rw [decide_eq_true_eq] at h2 ⊢
    refine List.pairwise_map.mpr ((List.Pairwise.and_mem.mp h2).imp fun {x y} h => ?_)
    obtain ⟨hx, hy, h⟩ := h
    have key : ∀ x ∈ g__law_first_packing B, ixS (b :: B) (x + 1) = ixS B x := fun x hx => by
      have := h4 x hx
      have e : x = ((x.toNat : Nat) : Int) := by omega
      rw [e, show (((x.toNat : Nat) : Int) + 1) = ((x.toNat + 1 : Nat) : Int) by omega, ixS_nat (by rw [List.length_cons]; omega), ixS_nat (by omega)]
      rfl
    rw [key x hx, key y hy]; exact h
  have := best_max lpack_best hl hf
  rw [List.length_map] at this
  omega
/-- lots that do not meet, all touched: no more than things that touch -/
theorem pack_touch {B : List (List Int)} {l T : List Int} (hl : ∀ x ∈ l, 0 ≤ x ∧ x < (B.length : Int)) (hf : fineP B l = true) (ht : Tch B T) (hT : T.Nodup) : l.length ≤ T.length := by
  unfold fineP at hf
  rw [decide_eq_true_eq] at hf
  have pick : ∀ x ∈ l, ∃ t, t ∈ T ∧ t ∈ ixS B x := fun x hx => ht _ (ixS_mem (hl x hx))
  have key : ∀ (l : List Int), (∀ x ∈ l, ∃ t, t ∈ T ∧ t ∈ ixS B x) → (l.Pairwise fun a b => dj (ixS B a) (ixS B b) = true) → ∃ ts : List Int, ts.length = l.length ∧ ts.Nodup ∧ (∀ t ∈ ts, t ∈ T ∧ ∃ x ∈ l, t ∈ ixS B x) := by
    intro l
    induction l with
    | nil => exact fun _ _ => ⟨[], rfl, List.nodup_nil, by simp⟩
    | cons x l ih =>
      intro h1 h2
      obtain ⟨a1, a2⟩ := List.pairwise_cons.mp h2
      obtain ⟨ts, b1, b2, b3⟩ := ih (fun y hy => h1 y (List.mem_cons_of_mem _ hy)) a2
      obtain ⟨t, c1, c2⟩ := h1 x (List.mem_cons_self ..)
      refine ⟨t :: ts, by simp [b1], List.nodup_cons.mpr ⟨fun hm => ?_, b2⟩, fun u hu => ?_⟩
      · obtain ⟨_, y, hy, d⟩ := b3 t hm
        exact dj_iff.mp (a1 y hy) t c2 d
      · rcases List.mem_cons.mp hu with rfl | hu
        · exact ⟨c1, x, List.mem_cons_self .., c2⟩
        · obtain ⟨d1, y, hy, d2⟩ := b3 u hu
          exact ⟨d1, y, List.mem_cons_of_mem _ hy, d2⟩
  obtain ⟨ts, h1, h2, h3⟩ := key l pick hf
  rw [← h1]
  have : ∀ (ts T : List Int), ts.Nodup → (∀ t ∈ ts, t ∈ T) → ts.length ≤ T.length := fun ts T h1 h2 => nodup_sub ts T h1 h2
  exact this ts T h2 fun t ht => (h3 t ht).1
def g__law_right_book (p : Pool) : (List (List Int)) :=
  (g__law_book (g__law_take p (5 : Int)).2 ((1 : Int) + (g__law_take p (5 : Int)).1) (7 : Int)).1
def g__law_right_p (p : Pool) : Pool :=
  (g__law_book (g__law_take p (5 : Int)).2 ((1 : Int) + (g__law_take p (5 : Int)).1) (7 : Int)).2
def g__law_right_some (p : Pool) : (List (List Int)) :=
  (g__law_touching ((1 : Int) + (g__law_take p (5 : Int)).1) (g__law_right_book p))
def g__law_right_due (p : Pool) : (Option Int) :=
  (if (!decide ((g__law_right_some p) = [])) then (some (mmO false 0 (List.map (fun lot2 : (List Int) => ((lot2).length : Int)) (g__law_right_some p)))) else none)
def g__law_right (p : Pool) : Bool × Pool :=
  (if (!decide ((D.py ((eL (eO D.int)) [(g_cover_number ((1 : Int) + (g__law_take p (5 : Int)).1) (g__law_right_book p)), (g_cover_number ((1 : Int) + (g__law_take p (5 : Int)).1) (g__law_right_book p))])).shown = (D.py ((eL (eO D.int)) [(g__law_right_due p), (g__law_right_due p)])).shown)) then (false, (g__law_right_p p)) else (if (!decide ((D.py ((eL lotD) [(g_first_packing ((1 : Int) + (g__law_take p (5 : Int)).1) (g__law_right_book p)), (g_first_packing ((1 : Int) + (g__law_take p (5 : Int)).1) (g__law_right_book p))])).shown = (D.py ((eL lotD) [(g__law_first_packing (g__law_right_book p)), (g__law_first_packing (g__law_right_book p))])).shown)) then (false, (g__law_right_p p)) else (if (!decide ((D.py ((eL D.int) [(g_packing_number ((1 : Int) + (g__law_take p (5 : Int)).1) (g__law_right_book p)), (g_packing_number ((1 : Int) + (g__law_take p (5 : Int)).1) (g__law_right_book p))])).shown = (D.py ((eL D.int) (List.flatten (List.replicate ((2 : Int)).toNat ([(((g__law_first_packing (g__law_right_book p))).length : Int)] : (List Int)))))).shown)) then (false, (g__law_right_p p)) else (if ((((g__law_right_due p)).isSome && (decide ((Option.getD (g__law_right_due p) default) < (((g__law_first_packing (g__law_right_book p))).length : Int)))) || ((!decide ((g_cover_number ((1 : Int) + (g__law_take p (5 : Int)).1) []) = (some (0 : Int)))) || (!decide ((g_packing_number ((1 : Int) + (g__law_take p (5 : Int)).1) []) = (0 : Int))))) then (false, (g__law_right_p p)) else (if (decide ((g__law_right_book p) = [])) then (true, (g__law_right_p p)) else (((decide ((g_packing_number ((1 : Int) + (g__law_take p (5 : Int)).1) (cut (g__law_right_book p) (some (1 : Int)) none)) ≤ (((g__law_first_packing (g__law_right_book p))).length : Int))) && (((g__law_right_due p)).isNone || (decide ((Option.getD (g_cover_number ((1 : Int) + (g__law_take p (5 : Int)).1) (cut (g__law_right_book p) (some (1 : Int)) none)) default) ≤ (Option.getD (g__law_right_due p) default))))), (g__law_right_p p)))))))

theorem within_iff {a b : List Int} : g_is_within a b = true ↔ Sub a b := by
  unfold g_is_within PM.Sub; simp

theorem common_ne {a b : List Int} : (!decide (g_common_of a b = [])) = true ↔ ∃ x, x ∈ a ∧ x ∈ b := by
  unfold g_common_of
  simp
theorem touch_iff {B : List (List Int)} {l : List Int} : g_does_touch B l = true ↔ Tch B l := by
  unfold g_does_touch Tch
  rw [List.all_map, List.all_eq_true]
  exact ⟨fun h b hb => common_ne.mp (h b hb), fun h b hb => common_ne.mpr (h b hb)⟩
theorem told_iff {t : Int} (ht : 0 ≤ t ∧ t ≤ 6) {B : List (List Int)} {l : List Int} : l ∈ g_touching_by_told t B ↔ l ∈ lotsOf t.toNat ∧ Tch B l := by
  unfold g_touching_by_told
  rw [List.mem_filter, touch_iff, all_eq ht]
theorem touching_iff {t : Int} (ht : 0 ≤ t ∧ t ≤ 6) {B : List (List Int)} {l : List Int} : l ∈ g_touching_by t B ↔ IsTc t.toNat B l := by
  unfold g_touching_by IsTc
  rw [List.mem_filter, told_iff ht, and_assoc]
  refine and_congr_right fun _ => and_congr_right fun _ => ?_
  rw [Bool.not_eq_true', ← Bool.not_eq_true, List.any_map, List.any_eq_true]
  constructor
  · intro h o ho hto hs
    refine Classical.byContradiction fun hne => h ⟨o, (told_iff ht).mpr ⟨ho, hto⟩, ?_⟩
    show ((!decide (o = l)) && g_is_within o l) = true
    rw [within_iff.mpr hs, decide_eq_false hne]; rfl
  · rintro h ⟨o, ho, hk⟩
    have hk : ((!decide (o = l)) && g_is_within o l) = true := hk
    rw [Bool.and_eq_true, Bool.not_eq_true', decide_eq_false_iff_not] at hk
    have := (told_iff ht).mp ho
    exact hk.1 (h o this.1 this.2 (within_iff.mp hk.2))
theorem touching_asc {t : Int} (ht : 0 ≤ t ∧ t ≤ 6) {B : List (List Int)} : Asc (g_touching_by t B) := by
  unfold g_touching_by g_touching_by_told
  rw [all_eq ht]
  exact asc_filter (asc_filter (asc_lotsOf _))

theorem lwithin_iff {a b : List Int} : g__law_is_within a b = true ↔ Sub a b := by
  unfold g__law_is_within PM.Sub; simp

theorem foldl_filter {α : Type} (q : α → Prop) [DecidablePred q] : ∀ (xs s : List α), List.foldl (fun s x => s ++ (if q x then [x] else [])) s xs = s ++ xs.filter (fun x => decide (q x))
  | [], s => by simp
  | x :: xs, s => by
    rw [List.foldl_cons, foldl_filter q xs, List.filter_cons]
    by_cases h : q x <;> simp [h]
theorem lsome_iff {t : Int} (ht : 0 ≤ t) {B : List (List Int)} {l : List Int} : l ∈ g__law_touching_some t B ↔ l ∈ lotsOf t.toNat ∧ Tch B l := by
  unfold g__law_touching_some Tch
  rw [List.mem_filter, lots_of ht, Bool.not_eq_true', ← Bool.not_eq_true, List.any_map, List.any_eq_true]
  refine and_congr_right fun _ => ?_
  have key : ∀ b, (decide (g__law_meet l b = []) = true) ↔ ¬ ∃ x, x ∈ l ∧ x ∈ b := fun b => by unfold g__law_meet; simp
  constructor
  · intro h b hb
    exact Classical.byContradiction fun hn => h ⟨b, hb, (key b).mpr hn⟩
  · rintro h ⟨b, hb, hk⟩
    exact (key b).mp hk (h b hb)
theorem ltouching_eq {t : Int} {B : List (List Int)} : g__law_touching t B = (g__law_touching_some t B).filter (fun lot8 => decide ((List.filter (fun own9 : (List Int) => ((decide (((own9).length : Int) < ((lot8).length : Int))) && (g__law_is_within own9 lot8))) (g__law_touching_some t B)) = [])) := by
  unfold g__law_touching g__law_touching_found
  simp only [decide_eq_true_eq]
  rw [foldl_filter (fun lot8 => (List.filter (fun own9 : (List Int) => ((decide (((own9).length : Int) < ((lot8).length : Int))) && (g__law_is_within own9 lot8))) (g__law_touching_some t B)) = [])]
  rfl
theorem ltouching_iff {t : Int} (ht : 0 ≤ t) {B : List (List Int)} {l : List Int} : l ∈ g__law_touching t B ↔ IsTc t.toNat B l := by
  rw [ltouching_eq, List.mem_filter, lsome_iff ht, IsTc, and_assoc]
  refine and_congr_right fun hl => and_congr_right fun _ => ?_
  rw [decide_eq_true_eq, List.filter_eq_nil_iff]
  constructor
  · intro h o ho hto hs
    refine Classical.byContradiction fun hne => h o ((lsome_iff ht).mpr ⟨ho, hto⟩) ?_
    have := (Sub.lt (mem_lotsOf.mp ho).1 (mem_lotsOf.mp hl).1 hs).mpr hne
    rw [lwithin_iff.mpr hs, decide_eq_true (by omega)]; rfl
  · intro h o ho hk
    rw [Bool.and_eq_true, lwithin_iff, decide_eq_true_eq] at hk
    have := (lsome_iff ht).mp ho
    have e := h o this.1 this.2 hk.2
    rw [e] at hk; omega
theorem ltouching_asc {t : Int} (ht : 0 ≤ t) {B : List (List Int)} : Asc (g__law_touching t B) := by
  rw [ltouching_eq]
  unfold g__law_touching_some
  rw [lots_of ht]
  exact asc_filter (asc_filter (asc_lotsOf _))
theorem ltouching_lot {t : Int} (ht : 0 ≤ t ∧ t ≤ 6) {B : List (List Int)} {l : List Int} (h : l ∈ g__law_touching t B) : LotOk t l := by
  have := ((ltouching_iff ht.1).mp h).1
  rw [show t = ((t.toNat : Nat) : Int) by omega]
  exact (lotOk_iff (by omega)).mpr this
theorem ltouching_len {t : Int} (ht : 0 ≤ t ∧ t ≤ 6) {B : List (List Int)} : (g__law_touching t B).length ≤ 64 := by
  rw [ltouching_eq]; exact len_filter (some_len64 ht)

/-- the least lots of a book, as the law finds them -/
theorem least_iff {B : List (List Int)} (hB : ∀ b ∈ B, AscI b) {l : List Int} : l ∈ (List.filter (fun lot4 : (List Int) => (!(List.any (List.map (fun own6 : (List Int) => ((decide (((own6).length : Int) < ((lot4).length : Int))) && (g__law_is_within own6 lot4))) B) id))) B) ↔ IsMin B l := by
  rw [List.mem_filter, IsMin]
  refine and_congr_right fun hl => ?_
  rw [Bool.not_eq_true', ← Bool.not_eq_true, List.any_map, List.any_eq_true]
  constructor
  · intro h o ho hs
    refine Classical.byContradiction fun hne => h ⟨o, ho, ?_⟩
    have := (Sub.lt (hB o ho) (hB l hl) hs).mpr hne
    show ((decide (((o).length : Int) < ((l).length : Int))) && (g__law_is_within o l)) = true
    rw [lwithin_iff.mpr hs, decide_eq_true (by omega)]; rfl
  · rintro h ⟨o, ho, hk⟩
    have hk : ((decide (((o).length : Int) < ((l).length : Int))) && (g__law_is_within o l)) = true := hk
    rw [Bool.and_eq_true, lwithin_iff, decide_eq_true_eq] at hk
    have e := h o ho hk.2
    rw [e] at hk; omega
theorem min_ok {t : Int} {B B' : List (List Int)} (hB : BookOk t B) {k : List Int → Bool} (e : B' = B.filter k) : BookOk t B' := by
  subst e
  exact ⟨fun l hl => hB.lots l (List.mem_filter.mp hl).1, asc_filter hB.asc, len_filter hB.few⟩
theorem things_ok {p : Pool} : 1 ≤ (1 : Int) + (g__law_take p (5 : Int)).1 ∧ (1 : Int) + (g__law_take p (5 : Int)).1 ≤ 6 := by
  have := take_b p 5 (by omega)
  omega
theorem things_ok0 {p : Pool} : 0 ≤ (1 : Int) + (g__law_take p (5 : Int)).1 ∧ (1 : Int) + (g__law_take p (5 : Int)).1 ≤ 6 := by
  have := things_ok (p := p)
  omega
theorem rbook_ok {p : Pool} : BookOk ((1 : Int) + (g__law_take p (5 : Int)).1) (g__law_right_book p) := book_ok things_ok (by decide)
theorem rbook_few {p : Pool} : (g__law_right_book p).length ≤ 8 := by
  have := book_few (p := (g__law_take p (5 : Int)).2) (things := (1 : Int) + (g__law_take p (5 : Int)).1) (most := 7) things_ok (by decide)
  unfold g__law_right_book; omega
theorem less_eq (B : List (List Int)) : cut B (some (1 : Int)) none = B.drop 1 := cut_from B 1
theorem less_ok {p : Pool} : BookOk ((1 : Int) + (g__law_take p (5 : Int)).1) (cut (g__law_right_book p) (some (1 : Int)) none) := by
  have h := rbook_ok (p := p)
  rw [less_eq]
  exact ⟨fun l hl => h.lots l (List.mem_of_mem_drop hl), h.asc.sublist (List.drop_sublist 1 _), Nat.le_trans (by simp) h.few⟩
theorem less_few {p : Pool} : (cut (g__law_right_book p) (some (1 : Int)) none).length ≤ 8 := by
  have := rbook_few (p := p)
  rw [less_eq, List.length_drop]; omega
theorem rlots {p : Pool} {l : List Int} (h : l ∈ g__law_right_book p) : l.length ≤ 64 := (rbook_ok.lots l h).2.2
theorem tby_eq {p : Pool} : g_touching_by ((1 : Int) + (g__law_take p (5 : Int)).1) (g__law_right_book p) = g__law_right_some p :=
  asc_ext (touching_asc things_ok0) (ltouching_asc things_ok0.1) fun l => (touching_iff things_ok0).trans (ltouching_iff things_ok0.1).symm
theorem mmN_some {zs : List Int} : mmN false zs = (if (!decide (zs = [])) then some (mmO false 0 zs) else none) := by
  cases zs with
  | nil => rfl
  | cons z zs => rw [decide_eq_false (by simp)]; rfl
theorem cover_eq {p : Pool} : g_cover_number ((1 : Int) + (g__law_take p (5 : Int)).1) (g__law_right_book p) = g__law_right_due p := by
  unfold g_cover_number g_cover_by g__law_right_due
  rw [tby_eq, mmN_some]
  congr 2
  rw [Bool.not_inj_iff, decide_eq_decide, List.map_eq_nil_iff]
theorem some_iff {p : Pool} {l : List Int} : l ∈ g__law_right_some p ↔ IsTc (((1 : Int) + (g__law_take p (5 : Int)).1)).toNat (g__law_right_book p) l := ltouching_iff things_ok0.1
theorem rb_lots {p : Pool} : ∀ b ∈ g__law_right_book p, b ∈ lotsOf (((1 : Int) + (g__law_take p (5 : Int)).1)).toNat := fun b hb => by
  have ht := things_ok (p := p)
  have h := rbook_ok.lots b hb
  generalize (1 : Int) + (g__law_take p (5 : Int)).1 = t at h ht
  rw [show t = ((t.toNat : Nat) : Int) by omega] at h
  exact (lotOk_iff (by omega)).mp h
theorem mmO_min {zs : List Int} (h : zs ≠ []) : mmO false 0 zs ∈ zs ∧ ∀ z ∈ zs, mmO false 0 zs ≤ z := by
  cases zs with
  | nil => exact absurd rfl h
  | cons y zs =>
    obtain ⟨q1, q2, q3⟩ := mmI_min zs y
    refine ⟨List.mem_cons.mpr q1, fun z h => ?_⟩
    rcases List.mem_cons.mp h with rfl | h
    · exact q2
    · exact q3 z h
/-- the number told is that of a touching lot, the fewest -/
theorem due_some {p : Pool} {d : Int} (h : g__law_right_due p = some d) : (∃ T, IsTc (((1 : Int) + (g__law_take p (5 : Int)).1)).toNat (g__law_right_book p) T ∧ d = (T.length : Int)) := by
  unfold g__law_right_due at h
  split at h
  · rename_i hn
    rw [Bool.not_eq_true', decide_eq_false_iff_not] at hn
    obtain ⟨h1, _⟩ := mmO_min (zs := List.map (fun lot2 : (List Int) => ((lot2).length : Int)) (g__law_right_some p)) (by simpa using hn)
    obtain ⟨T, hT, e⟩ := List.mem_map.mp h1
    exact ⟨T, some_iff.mp hT, by rw [← Option.some.inj h]; exact e.symm⟩
  · cases h
theorem tc_nodup {k : Nat} {B : List (List Int)} {T : List Int} (h : IsTc k B T) : T.Nodup := ascI_nodup (mem_lotsOf.mp h.1).1
theorem tc_len {k : Nat} {B : List (List Int)} {T : List Int} (hk : k ≤ 6) (h : IsTc k B T) : T.length ≤ 6 := by
  have := (lotsUp_ok k T (mem_sortLots.mp h.1)).2.2; omega
theorem lpack_len {p : Pool} : (g__law_first_packing (g__law_right_book p)).length ≤ 8 := by
  have h := (best_in (lpack_best (B := g__law_right_book p)) (fine_nil _)).1
  have := (lotsUp_ok _ _ (mem_sortLots.mp h)).2.2
  have := rbook_few (p := p); omega
theorem fit2 {p : Pool} : Shw (eL (eO D.int) [(g__law_right_due p), (g__law_right_due p)]) := by
  cases e : g__law_right_due p with
  | none => exact shw_L2 (k := 0) (n := 4) .non .non (by decide) (by decide)
  | some d =>
    obtain ⟨T, hT, rfl⟩ := due_some e
    have := things_ok (p := p)
    have := tc_len (by omega) hT
    have f : Fit 0 8 (eO D.int (some (T.length : Int))) := .int (by omega)
    exact shw_L2 f f (by decide) (by decide)
theorem fit1 {p : Pool} : Shw (eL (eO D.int) [(g_cover_number ((1 : Int) + (g__law_take p (5 : Int)).1) (g__law_right_book p)), (g_cover_number ((1 : Int) + (g__law_take p (5 : Int)).1) (g__law_right_book p))]) := by rw [cover_eq]; exact fit2
theorem own_fit {p : Pool} : Fit 1 83 (lotD (g__law_first_packing (g__law_right_book p))) := by
  have h := (best_in (lpack_best (B := g__law_right_book p)) (fine_nil _)).1
  have := rbook_few (p := p)
  exact fit_lot (c := 8) (fun x hx => by have := (mem_lotsOf.mp h).2 x hx; omega) lpack_len
theorem fit4 {p : Pool} : Shw (eL lotD [(g__law_first_packing (g__law_right_book p)), (g__law_first_packing (g__law_right_book p))]) := shw_L2 own_fit own_fit (by decide) (by decide)
theorem first_eq {p : Pool} {t : Int} : g_first_packing t (g__law_right_book p) = g__law_first_packing (g__law_right_book p) := pack_eq rbook_few
theorem fit3 {p : Pool} {t : Int} : Shw (eL lotD [(g_first_packing t (g__law_right_book p)), (g_first_packing t (g__law_right_book p))]) := by rw [first_eq]; exact fit4
theorem num_eq {p : Pool} {t : Int} : g_packing_number t (g__law_right_book p) = ((g__law_first_packing (g__law_right_book p)).length : Int) := by
  unfold g_packing_number; rw [pack_eq rbook_few]
theorem fit6 {p : Pool} : Shw (eL D.int (List.flatten (List.replicate ((2 : Int)).toNat ([(((g__law_first_packing (g__law_right_book p))).length : Int)] : (List Int))))) := by
  have := lpack_len (p := p)
  exact shw_L2 (e := D.int) (x := ((g__law_first_packing (g__law_right_book p)).length : Int)) (y := ((g__law_first_packing (g__law_right_book p)).length : Int)) (.int (by omega)) (.int (by omega)) (by decide) (by decide)
theorem fit5 {p : Pool} {t : Int} : Shw (eL D.int [(g_packing_number t (g__law_right_book p)), (g_packing_number t (g__law_right_book p))]) := by rw [num_eq]; exact fit6
/-- a touching lot of the book touches what is left -/
theorem less_tc {p : Pool} {T : List Int} (h : IsTc (((1 : Int) + (g__law_take p (5 : Int)).1)).toNat (g__law_right_book p) T) : ∃ U, IsTc (((1 : Int) + (g__law_take p (5 : Int)).1)).toNat (cut (g__law_right_book p) (some (1 : Int)) none) U ∧ U.length ≤ T.length := by
  obtain ⟨U, hU, hs⟩ := tc_below (B := cut (g__law_right_book p) (some (1 : Int)) none) h.1 fun b hb => h.2.1 b (by rw [less_eq] at hb; exact List.mem_of_mem_drop hb)
  exact ⟨U, hU, hs.len (mem_lotsOf.mp hU.1).1⟩
theorem less_cov {p : Pool} {d : Int} (h : g__law_right_due p = some d) : ∃ e, g_cover_number ((1 : Int) + (g__law_take p (5 : Int)).1) (cut (g__law_right_book p) (some (1 : Int)) none) = some e ∧ e ≤ d := by
  obtain ⟨T, hT, rfl⟩ := due_some h
  obtain ⟨U, hU, hl⟩ := less_tc hT
  unfold g_cover_number g_cover_by
  rw [mmN_some]
  have hm := (touching_iff things_ok0).mpr hU
  have hne : List.map (fun lot1 : (List Int) => ((lot1).length : Int)) (g_touching_by ((1 : Int) + (g__law_take p (5 : Int)).1) (cut (g__law_right_book p) (some (1 : Int)) none)) ≠ [] := by
    rw [Ne, List.map_eq_nil_iff]; exact List.ne_nil_of_mem hm
  rw [decide_eq_false hne]
  refine ⟨_, rfl, ?_⟩
  have := (mmO_min hne).2 (U.length : Int) (List.mem_map.mpr ⟨U, hm, rfl⟩)
  omega
theorem less_some {p : Pool} (h : (g__law_right_due p).isNone = false) : (g_cover_number ((1 : Int) + (g__law_take p (5 : Int)).1) (cut (g__law_right_book p) (some (1 : Int)) none)).isSome = true := by
  cases e : g__law_right_due p with
  | none => rw [e] at h; cases h
  | some d =>
    obtain ⟨x, hx, _⟩ := less_cov e
    rw [hx]; rfl
theorem some_pos {p : Pool} (h : (!decide (g__law_right_some p = [])) = true) : 0 < (List.map (fun lot2 : (List Int) => ((lot2).length : Int)) (g__law_right_some p)).length := by
  rw [Bool.not_eq_true', decide_eq_false_iff_not] at h
  rw [List.length_map]; exact List.length_pos_iff.mpr h
theorem rb_16 {p : Pool} : (g__law_right_book p).length ≤ 16777216 := Nat.le_trans rbook_few (by decide)
theorem rs_16 {p : Pool} : (g__law_right_some p).length ≤ 16777216 := Nat.le_trans (ltouching_len things_ok0) (by decide)
theorem right_true (p : Pool) : (g__law_right p).1 = true := by
  have ht := things_ok (p := p)
  have l1 : ∀ n : Int, List.flatten (List.replicate ((2 : Int)).toNat [n]) = [n, n] := fun _ => rfl
  have e2 : g_touching_by ((1 : Int) + (g__law_take p (5 : Int)).1) [] = [[]] :=
    asc_ext (touching_asc things_ok0) (List.pairwise_singleton ..) fun l => (touching_iff things_ok0).trans (tc_nil.trans (List.mem_singleton).symm)
  have e3 : g_cover_number ((1 : Int) + (g__law_take p (5 : Int)).1) [] = some 0 := by
    unfold g_cover_number g_cover_by
    rw [e2]; rfl
  have e4 : g_packing_number ((1 : Int) + (g__law_take p (5 : Int)).1) [] = 0 := by
    unfold g_packing_number
    rw [pack_eq (by decide)]
    have := (best_in (lpack_best (B := [])) (fine_nil _)).1
    have := (lotsUp_ok _ _ (mem_sortLots.mp this)).2.2
    simp at this
    rw [this]; rfl
  have e5 : (((g__law_right_due p)).isSome && (decide ((Option.getD (g__law_right_due p) default) < (((g__law_first_packing (g__law_right_book p))).length : Int)))) = false := by
    cases e : g__law_right_due p with
    | none => rfl
    | some d =>
      obtain ⟨T, hT, rfl⟩ := due_some e
      obtain ⟨h1, h2⟩ := best_in (lpack_best (B := g__law_right_book p)) (fine_nil _)
      have := pack_touch (mem_lotsOf.mp h1).2 h2 hT.2.1 (tc_nodup hT)
      show (true && decide _) = false
      rw [Bool.true_and, decide_eq_false_iff_not]
      show ¬ ((T.length : Int) < _)
      omega
  have e6 : g_packing_number ((1 : Int) + (g__law_take p (5 : Int)).1) (cut (g__law_right_book p) (some (1 : Int)) none) ≤ ((g__law_first_packing (g__law_right_book p)).length : Int) := by
    unfold g_packing_number
    rw [pack_eq less_few, less_eq]
    cases g__law_right_book p with
    | nil => simp
    | cons b B => have := pack_less (b := b) (B := B); simpa using this
  have e7 : ((g__law_right_due p).isNone || (decide ((Option.getD (g_cover_number ((1 : Int) + (g__law_take p (5 : Int)).1) (cut (g__law_right_book p) (some (1 : Int)) none)) default) ≤ (Option.getD (g__law_right_due p) default)))) = true := by
    cases e : g__law_right_due p with
    | none => rfl
    | some d =>
      obtain ⟨x, hx, hle⟩ := less_cov e
      rw [hx]
      show (false || decide _) = true
      rw [Bool.false_or, decide_eq_true_eq]
      exact hle
  unfold g__law_right
  rw [cover_eq, first_eq, num_eq, l1, e3, e4, e5, e7]
  simp [e6]
theorem s__law_right (N : Nat) (hN : 9 ≤ N) (p : Pool) (m : M) (l : Nat) (hl : l < m.length) : (fns P N).call "_law_right" [.ref l] (mp m l p) = .ok (D.bl (g__law_right p).1) (mp m l (g__law_right p).2) := by
  obtain ⟨N, rfl⟩ : ∃ k, N = k + 1 := ⟨N - 1, by omega⟩
  rw [call_eq f__law_right rfl rfl]
  refine J.fin (b := false) ?_
  show J false false (List.length (mp m l p)) (exSs (fns P N) none b__law_right [some (.ref l), none, none, none, none, none, none, none] (mp m l p)) ((fun (v : Bool × Pool) => .ok (D.bl v.1) (mp m l v.2)) (g__law_right p))
  unfold g__law_right b__law_right
  refine j_nx (st_set (ρ1 := [some (.ref l), some (D.int ((1 : Int) + (g__law_take p (5 : Int)).1)), none, none, none, none, none, none]) (e_add e_c (e_call (es_cons (e_v (d := .ref l) rfl) (es_cons e_c es_nil)) (s__law_take N (by omega) p (5 : Int) m l (by walk_at "ll") (by first | with_reducible exact things_ok | with_reducible exact things_ok0 | with_reducible exact rbook_ok | with_reducible exact rbook_few | with_reducible exact fun l hl => rlots hl | with_reducible exact Nat.le_trans rbook_few (by decide) | with_reducible exact ⟨by decide, by decide⟩ | with_reducible exact some_pos (by assumption) | with_reducible exact rb_16 | with_reducible exact rs_16 | with_reducible exact less_ok | with_reducible exact less_few | with_reducible exact book_by (by simp) | exact book_by (by simp) | walk_at "sz")))) rfl) ?_
  refine j_nx (st_set (ρ1 := [some (.ref l), some (D.int ((1 : Int) + (g__law_take p (5 : Int)).1)), some ((eT lotD) (g__law_book (g__law_take p (5 : Int)).2 ((1 : Int) + (g__law_take p (5 : Int)).1) (7 : Int)).1), none, none, none, none, none]) (e_call (es_cons (e_v (d := .ref l) rfl) (es_cons (e_v (d := (D.int ((1 : Int) + (g__law_take p (5 : Int)).1))) rfl) (es_cons e_c es_nil))) (s__law_book N (by omega) (g__law_take p (5 : Int)).2 ((1 : Int) + (g__law_take p (5 : Int)).1) (7 : Int) m l (by walk_at "ll") (by first | with_reducible exact things_ok | with_reducible exact things_ok0 | with_reducible exact rbook_ok | with_reducible exact rbook_few | with_reducible exact fun l hl => rlots hl | with_reducible exact Nat.le_trans rbook_few (by decide) | with_reducible exact ⟨by decide, by decide⟩ | with_reducible exact some_pos (by assumption) | with_reducible exact rb_16 | with_reducible exact rs_16 | with_reducible exact less_ok | with_reducible exact less_few | with_reducible exact book_by (by simp) | exact book_by (by simp) | walk_at "sz") (by first | with_reducible exact things_ok | with_reducible exact things_ok0 | with_reducible exact rbook_ok | with_reducible exact rbook_few | with_reducible exact fun l hl => rlots hl | with_reducible exact Nat.le_trans rbook_few (by decide) | with_reducible exact ⟨by decide, by decide⟩ | with_reducible exact some_pos (by assumption) | with_reducible exact rb_16 | with_reducible exact rs_16 | with_reducible exact less_ok | with_reducible exact less_few | with_reducible exact book_by (by simp) | exact book_by (by simp) | walk_at "sz"))) rfl) ?_
  refine j_nx (st_set (ρ1 := [some (.ref l), some (D.int ((1 : Int) + (g__law_take p (5 : Int)).1)), some ((eT lotD) (g__law_right_book p)), some ((eT lotD) (g__law_touching ((1 : Int) + (g__law_take p (5 : Int)).1) (g__law_right_book p))), none, none, none, none]) (e_call (es_cons (e_v (d := (D.int ((1 : Int) + (g__law_take p (5 : Int)).1))) rfl) (es_cons (e_v (d := ((eT lotD) (g__law_right_book p))) rfl) es_nil)) (s__law_touching N (by omega) ((1 : Int) + (g__law_take p (5 : Int)).1) (g__law_right_book p) _ (by first | with_reducible exact things_ok | with_reducible exact things_ok0 | with_reducible exact rbook_ok | with_reducible exact rbook_few | with_reducible exact fun l hl => rlots hl | with_reducible exact Nat.le_trans rbook_few (by decide) | with_reducible exact ⟨by decide, by decide⟩ | with_reducible exact some_pos (by assumption) | with_reducible exact rb_16 | with_reducible exact rs_16 | with_reducible exact less_ok | with_reducible exact less_few | with_reducible exact book_by (by simp) | exact book_by (by simp) | walk_at "sz") (by first | with_reducible exact things_ok | with_reducible exact things_ok0 | with_reducible exact rbook_ok | with_reducible exact rbook_few | with_reducible exact fun l hl => rlots hl | with_reducible exact Nat.le_trans rbook_few (by decide) | with_reducible exact ⟨by decide, by decide⟩ | with_reducible exact some_pos (by assumption) | with_reducible exact rb_16 | with_reducible exact rs_16 | with_reducible exact less_ok | with_reducible exact less_few | with_reducible exact book_by (by simp) | exact book_by (by simp) | walk_at "sz"))) rfl) ?_
  refine j_nx (st_set (ρ1 := [some (.ref l), some (D.int ((1 : Int) + (g__law_take p (5 : Int)).1)), some ((eT lotD) (g__law_right_book p)), some ((eT lotD) (g__law_right_some p)), some ((eO D.int) (if (!decide ((g__law_right_some p) = [])) then (some (mmO false 0 (List.map (fun lot2 : (List Int) => ((lot2).length : Int)) (g__law_right_some p)))) else none)), none, none, none]) (e_ite (fun (v : (Option Int)) => .ok ((eO D.int) v) (mp m l (g__law_right_p p))) (x := (some (mmO false 0 (List.map (fun lot2 : (List Int) => ((lot2).length : Int)) (g__law_right_some p))))) (y := none) (p := (!decide ((g__law_right_some p) = []))) (e_ne (eT lotD) (x := (g__law_right_some p)) (y := []) (e_v (d := ((eT lotD) (g__law_right_some p))) rfl) (as_ ((eT lotD) ([] : (List (List Int)))) (e_tup es_nil (Nat.le_of_ble_eq_true rfl)))) (fun hk1 => (e_min1 (is := (List.map (fun lot2 : (List Int) => ((lot2).length : Int)) (g__law_right_some p))) (e_compN (e1 := lotD) (e2 := D.int) (xs := (g__law_right_some p)) (r := (fun (lot2 : (List Int)) => [some (.ref l), some (D.int ((1 : Int) + (g__law_take p (5 : Int)).1)), some ((eT lotD) (g__law_right_book p)), some ((eT lotD) (g__law_right_some p)), none, some (lotD lot2), none, none])) (f := (fun lot2 : (List Int) => ((lot2).length : Int))) (i_t (e_v (d := ((eT lotD) (g__law_right_some p))) rfl)) (by first | with_reducible exact things_ok | with_reducible exact things_ok0 | with_reducible exact rbook_ok | with_reducible exact rbook_few | with_reducible exact fun l hl => rlots hl | with_reducible exact Nat.le_trans rbook_few (by decide) | with_reducible exact ⟨by decide, by decide⟩ | with_reducible exact some_pos (by assumption) | with_reducible exact rb_16 | with_reducible exact rs_16 | with_reducible exact less_ok | with_reducible exact less_few | with_reducible exact book_by (by simp) | exact book_by (by simp) | walk_at "sz") (fun lot2 => (b_n rfl)) (fun lot2 hx3 => (e_len (e1 := D.int) (xs := lot2) (e_v (d := (lotD lot2)) rfl) .t))) (by first | with_reducible exact things_ok | with_reducible exact things_ok0 | with_reducible exact rbook_ok | with_reducible exact rbook_few | with_reducible exact fun l hl => rlots hl | with_reducible exact Nat.le_trans rbook_few (by decide) | with_reducible exact ⟨by decide, by decide⟩ | with_reducible exact some_pos (by assumption) | with_reducible exact rb_16 | with_reducible exact rs_16 | with_reducible exact less_ok | with_reducible exact less_few | with_reducible exact book_by (by simp) | exact book_by (by simp) | walk_at "sz"))) (fun hk1 => e_c)) rfl) ?_
  refine j_ite (fun (v : Bool × Pool) => .ok (D.bl v.1) (mp m l v.2)) (k := (!decide ((D.py ((eL (eO D.int)) [(g_cover_number ((1 : Int) + (g__law_take p (5 : Int)).1) (g__law_right_book p)), (g_cover_number ((1 : Int) + (g__law_take p (5 : Int)).1) (g__law_right_book p))])).shown = (D.py ((eL (eO D.int)) [(g__law_right_due p), (g__law_right_due p)])).shown))) (e_neS (x := (D.py ((eL (eO D.int)) [(g_cover_number ((1 : Int) + (g__law_take p (5 : Int)).1) (g__law_right_book p)), (g_cover_number ((1 : Int) + (g__law_take p (5 : Int)).1) (g__law_right_book p))])).shown) (y := (D.py ((eL (eO D.int)) [(g__law_right_due p), (g__law_right_due p)])).shown) (e_repr (d := ((eL (eO D.int)) [(g_cover_number ((1 : Int) + (g__law_take p (5 : Int)).1) (g__law_right_book p)), (g_cover_number ((1 : Int) + (g__law_take p (5 : Int)).1) (g__law_right_book p))])) (as_ ((eL (eO D.int)) ([(g_cover_number ((1 : Int) + (g__law_take p (5 : Int)).1) (g__law_right_book p)), (g_cover_number ((1 : Int) + (g__law_take p (5 : Int)).1) (g__law_right_book p))] : (List (Option Int)))) (e_lst (es_cons (e_call (es_cons (e_v (d := (D.int ((1 : Int) + (g__law_take p (5 : Int)).1))) rfl) (es_cons (e_v (d := ((eT lotD) (g__law_right_book p))) rfl) es_nil)) (s_cover_number N (by omega) ((1 : Int) + (g__law_take p (5 : Int)).1) (g__law_right_book p) _ (by first | with_reducible exact things_ok | with_reducible exact things_ok0 | with_reducible exact rbook_ok | with_reducible exact rbook_few | with_reducible exact fun l hl => rlots hl | with_reducible exact Nat.le_trans rbook_few (by decide) | with_reducible exact ⟨by decide, by decide⟩ | with_reducible exact some_pos (by assumption) | with_reducible exact rb_16 | with_reducible exact rs_16 | with_reducible exact less_ok | with_reducible exact less_few | with_reducible exact book_by (by simp) | exact book_by (by simp) | walk_at "sz") (by first | with_reducible exact things_ok | with_reducible exact things_ok0 | with_reducible exact rbook_ok | with_reducible exact rbook_few | with_reducible exact fun l hl => rlots hl | with_reducible exact Nat.le_trans rbook_few (by decide) | with_reducible exact ⟨by decide, by decide⟩ | with_reducible exact some_pos (by assumption) | with_reducible exact rb_16 | with_reducible exact rs_16 | with_reducible exact less_ok | with_reducible exact less_few | with_reducible exact book_by (by simp) | exact book_by (by simp) | walk_at "sz"))) (es_cons (e_callK (ws := [((eT lotD) (g__law_right_book p)), (D.int ((1 : Int) + (g__law_take p (5 : Int)).1))]) (as := [(D.int ((1 : Int) + (g__law_take p (5 : Int)).1)), ((eT lotD) (g__law_right_book p))]) es_nil (es_cons (e_v (d := ((eT lotD) (g__law_right_book p))) rfl) (es_cons (e_v (d := (D.int ((1 : Int) + (g__law_take p (5 : Int)).1))) rfl) es_nil)) (by rw [fns_ps', f_cover_number]; rfl) (s_cover_number N (by omega) ((1 : Int) + (g__law_take p (5 : Int)).1) (g__law_right_book p) _ (by first | with_reducible exact things_ok | with_reducible exact things_ok0 | with_reducible exact rbook_ok | with_reducible exact rbook_few | with_reducible exact fun l hl => rlots hl | with_reducible exact Nat.le_trans rbook_few (by decide) | with_reducible exact ⟨by decide, by decide⟩ | with_reducible exact some_pos (by assumption) | with_reducible exact rb_16 | with_reducible exact rs_16 | with_reducible exact less_ok | with_reducible exact less_few | with_reducible exact book_by (by simp) | exact book_by (by simp) | walk_at "sz") (by first | with_reducible exact things_ok | with_reducible exact things_ok0 | with_reducible exact rbook_ok | with_reducible exact rbook_few | with_reducible exact fun l hl => rlots hl | with_reducible exact Nat.le_trans rbook_few (by decide) | with_reducible exact ⟨by decide, by decide⟩ | with_reducible exact some_pos (by assumption) | with_reducible exact rb_16 | with_reducible exact rs_16 | with_reducible exact less_ok | with_reducible exact less_few | with_reducible exact book_by (by simp) | exact book_by (by simp) | walk_at "sz"))) es_nil)) (Nat.le_of_ble_eq_true rfl))) (by first | with_reducible exact fit1 | with_reducible exact fit2 | with_reducible exact fit3 | with_reducible exact fit4 | with_reducible exact fit5 | with_reducible exact fit6 | exact fit1 | exact fit2 | exact fit3 | exact fit4 | exact fit5 | exact fit6)) (e_repr (d := ((eL (eO D.int)) [(g__law_right_due p), (g__law_right_due p)])) (as_ ((eL (eO D.int)) ([(g__law_right_due p), (g__law_right_due p)] : (List (Option Int)))) (e_lst (es_cons (e_v (d := ((eO D.int) (g__law_right_due p))) rfl) (es_cons (e_v (d := ((eO D.int) (g__law_right_due p))) rfl) es_nil)) (Nat.le_of_ble_eq_true rfl))) (by first | with_reducible exact fit1 | with_reducible exact fit2 | with_reducible exact fit3 | with_reducible exact fit4 | with_reducible exact fit5 | with_reducible exact fit6 | exact fit1 | exact fit2 | exact fit3 | exact fit4 | exact fit5 | exact fit6))) (fun hk5 => ?_) (fun hk5 => ?_)
  · exact j_ret e_c (fin_enc (e := D.bl) (by walk_at "tk"))
  · refine j_nx (st_set (ρ1 := [some (.ref l), some (D.int ((1 : Int) + (g__law_take p (5 : Int)).1)), some ((eT lotD) (g__law_right_book p)), some ((eT lotD) (g__law_right_some p)), some ((eO D.int) (g__law_right_due p)), none, some (lotD (g__law_first_packing (g__law_right_book p))), none]) (e_call (es_cons (e_v (d := ((eT lotD) (g__law_right_book p))) rfl) es_nil) (s__law_first_packing N (by omega) (g__law_right_book p) _ (by first | with_reducible exact things_ok | with_reducible exact things_ok0 | with_reducible exact rbook_ok | with_reducible exact rbook_few | with_reducible exact fun l hl => rlots hl | with_reducible exact Nat.le_trans rbook_few (by decide) | with_reducible exact ⟨by decide, by decide⟩ | with_reducible exact some_pos (by assumption) | with_reducible exact rb_16 | with_reducible exact rs_16 | with_reducible exact less_ok | with_reducible exact less_few | with_reducible exact book_by (by simp) | exact book_by (by simp) | walk_at "sz") (by first | with_reducible exact things_ok | with_reducible exact things_ok0 | with_reducible exact rbook_ok | with_reducible exact rbook_few | with_reducible exact fun l hl => rlots hl | with_reducible exact Nat.le_trans rbook_few (by decide) | with_reducible exact ⟨by decide, by decide⟩ | with_reducible exact some_pos (by assumption) | with_reducible exact rb_16 | with_reducible exact rs_16 | with_reducible exact less_ok | with_reducible exact less_few | with_reducible exact book_by (by simp) | exact book_by (by simp) | walk_at "sz"))) rfl) ?_
    refine j_ite (fun (v : Bool × Pool) => .ok (D.bl v.1) (mp m l v.2)) (k := (!decide ((D.py ((eL lotD) [(g_first_packing ((1 : Int) + (g__law_take p (5 : Int)).1) (g__law_right_book p)), (g_first_packing ((1 : Int) + (g__law_take p (5 : Int)).1) (g__law_right_book p))])).shown = (D.py ((eL lotD) [(g__law_first_packing (g__law_right_book p)), (g__law_first_packing (g__law_right_book p))])).shown))) (e_neS (x := (D.py ((eL lotD) [(g_first_packing ((1 : Int) + (g__law_take p (5 : Int)).1) (g__law_right_book p)), (g_first_packing ((1 : Int) + (g__law_take p (5 : Int)).1) (g__law_right_book p))])).shown) (y := (D.py ((eL lotD) [(g__law_first_packing (g__law_right_book p)), (g__law_first_packing (g__law_right_book p))])).shown) (e_repr (d := ((eL lotD) [(g_first_packing ((1 : Int) + (g__law_take p (5 : Int)).1) (g__law_right_book p)), (g_first_packing ((1 : Int) + (g__law_take p (5 : Int)).1) (g__law_right_book p))])) (as_ ((eL lotD) ([(g_first_packing ((1 : Int) + (g__law_take p (5 : Int)).1) (g__law_right_book p)), (g_first_packing ((1 : Int) + (g__law_take p (5 : Int)).1) (g__law_right_book p))] : (List (List Int)))) (e_lst (es_cons (e_call (es_cons (e_v (d := (D.int ((1 : Int) + (g__law_take p (5 : Int)).1))) rfl) (es_cons (e_v (d := ((eT lotD) (g__law_right_book p))) rfl) es_nil)) (s_first_packing N (by omega) ((1 : Int) + (g__law_take p (5 : Int)).1) (g__law_right_book p) _ (by first | with_reducible exact things_ok | with_reducible exact things_ok0 | with_reducible exact rbook_ok | with_reducible exact rbook_few | with_reducible exact fun l hl => rlots hl | with_reducible exact Nat.le_trans rbook_few (by decide) | with_reducible exact ⟨by decide, by decide⟩ | with_reducible exact some_pos (by assumption) | with_reducible exact rb_16 | with_reducible exact rs_16 | with_reducible exact less_ok | with_reducible exact less_few | with_reducible exact book_by (by simp) | exact book_by (by simp) | walk_at "sz") (by first | with_reducible exact things_ok | with_reducible exact things_ok0 | with_reducible exact rbook_ok | with_reducible exact rbook_few | with_reducible exact fun l hl => rlots hl | with_reducible exact Nat.le_trans rbook_few (by decide) | with_reducible exact ⟨by decide, by decide⟩ | with_reducible exact some_pos (by assumption) | with_reducible exact rb_16 | with_reducible exact rs_16 | with_reducible exact less_ok | with_reducible exact less_few | with_reducible exact book_by (by simp) | exact book_by (by simp) | walk_at "sz") (by first | with_reducible exact things_ok | with_reducible exact things_ok0 | with_reducible exact rbook_ok | with_reducible exact rbook_few | with_reducible exact fun l hl => rlots hl | with_reducible exact Nat.le_trans rbook_few (by decide) | with_reducible exact ⟨by decide, by decide⟩ | with_reducible exact some_pos (by assumption) | with_reducible exact rb_16 | with_reducible exact rs_16 | with_reducible exact less_ok | with_reducible exact less_few | with_reducible exact book_by (by simp) | exact book_by (by simp) | walk_at "sz"))) (es_cons (e_callK (ws := [((eT lotD) (g__law_right_book p)), (D.int ((1 : Int) + (g__law_take p (5 : Int)).1))]) (as := [(D.int ((1 : Int) + (g__law_take p (5 : Int)).1)), ((eT lotD) (g__law_right_book p))]) es_nil (es_cons (e_v (d := ((eT lotD) (g__law_right_book p))) rfl) (es_cons (e_v (d := (D.int ((1 : Int) + (g__law_take p (5 : Int)).1))) rfl) es_nil)) (by rw [fns_ps', f_first_packing]; rfl) (s_first_packing N (by omega) ((1 : Int) + (g__law_take p (5 : Int)).1) (g__law_right_book p) _ (by first | with_reducible exact things_ok | with_reducible exact things_ok0 | with_reducible exact rbook_ok | with_reducible exact rbook_few | with_reducible exact fun l hl => rlots hl | with_reducible exact Nat.le_trans rbook_few (by decide) | with_reducible exact ⟨by decide, by decide⟩ | with_reducible exact some_pos (by assumption) | with_reducible exact rb_16 | with_reducible exact rs_16 | with_reducible exact less_ok | with_reducible exact less_few | with_reducible exact book_by (by simp) | exact book_by (by simp) | walk_at "sz") (by first | with_reducible exact things_ok | with_reducible exact things_ok0 | with_reducible exact rbook_ok | with_reducible exact rbook_few | with_reducible exact fun l hl => rlots hl | with_reducible exact Nat.le_trans rbook_few (by decide) | with_reducible exact ⟨by decide, by decide⟩ | with_reducible exact some_pos (by assumption) | with_reducible exact rb_16 | with_reducible exact rs_16 | with_reducible exact less_ok | with_reducible exact less_few | with_reducible exact book_by (by simp) | exact book_by (by simp) | walk_at "sz") (by first | with_reducible exact things_ok | with_reducible exact things_ok0 | with_reducible exact rbook_ok | with_reducible exact rbook_few | with_reducible exact fun l hl => rlots hl | with_reducible exact Nat.le_trans rbook_few (by decide) | with_reducible exact ⟨by decide, by decide⟩ | with_reducible exact some_pos (by assumption) | with_reducible exact rb_16 | with_reducible exact rs_16 | with_reducible exact less_ok | with_reducible exact less_few | with_reducible exact book_by (by simp) | exact book_by (by simp) | walk_at "sz"))) es_nil)) (Nat.le_of_ble_eq_true rfl))) (by first | with_reducible exact fit1 | with_reducible exact fit2 | with_reducible exact fit3 | with_reducible exact fit4 | with_reducible exact fit5 | with_reducible exact fit6 | exact fit1 | exact fit2 | exact fit3 | exact fit4 | exact fit5 | exact fit6)) (e_repr (d := ((eL lotD) [(g__law_first_packing (g__law_right_book p)), (g__law_first_packing (g__law_right_book p))])) (as_ ((eL lotD) ([(g__law_first_packing (g__law_right_book p)), (g__law_first_packing (g__law_right_book p))] : (List (List Int)))) (e_lst (es_cons (e_v (d := (lotD (g__law_first_packing (g__law_right_book p)))) rfl) (es_cons (e_v (d := (lotD (g__law_first_packing (g__law_right_book p)))) rfl) es_nil)) (Nat.le_of_ble_eq_true rfl))) (by first | with_reducible exact fit1 | with_reducible exact fit2 | with_reducible exact fit3 | with_reducible exact fit4 | with_reducible exact fit5 | with_reducible exact fit6 | exact fit1 | exact fit2 | exact fit3 | exact fit4 | exact fit5 | exact fit6))) (fun hk6 => ?_) (fun hk6 => ?_)
    · exact j_ret e_c (fin_enc (e := D.bl) (by walk_at "tk"))
    · refine j_ite (fun (v : Bool × Pool) => .ok (D.bl v.1) (mp m l v.2)) (k := (!decide ((D.py ((eL D.int) [(g_packing_number ((1 : Int) + (g__law_take p (5 : Int)).1) (g__law_right_book p)), (g_packing_number ((1 : Int) + (g__law_take p (5 : Int)).1) (g__law_right_book p))])).shown = (D.py ((eL D.int) (List.flatten (List.replicate ((2 : Int)).toNat ([(((g__law_first_packing (g__law_right_book p))).length : Int)] : (List Int)))))).shown))) (e_neS (x := (D.py ((eL D.int) [(g_packing_number ((1 : Int) + (g__law_take p (5 : Int)).1) (g__law_right_book p)), (g_packing_number ((1 : Int) + (g__law_take p (5 : Int)).1) (g__law_right_book p))])).shown) (y := (D.py ((eL D.int) (List.flatten (List.replicate ((2 : Int)).toNat ([(((g__law_first_packing (g__law_right_book p))).length : Int)] : (List Int)))))).shown) (e_repr (d := ((eL D.int) [(g_packing_number ((1 : Int) + (g__law_take p (5 : Int)).1) (g__law_right_book p)), (g_packing_number ((1 : Int) + (g__law_take p (5 : Int)).1) (g__law_right_book p))])) (as_ ((eL D.int) ([(g_packing_number ((1 : Int) + (g__law_take p (5 : Int)).1) (g__law_right_book p)), (g_packing_number ((1 : Int) + (g__law_take p (5 : Int)).1) (g__law_right_book p))] : (List Int))) (e_lst (es_cons (e_call (es_cons (e_v (d := (D.int ((1 : Int) + (g__law_take p (5 : Int)).1))) rfl) (es_cons (e_v (d := ((eT lotD) (g__law_right_book p))) rfl) es_nil)) (s_packing_number N (by omega) ((1 : Int) + (g__law_take p (5 : Int)).1) (g__law_right_book p) _ (by first | with_reducible exact things_ok | with_reducible exact things_ok0 | with_reducible exact rbook_ok | with_reducible exact rbook_few | with_reducible exact fun l hl => rlots hl | with_reducible exact Nat.le_trans rbook_few (by decide) | with_reducible exact ⟨by decide, by decide⟩ | with_reducible exact some_pos (by assumption) | with_reducible exact rb_16 | with_reducible exact rs_16 | with_reducible exact less_ok | with_reducible exact less_few | with_reducible exact book_by (by simp) | exact book_by (by simp) | walk_at "sz") (by first | with_reducible exact things_ok | with_reducible exact things_ok0 | with_reducible exact rbook_ok | with_reducible exact rbook_few | with_reducible exact fun l hl => rlots hl | with_reducible exact Nat.le_trans rbook_few (by decide) | with_reducible exact ⟨by decide, by decide⟩ | with_reducible exact some_pos (by assumption) | with_reducible exact rb_16 | with_reducible exact rs_16 | with_reducible exact less_ok | with_reducible exact less_few | with_reducible exact book_by (by simp) | exact book_by (by simp) | walk_at "sz") (by first | with_reducible exact things_ok | with_reducible exact things_ok0 | with_reducible exact rbook_ok | with_reducible exact rbook_few | with_reducible exact fun l hl => rlots hl | with_reducible exact Nat.le_trans rbook_few (by decide) | with_reducible exact ⟨by decide, by decide⟩ | with_reducible exact some_pos (by assumption) | with_reducible exact rb_16 | with_reducible exact rs_16 | with_reducible exact less_ok | with_reducible exact less_few | with_reducible exact book_by (by simp) | exact book_by (by simp) | walk_at "sz"))) (es_cons (e_callK (ws := [((eT lotD) (g__law_right_book p)), (D.int ((1 : Int) + (g__law_take p (5 : Int)).1))]) (as := [(D.int ((1 : Int) + (g__law_take p (5 : Int)).1)), ((eT lotD) (g__law_right_book p))]) es_nil (es_cons (e_v (d := ((eT lotD) (g__law_right_book p))) rfl) (es_cons (e_v (d := (D.int ((1 : Int) + (g__law_take p (5 : Int)).1))) rfl) es_nil)) (by rw [fns_ps', f_packing_number]; rfl) (s_packing_number N (by omega) ((1 : Int) + (g__law_take p (5 : Int)).1) (g__law_right_book p) _ (by first | with_reducible exact things_ok | with_reducible exact things_ok0 | with_reducible exact rbook_ok | with_reducible exact rbook_few | with_reducible exact fun l hl => rlots hl | with_reducible exact Nat.le_trans rbook_few (by decide) | with_reducible exact ⟨by decide, by decide⟩ | with_reducible exact some_pos (by assumption) | with_reducible exact rb_16 | with_reducible exact rs_16 | with_reducible exact less_ok | with_reducible exact less_few | with_reducible exact book_by (by simp) | exact book_by (by simp) | walk_at "sz") (by first | with_reducible exact things_ok | with_reducible exact things_ok0 | with_reducible exact rbook_ok | with_reducible exact rbook_few | with_reducible exact fun l hl => rlots hl | with_reducible exact Nat.le_trans rbook_few (by decide) | with_reducible exact ⟨by decide, by decide⟩ | with_reducible exact some_pos (by assumption) | with_reducible exact rb_16 | with_reducible exact rs_16 | with_reducible exact less_ok | with_reducible exact less_few | with_reducible exact book_by (by simp) | exact book_by (by simp) | walk_at "sz") (by first | with_reducible exact things_ok | with_reducible exact things_ok0 | with_reducible exact rbook_ok | with_reducible exact rbook_few | with_reducible exact fun l hl => rlots hl | with_reducible exact Nat.le_trans rbook_few (by decide) | with_reducible exact ⟨by decide, by decide⟩ | with_reducible exact some_pos (by assumption) | with_reducible exact rb_16 | with_reducible exact rs_16 | with_reducible exact less_ok | with_reducible exact less_few | with_reducible exact book_by (by simp) | exact book_by (by simp) | walk_at "sz"))) es_nil)) (Nat.le_of_ble_eq_true rfl))) (by first | with_reducible exact fit1 | with_reducible exact fit2 | with_reducible exact fit3 | with_reducible exact fit4 | with_reducible exact fit5 | with_reducible exact fit6 | exact fit1 | exact fit2 | exact fit3 | exact fit4 | exact fit5 | exact fit6)) (e_repr (d := ((eL D.int) (List.flatten (List.replicate ((2 : Int)).toNat ([(((g__law_first_packing (g__law_right_book p))).length : Int)] : (List Int)))))) (e_rep (e1 := D.int) (xs := ([(((g__law_first_packing (g__law_right_book p))).length : Int)] : (List Int))) (j := (2 : Int)) (es_cons (e_len (e1 := D.int) (xs := (g__law_first_packing (g__law_right_book p))) (e_v (d := (lotD (g__law_first_packing (g__law_right_book p)))) rfl) .t) es_nil) e_c ⟨Nat.le_of_ble_eq_true rfl, by decide, by decide, Nat.le_of_ble_eq_true rfl⟩) (by first | with_reducible exact fit1 | with_reducible exact fit2 | with_reducible exact fit3 | with_reducible exact fit4 | with_reducible exact fit5 | with_reducible exact fit6 | exact fit1 | exact fit2 | exact fit3 | exact fit4 | exact fit5 | exact fit6))) (fun hk7 => ?_) (fun hk7 => ?_)
      · exact j_ret e_c (fin_enc (e := D.bl) (by walk_at "tk"))
      · refine j_ite (fun (v : Bool × Pool) => .ok (D.bl v.1) (mp m l v.2)) (k := ((((g__law_right_due p)).isSome && (decide ((Option.getD (g__law_right_due p) default) < (((g__law_first_packing (g__law_right_book p))).length : Int)))) || ((!decide ((g_cover_number ((1 : Int) + (g__law_take p (5 : Int)).1) []) = (some (0 : Int)))) || (!decide ((g_packing_number ((1 : Int) + (g__law_take p (5 : Int)).1) []) = (0 : Int)))))) (e_or (p := (((g__law_right_due p)).isSome && (decide ((Option.getD (g__law_right_due p) default) < (((g__law_first_packing (g__law_right_book p))).length : Int))))) (q := ((!decide ((g_cover_number ((1 : Int) + (g__law_take p (5 : Int)).1) []) = (some (0 : Int)))) || (!decide ((g_packing_number ((1 : Int) + (g__law_take p (5 : Int)).1) []) = (0 : Int))))) (e_and (p := ((g__law_right_due p)).isSome) (q := (decide ((Option.getD (g__law_right_due p) default) < (((g__law_first_packing (g__law_right_book p))).length : Int)))) (e_isNotN D.int (e_v (d := ((eO D.int) (g__law_right_due p))) rfl)) (fun hk11 => (e_gt (e_len (e1 := D.int) (xs := (g__law_first_packing (g__law_right_book p))) (e_v (d := (lotD (g__law_first_packing (g__law_right_book p)))) rfl) .t) (e_vS (e1 := D.int) (o := (g__law_right_due p)) rfl hk11)))) (fun hk8 => (e_or (p := (!decide ((g_cover_number ((1 : Int) + (g__law_take p (5 : Int)).1) []) = (some (0 : Int))))) (q := (!decide ((g_packing_number ((1 : Int) + (g__law_take p (5 : Int)).1) []) = (0 : Int)))) (e_ne (eO D.int) (x := (g_cover_number ((1 : Int) + (g__law_take p (5 : Int)).1) [])) (y := (some (0 : Int))) (e_call (es_cons (e_v (d := (D.int ((1 : Int) + (g__law_take p (5 : Int)).1))) rfl) (es_cons (as_ ((eT lotD) ([] : (List (List Int)))) (e_tup es_nil (Nat.le_of_ble_eq_true rfl))) es_nil)) (s_cover_number N (by omega) ((1 : Int) + (g__law_take p (5 : Int)).1) [] _ (by first | with_reducible exact things_ok | with_reducible exact things_ok0 | with_reducible exact rbook_ok | with_reducible exact rbook_few | with_reducible exact fun l hl => rlots hl | with_reducible exact Nat.le_trans rbook_few (by decide) | with_reducible exact ⟨by decide, by decide⟩ | with_reducible exact some_pos (by assumption) | with_reducible exact rb_16 | with_reducible exact rs_16 | with_reducible exact less_ok | with_reducible exact less_few | with_reducible exact book_by (by simp) | exact book_by (by simp) | walk_at "sz") (by first | with_reducible exact things_ok | with_reducible exact things_ok0 | with_reducible exact rbook_ok | with_reducible exact rbook_few | with_reducible exact fun l hl => rlots hl | with_reducible exact Nat.le_trans rbook_few (by decide) | with_reducible exact ⟨by decide, by decide⟩ | with_reducible exact some_pos (by assumption) | with_reducible exact rb_16 | with_reducible exact rs_16 | with_reducible exact less_ok | with_reducible exact less_few | with_reducible exact book_by (by simp) | exact book_by (by simp) | walk_at "sz"))) e_c) (fun hk9 => (e_ne D.int (x := (g_packing_number ((1 : Int) + (g__law_take p (5 : Int)).1) [])) (y := (0 : Int)) (e_call (es_cons (e_v (d := (D.int ((1 : Int) + (g__law_take p (5 : Int)).1))) rfl) (es_cons (as_ ((eT lotD) ([] : (List (List Int)))) (e_tup es_nil (Nat.le_of_ble_eq_true rfl))) es_nil)) (s_packing_number N (by omega) ((1 : Int) + (g__law_take p (5 : Int)).1) [] _ (by first | with_reducible exact things_ok | with_reducible exact things_ok0 | with_reducible exact rbook_ok | with_reducible exact rbook_few | with_reducible exact fun l hl => rlots hl | with_reducible exact Nat.le_trans rbook_few (by decide) | with_reducible exact ⟨by decide, by decide⟩ | with_reducible exact some_pos (by assumption) | with_reducible exact rb_16 | with_reducible exact rs_16 | with_reducible exact less_ok | with_reducible exact less_few | with_reducible exact book_by (by simp) | exact book_by (by simp) | walk_at "sz") (by first | with_reducible exact things_ok | with_reducible exact things_ok0 | with_reducible exact rbook_ok | with_reducible exact rbook_few | with_reducible exact fun l hl => rlots hl | with_reducible exact Nat.le_trans rbook_few (by decide) | with_reducible exact ⟨by decide, by decide⟩ | with_reducible exact some_pos (by assumption) | with_reducible exact rb_16 | with_reducible exact rs_16 | with_reducible exact less_ok | with_reducible exact less_few | with_reducible exact book_by (by simp) | exact book_by (by simp) | walk_at "sz") (by first | with_reducible exact things_ok | with_reducible exact things_ok0 | with_reducible exact rbook_ok | with_reducible exact rbook_few | with_reducible exact fun l hl => rlots hl | with_reducible exact Nat.le_trans rbook_few (by decide) | with_reducible exact ⟨by decide, by decide⟩ | with_reducible exact some_pos (by assumption) | with_reducible exact rb_16 | with_reducible exact rs_16 | with_reducible exact less_ok | with_reducible exact less_few | with_reducible exact book_by (by simp) | exact book_by (by simp) | walk_at "sz"))) e_c))))) (fun hk13 => ?_) (fun hk13 => ?_)
        · exact j_ret e_c (fin_enc (e := D.bl) (by walk_at "tk"))
        · refine j_ite (fun (v : Bool × Pool) => .ok (D.bl v.1) (mp m l v.2)) (k := (decide ((g__law_right_book p) = []))) (e_eq (eT lotD) (x := (g__law_right_book p)) (y := []) (e_v (d := ((eT lotD) (g__law_right_book p))) rfl) (as_ ((eT lotD) ([] : (List (List Int)))) (e_tup es_nil (Nat.le_of_ble_eq_true rfl)))) (fun hk14 => ?_) (fun hk14 => ?_)
          · exact j_ret e_c (fin_enc (e := D.bl) (by walk_at "tk"))
          · refine j_nx (st_set (ρ1 := [some (.ref l), some (D.int ((1 : Int) + (g__law_take p (5 : Int)).1)), some ((eT lotD) (g__law_right_book p)), some ((eT lotD) (g__law_right_some p)), some ((eO D.int) (g__law_right_due p)), none, some (lotD (g__law_first_packing (g__law_right_book p))), some ((eT lotD) (cut (g__law_right_book p) (some (1 : Int)) none))]) (e_slT (e1 := lotD) (xs := (g__law_right_book p)) (i := (some (1 : Int))) (j := none) (e_v (d := ((eT lotD) (g__law_right_book p))) rfl) (o_yes e_c) rfl o_no rfl (by first | with_reducible exact things_ok | with_reducible exact things_ok0 | with_reducible exact rbook_ok | with_reducible exact rbook_few | with_reducible exact fun l hl => rlots hl | with_reducible exact Nat.le_trans rbook_few (by decide) | with_reducible exact ⟨by decide, by decide⟩ | with_reducible exact some_pos (by assumption) | with_reducible exact rb_16 | with_reducible exact rs_16 | with_reducible exact less_ok | with_reducible exact less_few | with_reducible exact book_by (by simp) | exact book_by (by simp) | walk_at "sz")) rfl) ?_
            exact j_ret (e_and (p := (decide ((g_packing_number ((1 : Int) + (g__law_take p (5 : Int)).1) (cut (g__law_right_book p) (some (1 : Int)) none)) ≤ (((g__law_first_packing (g__law_right_book p))).length : Int)))) (q := (((g__law_right_due p)).isNone || (decide ((Option.getD (g_cover_number ((1 : Int) + (g__law_take p (5 : Int)).1) (cut (g__law_right_book p) (some (1 : Int)) none)) default) ≤ (Option.getD (g__law_right_due p) default))))) (e_le (e_call (es_cons (e_v (d := (D.int ((1 : Int) + (g__law_take p (5 : Int)).1))) rfl) (es_cons (e_v (d := ((eT lotD) (cut (g__law_right_book p) (some (1 : Int)) none))) rfl) es_nil)) (s_packing_number N (by omega) ((1 : Int) + (g__law_take p (5 : Int)).1) (cut (g__law_right_book p) (some (1 : Int)) none) _ (by first | with_reducible exact things_ok | with_reducible exact things_ok0 | with_reducible exact rbook_ok | with_reducible exact rbook_few | with_reducible exact fun l hl => rlots hl | with_reducible exact Nat.le_trans rbook_few (by decide) | with_reducible exact ⟨by decide, by decide⟩ | with_reducible exact some_pos (by assumption) | with_reducible exact rb_16 | with_reducible exact rs_16 | with_reducible exact less_ok | with_reducible exact less_few | with_reducible exact book_by (by simp) | exact book_by (by simp) | walk_at "sz") (by first | with_reducible exact things_ok | with_reducible exact things_ok0 | with_reducible exact rbook_ok | with_reducible exact rbook_few | with_reducible exact fun l hl => rlots hl | with_reducible exact Nat.le_trans rbook_few (by decide) | with_reducible exact ⟨by decide, by decide⟩ | with_reducible exact some_pos (by assumption) | with_reducible exact rb_16 | with_reducible exact rs_16 | with_reducible exact less_ok | with_reducible exact less_few | with_reducible exact book_by (by simp) | exact book_by (by simp) | walk_at "sz") (by first | with_reducible exact things_ok | with_reducible exact things_ok0 | with_reducible exact rbook_ok | with_reducible exact rbook_few | with_reducible exact fun l hl => rlots hl | with_reducible exact Nat.le_trans rbook_few (by decide) | with_reducible exact ⟨by decide, by decide⟩ | with_reducible exact some_pos (by assumption) | with_reducible exact rb_16 | with_reducible exact rs_16 | with_reducible exact less_ok | with_reducible exact less_few | with_reducible exact book_by (by simp) | exact book_by (by simp) | walk_at "sz"))) (e_len (e1 := D.int) (xs := (g__law_first_packing (g__law_right_book p))) (e_v (d := (lotD (g__law_first_packing (g__law_right_book p)))) rfl) .t)) (fun hk15 => (e_or (p := ((g__law_right_due p)).isNone) (q := (decide ((Option.getD (g_cover_number ((1 : Int) + (g__law_take p (5 : Int)).1) (cut (g__law_right_book p) (some (1 : Int)) none)) default) ≤ (Option.getD (g__law_right_due p) default)))) (e_isN D.int (e_v (d := ((eO D.int) (g__law_right_due p))) rfl)) (fun hk17 => (e_le (e_getS (e1 := D.int) (o := (g_cover_number ((1 : Int) + (g__law_take p (5 : Int)).1) (cut (g__law_right_book p) (some (1 : Int)) none))) (e_call (es_cons (e_v (d := (D.int ((1 : Int) + (g__law_take p (5 : Int)).1))) rfl) (es_cons (e_v (d := ((eT lotD) (cut (g__law_right_book p) (some (1 : Int)) none))) rfl) es_nil)) (s_cover_number N (by omega) ((1 : Int) + (g__law_take p (5 : Int)).1) (cut (g__law_right_book p) (some (1 : Int)) none) _ (by first | with_reducible exact things_ok | with_reducible exact things_ok0 | with_reducible exact rbook_ok | with_reducible exact rbook_few | with_reducible exact fun l hl => rlots hl | with_reducible exact Nat.le_trans rbook_few (by decide) | with_reducible exact ⟨by decide, by decide⟩ | with_reducible exact some_pos (by assumption) | with_reducible exact rb_16 | with_reducible exact rs_16 | with_reducible exact less_ok | with_reducible exact less_few | with_reducible exact book_by (by simp) | exact book_by (by simp) | walk_at "sz") (by first | with_reducible exact things_ok | with_reducible exact things_ok0 | with_reducible exact rbook_ok | with_reducible exact rbook_few | with_reducible exact fun l hl => rlots hl | with_reducible exact Nat.le_trans rbook_few (by decide) | with_reducible exact ⟨by decide, by decide⟩ | with_reducible exact some_pos (by assumption) | with_reducible exact rb_16 | with_reducible exact rs_16 | with_reducible exact less_ok | with_reducible exact less_few | with_reducible exact book_by (by simp) | exact book_by (by simp) | walk_at "sz"))) (by first | exact less_some (by assumption) | walk_at "sz")) (e_vS (e1 := D.int) (o := (g__law_right_due p)) rfl (opt_some_of hk17))))))) (fin_enc (e := D.bl) (by walk_at "tk"))
theorem law_true (ns : List Int) (hlen : ns.length ≤ 63) (hbits : ∀ z ∈ ns, Builtin.Int.intBits z ≤ 1048576) : ∃ m, (fns P 14).call "law" [lawIn ns] [] = .ok (.bl true) m := by
  rw [call_eq f_law rfl rfl]
  have hpool : ∀ (k : Int) (m : M), 0 ≤ k ∧ k < 1000000 → (fns P 13).call "_law_bag" [lawIn ns, .int k] m = .ok (.ref m.length) (m ++ [pc (g__law_bag ns k)]) := fun k m hk => s__law_bag 13 (by decide) ns k m hlen hk
  have hright : ∀ (p : Pool) (m : M) (l : Nat), l < m.length → (fns P 13).call "_law_right" [.ref l] (mp m l p) = .ok (.bl true) (mp m l (g__law_right p).2) := fun p m l hl => by
    have z := s__law_right 13 (by decide) p m l hl
    rw [right_true p] at z
    exact z
  show ∃ m, PM.finish false (List.length ([] : M)) (exSs (fns P 13) none b_law [some (lawIn ns), none, none, none] []) = .ok (.bl true) m
  generalize fns P 13 = F at hpool hright
  have all_true : ∀ (n : Nat), List.all (List.replicate n true) id = true := fun n => by simp
  have inner : ∀ (p : Pool) (m : M) (l : Nat) (k j : Option D), l < m.length → ∃ p', exS F none (.ite (.not (.prim .all false (.cons (.comp false [("turn", 3)] (.n 3) (.rng (.cons (.c (.int 15)) .nil)) .no (.call "_law_right" (.cons (.v 2) .nil))) .nil))) (.cons (.ret (.c (.bl false))) .nil) .nil) [some (lawIn ns), k, some (.ref l), j] (mp m l p) = .nx [some (lawIn ns), k, some (.ref l), j] (mp m l p') := fun p m l k j hl => by
    have e := e_compS (F := F) (cl := none) (ρ := [some (lawIn ns), k, some (.ref l), j]) (m := mp m l p) (e1 := D.int) (e2 := D.bl) (xs := rngS 0 15) (own := [("turn", 3)]) (t := .n 3) (it := .rng (.cons (.c (.int 15)) .nil)) (e := .call "_law_right" (.cons (.v 2) .nil)) (r := fun x => [some (lawIn ns), k, some (.ref l), some (.int x)]) (f := fun _ p => (true, (g__law_right p).2)) (p := p) (fun p => mp m l p) (g_rng1 e_c (by decide)) (by rw [rngS_len]; decide) (fun x _ => b_n rfl) (fun x p _ => e_call (es_cons (e_v (d := .ref l) rfl) es_nil) (hright p m l hl))
    refine ⟨_, st_ite (fun m' => .nx [some (lawIn ns), k, some (.ref l), j] m') (x := mp m l (mapS (fun (_ : Int) p => (true, (g__law_right p).2)) (rngS 0 15) p).2) (y := mp m l (mapS (fun (_ : Int) p => (true, (g__law_right p).2)) (rngS 0 15) p).2) (k := false) ?_ (fun h => by cases h) (fun _ => ss_nil)⟩
    have z := e_not (e_all (k := false) e)
    have e2 : List.all (mapS (fun (_ : Int) p => (true, (g__law_right p).2)) (rngS 0 15) p).1 id = true := by
      rw [List.all_eq_true]
      exact mapS_mem (Q := fun b => id b = true) (fun x _ q => rfl)
    rw [e2] at z
    exact z
  have hr : evi F none (.rng (.cons (.prim .max false (.cons (.c (.int 2)) (.cons (.prim .min false (.cons (.prim .len false (.cons (.v 0) .nil)) (.cons (.c (.int 3)) .nil))) .nil))) .nil)) [some (lawIn ns), none, none, none] [] = .ok ((rngS 0 (if (if (3 : Int) < (ns.length : Int) then (3 : Int) else (ns.length : Int)) > 2 then (if (3 : Int) < (ns.length : Int) then (3 : Int) else (ns.length : Int)) else 2)).map D.int) [] :=
    g_rng1 (e_max2 e_c (e_min2 (e_len (e1 := D.int) (xs := ns) (e_v (d := lawIn ns) rfl) .l) e_c)) (by split <;> (try split) <;> omega)
  generalize hv : (if (if (3 : Int) < (ns.length : Int) then (3 : Int) else (ns.length : Int)) > 2 then (if (3 : Int) < (ns.length : Int) then (3 : Int) else (ns.length : Int)) else 2) = v at hr
  have hvb : v ≤ 3 := by rw [← hv]; split <;> (try split) <;> omega
  obtain ⟨ρ', m', e, h1, h2, h3, h4⟩ := forL_inv (b1 := fun d ρ m => bt F none (.n 1) d ρ m) (body := fun ρ m => exSs F none (.cons (.set (.n 2) (.call "_law_bag" (.cons (.v 0) (.cons (.v 1) .nil)))) (.cons (.ite (.not (.prim .all false (.cons (.comp false [("turn", 3)] (.n 3) (.rng (.cons (.c (.int 15)) .nil)) .no (.call "_law_right" (.cons (.v 2) .nil))) .nil))) (.cons (.ret (.c (.bl false))) .nil) .nil) .nil)) ρ m)
    (I := fun _ ρ _ => ∃ a b c, ρ = [some (lawIn ns), a, b, c]) ((rngS 0 v).map D.int) 0 [some (lawIn ns), none, none, none] [] (fun i d ρ m _ hd hI => by
      obtain ⟨a, b, c, rfl⟩ := hI
      obtain ⟨k, hk, rfl⟩ := List.mem_map.mp (List.mem_of_getElem? hd)
      have hk2 := mem_rngS.mp hk
      obtain ⟨p', e⟩ := inner (g__law_bag ns k) (m ++ [pc (g__law_bag ns k)]) m.length (some (.int k)) c (by simp)
      have em : mp (m ++ [pc (g__law_bag ns k)]) m.length (g__law_bag ns k) = m ++ [pc (g__law_bag ns k)] := by simp [mp]
      rw [em] at e
      exact ⟨[some (lawIn ns), some (.int k), b, c], m, [some (lawIn ns), some (.int k), some (.ref m.length), c], _, b_n rfl, ss_nx (st_set (ρ1 := [some (lawIn ns), some (.int k), some (.ref m.length), c]) (e_call (es_cons (e_v (d := lawIn ns) rfl) (es_cons (e_v (d := .int k) rfl) es_nil)) (hpool k m ⟨hk2.1, by omega⟩)) rfl) (ss_nx e ss_nil), _, _, _, rfl⟩) ⟨_, _, _, rfl⟩
  subst h4
  refine ⟨[], ?_⟩
  have e2 : exSs F none b_law [some (lawIn ns), none, none, none] [] = .ret (.bl true) m' := by
    unfold b_law
    exact ss_nx (y_forE hr e) (ss_ret e_c)
  rw [e2]
  exact fin_enc (e := D.bl) (by simp)
end PMG

set_option maxHeartbeats 0
namespace PMG
open PM PySem
def rowTop (i : Nat) : PySem.Stmt := PySem.Challenge.pw_lotbooks_k59_whole_covers_and_packings.main.body.getD i (.Pass ⟨0, 0, 0, 0⟩)
def sts : List PySem.Stmt := [rowTop 6, rowTop 7, rowTop 8, rowTop 9, rowTop 13, rowTop 14, rowTop 15, rowTop 16, rowTop 17, rowTop 18, rowTop 19, rowTop 20, rowTop 21, rowTop 22, rowTop 24, rowTop 25, rowTop 26, rowTop 27, rowTop 28, rowTop 29, rowTop 30, rowTop 32, rowTop 33, rowTop 34, rowTop 35, rowTop 36, rowTop 37, rowTop 38, rowTop 39, rowTop 40, rowTop 41, rowTop 42, rowTop 43]
abbrev Rw : PySem.W.OpenRow := PySem.W.OpenLaw.row PySem.Challenge.rw_lotbooks_k59_whole_covers_and_packings
abbrev hk : PySem.W.Hook := He.hookX 4 (PM.faOf P ics free) (PM.fnL P sts) [] (PM.tfOf P) (PM.exOf P imps)
def ob (s : PySem.W.SharedT) : He.AlX := He.obsX 4 (PM.faOf P ics free) (PM.fnL P sts) [] (PM.tfOf P) (PM.exOf P imps) (HandSHeadRun.getT s)
theorem ob_eq (s : PySem.W.SharedT) : ob s = hk.obs s.abs := He.obsX_eq (HandSHeadRun.getT_eq s)
def loose : List PySem.Str := [("BookError" : PySem.Str), ("InvalidNumber" : PySem.Str), ("InvalidBook" : PySem.Str), ("is_whole" : PySem.Str), ("is_between" : PySem.Str), ("is_row" : PySem.Str), ("first_wrong" : PySem.Str), ("MOST_THINGS" : PySem.Str), ("MOST_LOTS" : PySem.Str), ("is_things" : PySem.Str), ("check_things" : PySem.Str), ("is_thing" : PySem.Str), ("is_lot" : PySem.Str), ("all_lots" : PySem.Str), ("is_within" : PySem.Str), ("common_of" : PySem.Str), ("wrong_lot" : PySem.Str), ("check_lots" : PySem.Str), ("check_book" : PySem.Str), ("does_touch" : PySem.Str), ("touching_by" : PySem.Str), ("cover_by" : PySem.Str), ("packing_by" : PySem.Str), ("cover_number" : PySem.Str), ("packing_number" : PySem.Str), ("first_packing" : PySem.Str), ("_law_bag" : PySem.Str), ("_law_take" : PySem.Str), ("_law_pull" : PySem.Str), ("_law_lots" : PySem.Str), ("_law_book" : PySem.Str), ("_law_meet" : PySem.Str), ("_law_is_within" : PySem.Str), ("_law_some_of" : PySem.Str), ("_law_touching" : PySem.Str), ("_law_first_packing" : PySem.Str), ("_law_right" : PySem.Str)]
theorem ok_all : PM.okP P (PM.ckOf ics imps free shapes) sts = true := by kernel_rfl

theorem run_head (w : PySem.World) : HandSHeadRun.RunEqI Rw (PySem.W.view Rw.prog [0, 43]) hk ob 6000 loose w := by
  unfold HandSHeadRun.RunEqI
  kernel_rfl
end PMG
open PySem PySem.W PySem.Calls PyProof.Rows
theorem PySem.Challenge.cw_lotbooks_k59_whole_covers_and_packings_holds : PySem.Challenge.rw_lotbooks_k59_whole_covers_and_packings.Holds := by
  w_on; o_law
  refine HandSHeadRun.head_imp (r := OpenLaw.row PySem.Challenge.rw_lotbooks_k59_whole_covers_and_packings) (q := view (OpenLaw.row PySem.Challenge.rw_lotbooks_k59_whole_covers_and_packings).prog [0, 43]) (H := PMG.hk) (ob := PMG.ob) (M := 6000) (loose := PMG.loose) (d := HandSHeadRun.topDef (OpenLaw.row PySem.Challenge.rw_lotbooks_k59_whole_covers_and_packings).prog 43) (kwd := []) PMG.ob_eq
    PMG.run_head (by kernel_rfl) (by kernel_rfl) (by kernel_rfl) (by rfl) (by first | assumption | decide +kernel) (by decide +kernel) ⟨rfl, rfl, rfl, rfl, rfl, by decide +kernel⟩ ?hw ?hc
  case hw => w_witness2
  case hc =>
    exact PM.walk_pm (fuel := 14) (dl := PMG.d_law) rfl (by kernel_rfl) ⟨rfl, by decide, by decide⟩ PMG.ok_all (by kernel_rfl) (by kernel_rfl) rfl PMG.law_true
