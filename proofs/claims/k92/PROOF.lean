import PyProof.Rows.All
import Wide.All
import OpenK.AllK
import Wide.FinOn
import HandS.ForMost
import HandS.ForExc
import HandS.Lambda
import HandS.TupAny
import HandS.IsInst
import HandS.Conv
import HandS.RevTup
import HandS.SortRule
import PyProof.ReprLen
import PyProof.ReprRoads
import HandS.Zip
import KE.GoesEnum
import HandS.Style
import HandS.Small
import HandS.CallSlots
import HandS.TryMany
import HandS.ExcField
import HandS.ExcInit
import PySem.Challenge.RW_farfolder_k92_whole_letters_and_pages_ap
import HandS.Wide
import HandS.EndTab
import HandS.ExcIs
import KE.KNest
set_option Elab.async false
set_option linter.all false
section
set_option Elab.async false
set_option linter.all false
/-! EV 1: data, the small language, its evaluator. -/
namespace EV
open PySem

/-- frozen data -/
inductive D where
  | non | bl (b : Bool) | int (i : Int) | str (s : List Nat)
  | tup (xs : List D) | lst (xs : List D) | dct (ks vs : List D)
  | ins (c : Nat) (vs : List D) | fn (i : Nat) | strm
  /-- the text that repr makes -/
  | rp (x : D)
  deriving Inhabited

/-- a value that a name may hold: data, a mutable thing of the running store, a thunk (the def's argument that is a lambda) -/
inductive Vl where
  | d (x : D) | ref (i : Nat) | thk | its (xs : List Vl) | exn (c : Nat) (fs : List D)
  /-- in a block that borrows: what stays when it ends; a thing of the store, read -/
  | h (x : D) | hr (i : Nat) (x : D)
  deriving Inhabited

/-- a mutable thing -/
inductive Cell where
  | lst (xs : List Vl) | dct (ks : List D) (vs : List Vl) | ins (c : Nat) (vs : List Vl)
  deriving Inhabited
abbrev Store := List (Option Cell)
abbrev Env := List (Option Vl)

/-- an answer with draws: k d for each d below m -/
inductive R (α : Type) where
  | ok (a : α) | err | draw (m : Nat) (k : Nat → R α)

namespace R
def bind {α β : Type} : R α → (α → R β) → R β
  | .ok a, f => f a
  | .err, _ => .err
  | .draw m k, f => .draw m fun d => (k d).bind f
/-- every leaf is fine -/
def all {α : Type} (P : α → Prop) : R α → Prop
  | .ok a => P a
  | .err => False
  | .draw m k => 0 < m ∧ ∀ d, d < m → (k d).all P
theorem all_mono {α : Type} {P Q : α → Prop} (h : ∀ a, P a → Q a) : ∀ {r : R α}, r.all P → r.all Q
  | .ok a, q => h a q
  | .draw m k, q => ⟨q.1, fun d hd => all_mono h (q.2 d hd)⟩
theorem all_bind {α β : Type} {P : β → Prop} {f : α → R β} : ∀ {r : R α}, (r.bind f).all P ↔ r.all fun a => (f a).all P
  | .ok a => Iff.rfl
  | .err => Iff.rfl
  | .draw m k => and_congr Iff.rfl (forall_congr' fun d => forall_congr' fun _ => all_bind)
theorem bind_ok {α β : Type} (a : α) (f : α → R β) : (R.ok a).bind f = f a := rfl
end R

/-- an expression's end: a value, or an own error (its class, its fields) -/
inductive EO (α : Type) where
  | v (a : α) (s : Store) | x (c : Nat) (fs : List D) (s : Store)
abbrev E (α : Type) := R (EO α)
def ret {α : Type} (a : α) (s : Store) : E α := .ok (.v a s)
def bnd {α β : Type} (m : E α) (f : α → Store → E β) : E β := R.bind m fun
  | .v a s => f a s
  | .x c fs s => .ok (.x c fs s)
/-- a block's end -/
inductive Out where
  | nx (e : Env) (s : Store) | rt (v : Vl) (s : Store) | bk (e : Env) (s : Store) | ct (e : Env) (s : Store) | x (c : Nat) (fs : List D) (e : Env) (s : Store)
def sBnd {α : Type} (m : E α) (e : Env) (f : α → Store → R Out) : R Out := R.bind m fun
  | .v a s => f a s
  | .x c fs s => .ok (.x c fs e s)

/-! ### data -/
mutual
/-- Python's == of data without dicts and objects -/
def eqB : D → D → Bool
  | .non, .non => true
  | .bl a, .bl b => a == b
  | .bl a, .int j => (if a then 1 else 0) == j
  | .int i, .bl b => i == (if b then 1 else 0)
  | .int i, .int j => i == j
  | .str a, .str b => a == b
  | .lst xs, .lst ys => eqBs xs ys
  | .tup xs, .tup ys => eqBs xs ys
  | _, _ => false
def eqBs : List D → List D → Bool
  | [], [] => true
  | x :: xs, y :: ys => eqB x y && eqBs xs ys
  | _, _ => false
end
mutual
/-- data without dicts and objects, so deep at most -/
def okB : D → Nat → Bool
  | .non, _ => true
  | .bl _, _ => true
  | .int _, _ => true
  | .str s, _ => s.all fun c => decide (c < 128)
  | .lst xs, n => match n with
    | 0 => false
    | m + 1 => okBs xs m
  | .tup xs, n => match n with
    | 0 => false
    | m + 1 => okBs xs m
  | .dct _ _, _ => false
  | .ins _ _, _ => false
  | .fn _, _ => false
  | .strm, _ => false
  | .rp _, _ => false
def okBs : List D → Nat → Bool
  | [], _ => true
  | x :: xs, n => okB x n && okBs xs n
end
mutual
/-- the very same data -/
def sameD : D → D → Bool
  | .non, .non => true
  | .bl a, .bl b => a == b
  | .int i, .int j => i == j
  | .str a, .str b => a == b
  | .tup xs, .tup ys => sameDs xs ys
  | .lst xs, .lst ys => sameDs xs ys
  | .dct ks vs, .dct js us => sameDs ks js && sameDs vs us
  | .ins c vs, .ins d us => c == d && sameDs vs us
  | .fn i, .fn j => i == j
  | .strm, .strm => true
  | .rp a, .rp b => sameD a b
  | _, _ => false
def sameDs : List D → List D → Bool
  | [], [] => true
  | x :: xs, y :: ys => sameD x y && sameDs xs ys
  | _, _ => false
end
mutual
theorem sameD_eq : ∀ {a b : D}, sameD a b = true → a = b
  | .non, b, h => by cases b <;> simp [sameD] at h ⊢
  | .bl a, b, h => by cases b <;> simp [sameD] at h ⊢; exact h
  | .int a, b, h => by cases b <;> simp [sameD] at h ⊢; exact h
  | .str a, b, h => by cases b <;> simp [sameD] at h ⊢; exact h
  | .tup a, b, h => by cases b <;> simp [sameD] at h ⊢; exact sameDs_eq h
  | .lst a, b, h => by cases b <;> simp [sameD] at h ⊢; exact sameDs_eq h
  | .dct a c, b, h => by cases b <;> simp [sameD] at h ⊢; exact ⟨sameDs_eq h.1, sameDs_eq h.2⟩
  | .ins a c, b, h => by cases b <;> simp [sameD] at h ⊢; exact ⟨h.1, sameDs_eq h.2⟩
  | .fn a, b, h => by cases b <;> simp [sameD] at h ⊢; exact h
  | .strm, b, h => by cases b <;> simp [sameD] at h ⊢
  | .rp a, b, h => by cases b <;> simp [sameD] at h ⊢; exact sameD_eq h
theorem sameDs_eq : ∀ {a b : List D}, sameDs a b = true → a = b
  | [], b, h => by cases b <;> simp [sameDs] at h ⊢
  | x :: xs, b, h => by cases b <;> simp [sameDs] at h ⊢; exact ⟨sameD_eq h.1, sameDs_eq h.2⟩
end
mutual
theorem sameD_refl : ∀ a : D, sameD a a = true
  | .non => rfl
  | .bl a => by simp [sameD]
  | .int a => by simp [sameD]
  | .str a => by simp [sameD]
  | .tup a => by simp [sameD, sameDs_refl a]
  | .lst a => by simp [sameD, sameDs_refl a]
  | .dct a c => by simp [sameD, sameDs_refl a, sameDs_refl c]
  | .ins a c => by simp [sameD, sameDs_refl c]
  | .fn a => by simp [sameD]
  | .strm => rfl
  | .rp a => by simp [sameD, sameD_refl a]
theorem sameDs_refl : ∀ a : List D, sameDs a a = true
  | [] => rfl
  | x :: xs => by simp [sameDs, sameD_refl x, sameDs_refl xs]
end
/-- two texts that repr made: told where they are the very same -/
def eqRp : D → D → Option Bool
  | .rp a, .rp b => if sameD a b then some true else none
  | _, _ => none
/-- ==, where it is told -/
def eqD (a b : D) : Option Bool := if okB a 64 && okB b 64 then some (eqB a b) else eqRp a b

inductive BOp where | add | sub | mul | mod | fdiv | pow deriving DecidableEq
inductive COp where | eq | ne | lt | le | gt | ge | isN | notN | isin | notin deriving DecidableEq
inductive Ty where | int | bool | str | list | tuple | dict | own (c : Nat) deriving DecidableEq
inductive Bi where | len | range | range2 | enumr | zip | all | any | sorted | list | tuple | int | min | max | sum | str | dict | repr | abs | listm deriving DecidableEq
inductive Mt where | append | extend | pop | items | values | get | keys deriving DecidableEq
/-- how a call's answer is taken: frozen, adopted as a new mutable thing, or the call runs in this very store -/
inductive Md where | frz | adopt | shared deriving DecidableEq

/-- targets -/
inductive Tg where | nm (i : Nat) | tp (t : Tg) | nil | cons (a b : Tg)

inductive Ex where
  | c (d : D) | v (i : Nat) | gc (x : Nat) (d : D)
  | bin (o : BOp) (a b : Ex) | neg (a : Ex)
  | bo (isAnd : Bool) (a b : Ex) | not (a : Ex)
  | cmp (o : COp) (a b : Ex) | cmp2 (o p : COp) (a b c : Ex)
  | ite (t a b : Ex)
  | tup (es : Ex) | lst (m : Bool) (es : Ex) | dct (m : Bool)
  | ix (a b : Ex) | sl (a lo hi : Ex) | rev (a : Ex)
  | fld (a : Ex) (f : Nat)
  | isi (a : Ex) (ts : List Ty)
  | call (m : Md) (f : Nat) (es : Ex)
  /-- f(k = v, ..), all by names, perm: which of the values each parameter takes -/
  | callk (m : Md) (f : Nat) (perm : List Nat) (es : Ex)
  | met (hs : List (Nat × List Nat × List Nat)) (f : Nat) (b : Ex)
  | nope
  | bi (b : Bi) (es : Ex) | wk (b : Bi) (es : Ex) | wm (m : Mt) (o : Ex) | mt (m : Mt) (o es : Ex)
  | thk
  | lc (m : Bool) (own : List Nat) (tg : Tg) (it cond e : Ex)
  | lc2 (m : Bool) (own own1 : List Nat) (tg : Tg) (it cond : Ex) (tg1 : Tg) (it1 cond1 e : Ex)
  | frz (a : Ex)
  /-- list(range(a)) -/
  | lrg (m : Bool) (a : Ex)
  | nil | cons (a b : Ex)

inductive St where
  | skip | seq (a b : St)
  | ex (e : Ex) | ret (e : Ex)
  | set (t : Tg) (e : Ex)
  | par (is : List Nat) (es : Ex)
  | setix (o i e : Ex) | setfld (o : Ex) (f : Nat) (e : Ex)
  | aug (i : Nat) (o : BOp) (e : Ex)
  | iff (t : Ex) (a b : St)
  | whl (t : Ex) (b : St)
  | for (t : Tg) (it : Ex) (b : St)
  | raise (c : Nat) (es : Ex)
  | tryx (b : St) (hs : St)
  | hd (c : Nat) (i : Nat) (b rest : St)
  | brk | cont | bor (n : Nat) (b : St) | nope
  deriving Inhabited

/-- a def: how many parameters, how many slots, the defaults of the last parameters, the body -/
structure Fn where
  ps : Nat
  slots : Nat
  dfl : List D
  body : St
  deriving Inhabited

/-! ### small steps -/
def geti (st : Store) (i : Nat) : Option Cell := (st[i]?).bind id
/-- elements of a mutable list, all data -/
def dats : List Vl → Option (List D)
  | [] => some []
  | .d x :: r => (dats r).map (x :: ·)
  | _ :: _ => none
/-- data out of a value: a mutable thing that holds data alone is read -/
def snap (st : Store) : Vl → Option D
  | .d x => some x
  | .ref i => match geti st i with
    | some (.lst xs) => (dats xs).map .lst
    | some (.dct ks vs) => (dats vs).map (.dct ks)
    | some (.ins c vs) => (dats vs).map (.ins c)
    | none => none
  | _ => none
def snaps (st : Store) : List Vl → Option (List D)
  | [] => some []
  | v :: r => match snap st v, snaps st r with
    | some x, some y => some (x :: y)
    | _, _ => none
/-- frozen: read, the thing is dead from then on -/
def frzV (st : Store) : Vl → Option (D × Store)
  | .d x => some (x, st)
  | .ref i => (snap st (.ref i)).map fun x => (x, st.set i none)
  | _ => none
def lift {α : Type} (o : Option α) (s : Store) : E α := match o with
  | some a => ret a s
  | none => .err

/-- the items of a sequence -/
def itemsOf (st : Store) : Vl → Option (List Vl)
  | .d (.lst xs) => some (xs.map .d)
  | .d (.tup xs) => some (xs.map .d)
  | .d (.dct ks _) => some (ks.map .d)
  | .ref i => match geti st i with
    | some (.lst xs) => some xs
    | some (.dct ks _) => some (ks.map .d)
    | _ => none
  | _ => none
/-- of a list alone; of a list or a tuple -/
def lstOf (st : Store) : Vl → Option (List Vl)
  | .d (.lst xs) => some (xs.map .d)
  | .ref i => match geti st i with
    | some (.lst xs) => some xs
    | _ => none
  | _ => none
def seqOf (st : Store) : Vl → Option (List Vl)
  | .d (.tup xs) => some (xs.map .d)
  | v => lstOf st v
def lenOf (st : Store) : Vl → Option Nat
  | .d (.str s) => if s.length ≤ 1000000 then some s.length else none
  | v => (itemsOf st v).map List.length
def ixN (n : Nat) (i : Int) : Option Nat := if 0 ≤ i then (if i < n then some i.toNat else none) else if -(n : Int) ≤ i then some (i + n).toNat else none
def keyEq : D → D → Bool
  | .int i, .int j => i == j
  | .str a, .str b => a == b
  | _, _ => false
def lookD (k : D) : List D → List Vl → Option Vl
  | a :: ks, v :: vs => if keyEq a k then some v else lookD k ks vs
  | _, _ => none
def hasD (k : D) : List D → Bool
  | a :: ks => keyEq a k || hasD k ks
  | [] => false
/-- d[k] = v of the entries -/
def repD (k : D) (v : Vl) : List D → List Vl → List Vl
  | a :: ks, b :: vs => (if keyEq a k then v else b) :: repD k v ks vs
  | _, _ => []
def putD (k : D) (v : Vl) (ks : List D) (vs : List Vl) : List D × List Vl := if hasD k ks then (ks, repD k v ks vs) else (ks ++ [k], vs ++ [v])
def isKey : D → Bool
  | .int _ => true
  | .str _ => true
  | _ => false

def truth : Vl → Option Bool
  | .d (.bl b) => some b
  | _ => none

def binD (o : BOp) : D → D → Option D
  | .int i, .int j => match o with
    | .add => some (.int (i + j))
    | .sub => some (.int (i - j))
    | .mul => if (-(2 ^ 64) < i ∧ i < 2 ^ 64) ∨ (-(2 ^ 64) < j ∧ j < 2 ^ 64) then some (.int (i * j)) else none
    | .mod => if j = 0 then none else some (.int (i.fmod j))
    | .fdiv => if j ≠ 0 ∧ j.natAbs < 1073741824 then some (.int (i.fdiv j)) else none
    | .pow => if 0 ≤ j ∧ j ≤ 1000000 ∧ i.natAbs < 2 ^ 64 then some (.int (i ^ j.toNat)) else none
  | .str a, .str b => if o = .add ∧ a.length + b.length ≤ 1000000 then some (.str (a ++ b)) else none
  | .lst a, .lst b => if o = .add ∧ a.length + b.length ≤ 1000000 then some (.lst (a ++ b)) else none
  | .tup a, .tup b => if o = .add ∧ a.length + b.length ≤ 1000000 ∧ a.isEmpty = false then some (.tup (a ++ b)) else none
  | .lst a, .int k => if o = .mul ∧ k < 1000000 ∧ -1000000 < k ∧ a.length * k.toNat ≤ 1000000 then some (.lst (List.replicate k.toNat a).flatten) else none
  | _, _ => none
def anyEq (x : D) (ys : List D) : Option Bool := if okB x 64 && okBs ys 63 then some (ys.any fun y => eqB y x) else none
def inD (x : D) : D → Option Bool
  | .lst ys => anyEq x ys
  | .tup ys => anyEq x ys
  | .dct ks _ => if isKey x then some (hasD x ks) else none
  | .str b => match x with
    | .str [c] => some (decide (c ∈ b))
    | _ => none
  | _ => none
def isNon : D → Bool
  | .non => true
  | _ => false
def cmpD (o : COp) (x y : D) : Option Bool := match o with
  | .eq => eqD x y
  | .ne => (eqD x y).map not
  | .lt => match x, y with | .int i, .int j => some (decide (i < j)) | _, _ => none
  | .le => match x, y with | .int i, .int j => some (decide (i ≤ j)) | _, _ => none
  | .gt => match x, y with | .int i, .int j => some (decide (j < i)) | _, _ => none
  | .ge => match x, y with | .int i, .int j => some (decide (j ≤ i)) | _, _ => none
  | .isN => if isNon y then some (isNon x) else none
  | .notN => if isNon y then some (!isNon x) else none
  | .isin => inD x y
  | .notin => (inD x y).map not
def tyOf : D → Option Ty
  | .bl _ => some .bool
  | .int _ => some .int
  | .str _ => some .str
  | .lst _ => some .list
  | .tup _ => some .tuple
  | .dct _ _ => some .dict
  | .ins c _ => some (.own c)
  | .rp _ => some .str
  | _ => none
def isStrm : D → Bool
  | .strm => true
  | _ => false
def isTy (x : D) (t : Ty) : Bool := tyOf x == some t || (tyOf x == some .bool && t == .int)
def sIx (n d : Nat) : Option Int → Nat
  | none => d
  | some v => if v < 0 then (v + (n : Int)).toNat else min v.toNat n
def cut {α : Type} (xs : List α) (lo hi : Option Int) : List α := (xs.drop (sIx xs.length 0 lo)).take (sIx xs.length xs.length hi - sIx xs.length 0 lo)
def slD (x : D) (lo hi : Option Int) : Option D := match x with
  | .lst xs => some (.lst (cut xs lo hi))
  | .tup xs => some (.tup (cut xs lo hi))
  | .str xs => if xs.length ≤ 1000000 then some (.str (cut xs lo hi)) else none
  | _ => none
def ixD (st : Store) (x : Vl) (y : D) : Option Vl := match x, y with
  | .d (.lst xs), .int i => ((ixN xs.length i).bind fun j => xs[j]?).map .d
  | .d (.tup xs), .int i => ((ixN xs.length i).bind fun j => xs[j]?).map .d
  | .d (.str xs), .int i => if xs.length ≤ 1000000 then ((ixN xs.length i).bind fun j => xs[j]?).map fun c => .d (.str [c]) else none
  | .d (.dct ks vs), k => if isKey k then lookD k ks (vs.map .d) else none
  | .ref r, k => match geti st r, k with
    | some (.lst xs), .int i => (ixN xs.length i).bind fun j => xs[j]?
    | some (.dct ks vs), k => if isKey k then lookD k ks vs else none
    | _, _ => none
  | _, _ => none

/-! ### the evaluator -/
/-- what calls do: by the def's number (in a store), by the def's number with a thunk; what the thunk of the running def does; turns of a while at most -/
structure Cfg where
  call : Nat → List Vl → Store → E Vl
  thk : Store → E Vl
  turns : Nat

/-- a name's value, read -/
def rdV : Vl → Vl
  | .h x => .d x
  | .hr _ x => .d x
  | v => v
def envGet (e : Env) (i : Nat) : Option Vl := ((e[i]?).bind id).map rdV
/-- the slots of a block's own names forgotten -/
def wipeE (e : Env) : List Nat → Env
  | [] => e
  | i :: is => (wipeE e is).set i none
def setTg : Tg → Vl → Env → Option Env
  | .nm i, v, e => some (e.set i (some v))
  | .tp t, .d (.tup xs), e => setTgs t (xs.map .d) e
  | .tp t, .d (.lst xs), e => setTgs t (xs.map .d) e
  | _, _, _ => none
where
  setTgs : Tg → List Vl → Env → Option Env
  | .nil, [], e => some e
  | .cons a b, v :: vs, e => (setTg1 a v e).bind fun e' => setTgs b vs e'
  | _, _, _ => none
  setTg1 : Tg → Vl → Env → Option Env
  | .nm i, v, e => some (e.set i (some v))
  | _, _, _ => none
def allB : List Vl → Option Bool
  | [] => some true
  | .d (.bl b) :: r => (allB r).map (b && ·)
  | _ => none
def anyB : List Vl → Option Bool
  | [] => some false
  | .d (.bl b) :: r => (anyB r).map (b || ·)
  | _ => none
def intsOf : List D → Option (List Int)
  | [] => some []
  | .int i :: r => (intsOf r).map (i :: ·)
  | _ => none
def insI (x : Int) : List Int → List Int
  | [] => [x]
  | y :: ys => if x ≤ y then x :: y :: ys else y :: insI x ys
def sortI : List Int → List Int
  | [] => []
  | x :: xs => insI x (sortI xs)
def pairsOf : List D → Option (List (Int × Int))
  | [] => some []
  | .tup [.int i, .int j] :: r => (pairsOf r).map ((i, j) :: ·)
  | _ => none
def leP (p q : Int × Int) : Bool := if p.1 = q.1 then decide (p.2 ≤ q.2) else decide (p.1 < q.1)
def ascP : List (Int × Int) → Bool
  | [] => true
  | p :: r => r.all (leP p) && ascP r
/-- sorted: ints; pairs of ints that stand so already -/
def sortD (ds : List D) : Option (List D) := match intsOf ds with
  | some l => if l.length < 64 then some ((sortI l).map .int) else none
  | none => match pairsOf ds with
    | some l => if ascP l then some ds else none
    | none => none
/-- the loop of a comprehension: tests and element by f (none: not kept) -/
def compL (f : Vl → Store → E (Option Vl)) : List Vl → List Vl → Store → E (List Vl)
  | [], acc, s => ret acc s
  | x :: xs, acc, s => R.bind (f x s) fun
    | .v (some v) s' => if acc.length < 1000000 then compL f xs (acc ++ [v]) s' else .err
    | .v none s' => compL f xs acc s'
    | .x _ _ _ => .err
/-- the outer loop of a comprehension with two sources -/
def outL (g : Vl → List Vl → Store → E (List Vl)) : List Vl → List Vl → Store → E (List Vl)
  | [], acc, s => ret acc s
  | x :: xs, acc, s => R.bind (g x acc s) fun
    | .v acc s => outL g xs acc s
    | .x _ _ _ => .err
mutual
/-- repr of it is short: how many things, small ints -/
def rpI : D → Bool
  | .non => true
  | .bl _ => true
  | .int i => decide (i.natAbs < 10 ^ 12)
  | .str _ => true
  | .tup xs => rpIs xs
  | .lst xs => rpIs xs
  | _ => false
def rpIs : List D → Bool
  | [] => true
  | x :: xs => rpI x && rpIs xs
end
mutual
def rpW : D → Nat
  | .tup xs => rpWs xs
  | .lst xs => rpWs xs
  | .str xs => xs.length
  | .int _ => 41
  | _ => 0
def rpWs : List D → Nat
  | [] => 0
  | x :: xs => rpW x + 1 + rpWs xs
end
def isSeq : D → Bool
  | .tup _ => true
  | .lst _ => true
  | _ => false
def rpD (x : D) : Option D := if isSeq x && okB x 62 && rpI x && decide (rpW x ≤ 2 ^ 20) then some (.rp x) else none
/-- list(v), a mutable thing -/
def listmE (v : Vl) (st : Store) : E Vl := match (itemsOf st v).bind dats with
  | some l => ret (.ref st.length) (st ++ [some (.lst (l.map .d))])
  | none => .err
def biE (b : Bi) (vs : List Vl) (st : Store) : E Vl := match b, vs with
  | .listm, [v] => listmE v st
  | .repr, [v] => lift (((snap st v).bind rpD).map .d) st
  | .len, [v] => lift ((lenOf st v).map fun (n : Nat) => Vl.d (.int (n : Int))) st
  | .all, [v] => lift (((lstOf st v).bind allB).map fun b => .d (.bl b)) st
  | .any, [v] => lift (((lstOf st v).bind anyB).map fun b => .d (.bl b)) st
  | .sorted, [v] => lift ((((lstOf st v).bind dats).bind sortD).map fun l => .d (.lst l)) st
  | .list, [v] => lift (((itemsOf st v).bind dats).map fun l => .d (.lst l)) st
  | .tuple, [v] => lift (((seqOf st v).bind dats).map fun l => .d (.tup l)) st
  | .int, [.d (.int i)] => ret (.d (.int i)) st
  | .int, [.d (.bl b)] => ret (.d (.int (if b then 1 else 0))) st
  | _, _ => .err
/-- a mutable list -/
def isLstV (st : Store) : Vl → Bool
  | .ref r => match geti st r with
    | some (.lst _) => true
    | _ => false
  | _ => false
def mtE (m : Mt) (o : Vl) (vs : List Vl) (st : Store) : E Vl := match m, o, vs with
  | .append, .ref r, [v] => match geti st r with
    | some (.lst xs) => if xs.length < 1000000 then ret (.d .non) (st.set r (some (.lst (xs ++ [v])))) else .err
    | _ => .err
  | .extend, .ref r, [v] => match geti st r, lstOf st v with
    | some (.lst xs), some ys => if xs.length + ys.length ≤ 1000000 then ret (.d .non) (st.set r (some (.lst (xs ++ ys)))) else .err
    | _, _ => .err
  | .pop, .ref r, [.d (.int i)] => match geti st r with
    | some (.lst xs) => match (ixN xs.length i).bind fun j => (xs[j]?).map fun v => (j, v) with
      | some (j, v) => ret v (st.set r (some (.lst (xs.eraseIdx j))))
      | none => .err
    | _ => .err
  | _, _, _ => .err
def range (lo hi : Int) : List Vl := (List.range (hi - lo).toNat).map fun (k : Nat) => .d (.int (lo + (k : Int)))
def enum (vs : List D) : List Vl := List.zipWith (fun (i : Nat) x => .d (.tup [.int (i : Int), x])) (List.range vs.length) vs
def zip2 (xs ys : List D) : List Vl := List.zipWith (fun x y => .d (.tup [x, y])) xs ys
/-- what is walked -/
def itsOf : Vl → Option (List Vl)
  | .its xs => some xs
  | .d (.lst xs) => some (xs.map .d)
  | .d (.tup xs) => some (xs.map .d)
  | _ => none
def partOf : Vl → Option (Option Int)
  | .its [] => some none
  | .d (.int i) => some (some i)
  | _ => none
/-- the built-ins that are walked -/
def wkE (b : Bi) (vs : List Vl) (st : Store) : E Vl := match b, vs with
  | .range, [.d (.int i)] => if -1000000 < i ∧ i < 1000000 then ret (.its (range 0 i)) st else .err
  | .range2, [.d (.int i), .d (.int j)] => if -1000000 < i ∧ i < 1000000 ∧ -1000000 < j ∧ j < 1000000 then ret (.its (range i j)) st else .err
  | .enumr, [.d (.lst l)] => ret (.its (enum l)) st
  | .enumr, [.d (.tup l)] => ret (.its (enum l)) st
  | .zip, [.d (.lst l), .d (.lst k)] => ret (.its (zip2 l k)) st
  | .zip, [.d (.tup l), .d (.tup k)] => ret (.its (zip2 l k)) st
  | _, _ => .err
def wmE (m : Mt) (v : Vl) (st : Store) : E Vl := match m with
  | .items => match snap st v with
    | some (.dct ks vs) => ret (.its (zip2 ks vs)) st
    | _ => .err
  | .values => match snap st v with
    | some (.dct _ vs) => ret (.its (vs.map .d)) st
    | _ => .err
  | _ => .err
def callE (F : Cfg) (m : Md) (f : Nat) (vs : List Vl) (st : Store) : E Vl := match m with
  | .shared => F.call f vs st
  | .frz => match dats vs with
    | some ds => R.bind (F.call f (ds.map .d) []) fun
      | .v v s' => lift ((snap s' v).map .d) st
      | .x c fs _ => .ok (.x c fs st)
    | none => .err
  | .adopt => match dats vs with
    | some ds => R.bind (F.call f (ds.map .d) []) fun
      | .v (.ref r) s' => match snap s' (.ref r) with
        | some (.lst xs) => ret (.ref st.length) (st ++ [some (.lst (xs.map .d))])
        | some (.dct ks vs) => ret (.ref st.length) (st ++ [some (.dct ks (vs.map .d))])
        | _ => .err
      | .v _ _ => .err
      | .x c fs _ => .ok (.x c fs st)
    | none => .err

/-- how many items are written -/
def exLen : Ex → Nat
  | .cons _ b => exLen b + 1
  | _ => 0
/-- what the def makes that asks and tells how it was met -/
def metE (hs : List (Nat × List Nat × List Nat)) : EO Vl → E Vl
  | .v (.d x) s => ret (.d (.tup [.str [116, 111, 108, 100], x])) s
  | .v _ _ => .err
  | .x c fs s => match hs.lookup c with
    | some (tag, is) => match is.mapM fun i => fs[i]? with
      | some us => ret (.d (.tup (.str tag :: if is.isEmpty then [.non] else us))) s
      | none => .err
    | none => .err
def evE (F : Cfg) : Ex → Env → Store → E Vl
  | .c d, _, st => ret (.d d) st
  | .v i, e, st => lift (envGet e i) st
  | .nope, _, _ => .err
  | .met hs _ b, e, st => R.bind (evE F b e st) (metE hs)
  | .gc _ d, _, st => ret (.d d) st
  | .bin o a b, e, st => bnd (evE F a e st) fun x st => bnd (evE F b e st) fun y st =>
      match snap st x, snap st y with
      | some x, some y => lift ((binD o x y).map .d) st
      | _, _ => .err
  | .neg a, e, st => bnd (evE F a e st) fun x st => match x with
      | .d (.int i) => ret (.d (.int (-i))) st
      | _ => .err
  | .bo k a b, e, st => bnd (evE F a e st) fun x st => match truth x with
      | some t => if t = k then evE F b e st else ret x st
      | none => .err
  | .not a, e, st => bnd (evE F a e st) fun x st => lift ((truth x).map fun t => .d (.bl (!t))) st
  | .cmp o a b, e, st => bnd (evE F a e st) fun x st => bnd (evE F b e st) fun y st =>
      match snap st x, snap st y with
      | some x, some y => lift ((cmpD o x y).map fun t => .d (.bl t)) st
      | _, _ => .err
  | .cmp2 o p a b c, e, st => bnd (evE F a e st) fun x st => bnd (evE F b e st) fun y st =>
      match snap st x, snap st y with
      | some x, some y' => match cmpD o x y' with
        | some true => bnd (evE F c e st) fun z st => match snap st y, snap st z with
          | some y, some z => lift ((cmpD p y z).map fun t => .d (.bl t)) st
          | _, _ => .err
        | some false => ret (.d (.bl false)) st
        | none => .err
      | _, _ => .err
  | .ite t a b, e, st => bnd (evE F t e st) fun x st => match truth x with
      | some true => evE F a e st
      | some false => evE F b e st
      | none => .err
  | .tup es, e, st => bnd (evE F es e st) fun vs st => match vs with
      | .its vs => lift ((dats vs).bind fun l => if l.length ≤ 1000000 then some (.d (.tup l)) else none) st
      | _ => .err
  | .lst m es, e, st => bnd (evE F es e st) fun vs st => match vs with
      | .its vs => if m then (if vs.length ≤ 1000000 then ret (.ref st.length) (st ++ [some (.lst vs)]) else .err) else lift ((dats vs).bind fun l => if l.length ≤ 1000000 then some (.d (.lst l)) else none) st
      | _ => .err
  | .dct m, _, st => if m then ret (.ref st.length) (st ++ [some (.dct [] [])]) else ret (.d (.dct [] [])) st
  | .ix a b, e, st => bnd (evE F a e st) fun x st => bnd (evE F b e st) fun y st =>
      match y with
      | .d y => lift (ixD st x y) st
      | _ => .err
  | .sl a lo hi, e, st => bnd (evE F a e st) fun x st => bnd (evE F lo e st) fun l st => match partOf l with
      | none => .err
      | some l => bnd (evE F hi e st) fun h st => match snap st x, partOf h with
        | some x, some h => lift ((slD x l h).map .d) st
        | _, _ => .err
  | .rev a, e, st => bnd (evE F a e st) fun x st => match snap st x with
      | some (.lst xs) => ret (.d (.lst xs.reverse)) st
      | _ => .err
  | .fld a f, e, st => bnd (evE F a e st) fun x st => match x with
      | .d (.ins _ vs) => lift ((vs[f]?).map .d) st
      | .exn _ vs => lift ((vs[f]?).map .d) st
      | .ref r => match geti st r with
        | some (.ins _ vs) => lift (vs[f]?) st
        | _ => .err
      | _ => .err
  | .isi a ts, e, st => bnd (evE F a e st) fun x st => match snap st x with
      | some x => if isStrm x then .err else ret (.d (.bl (ts.any (isTy x)))) st
      | none => .err
  | .call m f es, e, st => bnd (evE F es e st) fun vs st => match vs with
      | .its vs => if vs.length = exLen es then callE F m f vs st else .err
      | _ => .err
  | .callk m f perm es, e, st => bnd (evE F es e st) fun vs st => match vs with
      | .its vs => if vs.length = exLen es then match perm.mapM fun j => vs[j]? with
          | some us => callE F m f us st
          | none => .err
        else .err
      | _ => .err
  | .bi b es, e, st => bnd (evE F es e st) fun vs st => match vs with
      | .its vs => biE b vs st
      | _ => .err
  | .wk b es, e, st => bnd (evE F es e st) fun vs st => match vs with
      | .its vs => wkE b vs st
      | _ => .err
  | .wm m o, e, st => bnd (evE F o e st) fun x st => wmE m x st
  | .mt m o es, e, st => bnd (evE F o e st) fun x st => if isLstV st x then bnd (evE F es e st) fun vs st => match vs with
      | .its vs => mtE m x vs st
      | _ => .err
    else .err
  | .thk, _, st => F.thk st
  | .lc m own tg it cond x, e, st => bnd (evE F it e st) fun w st => match itsOf w with
      | none => .err
      | some vs =>
        bnd (compL (fun v st => match setTg tg v (wipeE e own) with
          | some e' => bnd (evE F cond e' st) fun t st => match truth t with
            | some true => bnd (evE F x e' st) fun y st => ret (some y) st
            | some false => ret none st
            | none => .err
          | none => .err) vs [] st) fun ys st =>
        if m then ret (.ref st.length) (st ++ [some (.lst ys)]) else lift ((dats ys).map fun l => .d (.lst l)) st
  | .lc2 m own own1 tg it cond tg1 it1 cond1 x, e, st => bnd (evE F it e st) fun w st => match itsOf w with
      | none => .err
      | some vs =>
        bnd (outL (fun v acc st => match setTg tg v (wipeE e own) with
          | none => .err
          | some e2 => bnd (evE F cond e2 st) fun t st => match truth t with
            | none => .err
            | some false => ret acc st
            | some true => bnd (evE F it1 e2 st) fun w1 st => match itsOf w1 with
              | none => .err
              | some vs1 => compL (fun v st => match setTg tg1 v (wipeE e2 own1) with
                | some e' => bnd (evE F cond1 e' st) fun t st => match truth t with
                  | some true => bnd (evE F x e' st) fun y st => ret (some y) st
                  | some false => ret none st
                  | none => .err
                | none => .err) vs1 acc st) vs [] st) fun ys st =>
        if m then ret (.ref st.length) (st ++ [some (.lst ys)]) else lift ((dats ys).map fun l => .d (.lst l)) st
  | .frz a, e, st => bnd (evE F a e st) fun x st => match frzV st x with
      | some (x, st) => ret (.d x) st
      | none => .err
  | .lrg m a, e, st => bnd (evE F a e st) fun x st => match x with
      | .d (.int i) => if -1000000 < i ∧ i < 1000000 then (if m then ret (.ref st.length) (st ++ [some (.lst (((List.range i.toNat).map fun k => D.int (k : Nat)).map .d))]) else ret (.d (.lst ((List.range i.toNat).map fun k => D.int (k : Nat)))) st) else .err
      | _ => .err
  | .nil, _, st => ret (.its []) st
  | .cons a b, e, st => bnd (evE F a e st) fun x st => bnd (evE F b e st) fun y st => match y with
      | .its ys => ret (.its (x :: ys)) st
      | _ => .err

/-! ### statements -/
def setPar : List Nat → List Vl → Env → Option Env
  | [], [], e => some e
  | i :: is, v :: vs, e => setPar is vs (e.set i (some v))
  | _, _, _ => none
/-- o[i] = v -/
def setIx (st : Store) (o : Vl) (i : Vl) (v : Vl) : Option Store := match o, i with
  | .ref r, .d k => match geti st r, k with
    | some (.lst xs), .int n => (ixN xs.length n).map fun j => st.set r (some (.lst (xs.set j v)))
    | some (.dct ks vs), k => if isKey k ∧ ks.length < 1000000 then some (st.set r (some (.dct (putD k v ks vs).1 (putD k v ks vs).2))) else none
    | _, _ => none
  | _, _ => none
/-- o.f = v -/
def setFld (st : Store) (o : Vl) (f : Nat) (v : Vl) : Option Store := match o with
  | .ref r => match geti st r with
    | some (.ins c vs) => if f < vs.length then some (st.set r (some (.ins c (vs.set f v)))) else if f = vs.length then some (st.set r (some (.ins c (vs ++ [v])))) else none
    | _ => none
  | _ => none
def whlL (t : Env → Store → E Vl) (b : Env → Store → R Out) : Nat → Env → Store → R Out
  | 0, _, _ => .err
  | n + 1, e, st => sBnd (t e st) e fun v st => match truth v with
    | some true => R.bind (b e st) fun
      | .nx e st => whlL t b n e st
      | .ct e st => whlL t b n e st
      | .bk e st => .ok (.nx e st)
      | o => .ok o
    | some false => .ok (.nx e st)
    | none => .err
def forL (t : Tg) (b : Env → Store → R Out) : List Vl → Env → Store → R Out
  | [], e, st => .ok (.nx e st)
  | x :: xs, e, st => match setTg t x e with
    | none => .err
    | some e => R.bind (b e st) fun
      | .nx e st => forL t b xs e st
      | .ct e st => forL t b xs e st
      | .bk e st => .ok (.nx e st)
      | o => .ok o
/-- a block that borrows: the store's things are read only in it -/
def borE (st : Store) : Option Vl → Option Vl
  | some (.d x) => some (.h x)
  | some (.h x) => some (.h x)
  | some (.ref i) => (snap st (.ref i)).map (.hr i)
  | _ => none
def flat : D → Bool
  | .non => true
  | .bl _ => true
  | .int _ => true
  | .str _ => true
  | .rp _ => true
  | _ => false
def retE : Option Vl → Option Vl
  | some (.h x) => some (.d x)
  | some (.hr i _) => some (.ref i)
  | some (.d x) => if flat x then some (.d x) else none
  | _ => none
def borO (st : Store) : Out → R Out
  | .nx e s => .ok (.nx (e.map retE) (st ++ List.replicate (s.length - st.length) none))
  | .bk e s => .ok (.bk (e.map retE) (st ++ List.replicate (s.length - st.length) none))
  | .ct e s => .ok (.ct (e.map retE) (st ++ List.replicate (s.length - st.length) none))
  | .rt (.d x) s => if flat x then .ok (.rt (.d x) (st ++ List.replicate (s.length - st.length) none)) else .err
  | .rt _ _ => .err
  | .x _ _ _ _ => .err
def augI : BOp → Int → Int → Option Int
  | .add, a, b => some (a + b)
  | .sub, a, b => some (a - b)
  | _, _, _ => none
def evS (F : Cfg) : St → Env → Store → R Out
  | .skip, e, st => .ok (.nx e st)
  | .nope, _, _ => .err
  | .bor _ b, e, st => R.bind (evS F b (e.map (borE st)) (st.map fun _ => none)) (borO st)
  | .seq a b, e, st => R.bind (evS F a e st) fun
    | .nx e st => evS F b e st
    | o => .ok o
  | .ex x, e, st => sBnd (evE F x e st) e fun _ st => .ok (.nx e st)
  | .ret x, e, st => sBnd (evE F x e st) e fun v st => .ok (.rt v st)
  | .set t x, e, st => sBnd (evE F x e st) e fun v st => match setTg t v e with
    | some e => .ok (.nx e st)
    | none => .err
  | .par is es, e, st => sBnd (evE F es e st) e fun v st => match v with
    | .its vs => match setPar is vs e with
      | some e => .ok (.nx e st)
      | none => .err
    | _ => .err
  | .setix o i x, e, st => sBnd (evE F x e st) e fun v st => sBnd (evE F o e st) e fun o st => sBnd (evE F i e st) e fun i st => match setIx st o i v with
    | some st => .ok (.nx e st)
    | none => .err
  | .setfld o f x, e, st => sBnd (evE F x e st) e fun v st => sBnd (evE F o e st) e fun o st => match setFld st o f v with
    | some st => .ok (.nx e st)
    | none => .err
  | .aug i o x, e, st => match envGet e i with
    | some (.d (.int a)) => sBnd (evE F x e st) e fun v st => match v with
      | .d (.int b) => match augI o a b with
        | some c => .ok (.nx (e.set i (some (.d (.int c)))) st)
        | none => .err
      | _ => .err
    | _ => .err
  | .iff t a b, e, st => sBnd (evE F t e st) e fun v st => match truth v with
    | some true => evS F a e st
    | some false => evS F b e st
    | none => .err
  | .whl t b, e, st => whlL (evE F t) (evS F b) F.turns e st
  | .for t it b, e, st => sBnd (evE F it e st) e fun w st => match itsOf w with
    | some vs => forL t (evS F b) vs e st
    | none => .err
  | .raise c es, e, st => sBnd (evE F es e st) e fun v st => match v with
    | .its vs => match dats vs with
      | some fs => if fs.length = exLen es then .ok (.x c fs e st) else .err
      | none => .err
    | _ => .err
  | .tryx b hs, e, st => R.bind (evS F b e st) fun
    | .x c fs e st => evH F hs c fs e st
    | o => .ok o
  | .hd _ _ _ _, _, _ => .err
  | .brk, e, st => .ok (.bk e st)
  | .cont, e, st => .ok (.ct e st)
where
  /-- the clauses of a try -/
  evH (F : Cfg) : St → Nat → List D → Env → Store → R Out
  | .hd c' i b rest, c, fs, e, st => if c = c' then
      R.bind (evS F b (e.set i (some (.exn c fs))) st) fun
      | .nx e st => .ok (.nx (e.set i none) st)
      | .bk e st => .ok (.bk (e.set i none) st)
      | .ct e st => .ok (.ct (e.set i none) st)
      | .x _ _ _ _ => .err
      | o => .ok o
    else evH F rest c fs e st
  | .skip, c, fs, e, st => .ok (.x c fs e st)
  | _, _, _, _, _ => .err

inductive FnK where | plain (f : Fn) | draw | spring deriving Inhabited
def fill (f : Fn) (vs : List Vl) : List Vl := vs ++ (f.dfl.drop (f.dfl.length + vs.length - f.ps)).map .d
def runFn (F : Cfg) (f : Fn) (vs : List Vl) (st : Store) : E Vl :=
  if (fill f vs).length = f.ps then
    R.bind (evS F f.body ((fill f vs).map some ++ List.replicate (f.slots - f.ps) none) st) fun
    | .rt v s => .ok (.v v s)
    | .nx _ s => .ok (.v (.d .non) s)
    | .x c fs _ s => .ok (.x c fs s)
    | _ => .err
  else .err
def drawE (vs : List Vl) (st : Store) : E Vl := match vs with
  | [.d .strm, .d (.int m)] => if 0 < m ∧ m < 1000000 then .draw m.toNat fun d => ret (.d (.int d)) st else .err
  | _ => .err
def callN (fns : List FnK) (turns : Nat) : Nat → Nat → List Vl → Store → E Vl
  | 0, _, _, _ => .err
  | n + 1, f, vs, st => match fns[f]? with
    | some (.plain fn) => runFn ⟨callN fns turns n, fun _ => .err, turns⟩ fn vs st
    | some .draw => drawE vs st
    | some .spring => ret (.d .strm) st
    | none => .err
end EV

end
section
set_option Elab.async false
set_option linter.all false
set_option maxRecDepth 100000
set_option maxHeartbeats 4000000
/-! EV 2: how data, values, stores lie in the abstract heap. -/
namespace EV
open PySem PySem.Spec PyProof.Rows L2
open LamX (Tabs TabS CodeO)

def sOf (s : List Nat) : Str := ⟨s.toArray⟩
theorem sOf_len (s : List Nat) : (sOf s).length = s.length := by simp [sOf, Str.length]
theorem sOf_inj {a b : List Nat} (h : sOf a = sOf b) : a = b := by
  unfold sOf at h; injection h with h; simpa using h

/-- nothing stands there, but for a table of code -/
def Nn (H : Hp) (q : Addr) : Prop := ∀ o, H q = some o → ∃ ps, o = .tbl ps
theorem Nn.none {H : Hp} {q : Addr} (h : H q = none) : Nn H q := fun o e => by rw [h] at e; cases e
theorem Nn.kept {H H' : Hp} {q : Addr} (k : ∀ o, H q = some o → H' q = some o) (h : Nn H' q) : Nn H q := fun o e => h o (k o e)
theorem Nn.no {H : Hp} {q : Addr} {o : HO} (h : H q = some o) (n : ∀ ps, o ≠ .tbl ps) : ¬ Nn H q := fun z => let ⟨ps, e⟩ := z o h; n ps e
/-- the fixed ground: the written part, where the spring stands -/
structure Gd where
  sp : Addr
  sc : Addr
  /-- the tables of the lambdas' code -/
  T : List (Addr × Str)
/-- where the mutable things stand; what no data may lie at besides -/
structure Wd where
  cells : List (Option Addr)
  av : Addr → Prop
  hc : Nat → Option Addr
def Wd.live (W : Wd) (a : Addr) : Prop := ∃ i : Nat, W.cells[i]? = some (some a)
/-- what may change -/
def Mv (G : Gd) (W : Wd) (a : Addr) : Prop := W.live a ∨ a = G.sp ∨ a = G.sc
/-- where no data lies -/
def Av (G : Gd) (W : Wd) (a : Addr) : Prop := Mv G W a ∨ W.av a
/-- nor what stays behind a block that borrows -/
def Ah (G : Gd) (W : Wd) (a : Addr) : Prop := Av G W a ∨ ∃ i, W.hc i = some a

def keyOf : D → Option Key
  | .int i => some (.inl i)
  | .str s => some (.inr (sOf s))
  | _ => none
def KeysOk : List D → List (Key × V) → Prop
  | [], [] => True
  | k :: ks, p :: ps => keyOf k = some p.1 ∧ KeysOk ks ps
  | _, _ => False
mutual
def toPy : D → PyData
  | .bl b => .bool b
  | .int i => .int i
  | .str s => .str (sOf s)
  | .tup xs => .tuple (toPys xs)
  | .lst xs => .list (toPys xs)
  | _ => .none
def toPys : List D → List PyData
  | [] => []
  | x :: xs => toPy x :: toPys xs
end
mutual
/-- v is the data d in H, none of its things at an address of A -/
def VR (G : Gd) (A : Addr → Prop) (H : Hp) : D → V → Prop
  | .non, v => v = .non
  | .bl b, v => v = .bl b
  | .int i, v => v = .int i
  | .str s, v => v = .str (sOf s)
  | .tup ds, v => ∃ p vs, v = .ref p ∧ H p = some (.tup vs) ∧ ¬ A p ∧ VRs G A H ds vs
  | .lst ds, v => ∃ p vs, v = .ref p ∧ H p = some (.lst vs) ∧ ¬ A p ∧ VRs G A H ds vs
  | .dct ks us, v => ∃ p kvs, v = .ref p ∧ H p = some (.dK kvs) ∧ ¬ A p ∧ KeysOk ks kvs ∧ VRs G A H us (kvs.map (·.2))
  | .ins _ _, _ => False
  | .fn _, _ => False
  | .strm, v => v = .ref G.sp
  | .rp x, v => v = .str (toPy x).shown
def VRs (G : Gd) (A : Addr → Prop) (H : Hp) : List D → List V → Prop
  | [], vs => vs = []
  | d :: ds, vs => ∃ w ws, vs = w :: ws ∧ VR G A H d w ∧ VRs G A H ds ws
end

/-- the same but for the outermost thing, which may stand anywhere -/
def VT (G : Gd) (A : Addr → Prop) (H : Hp) : D → V → Prop
  | .lst ds, v => ∃ p vs, v = .ref p ∧ H p = some (.lst vs) ∧ VRs G A H ds vs
  | .dct ks us, v => ∃ p kvs, v = .ref p ∧ H p = some (.dK kvs) ∧ KeysOk ks kvs ∧ VRs G A H us (kvs.map (·.2))
  | d, v => VR G A H d v
theorem VR.top {G : Gd} {A : Addr → Prop} {H : Hp} : ∀ {d : D} {v : V}, VR G A H d v → VT G A H d v
  | .lst _, _, h => by
    unfold VR at h
    obtain ⟨p, vs, e, h1, _, h2⟩ := h
    exact ⟨p, vs, e, h1, h2⟩
  | .dct _ _, _, h => by
    unfold VR at h
    obtain ⟨p, kvs, e, h1, _, h2, h3⟩ := h
    exact ⟨p, kvs, e, h1, h2, h3⟩
  | .non, _, h => h
  | .bl _, _, h => h
  | .int _, _, h => h
  | .str _, _, h => h
  | .tup _, _, h => h
  | .ins _ _, _, h => h
  | .fn _, _, h => h
  | .strm, _, h => h
  | .rp _, _, h => h

/-- values of names -/
def VlR (G : Gd) (W : Wd) (H : Hp) : Vl → V → Prop
  | .d x, v => VR G (Av G W) H x v
  | .ref i, v => i < W.cells.length ∧ ∀ a, W.cells[i]? = some (some a) → v = .ref a
  | .thk, _ => False
  | .its _, _ => False
  | .exn _ _, _ => False
  | .h x, v => VR G (Ah G W) H x v
  | .hr i x, v => ∃ a, W.hc i = some a ∧ v = .ref a ∧ VR G (Av G W) H x v
abbrev VlRs (G : Gd) (W : Wd) (H : Hp) : List Vl → List V → Prop := Paired (VlR G W H)

/-- a mutable thing at a -/
def CellR (G : Gd) (W : Wd) (H : Hp) (a : Addr) : Cell → Prop
  | .lst xs => ∃ vs, H a = some (.lst vs) ∧ VlRs G W H xs vs
  | .dct ks us => ∃ kvs : List (Key × V), H a = some (.dK kvs) ∧ KeysOk ks kvs ∧ VlRs G W H us (kvs.map (·.2))
  | .ins _ _ => False

/-- the spring: its list of four, its cells; b draws may still come -/
def SprOk (G : Gd) (H : Hp) (b : Nat) : Prop :=
  ∃ (ns : List Int) (g m : Int) (c : Nat), H G.sp = some (.lst [.ref G.sc, .int g, .int c, .int m]) ∧ H G.sc = some (.lst (ns.map V.int)) ∧ G.sp ≠ G.sc ∧
    0 ≤ g ∧ g.natAbs < 2 ^ 1048576 ∧ (∀ n ∈ ns, n.natAbs < 2 ^ 1048576) ∧ ns.length ≤ 63 ∧ 0 ≤ m ∧ m < 2147483647 ∧ c + b ≤ 2 ^ 40

/-- the store st lies in H by W -/
structure Rel (G : Gd) (W : Wd) (st : Store) (b : Nat) (H : Hp) : Prop where
  len : W.cells.length = st.length
  inj : ∀ (i j : Nat) a, W.cells[i]? = some (some a) → W.cells[j]? = some (some a) → i = j
  cell : ∀ (i : Nat) c, st[i]? = some (some c) → ∃ a, W.cells[i]? = some (some a) ∧ CellR G W H a c
  dead : ∀ i : Nat, st[i]? = some none → W.cells[i]? = some none
  spr : SprOk G H b
  nosp : ¬ W.live G.sp ∧ ¬ W.live G.sc
  avt : ∀ a, W.av a → ¬ Nn H a
  avl : ∀ a, W.live a → ¬ W.av a
  tabs : Tabs G.T H

/-- from W, H to W', H': what may not change is there still -/
structure Ext (G : Gd) (W : Wd) (H : Hp) (W' : Wd) (H' : Hp) : Prop where
  keep : ∀ q o, H q = some o → (∀ ps, o ≠ .tbl ps) → ¬ Mv G W q → H' q = some o
  there : ∀ q, Nn H' q → Nn H q
  grow : W.cells.length ≤ W'.cells.length
  back : ∀ (i : Nat) a, i < W.cells.length → W'.cells[i]? = some (some a) → W.cells[i]? = some (some a)
  fresh : ∀ q, W'.live q → W.live q ∨ Nn H q
  av : ∀ q, W'.av q → W.av q ∨ Nn H q
  avm : ∀ q, W.av q → W'.av q
  hc : W'.hc = W.hc
theorem Ext.refl {G : Gd} {W : Wd} {H : Hp} : Ext G W H W H :=
  ⟨fun _ _ h _ _ => h, fun _ h => h, Nat.le_refl _, fun _ _ _ h => h, fun _ h => .inl h, fun _ h => .inl h, fun _ h => h, rfl⟩
theorem Ext.trans {G : Gd} {W W1 W2 : Wd} {H H1 H2 : Hp} (a : Ext G W H W1 H1) (b : Ext G W1 H1 W2 H2) : Ext G W H W2 H2 where
  keep := fun q o h nt n => b.keep q o (a.keep q o h nt n) nt fun m => by
    rcases m with m | m
    · rcases a.fresh q m with l | l
      · exact n (.inl l)
      · exact Nn.no h nt l
    · exact n (.inr m)
  there := fun q h => a.there q (b.there q h)
  grow := Nat.le_trans a.grow b.grow
  back := fun i c hi h => a.back i c hi (b.back i c (Nat.lt_of_lt_of_le hi a.grow) h)
  fresh := fun q h => by
    rcases b.fresh q h with l | l
    · exact a.fresh q l
    · exact .inr (a.there q l)
  av := fun q h => by
    rcases b.av q h with l | l
    · exact a.av q l
    · exact .inr (a.there q l)
  avm := fun q h => b.avm q (a.avm q h)
  hc := b.hc.trans a.hc

/-- what VR leans on -/
structure Ext0 (A : Addr → Prop) (H : Hp) (A' : Addr → Prop) (H' : Hp) : Prop where
  keep : ∀ q o, H q = some o → (∀ ps, o ≠ .tbl ps) → ¬ A q → H' q = some o ∧ ¬ A' q
mutual
theorem VR.ext0 {G : Gd} {A A' : Addr → Prop} {H H' : Hp} (x : Ext0 A H A' H') : ∀ {d : D} {v : V}, VR G A H d v → VR G A' H' d v
  | .non, _, h => by unfold VR at h ⊢; exact h
  | .bl _, _, h => by unfold VR at h ⊢; exact h
  | .int _, _, h => by unfold VR at h ⊢; exact h
  | .str _, _, h => by unfold VR at h ⊢; exact h
  | .strm, _, h => by unfold VR at h ⊢; exact h
  | .rp _, _, h => by unfold VR at h ⊢; exact h
  | .ins _ _, _, h => by unfold VR at h ⊢; exact h
  | .fn _, _, h => by unfold VR at h ⊢; exact h
  | .tup ds, _, h => by
    unfold VR at h ⊢
    obtain ⟨p, vs, e, h1, n, h2⟩ := h
    exact ⟨p, vs, e, (x.keep _ _ h1 nofun n).1, (x.keep _ _ h1 nofun n).2, VRs.ext0 x h2⟩
  | .lst ds, _, h => by
    unfold VR at h ⊢
    obtain ⟨p, vs, e, h1, n, h2⟩ := h
    exact ⟨p, vs, e, (x.keep _ _ h1 nofun n).1, (x.keep _ _ h1 nofun n).2, VRs.ext0 x h2⟩
  | .dct ks us, _, h => by
    unfold VR at h ⊢
    obtain ⟨p, kvs, e, h1, n, h2, h3⟩ := h
    exact ⟨p, kvs, e, (x.keep _ _ h1 nofun n).1, (x.keep _ _ h1 nofun n).2, h2, VRs.ext0 x h3⟩
theorem VRs.ext0 {G : Gd} {A A' : Addr → Prop} {H H' : Hp} (x : Ext0 A H A' H') : ∀ {ds : List D} {vs : List V}, VRs G A H ds vs → VRs G A' H' ds vs
  | [], _, h => by unfold VRs at h ⊢; exact h
  | d :: ds, _, h => by
    unfold VRs at h ⊢
    obtain ⟨w, ws, e, h1, h2⟩ := h
    exact ⟨w, ws, e, VR.ext0 x h1, VRs.ext0 x h2⟩
end
theorem Ext.ext0 {G : Gd} {W W' : Wd} {H H' : Hp} (x : Ext G W H W' H') : Ext0 (Av G W) H (Av G W') H' := ⟨fun q o h nt n => by
  have nm : ¬ Mv G W q := fun m => n (.inl m)
  refine ⟨x.keep q o h nt nm, fun m => ?_⟩
  rcases m with m | m
  · rcases m with m | m
    · rcases x.fresh q m with l | l
      · exact nm (.inl l)
      · exact Nn.no h nt l
    · exact nm (.inr m)
  · rcases x.av q m with l | l
    · exact n (.inr l)
    · exact Nn.no h nt l⟩
theorem Ext.ext0h {G : Gd} {W W' : Wd} {H H' : Hp} (x : Ext G W H W' H') : Ext0 (Ah G W) H (Ah G W') H' := ⟨fun q o h nt n => by
  obtain ⟨h1, h2⟩ := x.ext0.keep q o h nt fun m => n (.inl m)
  refine ⟨h1, fun m => ?_⟩
  rcases m with m | m
  · exact h2 m
  · exact n (.inr (by rw [← x.hc]; exact m))⟩
/-- later, what no data lies at may have changed, too -/
structure ExtA (G : Gd) (W : Wd) (H : Hp) (W' : Wd) (H' : Hp) : Prop where
  keep : ∀ q o, H q = some o → (∀ ps, o ≠ .tbl ps) → ¬ Av G W q → H' q = some o
  there : ∀ q, Nn H' q → Nn H q
  fresh : ∀ q, W'.live q → W.live q ∨ Nn H q
  av : ∀ q, W'.av q → W.av q ∨ Nn H q
  grow : W.cells.length ≤ W'.cells.length
  back : ∀ (i : Nat) a, i < W.cells.length → W'.cells[i]? = some (some a) → W.cells[i]? = some (some a)
  hc : W'.hc = W.hc
theorem Ext.toA {G : Gd} {W W' : Wd} {H H' : Hp} (x : Ext G W H W' H') : ExtA G W H W' H' := ⟨fun q o h nt n => x.keep q o h nt fun m => n (.inl m), x.there, x.fresh, x.av, x.grow, x.back, x.hc⟩
theorem ExtA.ext0 {G : Gd} {W W' : Wd} {H H' : Hp} (x : ExtA G W H W' H') : Ext0 (Av G W) H (Av G W') H' := ⟨fun q o h nt n => by
  refine ⟨x.keep q o h nt n, fun m => ?_⟩
  rcases m with (m | m) | m
  · rcases x.fresh q m with l | l
    · exact n (.inl (.inl l))
    · exact Nn.no h nt l
  · exact n (.inl (.inr m))
  · rcases x.av q m with l | l
    · exact n (.inr l)
    · exact Nn.no h nt l⟩
theorem VlR.ext {G : Gd} {W W' : Wd} {H H' : Hp} (x : Ext G W H W' H') : ∀ {a : Vl} {v : V}, VlR G W H a v → VlR G W' H' a v
  | .d _, _, h => VR.ext0 x.ext0 h
  | .ref i, _, h => ⟨Nat.lt_of_lt_of_le h.1 x.grow, fun a e => h.2 a (x.back i a h.1 e)⟩
  | .thk, _, h => h
  | .its _, _, h => h
  | .exn _ _, _, h => h
  | .h _, _, h => VR.ext0 x.ext0h h
  | .hr _ _, _, ⟨a, h1, h2, h3⟩ => ⟨a, by rw [x.hc]; exact h1, h2, VR.ext0 x.ext0 h3⟩
theorem VlRs.ext {G : Gd} {W W' : Wd} {H H' : Hp} (x : Ext G W H W' H') {as : List Vl} {vs : List V} (h : VlRs G W H as vs) : VlRs G W' H' as vs :=
  Paired.mapP h fun _ _ q => q.ext x

/-- a frame's names -/
structure EnvR (G : Gd) (W : Wd) (H : Hp) (e : Env) (σ : L2.St) : Prop where
  len : e.length = σ.length
  get0 : ∀ (i : Nat) a, e[i]? = some (some a) → ∃ v, σ[i]? = some (some v) ∧ VlR G W H a v
theorem EnvR.ext {G : Gd} {W W' : Wd} {H H' : Hp} (x : Ext G W H W' H') {e : Env} {σ : L2.St} (h : EnvR G W H e σ) : EnvR G W' H' e σ :=
  ⟨h.len, fun i a q => let ⟨v, h1, h2⟩ := h.get0 i a q; ⟨v, h1, h2.ext x⟩⟩
theorem Ext0.less {A A' : Addr → Prop} {H : Hp} (h : ∀ a, A' a → A a) : Ext0 A H A' H := ⟨fun _ _ e _ n => ⟨e, fun m => n (h _ m)⟩⟩
theorem VlR.rd {G : Gd} {W : Wd} {H : Hp} : ∀ {a : Vl} {v : V}, VlR G W H a v → VlR G W H (rdV a) v
  | .h _, _, r => VR.ext0 (.less fun _ m => .inl m) r
  | .hr _ _, _, ⟨_, _, _, r⟩ => r
  | .d _, _, r => r
  | .ref _, _, r => r
  | .thk, _, r => r
  | .its _, _, r => r
  | .exn _ _, _, r => r
theorem EnvR.get {G : Gd} {W : Wd} {H : Hp} {e : Env} {σ : L2.St} (h : EnvR G W H e σ) {i : Nat} {a : Vl} (q : envGet e i = some a) : ∃ v, σ[i]? = some (some v) ∧ VlR G W H a v := by
  unfold envGet at q
  obtain ⟨b, qb, eb⟩ := Option.map_eq_some_iff.mp q
  subst eb
  have q' : e[i]? = some (some b) := by
    cases z : e[i]? with
    | none => rw [z] at qb; cases qb
    | some o =>
      rw [z] at qb
      have q2 : o = some b := qb
      rw [q2]
  obtain ⟨v, h1, h2⟩ := h.get0 i b q'
  exact ⟨v, h1, h2.rd⟩
theorem EnvR.set {G : Gd} {W : Wd} {H : Hp} {e : Env} {σ : L2.St} (h : EnvR G W H e σ) (i : Nat) {a : Vl} {v : V} (r : VlR G W H a v) : EnvR G W H (e.set i (some a)) (σ.set i (some v)) := by
  refine ⟨by simp [h.len], fun j b q => ?_⟩
  by_cases hj : i = j
  · subst hj
    by_cases hl : i < e.length
    · rw [List.getElem?_set_self hl] at q
      cases q
      exact ⟨v, List.getElem?_set_self (by rw [← h.len]; exact hl), r⟩
    · rw [List.getElem?_eq_none (by simpa using hl)] at q; cases q
  · rw [List.getElem?_set_ne hj] at q ⊢
    exact h.get0 j b q
end EV

end
section
set_option Elab.async false
set_option linter.all false
set_option maxRecDepth 100000
set_option maxHeartbeats 4000000
/-! EV 3: the operations on data, by the hand layer's rules. -/
namespace EV
open PySem PySem.Spec PyProof.Rows L2

theorem R.good_ok {α : Type} : True := trivial
/-- every leaf is fine, with b draws left -/
def good {α : Type} (P : α → Nat → Prop) : R α → Nat → Prop
  | .ok a, b => P a b
  | .err, _ => False
  | .draw m k, b => ∃ b', b = b' + 1 ∧ 0 < m ∧ ∀ d, d < m → good P (k d) b'
theorem good_mono {α : Type} {P Q : α → Nat → Prop} (h : ∀ a b, P a b → Q a b) : ∀ {r : R α} {b : Nat}, good P r b → good Q r b
  | .ok a, b, q => h a b q
  | .err, _, q => q
  | .draw m k, b, ⟨b', e, hm, q⟩ => ⟨b', e, hm, fun d hd => good_mono h (q d hd)⟩
theorem good_bind {α β : Type} {P : β → Nat → Prop} {f : α → R β} : ∀ {r : R α} {b : Nat}, good P (r.bind f) b ↔ good (fun a b' => good P (f a) b') r b
  | .ok a, b => Iff.rfl
  | .err, _ => Iff.rfl
  | .draw m k, b => by
    constructor
    · rintro ⟨b', e, hm, q⟩
      exact ⟨b', e, hm, fun d hd => good_bind.mp (q d hd)⟩
    · rintro ⟨b', e, hm, q⟩
      exact ⟨b', e, hm, fun d hd => good_bind.mpr (q d hd)⟩
/-- an expression's leaves -/
def EG {α : Type} (K : α → Store → Nat → Prop) (Kx : Nat → List D → Store → Nat → Prop) (r : E α) (b : Nat) : Prop :=
  good (fun o b' => match o with
    | .v a s => K a s b'
    | .x c fs s => Kx c fs s b') r b
theorem EG.mono {α : Type} {K K' : α → Store → Nat → Prop} {Kx Kx' : Nat → List D → Store → Nat → Prop} {r : E α} {b : Nat} (h : EG K Kx r b) (h1 : ∀ a s b, K a s b → K' a s b) (h2 : ∀ c fs s b, Kx c fs s b → Kx' c fs s b) : EG K' Kx' r b :=
  good_mono (fun o b' q => by
    cases o with
    | v a s => exact h1 a s b' q
    | x c fs s => exact h2 c fs s b' q) h
theorem EG_bnd {α β : Type} {K : β → Store → Nat → Prop} {Kx : Nat → List D → Store → Nat → Prop} {m : E α} {f : α → Store → E β} {b : Nat} : EG K Kx (bnd m f) b ↔ EG (fun a s b' => EG K Kx (f a s) b') Kx m b := by
  unfold EG bnd
  rw [good_bind]
  constructor
  · intro h
    refine good_mono (fun o b' q => ?_) h
    cases o with
    | v a s => exact q
    | x c fs s => exact q
  · intro h
    refine good_mono (fun o b' q => ?_) h
    cases o with
    | v a s => exact q
    | x c fs s => exact q
theorem EG_ret {α : Type} {K : α → Store → Nat → Prop} {Kx : Nat → List D → Store → Nat → Prop} {a : α} {s : Store} {b : Nat} : EG K Kx (ret a s) b ↔ K a s b := Iff.rfl
theorem EG_lift {α : Type} {K : α → Store → Nat → Prop} {Kx : Nat → List D → Store → Nat → Prop} {o : Option α} {s : Store} {b : Nat} : EG K Kx (lift o s) b ↔ ∃ a, o = some a ∧ K a s b := by
  cases o with
  | none => exact ⟨fun h => False.elim h, fun ⟨a, e, _⟩ => by cases e⟩
  | some a => exact ⟨fun h => ⟨a, rfl, h⟩, fun ⟨a', e, h⟩ => by cases e; exact h⟩
theorem EG_err {α : Type} {K : α → Store → Nat → Prop} {Kx : Nat → List D → Store → Nat → Prop} {b : Nat} (h : EG K Kx (.err : E α) b) : False := h

/-! ### a new thing -/
theorem Rel.av_nn {G : Gd} {W : Wd} {st : Store} {b : Nat} {H : Hp} (R : Rel G W st b H) {a : Addr} (h : Av G W a) : ¬ Nn H a := by
  obtain ⟨ns, g, m, c, h1, h2, _⟩ := R.spr
  rcases h with (⟨i, h⟩ | h | h) | h
  · have hi : i < st.length := by
      rw [← R.len]
      exact (List.getElem?_eq_some_iff.mp h).1
    cases e : st[i]? with
    | none => rw [List.getElem?_eq_none_iff] at e; omega
    | some o =>
      cases o with
      | none => rw [R.dead i e] at h; cases h
      | some c =>
        obtain ⟨a', h', r⟩ := R.cell i c e
        rw [h] at h'
        cases h'
        cases c with
        | lst xs => obtain ⟨vs, q, _⟩ := r; exact Nn.no q nofun
        | dct ks us => obtain ⟨vs, q, _⟩ := r; exact Nn.no q nofun
        | ins c vs => exact False.elim r
  · rw [h]; exact Nn.no h1 nofun
  · rw [h]; exact Nn.no h2 nofun
  · exact R.avt a h
theorem Rel.av_there {G : Gd} {W : Wd} {st : Store} {b : Nat} {H : Hp} (R : Rel G W st b H) {a : Addr} (h : Av G W a) : H a ≠ none := fun e => R.av_nn h (.none e)
theorem Rel.new_av {G : Gd} {W : Wd} {st : Store} {b : Nat} {H : Hp} (R : Rel G W st b H) {p : Addr} (hp : H p = none) : ¬ Av G W p := fun h => R.av_there h hp
theorem upd_keep {H : Hp} {p q : Addr} {o u : HO} (hp : H p = none) (h : H q = some o) : upd H p u q = some o := by
  rw [upd_ne]; exact h
  rintro rfl; rw [hp] at h; cases h
theorem ext_new {G : Gd} {W : Wd} {H : Hp} {p : Addr} {u : HO} (hp : H p = none) : Ext G W H W (upd H p u) where
  keep := fun q o h _ _ => upd_keep hp h
  there := fun q h => h.kept fun o e => upd_keep hp e
  grow := Nat.le_refl _
  back := fun _ _ _ h => h
  fresh := fun q h => .inl h
  av := fun _ h => .inl h
  avm := fun _ h => h
  hc := rfl
theorem CellR.keeps {G : Gd} {W W' : Wd} {H H' : Hp} {a : Addr} {c : Cell} (x : Ext G W H W' H') (h : CellR G W H a c) (e : H' a = H a) : CellR G W' H' a c := by
  cases c with
  | lst xs => obtain ⟨vs, q, r⟩ := h; exact ⟨vs, e.trans q, r.ext x⟩
  | dct ks us => obtain ⟨vs, q, r1, r2⟩ := h; exact ⟨vs, e.trans q, r1, r2.ext x⟩
  | ins c vs => exact h
theorem SprOk.keeps {G : Gd} {H H' : Hp} {b : Nat} (h : SprOk G H b) (e1 : H' G.sp = H G.sp) (e2 : H' G.sc = H G.sc) : SprOk G H' b := by
  obtain ⟨ns, g, m, c, h1, h2, r⟩ := h
  exact ⟨ns, g, m, c, e1.trans h1, e2.trans h2, r⟩
/-- nothing that may change has changed -/
theorem Rel.same {G : Gd} {W : Wd} {st : Store} {b : Nat} {H H' : Hp} (R : Rel G W st b H) (x : Ext G W H W H') (e : ∀ a, Mv G W a → H' a = H a) (k : ∀ q o, H q = some o → H' q = some o) : Rel G W st b H' where
  len := R.len
  inj := R.inj
  cell := fun i c h => by
    obtain ⟨a, h1, r⟩ := R.cell i c h
    exact ⟨a, h1, r.keeps x (e a (.inl ⟨i, h1⟩))⟩
  dead := R.dead
  spr := R.spr.keeps (e _ (.inr (.inl rfl))) (e _ (.inr (.inr rfl)))
  nosp := R.nosp
  avt := fun a h n => R.avt a h (x.there a n)
  avl := R.avl
  tabs := R.tabs.ext k
theorem Rel.new {G : Gd} {W : Wd} {st : Store} {b : Nat} {H : Hp} (R : Rel G W st b H) {p : Addr} {u : HO} (hp : H p = none) : Rel G W st b (upd H p u) :=
  R.same (ext_new hp) (fun a m => upd_ne (by rintro rfl; exact R.av_there (.inl m) hp)) fun q o h => upd_keep hp h

/-! ### lists of data -/
theorem VRs.length {G : Gd} {A : Addr → Prop} {H : Hp} : ∀ {ds : List D} {vs : List V}, VRs G A H ds vs → ds.length = vs.length
  | [], _, h => by unfold VRs at h; rw [h]; rfl
  | d :: ds, _, h => by
    unfold VRs at h
    obtain ⟨w, ws, rfl, _, h2⟩ := h
    simp [VRs.length h2]
theorem VRs.append {G : Gd} {A : Addr → Prop} {H : Hp} : ∀ {ds es : List D} {vs ws : List V}, VRs G A H ds vs → VRs G A H es ws → VRs G A H (ds ++ es) (vs ++ ws)
  | [], _, _, _, h, q => by unfold VRs at h; rw [h]; exact q
  | d :: ds, _, _, _, h, q => by
    unfold VRs at h
    obtain ⟨w, ws, rfl, h1, h2⟩ := h
    rw [List.cons_append, List.cons_append]
    unfold VRs
    exact ⟨w, _, rfl, h1, VRs.append h2 q⟩
theorem VRs.nil {G : Gd} {A : Addr → Prop} {H : Hp} : VRs G A H [] [] := by unfold VRs; rfl
theorem VRs.cons {G : Gd} {A : Addr → Prop} {H : Hp} {d : D} {v : V} {ds : List D} {vs : List V} (h : VR G A H d v) (q : VRs G A H ds vs) : VRs G A H (d :: ds) (v :: vs) := by
  unfold VRs; exact ⟨v, vs, rfl, h, q⟩
theorem VRs.take {G : Gd} {A : Addr → Prop} {H : Hp} : ∀ {ds : List D} {vs : List V} (n : Nat), VRs G A H ds vs → VRs G A H (ds.take n) (vs.take n)
  | _, _, 0, _ => by simp; exact VRs.nil
  | [], _, n + 1, h => by unfold VRs at h; rw [h]; simp; exact VRs.nil
  | d :: ds, _, n + 1, h => by
    unfold VRs at h
    obtain ⟨w, ws, rfl, h1, h2⟩ := h
    simp only [List.take_succ_cons]
    exact VRs.cons h1 (VRs.take n h2)
theorem VRs.drop {G : Gd} {A : Addr → Prop} {H : Hp} : ∀ {ds : List D} {vs : List V} (n : Nat), VRs G A H ds vs → VRs G A H (ds.drop n) (vs.drop n)
  | _, _, 0, h => by simpa using h
  | [], _, n + 1, h => by unfold VRs at h; rw [h]; simp; exact VRs.nil
  | d :: ds, _, n + 1, h => by
    unfold VRs at h
    obtain ⟨w, ws, rfl, h1, h2⟩ := h
    simp only [List.drop_succ_cons]
    exact VRs.drop n h2
theorem VRs.get {G : Gd} {A : Addr → Prop} {H : Hp} : ∀ {ds : List D} {vs : List V} {i : Nat} {d : D}, VRs G A H ds vs → ds[i]? = some d → ∃ v, vs[i]? = some v ∧ VR G A H d v
  | [], _, _, _, _, e => by simp at e
  | d :: ds, _, 0, _, h, e => by
    unfold VRs at h
    obtain ⟨w, ws, rfl, h1, _⟩ := h
    simp at e; subst e
    exact ⟨w, rfl, h1⟩
  | d :: ds, _, i + 1, _, h, e => by
    unfold VRs at h
    obtain ⟨w, ws, rfl, _, h2⟩ := h
    simpa using VRs.get (i := i) h2 (by simpa using e)
theorem VRs.reverse {G : Gd} {A : Addr → Prop} {H : Hp} : ∀ {ds : List D} {vs : List V}, VRs G A H ds vs → VRs G A H ds.reverse vs.reverse
  | [], _, h => by unfold VRs at h; rw [h]; exact VRs.nil
  | d :: ds, _, h => by
    unfold VRs at h
    obtain ⟨w, ws, rfl, h1, h2⟩ := h
    rw [List.reverse_cons, List.reverse_cons]
    exact VRs.append (VRs.reverse h2) (VRs.cons h1 VRs.nil)
theorem VRs.rep {G : Gd} {A : Addr → Prop} {H : Hp} {ds : List D} {vs : List V} (h : VRs G A H ds vs) : ∀ k : Nat, VRs G A H (List.replicate k ds).flatten (List.replicate k vs).flatten
  | 0 => by simp; exact VRs.nil
  | k + 1 => by
    rw [List.replicate_succ, List.replicate_succ, List.flatten_cons, List.flatten_cons]
    exact VRs.append h (VRs.rep h k)
/-- a new list, a new tuple of data -/
theorem VR.newL {G : Gd} {W : Wd} {st : Store} {b : Nat} {H : Hp} (R : Rel G W st b H) {p : Addr} (hp : H p = none) {ds : List D} {vs : List V} (h : VRs G (Av G W) H ds vs) : VR G (Av G W) (upd H p (.lst vs)) (.lst ds) (.ref p) := by
  unfold VR
  exact ⟨p, vs, rfl, upd_same, R.new_av hp, VRs.ext0 (ext_new hp).ext0 h⟩
theorem VR.newT {G : Gd} {W : Wd} {st : Store} {b : Nat} {H : Hp} (R : Rel G W st b H) {p : Addr} (hp : H p = none) {ds : List D} {vs : List V} (h : VRs G (Av G W) H ds vs) : VR G (Av G W) (upd H p (.tup vs)) (.tup ds) (.ref p) := by
  unfold VR
  exact ⟨p, vs, rfl, upd_same, R.new_av hp, VRs.ext0 (ext_new hp).ext0 h⟩

/-! ### two-place operations on data -/
def rD2 (G : Gd) (f : D → D → Option D) : R2 := fun x y H Q => ∃ W st b dx dy d, Rel G W st b H ∧ VT G (Av G W) H dx x ∧ VT G (Av G W) H dy y ∧ f dx dy = some d ∧
  ∀ H' v, Ext G W H W H' → Rel G W st b H' → VR G (Av G W) H' d v → Q v H'
theorem million : (1000000 : Nat) ≤ sizeLine := by rw [sizeLine_eq]; decide
/-- a reading of a rule over data -/
theorem OpR.weak {X : Cx} {f : Value → Value → Sem Value} {r r' : R2} (h : OpR X f r) (i : ∀ x y H Q, r' x y H Q → r x y H Q) : OpR X f r' :=
  fun pins s σ H x y v u Q I rx ry q => h pins s σ H x y v u Q I rx ry (i x y H Q q)
section
variable {X : Cx} {G : Gd}
theorem VT.ref_lst {A : Addr → Prop} {H : Hp} {ds : List D} {v : V} (h : VT G A H (.lst ds) v) : ∃ p vs, v = .ref p ∧ H p = some (.lst vs) ∧ VRs G A H ds vs := h
theorem VT.ref_tup {A : Addr → Prop} {H : Hp} {ds : List D} {v : V} (h : VT G A H (.tup ds) v) : ∃ p vs, v = .ref p ∧ H p = some (.tup vs) ∧ ¬ A p ∧ VRs G A H ds vs := by
  unfold VT VR at h; exact h
theorem VT.int {A : Addr → Prop} {H : Hp} {i : Int} {v : V} (h : VT G A H (.int i) v) : v = .int i := by unfold VT VR at h; exact h
theorem VT.bl {A : Addr → Prop} {H : Hp} {i : Bool} {v : V} (h : VT G A H (.bl i) v) : v = .bl i := by unfold VT VR at h; exact h
theorem VT.str {A : Addr → Prop} {H : Hp} {i : List Nat} {v : V} (h : VT G A H (.str i) v) : v = .str (sOf i) := by unfold VT VR at h; exact h
theorem VR.int {A : Addr → Prop} {H : Hp} {i : Int} : VR G A H (.int i) (.int i) := by unfold VR; rfl
theorem VR.bl {A : Addr → Prop} {H : Hp} {i : Bool} : VR G A H (.bl i) (.bl i) := by unfold VR; rfl
theorem VR.str {A : Addr → Prop} {H : Hp} {i : List Nat} : VR G A H (.str i) (.str (sOf i)) := by unfold VR; rfl
theorem VR.non {A : Addr → Prop} {H : Hp} : VR G A H .non .non := by unfold VR; rfl
theorem sOf_app (a b : List Nat) : sOf a ++ sOf b = sOf (a ++ b) := by
  unfold sOf
  show Str.mk _ = Str.mk _
  congr 1
  simp
theorem opD_add : OpR X (binaryOp .Add) (rD2 G (binD .add)) := by
  refine OpR.weak (OpR.or op_add (OpR.or op_add_str (OpR.or op_cat op_catT))) fun x y H Q h => ?_
  obtain ⟨W, st, b, dx, dy, d, R, hx, hy, e, q⟩ := h
  cases dx <;> cases dy <;> simp only [binD, reduceCtorEq, and_false, if_false, false_and, ite_false] at e
  case int.int i j =>
    cases e
    rw [hx.int, hy.int]
    exact .inl ⟨i, j, rfl, rfl, q H _ .refl R .int⟩
  case str.str i j =>
    split at e
    · rename_i c
      cases e
      rw [hx.str, hy.str]
      refine .inr (.inl ⟨_, _, rfl, rfl, ?_, ?_⟩)
      · rw [sOf_len, sOf_len]; exact Nat.le_trans c.2 million
      · rw [sOf_app]; exact q H _ .refl R .str
    · cases e
  case lst.lst i j =>
    split at e
    · rename_i c
      cases e
      obtain ⟨p, vs, rfl, h1, r1⟩ := hx
      obtain ⟨p', vs', rfl, h1', r1'⟩ := hy
      refine .inr (.inr (.inl ⟨p, p', vs, vs', rfl, rfl, h1, h1', ?_, fun n hn => q _ _ (ext_new hn) (R.new hn) (VR.newL R hn (r1.append r1'))⟩))
      rw [← r1.length, ← r1'.length]; exact Nat.le_trans c.2 million
    · cases e
  case tup.tup i j =>
    split at e
    · rename_i c
      cases e
      have hx0 := hx
      obtain ⟨p, vs, rfl, h1, n1, r1⟩ := hx.ref_tup
      obtain ⟨p', vs', rfl, h1', n1', r1'⟩ := hy.ref_tup
      refine .inr (.inr (.inr ⟨p, p', vs, vs', rfl, rfl, SqT.of h1, SqT.of h1', ?_, ?_, fun z => ?_, fun z n hn => q _ _ (ext_new hn) (R.new hn) (VR.newT R hn (r1.append r1'))⟩))
      · intro z; subst z
        have := r1.length
        cases i with
        | nil => simp at c
        | cons _ _ => simp at this
      · rw [← r1.length, ← r1'.length]; exact Nat.le_trans c.2.1 million
      · subst z
        have := r1'.length
        cases j with
        | nil =>
          rw [List.append_nil] at q
          exact q H _ .refl R hx0
        | cons _ _ => simp at this
    · cases e
theorem opD_sub : OpR X (binaryOp .Sub) (rD2 G (binD .sub)) := by
  refine OpR.weak op_sub fun x y H Q h => ?_
  obtain ⟨W, st, b, dx, dy, d, R, hx, hy, e, q⟩ := h
  cases dx <;> cases dy <;> simp only [binD, reduceCtorEq, and_false, if_false, false_and, ite_false] at e
  case int.int i j =>
    cases e
    rw [hx.int, hy.int]
    exact ⟨i, j, rfl, rfl, q H _ .refl R .int⟩
theorem opD_mul : OpR X (binaryOp .Mult) (rD2 G (binD .mul)) := by
  refine OpR.weak (OpR.or op_mul op_rep) fun x y H Q h => ?_
  obtain ⟨W, st, b, dx, dy, d, R, hx, hy, e, q⟩ := h
  cases dx <;> cases dy <;> simp only [binD, reduceCtorEq, and_false, if_false, false_and, ite_false] at e
  case int.int i j =>
    split at e
    · rename_i c
      cases e
      rw [hx.int, hy.int]
      exact .inl ⟨i, j, rfl, rfl, c, q H _ .refl R .int⟩
    · cases e
  case lst.int i k =>
    split at e
    · rename_i c
      cases e
      obtain ⟨p, vs, rfl, h1, r1⟩ := hx
      rw [hy.int]
      obtain ⟨_, c1, c2, c3⟩ := c
      refine .inr ⟨p, k, vs, rfl, rfl, h1, by omega, by omega, ?_, fun n hn => q _ _ (ext_new hn) (R.new hn) (VR.newL R hn (r1.rep _))⟩
      rw [← r1.length]; exact Nat.le_trans c3 million
    · cases e
theorem opD_mod : OpR X (binaryOp .Mod) (rD2 G (binD .mod)) := by
  refine OpR.weak op_modN fun x y H Q h => ?_
  obtain ⟨W, st, b, dx, dy, d, R, hx, hy, e, q⟩ := h
  cases dx <;> cases dy <;> simp only [binD, reduceCtorEq, and_false, if_false, false_and, ite_false] at e
  case int.int i j =>
    split at e
    · cases e
    · rename_i c
      cases e
      rw [hx.int, hy.int]
      exact ⟨i, j, rfl, rfl, c, q H _ .refl R .int⟩
theorem opD_fdiv : OpR X (binaryOp .FloorDiv) (rD2 G (binD .fdiv)) := by
  refine OpR.weak op_fdivN fun x y H Q h => ?_
  obtain ⟨W, st, b, dx, dy, d, R, hx, hy, e, q⟩ := h
  cases dx <;> cases dy <;> simp only [binD, reduceCtorEq, and_false, if_false, false_and, ite_false] at e
  case int.int i j =>
    split at e
    · rename_i c
      cases e
      rw [hx.int, hy.int]
      exact ⟨i, j, rfl, rfl, c, q H _ .refl R .int⟩
    · cases e
theorem opD_pow : OpR X (binaryOp .Pow) (rD2 G (binD .pow)) := by
  refine OpR.weak op_pow fun x y H Q h => ?_
  obtain ⟨W, st, b, dx, dy, d, R, hx, hy, e, q⟩ := h
  cases dx <;> cases dy <;> simp only [binD, reduceCtorEq, and_false, if_false, false_and, ite_false] at e
  case int.int i j =>
    split at e
    · rename_i c
      cases e
      rw [hx.int, hy.int]
      exact ⟨i, j, rfl, rfl, c, q H _ .refl R .int⟩
    · cases e
def bopOf : BOp → Operator
  | .add => .Add
  | .sub => .Sub
  | .mul => .Mult
  | .mod => .Mod
  | .fdiv => .FloorDiv
  | .pow => .Pow
theorem opD (o : BOp) : OpR X (binaryOp (bopOf o)) (rD2 G (binD o)) := by
  cases o with
  | add => exact opD_add
  | sub => exact opD_sub
  | mul => exact opD_mul
  | mod => exact opD_mod
  | fdiv => exact opD_fdiv
  | pow => exact opD_pow

/-! ### data as the library's data -/
theorem sOf_beq (a b : List Nat) : (sOf a == sOf b) = (a == b) := by
  by_cases h : a = b
  · subst h; simp
  · rw [beq_eq_false_iff_ne.mpr h, beq_eq_false_iff_ne.mpr fun e => h (sOf_inj e)]
mutual
theorem eqB_py : ∀ (a b : D) (n m : Nat), okB a n = true → okB b m = true → PyData.eqv (toPy a) (toPy b) = eqB a b := by
  intro a b n m ha hb
  cases a <;> cases b <;> (try (simp only [okB, Bool.false_eq_true] at ha)) <;> (try (simp only [okB, Bool.false_eq_true] at hb)) <;> (try (simp only [toPy, PyData.eqv, eqB]; done))
  case str.str x y => simp only [toPy, PyData.eqv, eqB]; exact sOf_beq x y
  case lst.lst x y =>
    cases n with
    | zero => cases ha
    | succ n =>
      cases m with
      | zero => cases hb
      | succ m =>
        simp only [toPy, PyData.eqv, eqB]
        exact eqBs_py x y n m ha hb
  case tup.tup x y =>
    cases n with
    | zero => cases ha
    | succ n =>
      cases m with
      | zero => cases hb
      | succ m =>
        simp only [toPy, PyData.eqv, eqB]
        exact eqBs_py x y n m ha hb
theorem eqBs_py : ∀ (a b : List D) (n m : Nat), okBs a n = true → okBs b m = true → PyData.eqvAll (toPys a) (toPys b) = eqBs a b := by
  intro a b n m ha hb
  cases a with
  | nil => cases b <;> simp only [toPys, PyData.eqvAll, eqBs]
  | cons x xs =>
    cases b with
    | nil => simp only [toPys, PyData.eqvAll, eqBs]
    | cons y ys =>
      simp only [okBs, Bool.and_eq_true] at ha hb
      simp only [toPys, PyData.eqvAll, eqBs]
      rw [eqB_py x y n m ha.1 hb.1, eqBs_py xs ys n m ha.2 hb.2]
end
mutual
theorem ok_py : ∀ (a : D) (n : Nat), okB a n = true → (toPy a).canLay0 = true ∧ (toPy a).depth ≤ n := by
  intro a n h
  cases a <;> (try (simp only [okB, Bool.false_eq_true] at h)) <;> (try (simp [toPy, PyData.canLay0, PyData.depth]; done))
  case str s =>
    simp only [toPy, PyData.canLay0, PyData.depth]
    refine ⟨?_, Nat.zero_le _⟩
    have h' : s.all (fun c => decide (c < 128)) = true := h
    simp only [List.all_eq_true, decide_eq_true_eq] at h'
    simp only [PyData.strOk, sOf, Array.all_eq_true', decide_eq_true_eq]
    intro x hx
    have := h' x (by simpa using hx)
    omega
  case tup xs =>
    cases n with
    | zero => cases h
    | succ n =>
      obtain ⟨h1, h2⟩ := oks_py xs n h
      simp only [toPy, PyData.canLay0, PyData.depth]
      exact ⟨h1, Nat.succ_le_succ h2⟩
  case lst xs =>
    cases n with
    | zero => cases h
    | succ n =>
      obtain ⟨h1, h2⟩ := oks_py xs n h
      simp only [toPy, PyData.canLay0, PyData.depth]
      exact ⟨h1, Nat.succ_le_succ h2⟩
theorem oks_py : ∀ (a : List D) (n : Nat), okBs a n = true → PyData.canLayAll0 (toPys a) = true ∧ PyData.depthAll (toPys a) ≤ n := by
  intro a n h
  cases a with
  | nil => simp only [toPys, PyData.canLayAll0, PyData.depthAll]; exact ⟨trivial, Nat.zero_le _⟩
  | cons x xs =>
    simp only [okBs, Bool.and_eq_true] at h
    obtain ⟨h1, h2⟩ := ok_py x n h.1
    obtain ⟨h3, h4⟩ := oks_py xs n h.2
    simp only [toPys, PyData.canLayAll0, PyData.depthAll, Bool.and_eq_true]
    exact ⟨⟨h1, h3⟩, Nat.max_le.mpr ⟨h2, h4⟩⟩
end
theorem ok_shaped {a : D} (h : okB a 64 = true) : SeqAt.shaped (toPy a) = true := by
  obtain ⟨h1, h2⟩ := ok_py a 64 h
  unfold SeqAt.shaped
  rw [h1, decide_eq_true h2]; rfl
mutual
theorem VR.dp {K : PySem.W.Frag} {A : Addr → Prop} {H : Hp} : ∀ (a : D) (v : V) (n : Nat), okB a n = true → VR G A H a v → Dp K H v (toPy a) := by
  intro a v n h r
  cases a <;> (try (simp only [okB, Bool.false_eq_true] at h)) <;> unfold VR at r <;> simp only [toPy]
  case non => rw [r]; exact .non
  case bl b => rw [r]; exact .bl b
  case int i => rw [r]; exact .int i
  case str s => rw [r]; exact .str _
  case tup xs =>
    cases n with
    | zero => cases h
    | succ n =>
      obtain ⟨p, vs, rfl, h1, _, h2⟩ := r
      exact .tup (SqT.of h1) (VRs.dp xs vs n h h2)
  case lst xs =>
    cases n with
    | zero => cases h
    | succ n =>
      obtain ⟨p, vs, rfl, h1, _, h2⟩ := r
      exact .lst (SqL.of h1) (VRs.dp xs vs n h h2)
theorem VRs.dp {K : PySem.W.Frag} {A : Addr → Prop} {H : Hp} : ∀ (a : List D) (vs : List V) (n : Nat), okBs a n = true → VRs G A H a vs → DpAll K H vs (toPys a) := by
  intro a vs n h r
  cases a with
  | nil => unfold VRs at r; rw [r]; simp only [toPys]; exact .nil
  | cons x xs =>
    simp only [okBs, Bool.and_eq_true] at h
    unfold VRs at r
    obtain ⟨w, ws, rfl, r1, r2⟩ := r
    simp only [toPys]
    exact .cons (VR.dp x w n h.1 r1) (VRs.dp xs ws n h.2 r2)
end
theorem VT.dp {K : PySem.W.Frag} {A : Addr → Prop} {H : Hp} {a : D} {v : V} (h : okB a 64 = true) (r : VT G A H a v) : Dp K H v (toPy a) := by
  cases a <;> (try (simp only [okB, Bool.false_eq_true] at h; done)) <;> (try exact VR.dp (G := G) (A := A) _ v 64 h r)
  case lst xs =>
    obtain ⟨p, vs, rfl, h1, h2⟩ := r
    simp only [toPy]
    exact .lst (SqL.of h1) (VRs.dp xs vs 63 h h2)
/-! ### comparisons -/
mutual
theorem VR.inj {A : Addr → Prop} {H : Hp} : ∀ (a b : D) (v : V) (n m : Nat), okB a n = true → okB b m = true → VR G A H a v → VR G A H b v → a = b := by
  intro a b v n m ha hb ra rb
  cases a <;> (try (simp only [okB, Bool.false_eq_true] at ha; done)) <;> cases b <;> (try (simp only [okB, Bool.false_eq_true] at hb; done)) <;> unfold VR at ra rb
  all_goals first
    | (rw [ra] at rb; cases rb; rfl; done)
    | (rw [ra] at rb; cases rb; done)
    | (obtain ⟨p, vs, e, _⟩ := rb; rw [ra] at e; cases e; done)
    | (obtain ⟨p, vs, e, _⟩ := ra; rw [rb] at e; cases e; done)
    | skip
  case non.non => rfl
  case tup.tup x y =>
    obtain ⟨p, vs, e, h1, _, h2⟩ := ra
    obtain ⟨p', vs', e', h1', _, h2'⟩ := rb
    rw [e] at e'; cases e'
    rw [h1] at h1'; cases h1'
    cases n with
    | zero => cases ha
    | succ n =>
      cases m with
      | zero => cases hb
      | succ m => rw [VRs.inj x y vs n m ha hb h2 h2']
  case lst.lst x y =>
    obtain ⟨p, vs, e, h1, _, h2⟩ := ra
    obtain ⟨p', vs', e', h1', _, h2'⟩ := rb
    rw [e] at e'; cases e'
    rw [h1] at h1'; cases h1'
    cases n with
    | zero => cases ha
    | succ n =>
      cases m with
      | zero => cases hb
      | succ m => rw [VRs.inj x y vs n m ha hb h2 h2']
  case tup.lst x y =>
    obtain ⟨p, vs, e, h1, _, h2⟩ := ra
    obtain ⟨p', vs', e', h1', _, h2'⟩ := rb
    rw [e] at e'; cases e'
    rw [h1] at h1'; cases h1'
  case lst.tup x y =>
    obtain ⟨p, vs, e, h1, _, h2⟩ := ra
    obtain ⟨p', vs', e', h1', _, h2'⟩ := rb
    rw [e] at e'; cases e'
    rw [h1] at h1'; cases h1'
theorem VRs.inj {A : Addr → Prop} {H : Hp} : ∀ (a b : List D) (v : List V) (n m : Nat), okBs a n = true → okBs b m = true → VRs G A H a v → VRs G A H b v → a = b := by
  intro a b v n m ha hb ra rb
  cases a with
  | nil =>
    unfold VRs at ra
    subst ra
    cases b with
    | nil => rfl
    | cons y ys => unfold VRs at rb; obtain ⟨_, _, e, _⟩ := rb; cases e
  | cons x xs =>
    unfold VRs at ra
    obtain ⟨w, ws, rfl, r1, r2⟩ := ra
    cases b with
    | nil => unfold VRs at rb; cases rb
    | cons y ys =>
      unfold VRs at rb
      obtain ⟨w', ws', e, r1', r2'⟩ := rb
      cases e
      simp only [okBs, Bool.and_eq_true] at ha hb
      rw [VR.inj x y w n m ha.1 hb.1 r1 r1', VRs.inj xs ys ws n m ha.2 hb.2 r2 r2']
end
/-- a comparison's reading: nothing changes -/
def rC2 (G : Gd) (f : D → D → Option Bool) : R2 := fun x y H Q => ∃ A dx dy t, VT G A H dx x ∧ VT G A H dy y ∧ f dx dy = some t ∧ Q (.bl t) H
theorem eqRp_of {A : Addr → Prop} {H : Hp} {dx dy : D} {x y : V} {t : Bool} (hx : VT G A H dx x) (hy : VT G A H dy y) (e : eqRp dx dy = some t) : scal x y = true ∧ x = y ∧ t = true := by
  cases dx <;> cases dy <;> simp only [eqRp, reduceCtorEq] at e
  rename_i a b
  split at e
  · rename_i h
    cases e
    have := sameD_eq h
    subst this
    unfold VT VR at hx hy
    subst hx hy
    exact ⟨rfl, rfl, rfl⟩
  · cases e
theorem cD_eq (hu : X.A.units + 64 < cLine) : OpR X (compareOp .Eq) (rC2 G eqD) := by
  refine OpR.weak (OpR.or (op_eqD hu) op_eq) fun x y H Q h => ?_
  obtain ⟨A, dx, dy, t, hx, hy, e, q⟩ := h
  by_cases c : (okB dx 64 && okB dy 64) = true
  · have e' : some (eqB dx dy) = some t := by
      rw [← e]; unfold eqD; rw [if_pos c]
    rw [Bool.and_eq_true] at c
    cases e'
    refine .inl ⟨toPy dx, toPy dy, VT.dp c.1 hx, VT.dp c.2 hy, ok_shaped c.1, ok_shaped c.2, ?_⟩
    rw [eqB_py dx dy 64 64 c.1 c.2]; exact q
  · have e' : eqRp dx dy = some t := by
      rw [← e]; unfold eqD; rw [if_neg c]
    obtain ⟨h1, rfl, rfl⟩ := eqRp_of hx hy e'
    exact .inr ⟨h1, by rw [decide_eq_true rfl]; exact q⟩
theorem cD_ne (hu : X.A.units + 64 < cLine) : OpR X (compareOp .NotEq) (rC2 G fun a b => (eqD a b).map not) := by
  refine OpR.weak (OpR.or (op_neD hu) op_ne) fun x y H Q h => ?_
  obtain ⟨A, dx, dy, t, hx, hy, e, q⟩ := h
  by_cases c : (okB dx 64 && okB dy 64) = true
  · have e' : some (!eqB dx dy) = some t := by
      rw [← e]; unfold eqD; dsimp only; rw [if_pos c]; rfl
    rw [Bool.and_eq_true] at c
    cases e'
    refine .inl ⟨toPy dx, toPy dy, VT.dp c.1 hx, VT.dp c.2 hy, ok_shaped c.1, ok_shaped c.2, ?_⟩
    rw [eqB_py dx dy 64 64 c.1 c.2]; exact q
  · have e' : (eqRp dx dy).map not = some t := by
      rw [← e]; unfold eqD; dsimp only; rw [if_neg c]
    obtain ⟨t', e2, rfl⟩ := Option.map_eq_some_iff.mp e'
    obtain ⟨h1, rfl, rfl⟩ := eqRp_of hx hy e2
    exact .inr ⟨h1, by rw [decide_eq_true rfl]; exact q⟩
theorem cD_lt : OpR X (compareOp .Lt) (rC2 G (cmpD .lt)) := by
  refine OpR.weak op_lt fun x y H Q h => ?_
  obtain ⟨A, dx, dy, t, hx, hy, e, q⟩ := h
  unfold cmpD at e
  dsimp only at e
  split at e
  · cases e
    rw [hx.int, hy.int]
    exact ⟨_, _, rfl, rfl, q⟩
  · cases e
theorem cD_le : OpR X (compareOp .LtE) (rC2 G (cmpD .le)) := by
  refine OpR.weak op_le fun x y H Q h => ?_
  obtain ⟨A, dx, dy, t, hx, hy, e, q⟩ := h
  unfold cmpD at e
  dsimp only at e
  split at e
  · cases e
    rw [hx.int, hy.int]
    exact ⟨_, _, rfl, rfl, q⟩
  · cases e
theorem cD_gt : OpR X (compareOp .Gt) (rC2 G (cmpD .gt)) := by
  refine OpR.weak op_gt fun x y H Q h => ?_
  obtain ⟨A, dx, dy, t, hx, hy, e, q⟩ := h
  unfold cmpD at e
  dsimp only at e
  split at e
  · cases e
    rw [hx.int, hy.int]
    exact ⟨_, _, rfl, rfl, q⟩
  · cases e
theorem cD_ge : OpR X (compareOp .GtE) (rC2 G (cmpD .ge)) := by
  refine OpR.weak op_ge fun x y H Q h => ?_
  obtain ⟨A, dx, dy, t, hx, hy, e, q⟩ := h
  unfold cmpD at e
  dsimp only at e
  split at e
  · cases e
    rw [hx.int, hy.int]
    exact ⟨_, _, rfl, rfl, q⟩
  · cases e
theorem VT.non_iff {A : Addr → Prop} {H : Hp} {d : D} {v : V} (h : VT G A H d v) : decide (v = .non) = isNon d := by
  cases d
  case non => unfold VT VR at h; rw [h]; rfl
  case lst xs => obtain ⟨p, vs, rfl, _⟩ := h; rfl
  case rp x => unfold VT VR at h; rw [h]; rfl
  case dct xs ys => obtain ⟨p, vs, rfl, _⟩ := h; rfl
  case tup xs => obtain ⟨p, vs, rfl, _⟩ := h.ref_tup; rfl
  case bl b => rw [h.bl]; rfl
  case int b => rw [h.int]; rfl
  case str b => rw [h.str]; rfl
  case ins c vs => unfold VT VR at h; exact h.elim
  case fn c => unfold VT VR at h; exact h.elim
  case strm => unfold VT VR at h; rw [h]; rfl
theorem cD_isN : OpR X (compareOp .Is) (rC2 G (cmpD .isN)) := by
  refine OpR.weak op_isN fun x y H Q h => ?_
  obtain ⟨A, dx, dy, t, hx, hy, e, q⟩ := h
  unfold cmpD at e
  dsimp only at e
  split at e
  · rename_i c
    cases e
    have ey : y = .non := of_decide_eq_true (hy.non_iff.trans c)
    refine ⟨ey, ?_⟩
    rw [hx.non_iff]
    exact q
  · cases e
theorem cD_notN : OpR X (compareOp .IsNot) (rC2 G (cmpD .notN)) := by
  refine OpR.weak op_notN fun x y H Q h => ?_
  obtain ⟨A, dx, dy, t, hx, hy, e, q⟩ := h
  unfold cmpD at e
  dsimp only at e
  split at e
  · rename_i c
    cases e
    have ey : y = .non := of_decide_eq_true (hy.non_iff.trans c)
    refine ⟨ey, ?_⟩
    rw [hx.non_iff]
    exact q
  · cases e
/-! ### in, not in -/
/-- a value's answer to == with x, read off what it stands for -/
noncomputable def ansU (G : Gd) (A : Addr → Prop) (H : Hp) (dx : D) (u : Value) : Bool :=
  open Classical in
  if h : ∃ d v, okB d 63 = true ∧ VR G A H d v ∧ RelV v u then eqB (Classical.choose h) dx else false
theorem ansU_of {A : Addr → Prop} {H : Hp} {dx d : D} {v : V} {u : Value} (hd : okB d 63 = true) (r : VR G A H d v) (ru : RelV v u) : ansU G A H dx u = eqB d dx := by
  unfold ansU
  have h : ∃ d v, okB d 63 = true ∧ VR G A H d v ∧ RelV v u := ⟨d, v, hd, r, ru⟩
  rw [dif_pos h]
  obtain ⟨v', h1, h2, h3⟩ := Classical.choose_spec h
  have e : v' = v := RelV.inj h3 ru
  subst e
  rw [VR.inj _ _ _ _ _ h1 hd h2 r]
theorem okB_mono : ∀ (a : D) (n m : Nat), n ≤ m → okB a n = true → okB a m = true := by
  suffices h : (∀ (a : D) (n m : Nat), n ≤ m → okB a n = true → okB a m = true) ∧ (∀ (a : List D) (n m : Nat), n ≤ m → okBs a n = true → okBs a m = true) from h.1
  have key : ∀ k, (∀ (a : D) (n m : Nat), n ≤ k → n ≤ m → okB a n = true → okB a m = true) ∧ (∀ (a : List D) (n m : Nat), n ≤ k → n ≤ m → okBs a n = true → okBs a m = true) := by
    intro k
    induction k with
    | zero =>
      have h1 : ∀ (a : D) (n m : Nat), n ≤ 0 → n ≤ m → okB a n = true → okB a m = true := fun a n m hn hm h => by
        have : n = 0 := by omega
        subst this
        cases a <;> first | exact h | (cases h; done)
      refine ⟨h1, fun a => ?_⟩
      induction a with
      | nil => intro n m _ _ _; rfl
      | cons x xs ih =>
        intro n m hn hm h
        simp only [okBs, Bool.and_eq_true] at h ⊢
        exact ⟨h1 x n m hn hm h.1, ih n m hn hm h.2⟩
    | succ k ihk =>
      have h1 : ∀ (a : D) (n m : Nat), n ≤ k + 1 → n ≤ m → okB a n = true → okB a m = true := fun a n m hn hm h => by
        cases a <;> try exact h
        case tup xs =>
          cases n with
          | zero => cases h
          | succ n =>
            cases m with
            | zero => omega
            | succ m => exact ihk.2 xs n m (by omega) (by omega) h
        case lst xs =>
          cases n with
          | zero => cases h
          | succ n =>
            cases m with
            | zero => omega
            | succ m => exact ihk.2 xs n m (by omega) (by omega) h
      refine ⟨h1, fun a => ?_⟩
      induction a with
      | nil => intro n m _ _ _; rfl
      | cons x xs ih =>
        intro n m hn hm h
        simp only [okBs, Bool.and_eq_true] at h ⊢
        exact ⟨h1 x n m hn hm h.1, ih n m hn hm h.2⟩
  exact ⟨fun a n m h q => (key n).1 a n m (Nat.le_refl _) h q, fun a n m h q => (key n).2 a n m (Nat.le_refl _) h q⟩
/-- the items' answers -/
theorem ans_all {A : Addr → Prop} {H : Hp} {Ar : Around} {s : Shared} {ux : Value} {dx : D} (hx : okB dx 64 = true) (reads : ∀ (d : D) (v : V) (u : Value), okB d 64 = true → VR G A H d v → RelV v u → ∃ as, Reads s.heap u (toPy d) as)
    (rx : ∃ as, Reads s.heap ux (toPy dx) as) (hu : Ar.units + 64 < cLine) :
    ∀ {ds : List D} {vs : List V} {us : List Value}, okBs ds 63 = true → VRs G A H ds vs → Vals vs us →
      (∀ u ∈ us, SeqAt.EqAt Ar s u ux (ansU G A H dx u)) ∧ us.any (ansU G A H dx) = ds.any fun d => eqB d dx
  | [], _, _, _, r, q => by
    unfold VRs at r; subst r; cases q
    exact ⟨(fun u hu => by cases hu), rfl⟩
  | d :: ds, _, _, h, r, q => by
    unfold VRs at r
    obtain ⟨v, vs, rfl, r1, r2⟩ := r
    cases q with
    | cons q1 q2 =>
      simp only [okBs, Bool.and_eq_true] at h
      have h64 := okB_mono d 63 64 (by decide) h.1
      obtain ⟨i1, i2⟩ := ans_all hx reads rx hu h.2 r2 q2
      have e := ansU_of (dx := dx) h.1 r1 q1
      obtain ⟨as, ra⟩ := reads d v _ h64 r1 q1
      obtain ⟨bs, rb⟩ := rx
      have hs1 := ok_shaped h64
      have hs2 := ok_shaped hx
      have eq1 := SeqAt.eqAt_reads (toPy d) (toPy dx) Ar s _ _ as bs ra rb (SeqAt.canLay_of_shaped hs1) (SeqAt.canLay_of_shaped hs2) (SeqAt.room_of_shaped hs1 hu)
      rw [eqB_py d dx 64 64 h64 hx] at eq1
      refine ⟨fun u hu => ?_, ?_⟩
      · rcases List.mem_cons.mp hu with rfl | hu
        · rw [e]; exact eq1
        · exact i1 u hu
      · rw [List.any_cons, List.any_cons, e, i2]
def isSeqD : D → Option (List D)
  | .lst xs => some xs
  | .tup xs => some xs
  | _ => none
def inSeq (x y : D) : Option Bool := (isSeqD y).bind (anyEq x)
theorem cD_inSeq (hu : X.A.in1.units + 64 < cLine) : OpR X (compareOp .In) (rC2 G inSeq) := by
  intro pins s σ H x y v u Q I rx ry h
  obtain ⟨A, dx, dy, t, hx, hy, e, q⟩ := h
  have rd : ∀ (d : D) (v : V) (u : Value), okB d 64 = true → VR G A H d v → RelV v u → ∃ as, Reads s.heap u (toPy d) as := fun d v u h1 h2 h3 => Dp.reads I _ _ _ (VR.dp (K := X.K) d v 64 h1 h2) h3
  have main : ∀ ds p vs, y = .ref p → VRs G A H ds vs → anyEq dx ds = some t → okB dx 64 = true ∧ okBs ds 63 = true ∧ t = ds.any fun d => eqB d dx := fun ds p vs _ _ h => by
    unfold anyEq at h
    split at h
    · rename_i c
      rw [Bool.and_eq_true] at c
      cases h
      exact ⟨c.1, c.2, rfl⟩
    · cases h
  unfold inSeq at e
  cases dy <;> simp only [isSeqD, Option.bind_some, Option.bind_none, reduceCtorEq] at e
  case lst ds =>
    obtain ⟨p, vs, rfl, h1, h2⟩ := hy
    cases ry
    obtain ⟨k1, k2, rfl⟩ := main ds p vs rfl h2 e
    obtain ⟨its, r, pl, hz⟩ := I.list (SqL.of h1)
    obtain ⟨a1, a2⟩ := ans_all (Ar := X.A.in1) k1 rd (Dp.reads I _ _ _ (VT.dp (K := X.K) k1 hx) rx) hu k2 h2 r
    refine SeqAt.in_listAt (ansU G A H dx) pl.isList (fun w hw => a1 w (by simpa using hw)) ⟨.bl _, H, I, rfl, ?_⟩
    rw [show its.toArray.any (ansU G A H dx) = its.any (ansU G A H dx) by simp, a2]
    exact q
  case tup ds =>
    obtain ⟨p, vs, rfl, h1, _, h2⟩ := hy.ref_tup
    cases ry
    obtain ⟨k1, k2, rfl⟩ := main ds p vs rfl h2 e
    obtain ⟨its, r, pl, hz⟩ := I.tuple (SqT.of h1)
    obtain ⟨a1, a2⟩ := ans_all (Ar := X.A.in1) k1 rd (Dp.reads I _ _ _ (VT.dp (K := X.K) k1 hx) rx) hu k2 h2 r
    refine SeqAt.in_tupleAt (ansU G A H dx) pl (fun w hw => a1 w (by simpa using hw)) ⟨.bl _, H, I, rfl, ?_⟩
    rw [show its.toArray.any (ansU G A H dx) = its.any (ansU G A H dx) by simp, a2]
    exact q
theorem cD_notinSeq (hu : X.A.in1.units + 64 < cLine) : OpR X (compareOp .NotIn) (rC2 G fun a b => (inSeq a b).map not) := by
  intro pins s σ H x y v u Q I rx ry h
  obtain ⟨A, dx, dy, t, hx, hy, e, q⟩ := h
  have rd : ∀ (d : D) (v : V) (u : Value), okB d 64 = true → VR G A H d v → RelV v u → ∃ as, Reads s.heap u (toPy d) as := fun d v u h1 h2 h3 => Dp.reads I _ _ _ (VR.dp (K := X.K) d v 64 h1 h2) h3
  have main : ∀ ds p vs, y = .ref p → VRs G A H ds vs → (anyEq dx ds).map not = some t → okB dx 64 = true ∧ okBs ds 63 = true ∧ t = !(ds.any fun d => eqB d dx) := fun ds p vs _ _ h => by
    unfold anyEq at h
    split at h
    · rename_i c
      rw [Bool.and_eq_true] at c
      cases h
      exact ⟨c.1, c.2, rfl⟩
    · cases h
  unfold inSeq at e
  cases dy <;> simp only [isSeqD, Option.bind_some, Option.bind_none, reduceCtorEq, Option.map_none] at e
  case lst ds =>
    obtain ⟨p, vs, rfl, h1, h2⟩ := hy
    cases ry
    obtain ⟨k1, k2, rfl⟩ := main ds p vs rfl h2 e
    obtain ⟨its, r, pl, hz⟩ := I.list (SqL.of h1)
    obtain ⟨a1, a2⟩ := ans_all (Ar := X.A.in1) k1 rd (Dp.reads I _ _ _ (VT.dp (K := X.K) k1 hx) rx) hu k2 h2 r
    refine SeqAt.notIn_listAt (ansU G A H dx) pl.isList (fun w hw => a1 w (by simpa using hw)) ⟨.bl _, H, I, rfl, ?_⟩
    rw [show its.toArray.any (ansU G A H dx) = its.any (ansU G A H dx) by simp, a2]
    exact q
  case tup ds =>
    obtain ⟨p, vs, rfl, h1, _, h2⟩ := hy.ref_tup
    cases ry
    obtain ⟨k1, k2, rfl⟩ := main ds p vs rfl h2 e
    obtain ⟨its, r, pl, hz⟩ := I.tuple (SqT.of h1)
    obtain ⟨a1, a2⟩ := ans_all (Ar := X.A.in1) k1 rd (Dp.reads I _ _ _ (VT.dp (K := X.K) k1 hx) rx) hu k2 h2 r
    refine SeqAt.notIn_tupleAt (ansU G A H dx) pl (fun w hw => a1 w (by simpa using hw)) ⟨.bl _, H, I, rfl, ?_⟩
    rw [show its.toArray.any (ansU G A H dx) = its.any (ansU G A H dx) by simp, a2]
    exact q
/-! a key in a dict -/
theorem key_of {k : D} {c : Key} (h : keyOf k = some c) {A : Addr → Prop} {H : Hp} {v : V} (r : VT G A H k v) : v = kV c := by
  cases k <;> simp only [keyOf, reduceCtorEq] at h
  case int i => cases h; exact r.int
  case str s => cases h; exact r.str
theorem keyOf_of {k : D} (h : isKey k = true) : ∃ c, keyOf k = some c := by
  cases k <;> first | exact ⟨_, rfl⟩ | cases h
theorem keyEq_of {a b : D} {c d : Key} (ha : keyOf a = some c) (hb : keyOf b = some d) : keyEq a b = decide (c = d) := by
  cases a <;> simp only [keyOf, reduceCtorEq] at ha <;> cases b <;> simp only [keyOf, reduceCtorEq] at hb <;> cases ha <;> cases hb
  case int.int i j => rw [key_ll]; rfl
  case int.str i j => rw [key_lr]; rfl
  case str.int i j => rw [key_rl]; rfl
  case str.str i j =>
    rw [key_rr]
    show (i == j) = _
    by_cases e : i = j
    · subst e; simp
    · rw [beq_eq_false_iff_ne.mpr e, decide_eq_false fun z => e (sOf_inj z)]
theorem lookD_of {k : D} {c : Key} (hk : keyOf k = some c) : ∀ {ks : List D} {us : List Vl} {kvs : List (Key × V)} {P : Vl → V → Prop}, KeysOk ks kvs → Paired P us (kvs.map (·.2)) →
    (∀ a, lookD k ks us = some a → ∃ v, valV kvs c = some v ∧ P a v) ∧ (hasD k ks = (valV kvs c).isSome)
  | [], us, [], _, _, _ => ⟨fun a h => (by unfold lookD at h; cases h), rfl⟩
  | [], _, _ :: _, _, h, _ => False.elim h
  | _ :: _, _, [], _, h, _ => False.elim h
  | a :: ks, _, p :: kvs, P, h, q => by
    cases q with
    | cons q1 q2 =>
      obtain ⟨h1, h2⟩ := h
      have e := keyEq_of h1 hk
      obtain ⟨i1, i2⟩ := lookD_of hk h2 q2
      by_cases z : p.1 = c
      · rw [decide_eq_true z] at e
        refine ⟨fun a' h' => ?_, ?_⟩
        · unfold lookD at h'
          rw [if_pos e] at h'
          cases h'
          exact ⟨_, valV_pos z, q1⟩
        · rw [valV_pos z]
          show (keyEq a k || hasD k ks) = true
          rw [e]; rfl
      · rw [decide_eq_false z] at e
        refine ⟨fun a' h' => ?_, ?_⟩
        · unfold lookD at h'
          rw [if_neg (by rw [e]; exact Bool.false_ne_true)] at h'
          rw [valV_neg z]
          exact i1 a' h'
        · rw [valV_neg z, ← i2]
          show (keyEq a k || hasD k ks) = hasD k ks
          rw [e]; rfl
theorem repD_of {k : D} {c : Key} (hk : keyOf k = some c) {a : Vl} {v : V} {P : Vl → V → Prop} (r : P a v) : ∀ {ks : List D} {us : List Vl} {kvs : List (Key × V)}, KeysOk ks kvs → Paired P us (kvs.map (·.2)) →
    KeysOk ks (kvs.map fun kv => if kv.1 = c then (kv.1, v) else kv) ∧ Paired P (repD k a ks us) ((kvs.map fun kv => if kv.1 = c then (kv.1, v) else kv).map (·.2))
  | [], us, [], _, q => by
    cases q
    exact ⟨trivial, .nil⟩
  | [], _, _ :: _, h, _ => False.elim h
  | _ :: _, _, [], h, _ => False.elim h
  | x :: ks, _, p :: kvs, h, q => by
    cases q with
    | cons q1 q2 =>
      obtain ⟨h1, h2⟩ := h
      have e := keyEq_of h1 hk
      obtain ⟨i1, i2⟩ := repD_of hk r h2 q2
      unfold repD
      by_cases z : p.1 = c
      · rw [decide_eq_true z] at e
        rw [if_pos e]
        simp only [List.map_cons, if_pos z]
        exact ⟨⟨h1, i1⟩, .cons r i2⟩
      · rw [decide_eq_false z] at e
        rw [if_neg (by rw [e]; exact Bool.false_ne_true)]
        simp only [List.map_cons, if_neg z]
        exact ⟨⟨h1, i1⟩, .cons q1 i2⟩
theorem KeysOk.snoc : ∀ {ks : List D} {kvs : List (Key × V)} {k : D} {p : Key × V}, KeysOk ks kvs → keyOf k = some p.1 → KeysOk (ks ++ [k]) (kvs ++ [p])
  | [], [], _, _, _, h => ⟨h, trivial⟩
  | [], _ :: _, _, _, h, _ => False.elim h
  | _ :: _, [], _, _, h, _ => False.elim h
  | _ :: _, _ :: _, _, _, h, q => ⟨h.1, KeysOk.snoc h.2 q⟩
theorem Paired.app {α β : Type} {F : α → β → Prop} : ∀ {xs ys : List α} {us ws : List β}, Paired F xs us → Paired F ys ws → Paired F (xs ++ ys) (us ++ ws)
  | _, _, _, _, .nil, s => s
  | _, _, _, _, .cons r t, s => .cons r (Paired.app t s)
theorem putD_of {k : D} {c : Key} (hk : keyOf k = some c) {a : Vl} {v : V} {P : Vl → V → Prop} (r : P a v) {ks : List D} {us : List Vl} {kvs : List (Key × V)} (h : KeysOk ks kvs) (q : Paired P us (kvs.map (·.2))) :
    KeysOk (putD k a ks us).1 (putK kvs c v) ∧ Paired P (putD k a ks us).2 ((putK kvs c v).map (·.2)) := by
  obtain ⟨_, e⟩ := lookD_of hk h q
  unfold putD
  cases z : valV kvs c with
  | none =>
    rw [z] at e
    rw [if_neg (by rw [e]; exact Bool.false_ne_true), putK_new v z]
    refine ⟨h.snoc hk, ?_⟩
    rw [List.map_append]
    exact Paired.app q (.cons r .nil)
  | some y =>
    rw [z] at e
    rw [if_pos (by rw [e]; rfl)]
    have e2 : putK kvs c v = kvs.map fun kv => if kv.1 = c then (kv.1, v) else kv := by
      unfold putK
      rw [if_pos (by rw [valV_any, z]; rfl)]
    rw [e2]
    exact repD_of hk r h q
theorem KeysOk.length : ∀ {ks : List D} {kvs : List (Key × V)}, KeysOk ks kvs → ks.length = kvs.length
  | [], [], _ => rfl
  | [], _ :: _, h => False.elim h
  | _ :: _, [], h => False.elim h
  | _ :: _, _ :: _, h => by simp [KeysOk.length h.2]
/-! in, not in: any container -/
theorem op_inDct (hu : X.A.units + 1 < cLine) : OpR X (compareOp .In) (fun x y H Q => ∃ a o, y = .ref a ∧ DGet H a x o ∧ Q (.bl o.isSome) H) := by
  intro pins s σ H x y v u Q I rx ry h
  obtain ⟨a, o, rfl, g, q⟩ := h
  cases ry
  exact d_in hu I g rx fun s' I' => ⟨.bl _, H, I', rfl, q⟩
theorem op_notInDct (hu : X.A.units + 1 < cLine) : OpR X (compareOp .NotIn) (fun x y H Q => ∃ a o, y = .ref a ∧ DGet H a x o ∧ Q (.bl (!o.isSome)) H) := by
  intro pins s σ H x y v u Q I rx ry h
  obtain ⟨a, o, rfl, g, q⟩ := h
  cases ry
  exact d_notIn hu I g rx fun s' I' => ⟨.bl _, H, I', rfl, q⟩
def inDct (x y : D) : Option Bool := match y with
  | .dct ks _ => if isKey x then some (hasD x ks) else none
  | _ => none
def inStr (x y : D) : Option Bool := match x, y with
  | .str [c], .str b => some (decide (c ∈ b))
  | _, _ => none
theorem VRs.paired {A : Addr → Prop} {H : Hp} : ∀ {ds : List D} {vs : List V}, VRs G A H ds vs → Paired (VR G A H) ds vs
  | [], _, h => by unfold VRs at h; rw [h]; exact .nil
  | d :: ds, _, h => by
    unfold VRs at h
    obtain ⟨w, ws, rfl, h1, h2⟩ := h
    exact .cons h1 (VRs.paired h2)
theorem VRs.of_paired {A : Addr → Prop} {H : Hp} : ∀ {ds : List D} {vs : List V}, Paired (VR G A H) ds vs → VRs G A H ds vs
  | [], _, .nil => VRs.nil
  | _ :: _, _, .cons r t => VRs.cons r (VRs.of_paired t)
theorem Paired.mapL {α β γ : Type} {f : α → γ} {P : γ → β → Prop} : ∀ {xs : List α} {ys : List β}, Paired (fun a b => P (f a) b) xs ys → Paired P (xs.map f) ys
  | _, _, .nil => .nil
  | _, _, .cons r t => .cons r (Paired.mapL t)
theorem cD_inDct (hu : X.A.units + 1 < cLine) : OpR X (compareOp .In) (rC2 G inDct) := by
  refine OpR.weak (op_inDct hu) fun x y H Q h => ?_
  obtain ⟨A, dx, dy, t, hx, hy, e, q⟩ := h
  cases dy <;> simp only [inDct, reduceCtorEq] at e
  case dct ks us =>
    split at e
    · rename_i c
      cases e
      obtain ⟨k, hk⟩ := keyOf_of c
      obtain ⟨p, kvs, rfl, h1, h2, h3⟩ := hy
      have ex := key_of hk hx
      subst ex
      refine ⟨p, _, rfl, .k h1, ?_⟩
      rw [← (lookD_of hk h2 (us := us.map Vl.d) (P := fun a b => ∃ d, a = Vl.d d ∧ VR G A H d b) (Paired.mapL (Paired.mapP h3.paired fun a b r => ⟨a, rfl, r⟩))).2]
      exact q
    · cases e
theorem cD_notinDct (hu : X.A.units + 1 < cLine) : OpR X (compareOp .NotIn) (rC2 G fun a b => (inDct a b).map not) := by
  refine OpR.weak (op_notInDct hu) fun x y H Q h => ?_
  obtain ⟨A, dx, dy, t, hx, hy, e, q⟩ := h
  cases dy <;> simp only [inDct, reduceCtorEq, Option.map_none] at e
  case dct ks us =>
    split at e
    · rename_i c
      cases e
      obtain ⟨k, hk⟩ := keyOf_of c
      obtain ⟨p, kvs, rfl, h1, h2, h3⟩ := hy
      have ex := key_of hk hx
      subst ex
      refine ⟨p, _, rfl, .k h1, ?_⟩
      rw [← (lookD_of hk h2 (us := us.map Vl.d) (P := fun a b => ∃ d, a = Vl.d d ∧ VR G A H d b) (Paired.mapL (Paired.mapP h3.paired fun a b r => ⟨a, rfl, r⟩))).2]
      exact q
    · cases e
theorem cD_inStr : OpR X (compareOp .In) (rC2 G inStr) := by
  refine OpR.weak op_in_sign fun x y H Q h => ?_
  obtain ⟨A, dx, dy, t, hx, hy, e, q⟩ := h
  unfold inStr at e
  split at e
  · cases e
    rw [hx.str, hy.str]
    exact ⟨_, _, rfl, rfl, q⟩
  · cases e
theorem cD_notinStr : OpR X (compareOp .NotIn) (rC2 G fun a b => (inStr a b).map not) := by
  refine OpR.weak op_notIn_sign fun x y H Q h => ?_
  obtain ⟨A, dx, dy, t, hx, hy, e, q⟩ := h
  dsimp only at e
  unfold inStr at e
  split at e
  · cases e
    rw [hx.str, hy.str]
    exact ⟨_, _, rfl, rfl, q⟩
  · cases e
theorem inD_cases {x y : D} {t : Bool} (h : inD x y = some t) : inSeq x y = some t ∨ inDct x y = some t ∨ inStr x y = some t := by
  cases y <;> simp only [inD, reduceCtorEq] at h
  case lst ys => exact .inl h
  case tup ys => exact .inl h
  case dct ks us => exact .inr (.inl h)
  case str b =>
    refine .inr (.inr ?_)
    split at h
    · exact h
    · cases h
theorem cD_in (hu : X.A.in1.units + 64 < cLine) (hu1 : X.A.units + 1 < cLine) : OpR X (compareOp .In) (rC2 G inD) := by
  refine OpR.weak (OpR.or (cD_inSeq (G := G) hu) (OpR.or (cD_inDct (G := G) hu1) (cD_inStr (G := G)))) fun x y H Q h => ?_
  obtain ⟨A, dx, dy, t, hx, hy, e, q⟩ := h
  rcases inD_cases e with e | e | e
  · exact .inl ⟨A, dx, dy, t, hx, hy, e, q⟩
  · exact .inr (.inl ⟨A, dx, dy, t, hx, hy, e, q⟩)
  · exact .inr (.inr ⟨A, dx, dy, t, hx, hy, e, q⟩)
theorem cD_notin (hu : X.A.in1.units + 64 < cLine) (hu1 : X.A.units + 1 < cLine) : OpR X (compareOp .NotIn) (rC2 G fun a b => (inD a b).map not) := by
  refine OpR.weak (OpR.or (cD_notinSeq (G := G) hu) (OpR.or (cD_notinDct (G := G) hu1) (cD_notinStr (G := G)))) fun x y H Q h => ?_
  obtain ⟨A, dx, dy, t, hx, hy, e, q⟩ := h
  obtain ⟨t', e', rfl⟩ := Option.map_eq_some_iff.mp e
  rcases inD_cases e' with e' | e' | e'
  · exact .inl ⟨A, dx, dy, _, hx, hy, by dsimp only; rw [e']; rfl, q⟩
  · exact .inr (.inl ⟨A, dx, dy, _, hx, hy, by dsimp only; rw [e']; rfl, q⟩)
  · exact .inr (.inr ⟨A, dx, dy, _, hx, hy, by dsimp only; rw [e']; rfl, q⟩)
def copOf : COp → CmpOp
  | .eq => .Eq
  | .ne => .NotEq
  | .lt => .Lt
  | .le => .LtE
  | .gt => .Gt
  | .ge => .GtE
  | .isN => .Is
  | .notN => .IsNot
  | .isin => .In
  | .notin => .NotIn
theorem cD {k : Nat} (hr : Room k X.A) (o : COp) : OpR X (compareOp (copOf o)) (rC2 G (cmpD o)) := by
  have hu := hr.un
  have h1 : X.A.in1.units + 64 < cLine := by show X.A.units + 1 + 64 < cLine; omega
  cases o with
  | eq => exact cD_eq (by omega)
  | ne => exact cD_ne (by omega)
  | lt => exact cD_lt
  | le => exact cD_le
  | gt => exact cD_gt
  | ge => exact cD_ge
  | isN => exact cD_isN
  | notN => exact cD_notN
  | isin => exact cD_in h1 (by omega)
  | notin => exact cD_notin h1 (by omega)
end
end EV

end
section
set_option Elab.async false
set_option linter.all false
set_option maxRecDepth 100000
set_option maxHeartbeats 4000000
/-! EV 4: the checker of expressions; readings by the evaluator. -/
namespace EV
open PySem PySem.Spec PyProof.Rows L2

/-! ### own errors in the air -/
/-- the error classes: their addresses, their fields' names -/
structure ErrC where
  at' : Addr
  fields : List Str
  name : Str
def ErrR (cs : List ErrC) (G : Gd) (W : Wd) (H : Hp) (c : Nat) (fs : List D) (cls : Value) (d : Option Addr) : Prop :=
  ∃ ec vs dd, cs[c]? = some ec ∧ cls = .ref ec.at' ∧ d = some dd ∧ H dd = some (.xd (ec.fields.zip vs)) ∧ vs.length = ec.fields.length ∧ VRs G (Av G W) H fs vs ∧ ¬ Av G W dd

/-! ### readings -/
section
variable (cs : List ErrC) (G : Gd) (Wx : WX)
def KX (W : Wd) (H : Hp) (σ : L2.St) : Nat → List D → Store → Nat → Prop := fun c fs s b =>
  ∀ W' H' cls d, Ext G W H W' H' → Rel G W' s b H' → ErrR cs G W' H' c fs cls d → Wx cls d σ H'
def KV' (W : Wd) (H : Hp) (Q : VK) : Vl → Store → Nat → Prop := fun a s b =>
  ∀ W' H' v, Ext G W H W' H' → Rel G W' s b H' → VlR G W' H' a v → Q v H'
def KA (W : Wd) (H : Hp) (Q : List V → Hp → Prop) : Vl → Store → Nat → Prop := fun a s b =>
  ∃ vs, a = .its vs ∧ ∀ W' H' us, Ext G W H W' H' → Rel G W' s b H' → VlRs G W' H' vs us → Q us H'
def KT (W : Wd) (H : Hp) (Q : Bool → Hp → Prop) : Vl → Store → Nat → Prop := fun a s b =>
  ∃ t, truth a = some t ∧ ∀ W' H', Ext G W H W' H' → Rel G W' s b H' → Q t H'
/-- a walk's items -/
structure ItOk (W : Wd) (H : Hp) (vs : List Vl) (J : It) : Prop where
  go : ∀ W2 H2 (i : Nat) a st b, ExtA G W H W2 H2 → Rel G W2 st b H2 → vs[i]? = some a → J.go i H2 ∧ ∀ x H3, J.yld i H2 x H3 → (∀ q o, H2 q = some o → H3 q = some o) ∧ VlR G W2 H3 a x
  stop : ∀ W2 H2, ExtA G W H W2 H2 → J.stop vs.length H2
def KI (W : Wd) (H : Hp) (R : It → Hp → Prop) : Vl → Store → Nat → Prop := fun a s b =>
  ∃ vs, itsOf a = some vs ∧ ∀ W' H' J, Ext G W H W' H' → Rel G W' s b H' → ItOk G W' H' vs J → R J H'
/-- what stands around a reading -/
def Here (run : Env → Store → E Vl) (σ : L2.St) (H : Hp) (K : Wd → Hp → Vl → Store → Nat → Prop) : Prop :=
  ∃ W e st b, Rel G W st b H ∧ EnvR G W H e σ ∧ EG (K W H) (KX cs G Wx W H σ) (run e st) b
def tE (run : Env → Store → E Vl) : TE := fun σ H Q => Here cs G Wx run σ H fun W H => KV' G W H Q
def tA (run : Env → Store → E Vl) : TA := fun σ H Q => Here cs G Wx run σ H fun W H => KA G W H Q
def tT (run : Env → Store → E Vl) : TT := fun σ H Q => Here cs G Wx run σ H fun W H => KT G W H Q
def tI (run : Env → Store → E Vl) : TI := fun σ H R => Here cs G Wx run σ H fun W H => KI G W H R
end
section
variable {cs : List ErrC} {G : Gd} {Wx : WX} {X : Cx}
theorem KX.mono {W W1 : Wd} {H H1 : Hp} {σ : L2.St} (x : Ext G W H W1 H1) {c : Nat} {fs : List D} {s : Store} {b : Nat} (h : KX cs G Wx W H σ c fs s b) : KX cs G Wx W1 H1 σ c fs s b :=
  fun W' H' cls d e r q => h W' H' cls d (x.trans e) r q
/-- a run behind another one -/
theorem Here.next {run : Env → Store → E Vl} {σ : L2.St} {W W1 : Wd} {H H1 : Hp} {e : Env} {s : Store} {b : Nat} {K : Wd → Hp → Vl → Store → Nat → Prop} {K0 : Vl → Store → Nat → Prop} (x : Ext G W H W1 H1) (R : Rel G W1 s b H1) (V : EnvR G W H e σ)
    (g : EG K0 (KX cs G Wx W H σ) (run e s) b) (h : ∀ a s b, K0 a s b → K W1 H1 a s b) : Here cs G Wx run σ H1 K :=
  ⟨W1, e, s, b, R, V.ext x, g.mono h fun c fs s b q => q.mono x⟩
theorem PE.imp {e : Expr} {t t' : TE} (h : PE X e t) (i : ∀ σ H Q, t' σ H Q → t σ H Q) : PE X e t' := ⟨fun pins s σ H Q I q => h.run pins s σ H Q I (i σ H Q q)⟩
theorem PW.imp {X : Cx} {e : Expr} {t t' : TT} (h : PW X e t) (i : ∀ σ H Q, t' σ H Q → t σ H Q) : PW X e t' := ⟨fun wh pins s σ H Q I q => h.run wh pins s σ H Q I (i σ H Q q)⟩
theorem PT.imp {e : Expr} {t t' : TT} (h : PT X e t) (i : ∀ σ H Q, t' σ H Q → t σ H Q) : PT X e t' := ⟨fun pins s σ H Q I q => h.run pins s σ H Q I (i σ H Q q)⟩
theorem PA.imp {e : List Expr} {t t' : TA} (h : PA X e t) (i : ∀ σ H Q, t' σ H Q → t σ H Q) : PA X e t' := ⟨fun pos pins s σ H Q I q => h.run pos pins s σ H Q I (i σ H Q q)⟩
theorem PI.imp {tg e : Expr} {t t' : TI} (h : PI X tg e t) (i : ∀ σ H Q, t' σ H Q → t σ H Q) : PI X tg e t' := ⟨fun pins s σ H Q I q => h.run pins s σ H Q I (i σ H Q q)⟩

/-! ### constants -/
def litOf : Const → Option D
  | .none => some .non
  | .bool b => some (.bl b)
  | .int i => some (.int i)
  | .str s => some (.str s.cps.toList)
  | _ => none
def flatD : D → Option V
  | .non => some .non
  | .bl b => some (.bl b)
  | .int i => some (.int i)
  | .str s => some (.str (sOf s))
  | _ => none
theorem flat_VR {A : Addr → Prop} {H : Hp} {d : D} {v : V} (h : flatD d = some v) : VR G A H d v := by
  cases d <;> simp only [flatD, reduceCtorEq] at h <;> cases h <;> unfold VR <;> rfl
theorem pe_lit {k : Const} {d : D} {j : Nat} {pos : Pos} (h : litOf k = some d) {run : Env → Store → E Vl} (hr : ∀ e st, run e st = ret (.d d) st) : PE X (.Constant k j pos) (tE cs G Wx run) := by
  have fin : ∀ v, flatD d = some v → ∀ σ H Q, tE cs G Wx run σ H Q → Q v H := fun v hv σ H Q ⟨W, e, st, b, R, V, g⟩ => by
    rw [hr] at g
    exact g W H v .refl R (flat_VR hv)
  cases k <;> simp only [litOf, reduceCtorEq] at h <;> cases h
  case none => exact PE.imp pe_non (fin _ rfl)
  case bool b => exact PE.imp pe_bl (fin _ rfl)
  case int i => exact PE.imp pe_int (fin _ rfl)
  case str s => exact PE.imp pe_str (fin _ (by show some (V.str ⟨s.cps.toList.toArray⟩) = _; simp))
/-! ### names -/
theorem pe_slot {i : Nat} {x : Str} {pos : Pos} (hN : X.N[i]? = some x) (hv : Vis X.env.scope x) (hd : (x == ("__debug__" : Str)) = false) (hcd : (x == ("__classdict__" : Str)) = false)
    {run : Env → Store → E Vl} (hr : ∀ e st, run e st = lift (envGet e i) st) : PE X (.Name x pos) (tE cs G Wx run) := by
  refine PE.imp (pe_var hN hv hd hcd) fun σ H Q ⟨W, e, st, b, R, V, g⟩ => ?_
  rw [hr, EG_lift] at g
  obtain ⟨a, ea, g⟩ := g
  obtain ⟨v, h1, h2⟩ := V.get ea
  exact ⟨v, h1, g W H v .refl R h2⟩
/-! ### two operands -/
theorem here_two {ra rb : Env → Store → E Vl} {f : Vl → Vl → Store → E Vl} {run : Env → Store → E Vl} (hr : ∀ e st, run e st = bnd (ra e st) fun x st => bnd (rb e st) fun y st => f x y st)
    {σ : L2.St} {H : Hp} {Q : VK} {r : R2} (h : tE cs G Wx run σ H Q)
    (fin : ∀ W H W2 H2 x y v u s b Q, Ext G W H W2 H2 → Rel G W2 s b H2 → VlR G W2 H2 x v → VlR G W2 H2 y u → EG (KV' G W H Q) (KX cs G Wx W H σ) (f x y s) b → r v u H2 Q) :
    tOp r (tE cs G Wx ra) (tE cs G Wx rb) σ H Q := by
  obtain ⟨W, e, st, b, R, V, g⟩ := h
  rw [hr, EG_bnd] at g
  refine ⟨W, e, st, b, R, V, g.mono (fun a s b g W1 H1 v x1 R1 r1 => ?_) fun _ _ _ _ q => q⟩
  rw [EG_bnd] at g
  refine Here.next x1 R1 V g fun a2 s2 b2 g W2 H2 u x2 R2 r2 => ?_
  exact fin W H W2 H2 _ _ _ _ _ _ _ (x1.trans x2) R2 (r1.ext x2) r2 g
theorem VlR_bl {W : Wd} {H : Hp} {t : Bool} : VlR G W H (.d (.bl t)) (.bl t) := VR.bl (G := G) (A := Av G W) (H := H)
theorem VlR_int {W : Wd} {H : Hp} {t : Int} : VlR G W H (.d (.int t)) (.int t) := VR.int (G := G) (A := Av G W) (H := H)
theorem VlR_non {W : Wd} {H : Hp} : VlR G W H (.d .non) .non := VR.non (G := G) (A := Av G W) (H := H)
theorem geti_some {st : Store} {i : Nat} {c : Cell} (h : geti st i = some c) : st[i]? = some (some c) := by
  unfold geti at h
  cases z : st[i]? with
  | none => rw [z] at h; cases h
  | some o =>
    rw [z] at h
    have h' : o = some c := h
    rw [h']
theorem snap_VT {W : Wd} {st : Store} {b : Nat} {H : Hp} {a : Vl} {v : V} {d : D} (R : Rel G W st b H) (r : VlR G W H a v) (h : snap st a = some d) : VT G (Av G W) H d v := by
  cases a with
  | d x => cases h; exact VR.top r
  | thk => cases h
  | its xs => cases h
  | exn c fs => cases h
  | h x => cases h
  | hr i x => cases h
  | ref i =>
    unfold snap at h
    have dats_of : ∀ {xs : List Vl} {ds : List D} {vs : List V}, dats xs = some ds → VlRs G W H xs vs → VRs G (Av G W) H ds vs := by
      intro xs
      induction xs with
      | nil => intro ds vs h q; cases q; cases h; exact VRs.nil
      | cons x xs ih =>
        intro ds vs h q
        cases q with
        | cons q1 q2 =>
          cases x <;> simp only [dats, reduceCtorEq] at h
          case d x =>
            obtain ⟨ds', e, rfl⟩ := Option.map_eq_some_iff.mp h
            exact VRs.cons q1 (ih e q2)
    have main : ∀ c, geti st i = some c → ∃ p, CellR G W H p c ∧ v = .ref p := fun c z => by
      obtain ⟨p, h1, h2⟩ := R.cell i c (geti_some z)
      exact ⟨p, h2, r.2 p h1⟩
    dsimp only at h
    split at h
    · rename_i xs z
      obtain ⟨p, ⟨vs, k1, k2⟩, ev⟩ := main _ z
      obtain ⟨ds, e, rfl⟩ := Option.map_eq_some_iff.mp h
      exact ⟨p, vs, ev, k1, dats_of e k2⟩
    · rename_i ks us z
      obtain ⟨p, ⟨kvs, k1, k2, k3⟩, ev⟩ := main _ z
      obtain ⟨ds, e, rfl⟩ := Option.map_eq_some_iff.mp h
      exact ⟨p, kvs, ev, k1, k2, dats_of e k3⟩
    · rename_i c us z
      obtain ⟨p, k, _⟩ := main _ z
      exact k.elim
    · cases h
theorem pe_binD {o : BOp} {a b : Expr} {pos : Pos} {ra rb : Env → Store → E Vl} (ha : PE X a (tE cs G Wx ra)) (hb : PE X b (tE cs G Wx rb)) {run : Env → Store → E Vl}
    (hr : ∀ e st, run e st = bnd (ra e st) fun x st => bnd (rb e st) fun y st => match snap st x, snap st y with
      | some x, some y => lift ((binD o x y).map .d) st
      | _, _ => .err) : PE X (.BinOp a (bopOf o) b pos) (tE cs G Wx run) := by
  refine PE.imp (pe_op (opD (G := G) o) ha hb) fun σ H Q h => here_two hr h fun W H W2 H2 x y v u s b Q e2 R r1 r2 g => ?_
  split at g
  · rename_i dx dy e1 e2'
    rw [EG_lift] at g
    obtain ⟨a', ea, g⟩ := g
    obtain ⟨d, ed, rfl⟩ := Option.map_eq_some_iff.mp ea
    exact ⟨W2, s, b, dx, dy, d, R, snap_VT R r1 e1, snap_VT R r2 e2', ed, fun H' v' x' R' r' => g W2 H' v' (e2.trans x') R' r'⟩
  · exact g.elim
theorem pe_cmpD {k : Nat} (room : Room k X.A) {o : COp} {a b : Expr} {pos : Pos} {ra rb : Env → Store → E Vl} (ha : PE X a (tE cs G Wx ra)) (hb : PE X b (tE cs G Wx rb)) (hm : behindInMarks (copOf o) b = false) {run : Env → Store → E Vl}
    (hr : ∀ e st, run e st = bnd (ra e st) fun x st => bnd (rb e st) fun y st => match snap st x, snap st y with
      | some x, some y => lift ((cmpD o x y).map fun t => .d (.bl t)) st
      | _, _ => .err) : PE X (.Compare a [copOf o] [b] pos) (tE cs G Wx run) ∧ PT X (.Compare a [copOf o] [b] pos) (tT cs G Wx run) := by
  constructor
  · refine PE.imp (pe_cmpR (cD (G := G) room o) ha hb hm) fun σ H Q h => here_two hr h fun W H W2 H2 x y v u s b Q e2 R r1 r2 g => ?_
    split at g
    · rename_i dx dy e1 e2'
      rw [EG_lift] at g
      obtain ⟨a', ea, g⟩ := g
      obtain ⟨t, et, rfl⟩ := Option.map_eq_some_iff.mp ea
      exact ⟨_, dx, dy, t, snap_VT R r1 e1, snap_VT R r2 e2', et, g W2 H2 _ e2 R VlR_bl⟩
    · exact g.elim
  · refine PT.imp (pt_cmpR (cD (G := G) room o) ha hb hm) fun σ H Q h => ?_
    obtain ⟨W, e, st, b, R, V, g⟩ := h
    refine here_two (Q := fun x H' => ∃ k, x = .bl k ∧ Q k H') hr ⟨W, e, st, b, R, V, g.mono (fun a s b q W' H' v x' R' r' => ?_) fun _ _ _ _ q => q⟩ fun W H W2 H2 x y v u s b Q e2 R r1 r2 g => ?_
    · obtain ⟨t, et, q⟩ := q
      cases a with
      | d d =>
        cases d <;> simp only [truth, reduceCtorEq] at et
        case bl t' =>
          cases et
          exact ⟨t, by unfold VlR VR at r'; exact r', q W' H' x' R'⟩
      | _ => simp only [truth, reduceCtorEq] at et
    · split at g
      · rename_i dx dy e1 e2'
        rw [EG_lift] at g
        obtain ⟨a', ea, g⟩ := g
        obtain ⟨t, et, rfl⟩ := Option.map_eq_some_iff.mp ea
        exact ⟨_, dx, dy, t, snap_VT R r1 e1, snap_VT R r2 e2', et, g W2 H2 _ e2 R VlR_bl⟩
      · exact g.elim
end
end EV

end
section
set_option Elab.async false
set_option linter.all false
set_option maxRecDepth 100000
set_option maxHeartbeats 4000000
/-! EV 5: more expressions. -/
namespace EV
open PySem PySem.Spec PyProof.Rows L2
section
variable {cs : List ErrC} {G : Gd} {Wx : WX} {X : Cx}
theorem tru_bl {G : Gd} {W : Wd} {H : Hp} {a : Vl} {v : V} {t : Bool} (h : truth a = some t) (r : VlR G W H a v) : v = .bl t := by
  cases a with
  | d d =>
    cases d <;> simp only [truth, reduceCtorEq] at h
    case bl t' =>
      cases h
      unfold VlR VR at r; exact r
  | _ => simp only [truth, reduceCtorEq] at h
/-- a test out of a value -/
theorem tB_of {run : Env → Store → E Vl} {σ : L2.St} {H : Hp} {Q : Bool → Hp → Prop} (h : tT cs G Wx run σ H Q) : tB (tE cs G Wx run) σ H Q := by
  obtain ⟨W, e, st, b, R, V, g⟩ := h
  refine ⟨W, e, st, b, R, V, g.mono (fun a s b q W' H' v x r rv => ?_) fun _ _ _ _ q => q⟩
  obtain ⟨t, et, q⟩ := q
  exact ⟨t, tru_bl et rv, q W' H' x r⟩
theorem pt_ofE {run : Env → Store → E Vl} {e : Expr} (h : PE X e (tE cs G Wx run)) (he : ∀ whole, isTrue e X.env whole = (do let v ← whole; standAt e.pos; holding [v] (truthy v))) : PT X e (tT cs G Wx run) :=
  PT.imp (pt_val h he) fun _ _ _ q => tB_of q
/-- a run of a test, then a way by its answer -/
theorem here_if {rt : Env → Store → E Vl} {f : Vl → Env → Store → E Vl} {run : Env → Store → E Vl} {K : Wd → Hp → Vl → Store → Nat → Prop} (hr : ∀ e st, run e st = bnd (rt e st) fun x st => f x e st)
    (hf : ∀ x e s, truth x = none → f x e s = .err) {σ : L2.St} {H : Hp} (h : Here cs G Wx run σ H K) {Q : Bool → Hp → Prop}
    (fin : ∀ W H W1 H1 x t s b e, Ext G W H W1 H1 → Rel G W1 s b H1 → EnvR G W1 H1 e σ → EG (K W H) (KX cs G Wx W H σ) (f x e s) b → truth x = some t → Q t H1) : tT cs G Wx rt σ H Q := by
  obtain ⟨W, e, st, b, R, V, g⟩ := h
  rw [hr, EG_bnd] at g
  refine ⟨W, e, st, b, R, V, g.mono (fun a s b g => ?_) fun _ _ _ _ q => q⟩
  cases z : truth a with
  | none => rw [hf a e s z] at g; exact g.elim
  | some t => exact ⟨t, z, fun W' H' x r => fin W H W' H' a t s b e x r (V.ext x) g z⟩
/-- and so behind a longer way: the end's wish carries over -/
theorem Here.on {run : Env → Store → E Vl} {σ : L2.St} {W W1 : Wd} {H H1 : Hp} {e : Env} {s : Store} {b : Nat} {K : Wd → Hp → Vl → Store → Nat → Prop} (x : Ext G W H W1 H1) (R : Rel G W1 s b H1) (V : EnvR G W1 H1 e σ)
    (g : EG (K W H) (KX cs G Wx W H σ) (run e s) b) (h : ∀ a s b, K W H a s b → K W1 H1 a s b) : Here cs G Wx run σ H1 K :=
  ⟨W1, e, s, b, R, V, g.mono (fun a s b q => h a s b q) fun c fs s b q => q.mono x⟩
theorem KV'.mono {W W1 : Wd} {H H1 : Hp} {Q : VK} (x : Ext G W H W1 H1) {a : Vl} {s : Store} {b : Nat} (h : KV' G W H Q a s b) : KV' G W1 H1 Q a s b := fun W' H' v e r q => h W' H' v (x.trans e) r q
theorem KT.mono {W W1 : Wd} {H H1 : Hp} {Q : Bool → Hp → Prop} (x : Ext G W H W1 H1) {a : Vl} {s : Store} {b : Nat} (h : KT G W H Q a s b) : KT G W1 H1 Q a s b :=
  let ⟨t, e, q⟩ := h; ⟨t, e, fun W' H' e r => q W' H' (x.trans e) r⟩
/-! ### and, or, not, if -/
theorem bo_err {k : Bool} {rb : Env → Store → E Vl} : ∀ x e s, truth x = none → (match truth x with
      | some t => if t = k then rb e s else ret x s
      | none => .err) = (.err : E Vl) := fun x e s h => by rw [h]
/-- as a test: and, or -/
theorem tAnd_of {ra rb run : Env → Store → E Vl} (hr : ∀ e st, run e st = bnd (ra e st) fun x st => match truth x with
      | some t => if t = true then rb e st else ret x st
      | none => .err) {σ : L2.St} {H : Hp} {Q : Bool → Hp → Prop} (h : tT cs G Wx run σ H Q) : tAnd (tT cs G Wx ra) (tT cs G Wx rb) σ H Q :=
  here_if (f := fun x e st => match truth x with
      | some t => if t = true then rb e st else ret x st
      | none => .err) hr (bo_err (k := true)) h fun W H W1 H1 x t s b e x1 R V g ht => by
    rw [ht] at g
    dsimp only at g
    cases t with
    | true =>
      rw [if_pos rfl] at g ⊢
      exact Here.on (K := fun W H => KT G W H Q) x1 R V g fun a s b q => q.mono x1
    | false =>
      rw [if_neg Bool.false_ne_true] at g ⊢
      obtain ⟨t', et, q⟩ := g
      rw [ht] at et
      cases et
      exact q W1 H1 x1 R
theorem tOr_of {ra rb run : Env → Store → E Vl} (hr : ∀ e st, run e st = bnd (ra e st) fun x st => match truth x with
      | some t => if t = false then rb e st else ret x st
      | none => .err) {σ : L2.St} {H : Hp} {Q : Bool → Hp → Prop} (h : tT cs G Wx run σ H Q) : tOr (tT cs G Wx ra) (tT cs G Wx rb) σ H Q :=
  here_if (f := fun x e st => match truth x with
      | some t => if t = false then rb e st else ret x st
      | none => .err) hr (bo_err (k := false)) h fun W H W1 H1 x t s b e x1 R V g ht => by
    rw [ht] at g
    dsimp only at g
    cases t with
    | false =>
      rw [if_pos rfl] at g
      rw [if_neg Bool.false_ne_true]
      exact Here.on (K := fun W H => KT G W H Q) x1 R V g fun a s b q => q.mono x1
    | true =>
      rw [if_neg (by decide)] at g
      rw [if_pos rfl]
      obtain ⟨t', et, q⟩ := g
      rw [ht] at et
      cases et
      exact q W1 H1 x1 R
/-- as a value: and, or -/
theorem tAndV_of {ra rb run : Env → Store → E Vl} (hr : ∀ e st, run e st = bnd (ra e st) fun x st => match truth x with
      | some t => if t = true then rb e st else ret x st
      | none => .err) {σ : L2.St} {H : Hp} {Q : VK} (h : tE cs G Wx run σ H Q) : tAndV (tE cs G Wx ra) (tE cs G Wx rb) σ H Q :=
  tB_of (here_if (f := fun x e st => match truth x with
      | some t => if t = true then rb e st else ret x st
      | none => .err) hr (bo_err (k := true)) h (Q := fun c H1 => if c = true then tE cs G Wx rb σ H1 Q else Q (.bl false) H1) fun W H W1 H1 x t s b e x1 R V g ht => by
    rw [ht] at g
    dsimp only at g
    cases t with
    | true =>
      rw [if_pos rfl] at g ⊢
      exact Here.on (K := fun W H => KV' G W H Q) x1 R V g fun a s b q => q.mono x1
    | false =>
      rw [if_neg Bool.false_ne_true] at g ⊢
      cases x with
      | d d =>
        cases d <;> simp only [truth, reduceCtorEq] at ht
        case bl t' => cases ht; exact g W1 H1 _ x1 R VlR_bl
      | _ => simp only [truth, reduceCtorEq] at ht)
theorem tOrV_of {ra rb run : Env → Store → E Vl} (hr : ∀ e st, run e st = bnd (ra e st) fun x st => match truth x with
      | some t => if t = false then rb e st else ret x st
      | none => .err) {σ : L2.St} {H : Hp} {Q : VK} (h : tE cs G Wx run σ H Q) : tOrV (tE cs G Wx ra) (tE cs G Wx rb) σ H Q :=
  tB_of (here_if (f := fun x e st => match truth x with
      | some t => if t = false then rb e st else ret x st
      | none => .err) hr (bo_err (k := false)) h (Q := fun c H1 => if c = true then Q (.bl true) H1 else tE cs G Wx rb σ H1 Q) fun W H W1 H1 x t s b e x1 R V g ht => by
    rw [ht] at g
    dsimp only at g
    cases t with
    | false =>
      rw [if_pos rfl] at g
      rw [if_neg Bool.false_ne_true]
      exact Here.on (K := fun W H => KV' G W H Q) x1 R V g fun a s b q => q.mono x1
    | true =>
      rw [if_neg (by decide)] at g
      rw [if_pos rfl]
      cases x with
      | d d =>
        cases d <;> simp only [truth, reduceCtorEq] at ht
        case bl t' => cases ht; exact g W1 H1 _ x1 R VlR_bl
      | _ => simp only [truth, reduceCtorEq] at ht)
theorem not_err {α : Type} {f : Bool → α} {s : Store} : ∀ x : Vl, truth x = none → lift ((truth x).map f) s = (.err : E α) := fun x h => by rw [h]; rfl
theorem tNot_of {ra run : Env → Store → E Vl} (hr : ∀ e st, run e st = bnd (ra e st) fun x st => lift ((truth x).map fun t => .d (.bl (!t))) st) {σ : L2.St} {H : Hp} {Q : Bool → Hp → Prop} (h : tT cs G Wx run σ H Q) : tNot (tT cs G Wx ra) σ H Q :=
  here_if (f := fun x e st => lift ((truth x).map fun t => .d (.bl (!t))) st) hr (fun x e s => not_err x) h fun W H W1 H1 x t s b e x1 R V g ht => by
    rw [ht] at g
    obtain ⟨t', et, q⟩ := g
    cases et
    exact q W1 H1 x1 R
theorem tNotV_of {ra run : Env → Store → E Vl} (hr : ∀ e st, run e st = bnd (ra e st) fun x st => lift ((truth x).map fun t => .d (.bl (!t))) st) {σ : L2.St} {H : Hp} {Q : VK} (h : tE cs G Wx run σ H Q) : tNotV (tE cs G Wx ra) σ H Q :=
  tB_of (here_if (f := fun x e st => lift ((truth x).map fun t => .d (.bl (!t))) st) hr (fun x e s => not_err x) h (Q := fun c H1 => Q (.bl (!c)) H1) fun W H W1 H1 x t s b e x1 R V g ht => by
    rw [ht] at g
    exact g W1 H1 _ x1 R VlR_bl)
theorem tIf_of {rt ra rb run : Env → Store → E Vl} (hr : ∀ e st, run e st = bnd (rt e st) fun x st => match truth x with
      | some true => ra e st
      | some false => rb e st
      | none => .err) {σ : L2.St} {H : Hp} {Q : VK} (h : tE cs G Wx run σ H Q) : tIf (tT cs G Wx rt) (tE cs G Wx ra) (tE cs G Wx rb) σ H Q :=
  here_if (f := fun x e st => match truth x with
      | some true => ra e st
      | some false => rb e st
      | none => .err) hr (fun x e s h => by rw [h]) h fun W H W1 H1 x t s b e x1 R V g ht => by
    rw [ht] at g
    cases t with
    | true =>
      rw [if_pos rfl]
      exact Here.on (K := fun W H => KV' G W H Q) x1 R V g fun a s b q => q.mono x1
    | false =>
      rw [if_neg Bool.false_ne_true]
      exact Here.on (K := fun W H => KV' G W H Q) x1 R V g fun a s b q => q.mono x1
end
end EV

end
section
set_option Elab.async false
set_option linter.all false
set_option maxRecDepth 100000
set_option maxHeartbeats 4000000
/-! EV 6: lists of arguments, displays, items, slices. -/
namespace EV
open PySem PySem.Spec PyProof.Rows L2
section
variable {cs : List ErrC} {G : Gd} {Wx : WX} {X : Cx}
/-! ### argument lists -/
theorem pa_nilE {run : Env → Store → E Vl} (hr : ∀ e st, run e st = ret (.its []) st) : PA X [] (tA cs G Wx run) :=
  PA.imp pa_nil fun σ H Q ⟨W, e, st, b, R, V, g⟩ => by
    rw [hr] at g
    obtain ⟨vs, ev, q⟩ := g
    cases ev
    exact q W H [] .refl R .nil
def notStar : Expr → Bool
  | .Starred _ _ => false
  | _ => true
theorem star_cons {e : Expr} {es : List Expr} {env : PySem.Env} (h : notStar e = true) : starEach (e :: es) env = (false, eval e env) :: starEach es env := by
  cases e <;> first | rfl | cases h
theorem star_plain : ∀ {es : List Expr} {env : PySem.Env} {pos : Pos}, es.all notStar = true → (backTo pos (starEach es env)).any (·.1) = false
  | [], _, _, _ => rfl
  | e :: es, env, pos, h => by
    rw [List.all_cons, Bool.and_eq_true] at h
    rw [star_cons h.1]
    show (false || (backTo pos (starEach es env)).any (·.1)) = false
    rw [star_plain h.2]; rfl
theorem pa_consE {a : Expr} {es : List Expr} {ra rs run : Env → Store → E Vl} (ha : PE X a (tE cs G Wx ra)) (hs : PA X es (tA cs G Wx rs)) (hst : notStar a = true)
    (hr : ∀ e st, run e st = bnd (ra e st) fun x st => bnd (rs e st) fun y st => match y with
      | .its ys => ret (.its (x :: ys)) st
      | _ => .err) : PA X (a :: es) (tA cs G Wx run) := by
  refine PA.imp (pa_cons ha hs (star_cons hst)) fun σ H Q ⟨W, e, st, b, R, V, g⟩ => ?_
  rw [hr, EG_bnd] at g
  refine ⟨W, e, st, b, R, V, g.mono (fun x s b g W1 H1 v x1 R1 r1 => ?_) fun _ _ _ _ q => q⟩
  rw [EG_bnd] at g
  refine Here.next x1 R1 V g fun y s b g => ?_
  cases y <;> first
    | exact g.elim
    | skip
  rename_i ys
  obtain ⟨vs, ev, q⟩ := g
  cases ev
  exact ⟨ys, rfl, fun W' H' us x2 R2 r2 => q W' H' (v :: us) (x1.trans x2) R2 (.cons (r1.ext x2) r2)⟩
/-! ### displays -/
theorem snaps_VR {W : Wd} {st : Store} {b : Nat} {H : Hp} (R : Rel G W st b H) : ∀ {vs : List Vl} {us : List V} {ds : List D}, VlRs G W H vs us → snaps st vs = some ds → (∀ v ∈ vs, ∃ x, v = .d x) → VRs G (Av G W) H ds us
  | _, _, _, .nil, h, _ => by cases h; exact VRs.nil
  | v :: vs, _, _, .cons r t, h, hd => by
    obtain ⟨x, rfl⟩ := hd v List.mem_cons_self
    unfold snaps at h
    split at h
    · rename_i a b' e1 e2
      cases h
      cases e1
      exact VRs.cons r (snaps_VR R t e2 fun v hv => hd v (List.mem_cons_of_mem _ hv))
    · cases h
theorem dats_mem : ∀ {vs : List Vl} {ds : List D}, dats vs = some ds → vs = ds.map .d
  | [], _, h => by cases h; rfl
  | v :: vs, _, h => by
    cases v <;> simp only [dats, reduceCtorEq] at h
    obtain ⟨ds, e, rfl⟩ := Option.map_eq_some_iff.mp h
    rw [dats_mem e]; rfl
theorem VlRs_d {W : Wd} {H : Hp} : ∀ {ds : List D} {us : List V}, VlRs G W H (ds.map .d) us → VRs G (Av G W) H ds us
  | [], _, h => by cases h; exact VRs.nil
  | d :: ds, _, h => by
    cases h with
    | cons r t => exact VRs.cons r (VlRs_d t)
theorem VlRs_of {W : Wd} {H : Hp} : ∀ {ds : List D} {us : List V}, VRs G (Av G W) H ds us → VlRs G W H (ds.map .d) us
  | [], _, h => by unfold VRs at h; rw [h]; exact .nil
  | d :: ds, _, h => by
    unfold VRs at h
    obtain ⟨w, ws, rfl, h1, h2⟩ := h
    exact .cons h1 (VlRs_of h2)
/-- a tuple's, a frozen list's items are data -/
theorem pe_tupE {es : List Expr} {k : Nat} {pos : Pos} {rs run : Env → Store → E Vl} (hs : PA X es (tA cs G Wx rs))
    (hr : ∀ e st, run e st = bnd (rs e st) fun vs st => match vs with
      | .its vs => lift ((dats vs).bind fun l => if l.length ≤ 1000000 then some (.d (.tup l)) else none) st
      | _ => .err) : PE X (.Tuple es k pos) (tE cs G Wx run) := by
  refine PE.imp (pe_tup hs) fun σ H Q ⟨W, e, st, b, R, V, g⟩ => ?_
  rw [hr, EG_bnd] at g
  refine ⟨W, e, st, b, R, V, g.mono (fun a s b g => ?_) fun _ _ _ _ q => q⟩
  cases a <;> first
    | exact g.elim
    | skip
  rename_i vs
  rw [EG_lift] at g
  obtain ⟨a, ea, q⟩ := g
  obtain ⟨l, el, ea⟩ := Option.bind_eq_some_iff.mp ea
  split at ea
  · rename_i hl
    cases ea
    have ev := dats_mem el
    subst ev
    refine ⟨_, rfl, fun W' H' us x R r => ⟨?_, fun p hp => q W' _ _ (x.trans (ext_new hp)) (R.new hp) (VR.newT R hp (VlRs_d r))⟩⟩
    rw [← (VlRs_d r).length]; exact Nat.le_trans hl million
  · cases ea
theorem pe_lstE {es : List Expr} {pos : Pos} {rs run : Env → Store → E Vl} (hs : PA X es (tA cs G Wx rs))
    (hr : ∀ e st, run e st = bnd (rs e st) fun vs st => match vs with
      | .its vs => lift ((dats vs).bind fun l => if l.length ≤ 1000000 then some (.d (.lst l)) else none) st
      | _ => .err) : PE X (.List es pos) (tE cs G Wx run) := by
  refine PE.imp (pe_lst hs) fun σ H Q ⟨W, e, st, b, R, V, g⟩ => ?_
  rw [hr, EG_bnd] at g
  refine ⟨W, e, st, b, R, V, g.mono (fun a s b g => ?_) fun _ _ _ _ q => q⟩
  cases a <;> first
    | exact g.elim
    | skip
  rename_i vs
  rw [EG_lift] at g
  obtain ⟨a, ea, q⟩ := g
  obtain ⟨l, el, ea⟩ := Option.bind_eq_some_iff.mp ea
  split at ea
  · rename_i hl
    cases ea
    have ev := dats_mem el
    subst ev
    refine ⟨_, rfl, fun W' H' us x R r => ⟨?_, fun p hp => q W' _ _ (x.trans (ext_new hp)) (R.new hp) (VR.newL R hp (VlRs_d r))⟩⟩
    rw [← (VlRs_d r).length]; exact Nat.le_trans hl million
  · cases ea
/-- a new mutable thing at p -/
theorem new_cell {W : Wd} {st : Store} {b : Nat} {H : Hp} (R : Rel G W st b H) {p : Addr} {u : HO} (hp : H p = none) {c : Cell} (hc : ∀ W', Ext G W H W' (upd H p u) → CellR G W' (upd H p u) p c) :
    Ext G W H ⟨W.cells ++ [some p], W.av, W.hc⟩ (upd H p u) ∧ Rel G ⟨W.cells ++ [some p], W.av, W.hc⟩ (st ++ [some c]) b (upd H p u) ∧ VlR G ⟨W.cells ++ [some p], W.av, W.hc⟩ (upd H p u) (.ref st.length) (.ref p) := by
  have old : ∀ (i : Nat) a, i < W.cells.length → (W.cells ++ [some p])[i]? = some (some a) → W.cells[i]? = some (some a) := fun i a hi h => by
    rwa [List.getElem?_append_left hi] at h
  have at_ : ∀ (i : Nat) a, (W.cells ++ [some p])[i]? = some (some a) → W.cells[i]? = some (some a) ∨ (i = W.cells.length ∧ a = p) := fun i a h => by
    by_cases hi : i < W.cells.length
    · exact .inl (old i a hi h)
    · rw [List.getElem?_append_right (by omega)] at h
      have : i - W.cells.length = 0 := by
        cases z : i - W.cells.length with
        | zero => rfl
        | succ n => rw [z] at h; simp at h
      rw [this] at h
      simp at h
      exact .inr ⟨by omega, h.symm⟩
  have x : Ext G W H ⟨W.cells ++ [some p], W.av, W.hc⟩ (upd H p u) := by
    refine ⟨fun q o h _ _ => upd_keep hp h, fun q h => h.kept fun o e => upd_keep hp e, by simp, fun i a hi h => old i a hi h, fun q ⟨i, h⟩ => ?_, fun _ h => .inl h, fun _ h => h, rfl⟩
    · rcases at_ i q h with h | ⟨_, e⟩
      · exact .inl ⟨i, h⟩
      · rw [e]; exact .inr (.none hp)
  have keepc : ∀ a, W.live a → upd H p u a = H a := fun a l => upd_ne (by rintro rfl; exact R.av_there (.inl (.inl l)) hp)
  refine ⟨x, ⟨by simp [R.len], fun i j a h1 h2 => ?_, fun i c' h => ?_, fun i h => ?_, R.spr.keeps ?_ ?_, ⟨fun l => ?_, fun l => ?_⟩, fun a h => ?_, fun a l h => ?_, R.tabs.ext fun q o h => upd_keep hp h⟩, ?_⟩
  · rcases at_ i a h1 with k1 | ⟨k1, e1⟩ <;> rcases at_ j a h2 with k2 | ⟨k2, e2⟩
    · exact R.inj i j a k1 k2
    · subst e2; exact absurd hp (R.av_there (.inl (.inl ⟨i, k1⟩)))
    · subst e1; exact absurd hp (R.av_there (.inl (.inl ⟨j, k2⟩)))
    · omega
  · by_cases hi : i < st.length
    · rw [List.getElem?_append_left hi] at h
      obtain ⟨a, h1, r⟩ := R.cell i c' h
      exact ⟨a, by rw [List.getElem?_append_left (by rw [R.len]; exact hi)]; exact h1, r.keeps x (keepc a ⟨i, h1⟩)⟩
    · rw [List.getElem?_append_right (by omega)] at h
      have z : i - st.length = 0 := by
        cases z : i - st.length with
        | zero => rfl
        | succ n => rw [z] at h; simp at h
      rw [z] at h
      simp at h
      subst h
      have e : i = W.cells.length := by rw [R.len]; omega
      exact ⟨p, by rw [e]; simp, hc _ x⟩
  · by_cases hi : i < st.length
    · rw [List.getElem?_append_left hi] at h
      rw [List.getElem?_append_left (by rw [R.len]; exact hi)]
      exact R.dead i h
    · rw [List.getElem?_append_right (by omega)] at h
      cases z : i - st.length with
      | zero => rw [z] at h; simp at h
      | succ n => rw [z] at h; simp at h
  · exact upd_ne (by rintro e; exact R.av_there (.inl (.inr (.inl e.symm))) hp)
  · exact upd_ne (by rintro e; exact R.av_there (.inl (.inr (.inr e.symm))) hp)
  · obtain ⟨i, h⟩ := l
    rcases at_ i _ h with h | ⟨_, e⟩
    · exact R.nosp.1 ⟨i, h⟩
    · exact R.av_there (.inl (.inr (.inl e.symm))) hp
  · obtain ⟨i, h⟩ := l
    rcases at_ i _ h with h | ⟨_, e⟩
    · exact R.nosp.2 ⟨i, h⟩
    · exact R.av_there (.inl (.inr (.inr e.symm))) hp
  · exact fun n => R.avt a h (x.there a n)
  · obtain ⟨i, l⟩ := l
    rcases at_ i a l with l | ⟨_, e⟩
    · exact R.avl a ⟨i, l⟩ h
    · rw [e] at h; exact R.avt _ h (.none hp)
  · refine ⟨by simp [R.len], fun a h => ?_⟩
    rcases at_ _ a h with h | ⟨_, e⟩
    · have := (List.getElem?_eq_some_iff.mp h).1
      rw [R.len] at this; omega
    · rw [e]
theorem pe_lstM {es : List Expr} {pos : Pos} {rs run : Env → Store → E Vl} (hs : PA X es (tA cs G Wx rs))
    (hr : ∀ e st, run e st = bnd (rs e st) fun vs st => match vs with
      | .its vs => if vs.length ≤ 1000000 then ret (.ref st.length) (st ++ [some (.lst vs)]) else .err
      | _ => .err) : PE X (.List es pos) (tE cs G Wx run) := by
  refine PE.imp (pe_lst hs) fun σ H Q ⟨W, e, st, b, R, V, g⟩ => ?_
  rw [hr, EG_bnd] at g
  refine ⟨W, e, st, b, R, V, g.mono (fun a s b g => ?_) fun _ _ _ _ q => q⟩
  cases a <;> first
    | exact g.elim
    | skip
  rename_i vs
  dsimp only at g
  split at g
  · rename_i hl
    refine ⟨_, rfl, fun W' H' us x R r => ⟨?_, fun p hp => ?_⟩⟩
    · rw [← Paired.length r]; exact Nat.le_trans hl million
    · obtain ⟨y, R', rv⟩ := new_cell (u := .lst us) R hp (c := .lst vs) fun W2 x2 => ⟨us, upd_same, r.ext x2⟩
      exact g _ _ _ (x.trans y) R' rv
  · exact g.elim
theorem pe_dctE {pos : Pos} {run : Env → Store → E Vl} (hr : ∀ e st, run e st = ret (.d (.dct [] [])) st) : PE X (.Dict [] [] pos) (tE cs G Wx run) := by
  refine PE.imp pe_dnewK fun σ H Q ⟨W, e, st, b, R, V, g⟩ => ?_
  rw [hr] at g
  intro d hd
  refine g W _ _ (ext_new hd) (R.new hd) ?_
  unfold VlR VR
  exact ⟨d, [], rfl, upd_same, R.new_av hd, trivial, VRs.nil⟩
theorem pe_dctM {pos : Pos} {run : Env → Store → E Vl} (hr : ∀ e st, run e st = ret (.ref st.length) (st ++ [some (.dct [] [])])) : PE X (.Dict [] [] pos) (tE cs G Wx run) := by
  refine PE.imp pe_dnewK fun σ H Q ⟨W, e, st, b, R, V, g⟩ => ?_
  rw [hr] at g
  intro d hd
  obtain ⟨y, R', rv⟩ := new_cell (u := .dK []) R hd (c := .dct [] []) fun W2 x2 => ⟨[], upd_same, trivial, .nil⟩
  exact g _ _ _ y R' rv
end
end EV

end
section
set_option Elab.async false
set_option linter.all false
set_option maxRecDepth 100000
set_option maxHeartbeats 4000000
/-! EV 7: items, slices, isinstance, built-ins. -/
namespace EV
open PySem PySem.Spec PyProof.Rows L2
section
variable {cs : List ErrC} {G : Gd} {Wx : WX} {X : Cx}
theorem ref_cell {W : Wd} {st : Store} {b : Nat} {H : Hp} (R : Rel G W st b H) {i : Nat} {v : V} (r : VlR G W H (.ref i) v) {c : Cell} (h : geti st i = some c) : ∃ p, v = .ref p ∧ W.cells[i]? = some (some p) ∧ CellR G W H p c := by
  obtain ⟨p, h1, h2⟩ := R.cell i c (geti_some h)
  exact ⟨p, r.2 p h1, h1, h2⟩
theorem items_at {W : Wd} {st : Store} {b : Nat} {H : Hp} (R : Rel G W st b H) {a : Vl} {v : V} {xs : List Vl} (r : VlR G W H a v) (h : itemsOf st a = some xs) :
    (∃ p us, v = .ref p ∧ H p = some (.lst us) ∧ VlRs G W H xs us) ∨ (∃ p us, v = .ref p ∧ H p = some (.tup us) ∧ VlRs G W H xs us) ∨ (∃ p kvs ks, v = .ref p ∧ H p = some (.dK kvs) ∧ xs = ks.map .d ∧ KeysOk ks kvs) := by
  cases a with
  | d d =>
    cases d <;> simp only [itemsOf, reduceCtorEq] at h
    case lst ds =>
      cases h
      unfold VlR VR at r
      obtain ⟨p, us, rfl, h1, _, h2⟩ := r
      exact .inl ⟨p, us, rfl, h1, VlRs_of h2⟩
    case tup ds =>
      cases h
      unfold VlR VR at r
      obtain ⟨p, us, rfl, h1, _, h2⟩ := r
      exact .inr (.inl ⟨p, us, rfl, h1, VlRs_of h2⟩)
    case dct ks us =>
      cases h
      unfold VlR VR at r
      obtain ⟨p, kvs, rfl, h1, _, h2, _⟩ := r
      exact .inr (.inr ⟨p, kvs, ks, rfl, h1, rfl, h2⟩)
  | ref i =>
    simp only [itemsOf] at h
    split at h
    · rename_i ys z
      cases h
      obtain ⟨p, rfl, _, us, h1, h2⟩ := ref_cell R r z
      exact .inl ⟨p, us, rfl, h1, h2⟩
    · rename_i ks us z
      cases h
      obtain ⟨p, rfl, _, kvs, h1, h2, _⟩ := ref_cell R r z
      exact .inr (.inr ⟨p, kvs, ks, rfl, h1, rfl, h2⟩)
    · cases h
  | thk => cases h
  | its ys => cases h
  | exn c fs => cases h
  | h x => cases h
  | hr i x => cases h
theorem VlRs.get {W : Wd} {H : Hp} : ∀ {xs : List Vl} {us : List V} {i : Nat} {a : Vl}, VlRs G W H xs us → xs[i]? = some a → ∃ u, us[i]? = some u ∧ VlR G W H a u
  | _, _, _, _, .nil, e => by simp at e
  | _, _, 0, _, .cons r _, e => by simp at e; subst e; exact ⟨_, rfl, r⟩
  | _, _, i + 1, _, .cons _ t, e => by simpa using VlRs.get (i := i) t (by simpa using e)

/-! ### o[i] -/
def rIxD (G : Gd) : R2 := fun x y H Q => ∃ W st n a d, Rel G W st n H ∧ VlR G W H a x ∧ VR G (Av G W) H d y ∧ ∃ r, ixD st a d = some r ∧ ∀ v, VlR G W H r v → Q v H
theorem ix_dct (hu : X.A.units + 1 < cLine) : IxR X (fun x y H Q => ∃ a v, x = .ref a ∧ DGet H a y (some v) ∧ Q v H) := by
  intro value slice pins s σ H x y v u Q I rx ry h hs
  obtain ⟨a, z, rfl, g, q⟩ := h
  cases rx
  exact tail_any (dict_typeIs I g) PySem.F.slot_dict_getitem.lookup (d_getItem hu I g ry fun w' s' I' rw' => ⟨z, H, I', rw', q⟩) hs
theorem ixN_eq (n : Nat) (i : Int) : EV.ixN n i = L2.ixN n i := rfl
theorem at_eq {α : Type} (xs : List α) (i : Int) : ((EV.ixN xs.length i).bind fun j => xs[j]?) = atI xs i := rfl
theorem ixD_ok (hu : X.A.units + 1 < cLine) : IxR X (rIxD G) := by
  refine fun value slice pins s σ H x y v u Q I rx ry h hs => (IxR.or (ix_seq (X := X)) (ix_dct hu)) value slice pins s σ H x y v u Q I rx ry ?_ hs
  obtain ⟨W, st, n, a, d, R, hx, hy, r, e, q⟩ := h
  have lenv : ∀ {xs : List Vl} {us : List V} {i : Int}, VlRs G W H xs us → ((EV.ixN xs.length i).bind fun j => xs[j]?) = some r → ∃ z, atI us i = some z ∧ VlR G W H r z := fun {xs us i} p e => by
    obtain ⟨j, e1, e2⟩ := Option.bind_eq_some_iff.mp e
    obtain ⟨z, h1, h2⟩ := VlRs.get p e2
    refine ⟨z, ?_, h2⟩
    unfold atI
    rw [← Paired.length p, ← ixN_eq, e1]
    exact h1
  have lens : ∀ {ds : List D} {us : List V} {i : Int}, VRs G (Av G W) H ds us → (((EV.ixN ds.length i).bind fun j => ds[j]?).map Vl.d) = some r → ∃ z, atI us i = some z ∧ VlR G W H r z := fun {ds us i} p e => by
    refine lenv (xs := ds.map .d) (VlRs_of p) ?_
    rw [List.length_map, ← e]
    cases EV.ixN ds.length i with
    | none => rfl
    | some j => simp
  have keyed : ∀ {p : Addr} {ks : List D} {us : List Vl} {kvs : List (Key × V)}, H p = some (.dK kvs) → KeysOk ks kvs → VlRs G W H us (kvs.map (·.2)) → (if isKey d = true then lookD d ks us else none) = some r →
      ∃ z, DGet H p y (some z) ∧ VlR G W H r z := fun {p ks us kvs} h1 h2 h3 e => by
    split at e
    · rename_i c
      obtain ⟨k, hk⟩ := keyOf_of c
      obtain ⟨z, ez, rz⟩ := (lookD_of hk h2 h3).1 r e
      have ey := key_of hk (VR.top hy)
      subst ey
      exact ⟨z, by rw [← ez]; exact .k h1, rz⟩
    · cases e
  cases a with
  | d a =>
    cases a <;> cases d <;> simp only [ixD, reduceCtorEq] at e
    case lst.int ds i =>
      unfold VlR VR at hx
      obtain ⟨p, us, rfl, h1, _, h2⟩ := hx
      have ey : y = .int i := by unfold VR at hy; exact hy
      subst ey
      obtain ⟨z, e1, e2⟩ := lens h2 e
      exact .inl (.inl ⟨p, us, i, z, rfl, rfl, SqL.of h1, e1, q z e2⟩)
    case tup.int ds i =>
      unfold VlR VR at hx
      obtain ⟨p, us, rfl, h1, _, h2⟩ := hx
      have ey : y = .int i := by unfold VR at hy; exact hy
      subst ey
      obtain ⟨z, e1, e2⟩ := lens h2 e
      exact .inl (.inr (.inl ⟨p, us, i, z, rfl, rfl, SqT.of h1, e1, q z e2⟩))
    case str.int s' i =>
      have ex : x = .str (sOf s') := by unfold VlR VR at hx; exact hx
      have ey : y = .int i := by unfold VR at hy; exact hy
      subst ex ey
      split at e
      · rename_i hz
        obtain ⟨c, e1, rfl⟩ := Option.map_eq_some_iff.mp e
        refine .inl (.inr (.inr ⟨sOf s', i, c, rfl, rfl, by rw [sOf_len]; exact Nat.le_trans hz million, ?_, q _ (VR.str (G := G) (A := Av G W) (H := H) (i := [c]))⟩))
        rw [← e1]
        unfold sOf
        simp only [List.toList_toArray]
        rfl
      · cases e
    all_goals
      unfold VlR VR at hx
      obtain ⟨p, kvs, rfl, h1, _, h2, h3⟩ := hx
      obtain ⟨z, e1, e2⟩ := keyed h1 h2 (VlRs_of h3) e
      exact .inr ⟨p, z, rfl, e1, q z e2⟩
  | ref i =>
    simp only [ixD] at e
    split at e
    · rename_i xs j z
      obtain ⟨p, rfl, _, us, h1, h2⟩ := ref_cell R hx z
      have ey : y = .int j := by unfold VR at hy; exact hy
      subst ey
      obtain ⟨w, e1, e2⟩ := lenv h2 e
      exact .inl (.inl ⟨p, us, j, w, rfl, rfl, SqL.of h1, e1, q w e2⟩)
    · rename_i ks us k z
      obtain ⟨p, rfl, _, kvs, h1, h2, h3⟩ := ref_cell R hx z
      obtain ⟨w, e1, e2⟩ := keyed h1 h2 h3 e
      exact .inr ⟨p, w, rfl, e1, q w e2⟩
    · cases e
  | thk => simp only [ixD, reduceCtorEq] at e
  | its ys => simp only [ixD, reduceCtorEq] at e
  | exn c fs => simp only [ixD, reduceCtorEq] at e
  | h x => simp only [ixD, reduceCtorEq] at e
  | hr i x => simp only [ixD, reduceCtorEq] at e
def plainB : Expr → Bool
  | .Slice _ _ _ _ => false
  | _ => true
theorem plainIx {b : Expr} (h : plainB b = true) : PlainIx b := by
  cases b <;> first | (cases h; done) | exact fun _ _ => rfl
theorem pe_ixE {k : Nat} (room : Room k X.A) {a b : Expr} {pos : Pos} {ra rb run : Env → Store → E Vl} (ha : PE X a (tE cs G Wx ra)) (hb : PE X b (tE cs G Wx rb)) (hp : plainB b = true)
    (hr : ∀ e st, run e st = bnd (ra e st) fun x st => bnd (rb e st) fun y st => match y with
      | .d y => lift (ixD st x y) st
      | _ => .err) : PE X (.Subscript a b pos) (tE cs G Wx run) := by
  refine PE.imp (pe_ix (ixD_ok (G := G) (by have := room.un; omega)) ha hb (plainIx hp)) fun σ H Q h => here_two hr h fun W H W2 H2 x y v u s b Q e2 R r1 r2 g => ?_
  cases y <;> first
    | exact g.elim
    | skip
  rw [EG_lift] at g
  obtain ⟨r, er, g⟩ := g
  exact ⟨W2, s, b, x, _, R, r1, r2, r, er, fun v rv => g W2 H2 v e2 R rv⟩
/-! ### -a -/
theorem pe_negE {a : Expr} {pos : Pos} {ra run : Env → Store → E Vl} (ha : PE X a (tE cs G Wx ra))
    (hr : ∀ e st, run e st = bnd (ra e st) fun x st => match x with
      | .d (.int i) => ret (.d (.int (-i))) st
      | _ => .err) : PE X (.UnaryOp .USub a pos) (tE cs G Wx run) := by
  refine PE.imp (pe_un un_neg ha) fun σ H Q ⟨W, e, st, b, R, V, g⟩ => ?_
  rw [hr, EG_bnd] at g
  refine ⟨W, e, st, b, R, V, g.mono (fun x s b g W1 H1 v x1 R1 r1 => ?_) fun _ _ _ _ q => q⟩
  split at g
  · rename_i i
    have ev : v = .int i := by unfold VlR VR at r1; exact r1
    exact ⟨i, ev, g W1 H1 _ x1 R1 VlR_int⟩
  · exact g.elim
/-! ### a < b < c -/
theorem chain_of {o p : COp} {ra rb rc run : Env → Store → E Vl} (hr : ∀ e st, run e st = bnd (ra e st) fun x st => bnd (rb e st) fun y st =>
      match snap st x, snap st y with
      | some x, some y' => match cmpD o x y' with
        | some true => bnd (rc e st) fun z st => match snap st y, snap st z with
          | some y, some z => lift ((cmpD p y z).map fun t => .d (.bl t)) st
          | _, _ => .err
        | some false => ret (.d (.bl false)) st
        | none => .err
      | _, _ => .err)
    {σ : L2.St} {H : Hp} {Q : VK} (h : tE cs G Wx run σ H Q) : tChain (rC2 G (cmpD o)) (rC2 G (cmpD p)) (tE cs G Wx ra) (tE cs G Wx rb) (tE cs G Wx rc) σ H Q := by
  obtain ⟨W, e, st, b, R, V, g⟩ := h
  rw [hr, EG_bnd] at g
  refine ⟨W, e, st, b, R, V, g.mono (fun x s b g W1 H1 v x1 R1 r1 => ?_) fun _ _ _ _ q => q⟩
  rw [EG_bnd] at g
  refine Here.next x1 R1 V g fun y s b g W2 H2 u x2 R2 r2 => ?_
  split at g
  · rename_i dx dy e1 e2
    split at g
    · rename_i e3
      refine ⟨_, dx, dy, true, snap_VT R2 (r1.ext x2) e1, snap_VT R2 r2 e2, e3, true, rfl, ?_⟩
      rw [if_pos rfl]
      rw [EG_bnd] at g
      refine Here.next (x1.trans x2) R2 V g fun z s b g W3 H3 w x3 R3 r3 => ?_
      split at g
      · rename_i dy' dz e4 e5
        rw [EG_lift] at g
        obtain ⟨a', ea, g⟩ := g
        obtain ⟨t, et, rfl⟩ := Option.map_eq_some_iff.mp ea
        exact ⟨_, dy', dz, t, snap_VT R3 (r2.ext x3) e4, snap_VT R3 r3 e5, et, g W3 H3 _ ((x1.trans x2).trans x3) R3 VlR_bl⟩
      · exact g.elim
    · rename_i e3
      refine ⟨_, dx, dy, false, snap_VT R2 (r1.ext x2) e1, snap_VT R2 r2 e2, e3, false, rfl, ?_⟩
      rw [if_neg Bool.false_ne_true]
      exact g W2 H2 _ (x1.trans x2) R2 VlR_bl
    · exact g.elim
  · exact g.elim
end
end EV

end
section
set_option Elab.async false
set_option linter.all false
set_option maxRecDepth 100000
set_option maxHeartbeats 4000000
/-! EV 8: slices, isinstance, built-ins. -/
namespace EV
open PySem PySem.Spec PyProof.Rows L2
section
variable {cs : List ErrC} {G : Gd} {Wx : WX} {X : Cx}
/-! ### a[lo:hi] -/
theorem sIx_eq (n d : Nat) (o : Option Int) : EV.sIx n d o = HT.sIx n d o := by cases o <;> rfl
theorem cut_eq (vs : List V) (lo hi : Option Int) : EV.cut vs lo hi = cutV vs lo hi := by
  unfold EV.cut cutV
  rw [sIx_eq, sIx_eq]
theorem VRs.cut {A : Addr → Prop} {H : Hp} {ds : List D} {vs : List V} (h : VRs G A H ds vs) (lo hi : Option Int) : VRs G A H (EV.cut ds lo hi) (cutV vs lo hi) := by
  rw [← cut_eq]
  unfold EV.cut
  rw [h.length]
  exact VRs.take _ (VRs.drop _ h)
def rSlD (G : Gd) : V → Option Int → Option Int → Hp → VK → Prop := fun x lo hi H Q => ∃ W st n dx d, Rel G W st n H ∧ VT G (Av G W) H dx x ∧ slD dx lo hi = some d ∧ ∀ H' v, Ext G W H W H' → Rel G W st n H' → VR G (Av G W) H' d v → Q v H'
theorem slD_ok : SlR X (rSlD G) := by
  refine fun pins s σ H x v vl vu lo hi sl Q I rx hs pl pu h => (SlR.or (sl_list (X := X)) (SlR.or sl_tupA sl_str)) pins s σ H x v vl vu lo hi sl Q I rx hs pl pu ?_
  obtain ⟨W, st, n, dx, d, R, hx, e, q⟩ := h
  cases dx <;> simp only [slD, reduceCtorEq] at e
  case lst ds =>
    cases e
    obtain ⟨p, us, rfl, h1, h2⟩ := hx
    exact .inl ⟨p, us, rfl, SqL.of h1, fun a ha => q _ _ (ext_new ha) (R.new ha) (VR.newL R ha (h2.cut lo hi))⟩
  case tup ds =>
    cases e
    have hx0 := hx
    obtain ⟨p, us, rfl, h1, n1, h2⟩ := hx.ref_tup
    refine .inr (.inl ⟨p, us, rfl, SqT.of h1, fun z => ?_, fun z a ha => q _ _ (ext_new ha) (R.new ha) (VR.newT R ha (h2.cut lo hi))⟩)
    have e : EV.cut ds lo hi = ds := by
      unfold EV.cut
      rw [sIx_eq, sIx_eq, h2.length, z.1, z.2]
      simp [← h2.length]
    rw [e] at q
    exact q H _ .refl R hx0
  case str s' =>
    split at e
    · rename_i hz
      cases e
      rw [hx.str]
      refine .inr (.inr ⟨_, rfl, by rw [sOf_len]; exact Nat.le_trans hz million, ?_⟩)
      have e : cutS (sOf s') lo hi = sOf (EV.cut s' lo hi) := by
        unfold cutS EV.cut
        rw [sOf_len, sIx_eq, sIx_eq]
        unfold sOf
        simp
      rw [e]
      exact q H _ .refl R VR.str
    · cases e
/-- a slice's part -/
def KO (W : Wd) (H : Hp) (Q : Option Int → Hp → Prop) : Vl → Store → Nat → Prop := fun a s b => ∃ o, partOf a = some o ∧ ∀ W' H', Ext G W H W' H' → Rel G W' s b H' → Q o H'
def tO (cs : List ErrC) (G : Gd) (Wx : WX) (run : Env → Store → E Vl) : TO := fun σ H Q => Here cs G Wx run σ H fun W H => KO (G := G) W H Q
theorem po_noneE {run : Env → Store → E Vl} (hr : ∀ e st, run e st = ret (.its []) st) : PO X none (tO cs G Wx run) := ⟨fun pins s σ H Q I ⟨W, e, st, b, R, V, g⟩ => po_none.run pins s σ H Q I (by
    rw [hr] at g
    obtain ⟨o, eo, q⟩ := g
    cases eo
    exact q W H .refl R)⟩
theorem po_someE {a : Expr} {ra : Env → Store → E Vl} (ha : PE X a (tE cs G Wx ra)) : PO X (some a) (tO cs G Wx ra) := ⟨fun pins s σ H Q I ⟨W, e, st, b, R, V, g⟩ => (po_some ha).run pins s σ H Q I (by
    refine ⟨W, e, st, b, R, V, g.mono (fun a s b g W1 H1 v x1 R1 r1 => ?_) fun _ _ _ _ q => q⟩
    obtain ⟨o, eo, q⟩ := g
    cases a with
    | d d =>
      cases d <;> simp only [partOf, reduceCtorEq] at eo
      case int i =>
        cases eo
        have ev : v = .int i := by unfold VlR VR at r1; exact r1
        exact ⟨i, ev, q W1 H1 x1 R1⟩
    | its ys => exact r1.elim
    | ref i => simp only [partOf, reduceCtorEq] at eo
    | thk => simp only [partOf, reduceCtorEq] at eo
    | exn c fs => simp only [partOf, reduceCtorEq] at eo
    | h x => simp only [partOf, reduceCtorEq] at eo
    | hr i x => simp only [partOf, reduceCtorEq] at eo)⟩
theorem pe_slE {a : Expr} {lo hi : Option Expr} {p2 pos : Pos} {ra rl rh run : Env → Store → E Vl} (ha : PE X a (tE cs G Wx ra)) (hl : PO X lo (tO cs G Wx rl)) (hh : PO X hi (tO cs G Wx rh))
    (hr : ∀ e st, run e st = bnd (ra e st) fun x st => bnd (rl e st) fun l st => match partOf l with
      | none => .err
      | some l => bnd (rh e st) fun h st => match snap st x, partOf h with
        | some x, some h => lift ((slD x l h).map .d) st
        | _, _ => .err) : PE X (.Subscript a (.Slice lo hi none p2) pos) (tE cs G Wx run) := by
  refine PE.imp (pe_slice (slD_ok (G := G)) ha hl hh) fun σ H Q ⟨W, e, st, b, R, V, g⟩ => ?_
  rw [hr, EG_bnd] at g
  refine ⟨W, e, st, b, R, V, g.mono (fun x s b g W1 H1 v x1 R1 r1 => ?_) fun _ _ _ _ q => q⟩
  rw [EG_bnd] at g
  refine Here.next x1 R1 V g fun l s b g => ?_
  split at g
  · exact g.elim
  · rename_i l' el
    refine ⟨l', el, fun W2 H2 x2 R2 => ?_⟩
    rw [EG_bnd] at g
    refine Here.next (x1.trans x2) R2 V g fun h s b g => ?_
    split at g
    · rename_i dx h' e1 e3
      rw [EG_lift] at g
      obtain ⟨a', ea, g⟩ := g
      obtain ⟨d, ed, rfl⟩ := Option.map_eq_some_iff.mp ea
      exact ⟨h', e3, fun W3 H3 x3 R3 => ⟨W3, _, _, dx, d, R3, snap_VT R3 ((r1.ext x2).ext x3) e1, ed, fun H' v' x' R' r' => g W3 H' v' (((x1.trans x2).trans x3).trans x') R' r'⟩⟩
    · exact g.elim
/-! ### isinstance -/
def tyName : Ty → String
  | .int => "int"
  | .bool => "bool"
  | .str => "str"
  | .list => "list"
  | .tuple => "tuple"
  | .dict => "dict"
  | .own _ => ""
def tyOk : Ty → Bool
  | .own _ => false
  | _ => true
def tyStr (t : Ty) : Str := Str.ofString (tyName t)
theorem tyx_of {K : PySem.W.Frag} {A : Addr → Prop} {H : Hp} {d : D} {v : V} (h : VT G A H d v) (hs : d ≠ .strm) : ∃ n, TyX K H v (.type n) ∧ ∀ t, tyOk t = true → kitB n (tyName t) = some (isTy d t) := by
  have fin : ∀ (n : String) (r : Option Ty), (∀ t, tyOk t = true → kitB n (tyName t) = some (r == some t || (r == some .bool && t == .int))) → tyOf d = r → ∀ t, tyOk t = true → kitB n (tyName t) = some (isTy d t) := fun n r h e t ht => by
    unfold isTy; rw [e]; exact h t ht
  have dec : ∀ (n : String) (r : Option Ty), ([Ty.int, .bool, .str, .list, .tuple, .dict].all fun t => decide (kitB n (tyName t) = some (r == some t || (r == some .bool && t == .int)))) = true → ∀ t, tyOk t = true → kitB n (tyName t) = some (r == some t || (r == some .bool && t == .int)) := fun n r h t ht => by
    simp only [List.all_cons, List.all_nil, Bool.and_eq_true, decide_eq_true_eq] at h
    obtain ⟨h1, h2, h3, h4, h5, h6, _⟩ := h
    cases t <;> first | assumption | cases ht
  cases d
  case non => unfold VT VR at h; subst h; exact ⟨"NoneType", .base .non, fin _ none (dec _ _ (by decide +kernel)) rfl⟩
  case bl b => rw [h.bl]; exact ⟨"bool", .base (.bl b), fin _ (some .bool) (dec _ _ (by decide +kernel)) rfl⟩
  case int i => rw [h.int]; exact ⟨"int", .base (.int i), fin _ (some .int) (dec _ _ (by decide +kernel)) rfl⟩
  case str s => rw [h.str]; exact ⟨"str", .base (.str _), fin _ (some .str) (dec _ _ (by decide +kernel)) rfl⟩
  case tup ds =>
    obtain ⟨p, us, rfl, h1, _⟩ := h.ref_tup
    exact ⟨"tuple", .base (.tup h1), fin _ (some .tuple) (dec _ _ (by decide +kernel)) rfl⟩
  case lst ds =>
    obtain ⟨p, us, rfl, h1, _⟩ := h
    exact ⟨"list", .base (.lst h1), fin _ (some .list) (dec _ _ (by decide +kernel)) rfl⟩
  case dct ks us =>
    obtain ⟨p, us, rfl, h1, _⟩ := h
    exact ⟨"dict", .base (.dK h1), fin _ (some .dict) (dec _ _ (by decide +kernel)) rfl⟩
  case ins c us => unfold VT VR at h; exact h.elim
  case fn c => unfold VT VR at h; exact h.elim
  case strm => exact absurd rfl hs
  case rp x => unfold VT VR at h; subst h; exact ⟨"str", .base (.str _), fin _ (some .str) (dec _ _ (by decide +kernel)) rfl⟩
theorem kitAny_of {K : PySem.W.Frag} {n : String} {d : D} (h : ∀ t, tyOk t = true → kitB n (tyName t) = some (isTy d t)) : ∀ {ts : List Ty}, ts.all tyOk = true → PySem.W.kitAny K (.type n) (ts.map fun t => .type (tyName t)) = some (ts.any (isTy d))
  | [], _ => rfl
  | t :: ts, hk => by
    rw [List.all_cons, Bool.and_eq_true] at hk
    refine kitAny_cons (kit_ty (h t hk.1)) (fun e => ?_) fun e => ?_
    · rw [kitAny_of h hk.2, List.any_cons, e]; rfl
    · rw [List.any_cons, e]; rfl
/-- the names of the types -/
def chkTys (sc : Scope) : List Ty → List Expr → Bool
  | [], [] => true
  | t :: ts, .Name x _ :: es => tyOk t && x == tyStr t && sc.names.lookup x == some .globalImplicit && chkTys sc ts es
  | _, _ => false
theorem boot_ty : ∀ t, tyOk t = true → bootBuiltins (tyStr t) = some (.type (tyName t)) ∧ tyStr t ≠ "__name__" ∧ (tyStr t == ("__debug__" : Str)) = false := by
  intro t h
  cases t <;> first | (cases h; done) | exact ⟨by decide +kernel, by decide +kernel, by decide +kernel⟩
def tTys (ts : List Ty) : TA := fun _ H Q => Q (ts.map fun t => .ty (tyName t)) H
theorem pa_tys (hm : ∀ t, tyOk t = true → X.mg (tyStr t) = none) : ∀ {ts : List Ty} {es : List Expr}, chkTys X.env.scope ts es = true → PA X es (tTys ts)
  | [], [], _ => pa_nil
  | [], _ :: _, h => by unfold chkTys at h; cases h
  | t :: ts, [], h => by unfold chkTys at h; cases h
  | t :: ts, e :: es, h => by
    cases e <;> try (unfold chkTys at h; cases h; done)
    rename_i x pos
    simp only [chkTys, Bool.and_eq_true, beq_iff_eq] at h
    obtain ⟨⟨⟨h1, h2⟩, h3⟩, h4⟩ := h
    subst h2
    obtain ⟨b1, b2, b3⟩ := boot_ty t h1
    exact pa_cons (pe_bltn (v := .ty (tyName t)) h3 (hm t h1) b1 rfl b2 b3) (pa_tys hm h4)
theorem isi_one (hm : ∀ t, tyOk t = true → X.mg (tyStr t) = none) (hi : X.mg "isinstance" = none) {a e : Expr} {t : Ty} {p pos : Pos} {ra run : Env → Store → E Vl} (ha : PE X a (tE cs G Wx ra)) (hst : notStar a = true) (hg : Gl X "isinstance") (hc : chkTys X.env.scope [t] [e] = true)
    (hr : ∀ e st, run e st = bnd (ra e st) fun x st => match snap st x with
      | some x => if isStrm x then .err else ret (.d (.bl ([t].any (isTy x)))) st
      | none => .err) : PE X (.Call (.Name "isinstance" p) [a, e] [] pos) (tE cs G Wx run) := by
  have hst2 : notStar e = true := by
    cases e <;> first | rfl | (unfold chkTys at hc; cases hc)
  have hok : tyOk t = true := by
    cases e <;> first | (unfold chkTys at hc; cases hc; done) | (simp only [chkTys, Bool.and_eq_true] at hc; exact hc.1.1.1)
  refine PE.imp (pe_callB call_isi hg hi boot_isinstance (pa_cons ha (pa_tys hm hc) (star_cons hst)) (by decide) (by decide) (star_cons hst) (star_plain (by simp [hst2]))) fun σ H Q ⟨W, e', st, b, R, V, g⟩ => ?_
  rw [hr, EG_bnd] at g
  refine ⟨W, e', st, b, R, V, g.mono (fun x s b g W1 H1 v x1 R1 r1 => ?_) fun _ _ _ _ q => q⟩
  split at g
  · rename_i dx ex
    split at g
    · exact g.elim
    · rename_i hs
      obtain ⟨n, ty, k⟩ := tyx_of (K := X.K) (snap_VT R1 r1 ex) (fun z => hs (by rw [z]; rfl))
      refine ⟨v, .ty (tyName t), .type n, .type (tyName t), isTy dx t, rfl, ?_, ty, kit_ty (k t hok), ?_⟩
      · exact .ty _
      · have q := g W1 H1 _ x1 R1 VlR_bl
        simpa using q
  · exact g.elim
theorem clsV_all : ∀ ts : List Ty, Paired ClsV (ts.map fun t => V.ty (tyName t)) (ts.map fun t => Value.type (tyName t))
  | [] => .nil
  | t :: ts => .cons (.ty _) (clsV_all ts)
theorem chkTys_ok {sc : Scope} : ∀ {ts : List Ty} {es : List Expr}, chkTys sc ts es = true → ts.all tyOk = true ∧ es.all notStar = true
  | [], [], _ => ⟨rfl, rfl⟩
  | [], _ :: _, h => by unfold chkTys at h; cases h
  | t :: ts, [], h => by unfold chkTys at h; cases h
  | t :: ts, e :: es, h => by
    cases e <;> try (unfold chkTys at h; cases h; done)
    simp only [chkTys, Bool.and_eq_true, beq_iff_eq] at h
    obtain ⟨i1, i2⟩ := chkTys_ok h.2
    rw [List.all_cons, List.all_cons, h.1.1.1, i1, i2]
    exact ⟨rfl, rfl⟩
theorem isi_many (hm : ∀ t, tyOk t = true → X.mg (tyStr t) = none) (hi : X.mg "isinstance" = none) {a : Expr} {es : List Expr} {ts : List Ty} {k : Nat} {p tpos pos : Pos} {ra run : Env → Store → E Vl} (ha : PE X a (tE cs G Wx ra)) (hst : notStar a = true) (hg : Gl X "isinstance") (hc : chkTys X.env.scope ts es = true) (hl : ts.length ≤ 100)
    (hr : ∀ e st, run e st = bnd (ra e st) fun x st => match snap st x with
      | some x => if isStrm x then .err else ret (.d (.bl (ts.any (isTy x)))) st
      | none => .err) : PE X (.Call (.Name "isinstance" p) [a, .Tuple es k tpos] [] pos) (tE cs G Wx run) := by
  obtain ⟨hok, hes⟩ := chkTys_ok hc
  refine PE.imp (pe_callB call_isiT hg hi boot_isinstance (pa_cons ha (pa_cons (pe_tup (pa_tys hm hc)) pa_nil) (star_cons hst)) (by decide) (by decide) (star_cons hst) (star_plain rfl)) fun σ H Q ⟨W, e', st, b, R, V, g⟩ => ?_
  rw [hr, EG_bnd] at g
  refine ⟨W, e', st, b, R, V, g.mono (fun x s b g W1 H1 v x1 R1 r1 => ?_) fun _ _ _ _ q => q⟩
  split at g
  · rename_i dx ex
    split at g
    · exact g.elim
    · rename_i hs
      refine ⟨by rw [List.length_map]; exact Nat.le_trans hl (Nat.le_trans (by decide) million), fun tp htp => ?_⟩
      obtain ⟨n, ty, kk⟩ := tyx_of (K := X.K) (snap_VT R1 r1 ex) (fun z => hs (by rw [z]; rfl))
      obtain ⟨n', ty', kk'⟩ := tyx_of (K := X.K) (snap_VT (R1.new (u := .tup (ts.map fun t => L2.V.ty (tyName t))) htp) (r1.ext (ext_new htp)) ex) (fun z => hs (by rw [z]; rfl))
      exact ⟨v, tp, _, .type n', _, ts.any (isTy dx), rfl, upd_same, clsV_all ts, ty', kitAny_of kk' hok, g W1 _ _ (x1.trans (ext_new htp)) (R1.new htp) VlR_bl⟩
  · exact g.elim
/-! ### built-ins by their values -/
def rBi (G : Gd) (f : List Vl → Store → E Vl) : List V → Hp → VK → Prop := fun us H Q => ∃ W st n vs, Rel G W st n H ∧ VlRs G W H vs us ∧ EG (KV' G W H Q) (fun _ _ _ _ => False) (f vs st) n
theorem pe_callBE {f : Value} (rule : CallR X f (rBi G run0)) {x : Str} {p pos : Pos} {a : Expr} {es : List Expr} {rs run : Env → Store → E Vl}
    (mk : ∀ {t : TA}, PA X (a :: es) t → PE X (.Call (.Name x p) (a :: es) [] pos) (tCB (rBi G run0) t)) (hs : PA X (a :: es) (tA cs G Wx rs)) (hx : ∀ vs st n K Kx, EG K Kx (run0 vs st) n → EG K (fun _ _ _ _ => False) (run0 vs st) n)
    (hr : ∀ e st, run e st = bnd (rs e st) fun vs st => match vs with
      | .its vs => run0 vs st
      | _ => .err) : PE X (.Call (.Name x p) (a :: es) [] pos) (tE cs G Wx run) := by
  refine PE.imp (mk hs) fun σ H Q ⟨W, e', st, b, R, V, g⟩ => ?_
  rw [hr, EG_bnd] at g
  refine ⟨W, e', st, b, R, V, g.mono (fun x s b g => ?_) fun _ _ _ _ q => q⟩
  cases x <;> first
    | exact g.elim
    | skip
  rename_i vs
  refine ⟨vs, rfl, fun W1 H1 us x1 R1 r1 => ⟨W1, s, b, vs, R1, r1, ?_⟩⟩
  exact (hx _ _ _ _ _ g).mono (fun a s b q => q.mono x1) fun _ _ _ _ q => q
end
end EV

end
section
set_option Elab.async false
set_option linter.all false
set_option maxRecDepth 100000
set_option maxHeartbeats 4000000
/-! EV 9: built-ins. -/
namespace EV
open PySem PySem.Spec PyProof.Rows L2
section
variable {cs : List ErrC} {G : Gd} {Wx : WX} {X : Cx}
theorem CallR.weak {f : Value} {r r' : List V → Hp → VK → Prop} (h : CallR X f r) (i : ∀ xs H Q, r' xs H Q → r xs H Q) : CallR X f r' :=
  fun pins s σ H xs us Q I rv q => h pins s σ H xs us Q I rv (i xs H Q q)
/-- no own error comes out of it -/
def NoX (f : List Vl → Store → E Vl) : Prop := ∀ vs st n K Kx, EG K Kx (f vs st) n → EG K (fun _ _ _ _ => False) (f vs st) n
theorem noX_lift {o : Option Vl} {s : Store} {n : Nat} {K : Vl → Store → Nat → Prop} {Kx Kx' : Nat → List D → Store → Nat → Prop} (h : EG K Kx (lift o s) n) : EG K Kx' (lift o s) n := by
  rw [EG_lift] at h ⊢; exact h
theorem noX_listm {v : Vl} {s : Store} {n : Nat} {K : Vl → Store → Nat → Prop} {Kx Kx' : Nat → List D → Store → Nat → Prop} (h : EG K Kx (listmE v s) n) : EG K Kx' (listmE v s) n := by
  unfold listmE at h ⊢
  cases e : (itemsOf s v).bind dats with
  | none => rw [e] at h; exact h
  | some l => rw [e] at h; exact h
theorem noX_bi (b : Bi) : NoX (biE b) := fun vs st n K Kx h => by
  unfold biE at h ⊢
  split at h <;> first | exact noX_lift h | exact noX_listm h | exact h
theorem one_of {W : Wd} {H : Hp} {a : Vl} {us : List V} (r : VlRs G W H [a] us) : ∃ u, us = [u] ∧ VlR G W H a u := by
  cases r with
  | cons r t => cases t; exact ⟨_, rfl, r⟩
theorem bl_all : ∀ {xs : List Vl} {us : List V} {W : Wd} {H : Hp} {t : Bool}, VlRs G W H xs us → allB xs = some t → ∃ bs : List Bool, us = bs.map V.bl ∧ t = bs.all id
  | [], _, _, _, _, .nil, h => by cases h; exact ⟨[], rfl, rfl⟩
  | x :: xs, _, W, H, t, .cons r q, h => by
    cases x with
    | d d =>
      cases d <;> simp only [allB, reduceCtorEq] at h
      case bl b =>
        obtain ⟨t', e, rfl⟩ := Option.map_eq_some_iff.mp h
        obtain ⟨bs, rfl, rfl⟩ := bl_all q e
        have ev := by unfold VlR VR at r; exact r
        rw [ev]
        exact ⟨b :: bs, rfl, by simp⟩
    | _ => simp only [allB, reduceCtorEq] at h
theorem bl_any : ∀ {xs : List Vl} {us : List V} {W : Wd} {H : Hp} {t : Bool}, VlRs G W H xs us → anyB xs = some t → ∃ bs : List Bool, us = bs.map V.bl ∧ t = bs.any id
  | [], _, _, _, _, .nil, h => by cases h; exact ⟨[], rfl, rfl⟩
  | x :: xs, _, W, H, t, .cons r q, h => by
    cases x with
    | d d =>
      cases d <;> simp only [anyB, reduceCtorEq] at h
      case bl b =>
        obtain ⟨t', e, rfl⟩ := Option.map_eq_some_iff.mp h
        obtain ⟨bs, rfl, rfl⟩ := bl_any q e
        have ev := by unfold VlR VR at r; exact r
        rw [ev]
        exact ⟨b :: bs, rfl, by simp⟩
    | _ => simp only [anyB, reduceCtorEq] at h
theorem ints_of : ∀ {xs : List D} {us : List V} {A : Addr → Prop} {H : Hp} {ns : List Int}, VRs G A H xs us → intsOf xs = some ns → us = ns.map V.int
  | [], _, _, _, _, r, h => by unfold VRs at r; cases h; rw [r]; rfl
  | x :: xs, _, _, _, _, r, h => by
    unfold VRs at r
    obtain ⟨w, ws, rfl, r1, r2⟩ := r
    cases x <;> simp only [intsOf, reduceCtorEq] at h
    case int i =>
      obtain ⟨ns, e, rfl⟩ := Option.map_eq_some_iff.mp h
      have ev : w = .int i := by unfold VR at r1; exact r1
      rw [ev, ints_of r2 e]; rfl
theorem VRs_ints {A : Addr → Prop} {H : Hp} : ∀ ns : List Int, VRs G A H (ns.map D.int) (ns.map V.int)
  | [] => VRs.nil
  | n :: ns => VRs.cons VR.int (VRs_ints ns)
theorem insI_perm (x : Int) : ∀ l : List Int, (insI x l).Perm (x :: l)
  | [] => .refl _
  | y :: ys => by
    unfold insI
    split
    · exact .refl _
    · exact ((insI_perm x ys).cons y).trans (List.Perm.swap x y ys)
theorem sortI_perm : ∀ l : List Int, (sortI l).Perm l
  | [] => .refl _
  | x :: xs => by
    unfold sortI
    exact (insI_perm x _).trans ((sortI_perm xs).cons x)
theorem insI_sorted (x : Int) : ∀ l : List Int, l.Pairwise (· ≤ ·) → (insI x l).Pairwise (· ≤ ·)
  | [], _ => by unfold insI; simp
  | y :: ys, h => by
    unfold insI
    rw [List.pairwise_cons] at h
    split
    · rename_i hxy
      rw [List.pairwise_cons]
      refine ⟨fun z hz => ?_, List.pairwise_cons.mpr h⟩
      rcases List.mem_cons.mp hz with rfl | hz
      · exact hxy
      · exact Int.le_trans hxy (h.1 z hz)
    · rename_i hxy
      rw [List.pairwise_cons]
      refine ⟨fun z hz => ?_, insI_sorted x ys h.2⟩
      rcases List.mem_cons.mp ((insI_perm x ys).mem_iff.mp hz) with rfl | hz
      · omega
      · exact h.1 z hz
theorem sortI_sorted : ∀ l : List Int, (sortI l).Pairwise (· ≤ ·)
  | [] => .nil
  | x :: xs => by unfold sortI; exact insI_sorted x _ (sortI_sorted xs)
theorem sorted_uniq : ∀ {a b : List Int}, a.Perm b → a.Pairwise (· ≤ ·) → b.Pairwise (· ≤ ·) → a = b
  | [], b, p, _, _ => by rw [List.nil_perm.mp p]
  | x :: xs, [], p, _, _ => by have := p.length_eq; simp at this
  | x :: xs, y :: ys, p, h1, h2 => by
    rw [List.pairwise_cons] at h1 h2
    have hx : x ≤ y := by
      rcases List.mem_cons.mp (p.mem_iff.mpr List.mem_cons_self) with e | e
      · omega
      · exact h1.1 y e
    have hy : y ≤ x := by
      rcases List.mem_cons.mp (p.mem_iff.mp (List.mem_cons_self (a := x) (l := xs))) with e | e
      · omega
      · exact h2.1 x e
    have e : x = y := by omega
    subst e
    rw [sorted_uniq p.cons_inv h1.2 h2.2]

theorem cr_len : CallR X (.builtin "len") (rBi G (biE .len)) := by
  have hd : CallR X (.builtin "len") (fun xs H Q => ∃ d kvs, xs = [.ref d] ∧ H d = some (.dK kvs) ∧ Q (.int kvs.length) H) := by
    refine CallR.weak call_lenD fun xs H Q h => ?_
    obtain ⟨d, kvs, rfl, h1, q⟩ := h
    exact ⟨d, kvs, rfl, h1, q⟩
  refine CallR.weak (CallR.or call_len_seq (CallR.or call_len_str hd)) fun xs H Q h => ?_
  obtain ⟨W, st, n, vs, R, r, g⟩ := h
  unfold biE at g
  split at g <;> try (rename_i h; cases h; done)
  all_goals try (exact g.elim)
  rename_i b vs' v hb
  rw [EG_lift] at g
  obtain ⟨a, ea, q⟩ := g
  obtain ⟨l, el, rfl⟩ := Option.map_eq_some_iff.mp ea
  obtain ⟨u, rfl, r1⟩ := one_of r
  unfold lenOf at el
  split at el
  · rename_i s'
    split at el
    · rename_i hz
      cases el
      have ev : u = .str (sOf s') := by unfold VlR VR at r1; exact r1
      subst ev
      refine .inr (.inl ⟨_, rfl, by rw [sOf_len]; exact Nat.le_trans hz million, ?_⟩)
      rw [sOf_len]
      exact q W H _ .refl R VlR_int
    · cases el
  · obtain ⟨ys, ey, rfl⟩ := Option.map_eq_some_iff.mp el
    rcases items_at R r1 ey with ⟨p, us, rfl, h1, h2⟩ | ⟨p, us, rfl, h1, h2⟩ | ⟨p, kvs, ks, rfl, h1, rfl, h2⟩
    · refine .inl ⟨p, us, rfl, .inl (SqL.of h1), ?_⟩
      rw [← Paired.length h2]
      exact q W H _ .refl R VlR_int
    · refine .inl ⟨p, us, rfl, .inr (SqT.of h1), ?_⟩
      rw [← Paired.length h2]
      exact q W H _ .refl R VlR_int
    · refine .inr (.inr ⟨p, kvs, rfl, h1, ?_⟩)
      rw [← h2.length]
      have := q W H _ .refl R VlR_int
      simpa using this
theorem lst_at {W : Wd} {st : Store} {b : Nat} {H : Hp} (R : Rel G W st b H) {a : Vl} {v : V} {xs : List Vl} (r : VlR G W H a v) (h : lstOf st a = some xs) : ∃ p us, v = .ref p ∧ H p = some (.lst us) ∧ VlRs G W H xs us := by
  cases a with
  | d d =>
    cases d <;> simp only [lstOf, reduceCtorEq] at h
    case lst ds =>
      cases h
      unfold VlR VR at r
      obtain ⟨p, us, rfl, h1, _, h2⟩ := r
      exact ⟨p, us, rfl, h1, VlRs_of h2⟩
  | ref i =>
    simp only [lstOf] at h
    split at h
    · rename_i ys z
      cases h
      obtain ⟨p, rfl, _, us, h1, h2⟩ := ref_cell R r z
      exact ⟨p, us, rfl, h1, h2⟩
    · cases h
  | thk => cases h
  | its ys => cases h
  | exn c fs => cases h
  | h x => cases h
  | hr i x => cases h
theorem seq_at {W : Wd} {st : Store} {b : Nat} {H : Hp} (R : Rel G W st b H) {a : Vl} {v : V} {xs : List Vl} (r : VlR G W H a v) (h : seqOf st a = some xs) :
    (∃ p us, v = .ref p ∧ H p = some (.lst us) ∧ VlRs G W H xs us) ∨ (∃ p us ds, v = .ref p ∧ H p = some (.tup us) ∧ xs = ds.map .d ∧ VRs G (Av G W) H ds us ∧ a = .d (.tup ds)) := by
  unfold seqOf at h
  split at h
  · rename_i ds
    cases h
    unfold VlR VR at r
    obtain ⟨p, us, rfl, h1, _, h2⟩ := r
    exact .inr ⟨p, us, ds, rfl, h1, rfl, h2, rfl⟩
  · exact .inl (lst_at R r h)
theorem cr_all (hc : X.calm = true) : CallR X (.builtin "all") (rBi G (biE .all)) := by
  refine CallR.weak (L2.cr_all hc) fun xs H Q h => ?_
  obtain ⟨W, st, n, vs, R, r, g⟩ := h
  unfold biE at g
  split at g <;> try (rename_i h; cases h; done)
  all_goals try (exact g.elim)
  rename_i b vs' v hb
  rw [EG_lift] at g
  obtain ⟨a, ea, q⟩ := g
  obtain ⟨t, et, rfl⟩ := Option.map_eq_some_iff.mp ea
  obtain ⟨ys, ey, et⟩ := Option.bind_eq_some_iff.mp et
  obtain ⟨u, rfl, r1⟩ := one_of r
  obtain ⟨p, us, rfl, h1, h2⟩ := lst_at R r1 ey
  obtain ⟨bs, rfl, rfl⟩ := bl_all h2 et
  exact ⟨p, bs, rfl, SqL.of h1, q W H _ .refl R VlR_bl⟩
theorem cr_any (hc : X.calm = true) : CallR X (.builtin "any") (rBi G (biE .any)) := by
  refine CallR.weak (L2.cr_any hc) fun xs H Q h => ?_
  obtain ⟨W, st, n, vs, R, r, g⟩ := h
  unfold biE at g
  split at g <;> try (rename_i h; cases h; done)
  all_goals try (exact g.elim)
  rename_i b vs' v hb
  rw [EG_lift] at g
  obtain ⟨a, ea, q⟩ := g
  obtain ⟨t, et, rfl⟩ := Option.map_eq_some_iff.mp ea
  obtain ⟨ys, ey, et⟩ := Option.bind_eq_some_iff.mp et
  obtain ⟨u, rfl, r1⟩ := one_of r
  obtain ⟨p, us, rfl, h1, h2⟩ := lst_at R r1 ey
  obtain ⟨bs, rfl, rfl⟩ := bl_any h2 et
  exact ⟨p, bs, rfl, SqL.of h1, q W H _ .refl R VlR_bl⟩
def pairAt (H : Hp) : V → Int × Int
  | .ref t => match H t with
    | some (.tup [.int i, .int j]) => (i, j)
    | _ => (0, 0)
  | _ => (0, 0)
theorem pairs_at {A : Addr → Prop} {H : Hp} : ∀ {ds : List D} {us : List V} {l : List (Int × Int)}, VRs G A H ds us → pairsOf ds = some l → us.map (pairAt H) = l ∧ ∀ x ∈ us, ∃ t, x = V.ref t ∧ H t = some (.tup [.int (pairAt H x).1, .int (pairAt H x).2])
  | [], us, l, r, h => by
    unfold VRs at r; cases h; subst r
    exact ⟨rfl, fun x hx => by cases hx⟩
  | d :: ds, us, l, r, h => by
    unfold VRs at r
    obtain ⟨w, ws, rfl, r1, r2⟩ := r
    unfold pairsOf at h
    split at h
    · rename_i he; cases he
    · rename_i i j r' he
      cases he
      obtain ⟨l', e, rfl⟩ := Option.map_eq_some_iff.mp h
      obtain ⟨h1, h2⟩ := pairs_at r2 e
      unfold VR at r1
      obtain ⟨p, vs, rfl, hp, _, r3⟩ := r1
      unfold VRs at r3
      obtain ⟨w1, ws1, rfl, q1, r3⟩ := r3
      unfold VRs at r3
      obtain ⟨w2, ws2, rfl, q2, r3⟩ := r3
      unfold VRs at r3
      unfold VR at q1 q2
      subst r3 q1 q2
      have ep : pairAt H (.ref p) = (i, j) := by unfold pairAt; dsimp only; rw [hp]
      refine ⟨by rw [List.map_cons, h1, ep], fun x hx => ?_⟩
      rcases List.mem_cons.mp hx with rfl | hx
      · exact ⟨p, rfl, by rw [ep]; exact hp⟩
      · exact h2 x hx
    · cases h
theorem leP_no {p q : Int × Int} (h : leP p q = true) : SrtO.lexB q p = false := by
  refine SrtO.lexB_no.mpr ?_
  unfold leP at h
  split at h
  · rename_i e
    rw [decide_eq_true_eq] at h
    omega
  · rename_i e
    rw [decide_eq_true_eq] at h
    omega
theorem asc_srtd {k : V → Int × Int} : ∀ {us : List V}, ascP (us.map k) = true → SrtO.Srtd (ltP k) us
  | [], _ => .nil
  | u :: us, h => by
    rw [List.map_cons] at h
    unfold ascP at h
    rw [Bool.and_eq_true, List.all_eq_true] at h
    refine List.pairwise_cons.mpr ⟨fun y hy => leP_no (h.1 _ (List.mem_map.mpr ⟨y, hy, rfl⟩)), asc_srtd h.2⟩
theorem cr_sorted : CallR X (.builtin "sorted") (rBi G (biE .sorted)) := by
  refine CallR.weak (CallR.or L2.cr_sorted cr_sortedPO) fun xs H Q h => ?_
  obtain ⟨W, st, n, vs, R, r, g⟩ := h
  unfold biE at g
  split at g <;> try (rename_i h; cases h; done)
  all_goals try (exact g.elim)
  rename_i b vs' v hb
  rw [EG_lift] at g
  obtain ⟨a, ea, q⟩ := g
  obtain ⟨l, el, rfl⟩ := Option.map_eq_some_iff.mp ea
  obtain ⟨ds, ed, es⟩ := Option.bind_eq_some_iff.mp el
  obtain ⟨ys, ey, ed⟩ := Option.bind_eq_some_iff.mp ed
  obtain ⟨u, rfl, r1⟩ := one_of r
  obtain ⟨p, us, rfl, h1, h2⟩ := lst_at R r1 ey
  have e1 := dats_mem ed
  subst e1
  have h2' := VlRs_d h2
  unfold sortD at es
  split at es
  · rename_i l0 ei
    split at es
    · rename_i hl
      cases es
      have e2 := ints_of h2' ei
      subst e2
      refine .inl ⟨p, l0, rfl, SqL.of h1, hl, fun ns' p' hp hs hn => ?_⟩
      have e3 : ns' = sortI l0 := sorted_uniq (hp.trans (sortI_perm l0).symm) hs (sortI_sorted l0)
      subst e3
      exact q W _ _ (ext_new hn) (R.new hn) (VR.newL R hn (VRs_ints _))
    · cases es
  · split at es
    · rename_i l0 ep
      split at es
      · rename_i ha
        cases es
        obtain ⟨k1, k2⟩ := pairs_at h2' ep
        refine .inr ⟨p, us, pairAt H, rfl, SqL.of h1, k2, fun zs p' s1 s2 hn => ?_⟩
        have e3 : zs = us := SrtO.stb_uniq (ltP_swo _) s1 (asc_srtd (by rw [k1]; exact ha)) s2
        subst e3
        exact q W _ _ (ext_new hn) (R.new hn) (VR.newL R hn h2')
      · cases es
    · cases es
theorem cr_tuple : CallR X (.type "tuple") (rBi G (biE .tuple)) := by
  refine CallR.weak call_tuple_of fun xs H Q h => ?_
  obtain ⟨W, st, n, vs, R, r, g⟩ := h
  unfold biE at g
  split at g <;> try (rename_i h; cases h; done)
  all_goals try (exact g.elim)
  rename_i b vs' v hb
  rw [EG_lift] at g
  obtain ⟨a, ea, q⟩ := g
  obtain ⟨l, el, rfl⟩ := Option.map_eq_some_iff.mp ea
  obtain ⟨ys, ey, ed⟩ := Option.bind_eq_some_iff.mp el
  obtain ⟨u, rfl, r1⟩ := one_of r
  have e1 := dats_mem ed
  subst e1
  rcases seq_at R r1 ey with ⟨p, us, rfl, h1, h2⟩ | ⟨p, us, ds, rfl, h1, e2, h2, rfl⟩
  · exact ⟨p, us, rfl, .inl ⟨SqL.of h1, fun a ha => q W _ _ (ext_new ha) (R.new ha) (VR.newT R ha (VlRs_d h2))⟩⟩
  · have e3 : l = ds := by
      have := congrArg dats e2
      have dm : ∀ z : List D, dats (z.map .d) = some z := fun z => by induction z with
        | nil => rfl
        | cons a z ih => simp [dats, ih]
      rw [dm, dm] at this
      exact Option.some.inj this
    subst e3
    exact ⟨p, us, rfl, .inr ⟨SqT.of h1, q W H _ .refl R r1⟩⟩
theorem dats_d : ∀ z : List D, dats (z.map .d) = some z
  | [] => rfl
  | a :: z => by simp [dats, dats_d z]
theorem keys_V {A : Addr → Prop} {H : Hp} : ∀ {ks : List D} {kvs : List (Key × V)}, KeysOk ks kvs → VRs G A H ks (kvs.map fun kv => kV kv.1)
  | [], [], _ => VRs.nil
  | [], _ :: _, h => False.elim h
  | _ :: _, [], h => False.elim h
  | k :: ks, p :: kvs, h => by
    refine VRs.cons ?_ (keys_V h.2)
    have h1 := h.1
    cases k <;> simp only [keyOf, reduceCtorEq] at h1
    case int i =>
      have := Option.some.inj h1
      show VR G A H (.int i) (kV p.1)
      rw [← this]; exact VR.int
    case str s =>
      have := Option.some.inj h1
      show VR G A H (.str s) (kV p.1)
      rw [← this]; exact VR.str
theorem cr_list (hc : X.calm = true) : CallR X (.type "list") (rBi G (biE .list)) := by
  refine CallR.weak (CallR.or call_list_of (call_list_dK hc)) fun xs H Q h => ?_
  obtain ⟨W, st, n, vs, R, r, g⟩ := h
  unfold biE at g
  split at g <;> try (rename_i h; cases h; done)
  all_goals try (exact g.elim)
  rename_i b vs' v hb
  rw [EG_lift] at g
  obtain ⟨a, ea, q⟩ := g
  obtain ⟨l, el, rfl⟩ := Option.map_eq_some_iff.mp ea
  obtain ⟨ys, ey, ed⟩ := Option.bind_eq_some_iff.mp el
  obtain ⟨u, rfl, r1⟩ := one_of r
  have e1 := dats_mem ed
  subst e1
  rcases items_at R r1 ey with ⟨p, us, rfl, h1, h2⟩ | ⟨p, us, rfl, h1, h2⟩ | ⟨p, kvs, ks, rfl, h1, e2, h2⟩
  · exact .inl ⟨p, us, rfl, .inl (SqL.of h1), fun a ha => q W _ _ (ext_new ha) (R.new ha) (VR.newL R ha (VlRs_d h2))⟩
  · exact .inl ⟨p, us, rfl, .inr (SqT.of h1), fun a ha => q W _ _ (ext_new ha) (R.new ha) (VR.newL R ha (VlRs_d h2))⟩
  · have e3 := congrArg dats e2
    rw [dats_d, dats_d] at e3
    cases e3
    exact .inr ⟨p, kvs, rfl, h1, fun a ha => q W _ _ (ext_new ha) (R.new ha) (VR.newL R ha (keys_V h2))⟩
/-! ### repr -/
theorem log_small {n : Nat} (h : n < 10 ^ 12) : n.log2 < 40 := by
  by_cases h0 : n = 0
  · subst h0; decide
  · exact (Nat.log2_lt h0).mpr (Nat.lt_of_lt_of_le h (by decide))
mutual
theorem rpI_py : ∀ d : D, rpI d = true → (toPy d).showable = true ∧ (toPy d).intsShort 13 = true ∧ (toPy d).weight ≤ rpW d
  | .non, _ => by simp [toPy, PyData.showable, PyData.intsShort, PyData.weight]
  | .bl _, _ => by simp [toPy, PyData.showable, PyData.intsShort, PyData.weight]
  | .int i, h => by
    have h' : i.natAbs < 10 ^ 12 := by simpa [rpI] using h
    have hl := log_small h'
    refine ⟨?_, ?_, ?_⟩
    · simp only [toPy, PyData.showable, decide_eq_true_eq]; omega
    · simp only [toPy, PyData.intsShort, decide_eq_true_eq]; exact PyData.shown_int_le h'
    · simp only [toPy, PyData.weight, rpW]; split <;> omega
  | .str s, _ => by
    refine ⟨by simp [toPy, PyData.showable], by simp [toPy, PyData.intsShort], ?_⟩
    simp only [toPy, PyData.weight, rpW, sOf, List.size_toArray, Nat.le_refl]
  | .tup xs, h => by
    have := rpIs_py xs (by simpa [rpI] using h)
    simp only [toPy, PyData.showable, PyData.intsShort, PyData.weight, rpW]
    exact this
  | .lst xs, h => by
    have := rpIs_py xs (by simpa [rpI] using h)
    simp only [toPy, PyData.showable, PyData.intsShort, PyData.weight, rpW]
    exact this
  | .dct _ _, h => by simp [rpI] at h
  | .ins _ _, h => by simp [rpI] at h
  | .fn _, h => by simp [rpI] at h
  | .strm, h => by simp [rpI] at h
  | .rp _, h => by simp [rpI] at h
theorem rpIs_py : ∀ ds : List D, rpIs ds = true → PyData.showableAll (toPys ds) = true ∧ PyData.intsShortAll 13 (toPys ds) = true ∧ PyData.weightAll (toPys ds) ≤ rpWs ds
  | [], _ => by simp [toPys, PyData.showableAll, PyData.intsShortAll, PyData.weightAll]
  | d :: ds, h => by
    have h' : rpI d = true ∧ rpIs ds = true := by simpa [rpIs] using h
    obtain ⟨a1, a2, a3⟩ := rpI_py d h'.1
    obtain ⟨b1, b2, b3⟩ := rpIs_py ds h'.2
    simp only [toPys, PyData.showableAll, PyData.intsShortAll, PyData.weightAll, rpWs, a1, a2, b1, b2, Bool.and_self]
    exact ⟨trivial, trivial, by omega⟩
end
theorem cr_repr (hg : X.A.guards = some []) (hu : X.A.units + 64 < cLine) : CallR X (.builtin "repr") (rBi G (biE .repr)) := by
  intro pins s σ H xs us Q I rv h
  obtain ⟨W, st, n, vs, R, r, g⟩ := h
  unfold biE at g
  split at g <;> try (rename_i h; cases h; done)
  all_goals try (exact g.elim)
  rename_i b vs' v hb
  rw [EG_lift] at g
  obtain ⟨a, ea, q⟩ := g
  obtain ⟨l, el, rfl⟩ := Option.map_eq_some_iff.mp ea
  obtain ⟨d, ed, er⟩ := Option.bind_eq_some_iff.mp el
  obtain ⟨u, rfl, r1⟩ := one_of r
  obtain ⟨w, rfl, ru⟩ := vals1 rv
  have hv := snap_VT R r1 ed
  unfold rpD at er
  split at er
  · rename_i c
    cases er
    rw [Bool.and_eq_true, Bool.and_eq_true, Bool.and_eq_true, decide_eq_true_eq] at c
    obtain ⟨⟨⟨c0, c1⟩, c2⟩, c3⟩ := c
    obtain ⟨p1, p2, p3⟩ := rpI_py d c2
    obtain ⟨k1, k2⟩ := ok_py d 62 c1
    obtain ⟨as, hr⟩ := Dp.reads I _ _ _ (VT.dp (K := X.K) (okB_mono d 62 64 (by decide) c1) hv) ru
    have href : ∃ p, u = .ref p := by
      cases d <;> simp only [isSeq, Bool.false_eq_true] at c0
      case tup ds =>
        obtain ⟨p, _, e, _⟩ := hv.ref_tup
        exact ⟨p, e⟩
      case lst ds =>
        obtain ⟨p, _, e, _⟩ := hv
        exact ⟨p, e⟩
    obtain ⟨p, rfl⟩ := href
    obtain rfl : w = Value.ref p := ru
    have hz : (toPy d).shown.length ≤ sizeLine := PyData.shown_fits (B := 13) (by decide) (by decide) (PyData.leavesShort_of_canLay0 13 _ k1 p2) (Nat.le_trans p3 c3)
    refine repr_of_reads' hr p1 (PyData.noDict_hsm (PyData.hasDict_of_canLay _ k1)) hg (by omega) (fun _ _ e => e) (fun h' u tk kp => ?_) hz
    exact ⟨.str _, H, I.kept kp, ⟨_, rfl⟩, q W H _ .refl R (by unfold VlR VR; rfl)⟩
  · cases er
theorem cr_listm (hc : X.calm = true) : CallR X (.type "list") (rBi G (biE .listm)) := by
  refine CallR.weak (CallR.or call_list_of (call_list_dK hc)) fun xs H Q h => ?_
  obtain ⟨W, st, n, vs, R, r, g⟩ := h
  unfold biE at g
  split at g <;> try (rename_i h; cases h; done)
  all_goals try (exact g.elim)
  rename_i b vs' v hb
  unfold listmE at g
  split at g
  · rename_i l el
    obtain ⟨ys, ey, ed⟩ := Option.bind_eq_some_iff.mp el
    obtain ⟨u, rfl, r1⟩ := one_of r
    have e1 := dats_mem ed
    subst e1
    have fin : ∀ us, VRs G (Av G W) H l us → ∀ a, H a = none → Q (.ref a) (upd H a (.lst us)) := fun us r2 a ha => by
      obtain ⟨y, R', rv⟩ := new_cell (u := .lst us) R ha (c := .lst (l.map .d)) fun W2 x2 => ⟨us, upd_same, (VlRs_of r2).ext x2⟩
      exact g _ _ _ y R' rv
    rcases items_at R r1 ey with ⟨p, us, rfl, h1, h2⟩ | ⟨p, us, rfl, h1, h2⟩ | ⟨p, kvs, ks, rfl, h1, e2, h2⟩
    · exact .inl ⟨p, us, rfl, .inl (SqL.of h1), fin us (VlRs_d h2)⟩
    · exact .inl ⟨p, us, rfl, .inr (SqT.of h1), fin us (VlRs_d h2)⟩
    · have e3 := congrArg dats e2
      rw [dats_d, dats_d] at e3
      cases e3
      exact .inr ⟨p, kvs, rfl, h1, fin _ (keys_V h2)⟩
  · exact g.elim
theorem cr_int : CallR X (.type "int") (rBi G (biE .int)) := by
  refine CallR.weak call_int1 fun xs H Q h => ?_
  obtain ⟨W, st, n, vs, R, r, g⟩ := h
  unfold biE at g
  split at g <;> try (rename_i h; cases h; done)
  all_goals try (exact g.elim)
  · rename_i i hb
    obtain ⟨u, rfl, r1⟩ := one_of r
    have ev := by unfold VlR VR at r1; exact r1
    subst ev
    exact .inl ⟨i, rfl, g W H _ .refl R VlR_int⟩
  · rename_i i hb
    obtain ⟨u, rfl, r1⟩ := one_of r
    have ev := by unfold VlR VR at r1; exact r1
    subst ev
    exact .inr ⟨i, rfl, g W H _ .refl R VlR_int⟩
end
end EV

end
section
set_option Elab.async false
set_option linter.all false
set_option maxRecDepth 100000
set_option maxHeartbeats 4000000
/-! EV 10: what is walked. -/
namespace EV
open PySem PySem.Spec PyProof.Rows L2
section
variable {cs : List ErrC} {G : Gd} {Wx : WX} {X : Cx}
theorem pure_ext {W : Wd} {H H' : Hp} (h : ∀ q o, H q = some o → H' q = some o) : Ext G W H W H' where
  keep := fun q o e _ _ => h q o e
  there := fun q n => n.kept (h q)
  grow := Nat.le_refl _
  back := fun _ _ _ h => h
  fresh := fun q h => .inl h
  av := fun _ h => .inl h
  avm := fun _ h => h
  hc := rfl
theorem pure_rel {W : Wd} {st : Store} {b : Nat} {H H' : Hp} (R : Rel G W st b H) (h : ∀ q o, H q = some o → H' q = some o) : Rel G W st b H' :=
  R.same (pure_ext h) (fun a m => by
    cases z : H a with
    | none => exact absurd z (R.av_there (.inl m))
    | some o => exact h a o z) h
theorem vl_get_d {ds : List D} {i : Nat} {a : Vl} (h : (ds.map Vl.d)[i]? = some a) : ∃ d, ds[i]? = some d ∧ a = .d d := by
  rw [List.getElem?_map] at h
  cases z : ds[i]? with
  | none => rw [z] at h; cases h
  | some d => rw [z] at h; cases h; exact ⟨d, rfl, rfl⟩
theorem itOk_lst {K : PySem.W.Frag} {W : Wd} {H : Hp} {p : Addr} {us : List V} {ds : List D} (h1 : H p = some (.lst us)) (n : ¬ Av G W p) (h2 : VRs G (Av G W) H ds us)  : ItOk G W H (ds.map .d) (Itl K p) where
  go := fun W2 H2 i a st2 b2 x R2 e => by
    obtain ⟨d, ed, rfl⟩ := vl_get_d e
    have h1' := x.keep _ _ h1 nofun n
    obtain ⟨u, eu, ru⟩ := (VRs.ext0 x.ext0 h2).get ed
    refine ⟨⟨us, u, SqL.of h1', eu⟩, fun y H3 q => ?_⟩
    obtain ⟨rfl, q⟩ := q
    have := q us (SqL.of h1')
    rw [eu] at this
    cases this
    exact ⟨fun _ _ h => h, ru⟩
  stop := fun W2 H2 x => ⟨us, SqL.of (x.keep _ _ h1 nofun n), by rw [List.length_map, h2.length]; exact Nat.le_refl _⟩
theorem itOk_tup {K : PySem.W.Frag} {W : Wd} {H : Hp} {p : Addr} {us : List V} {ds : List D} (h1 : H p = some (.tup us)) (n : ¬ Av G W p) (h2 : VRs G (Av G W) H ds us) : ItOk G W H (ds.map .d) (Itt K p) where
  go := fun W2 H2 i a st2 b2 x R2 e => by
    obtain ⟨d, ed, rfl⟩ := vl_get_d e
    have h1' := x.keep _ _ h1 nofun n
    obtain ⟨u, eu, ru⟩ := (VRs.ext0 x.ext0 h2).get ed
    refine ⟨⟨us, u, SqT.of h1', eu⟩, fun y H3 q => ?_⟩
    obtain ⟨rfl, q⟩ := q
    have := q us (SqT.of h1')
    rw [eu] at this
    cases this
    exact ⟨fun _ _ h => h, ru⟩
  stop := fun W2 H2 x => ⟨us, SqT.of (x.keep _ _ h1 nofun n), by rw [List.length_map, h2.length]; exact Nat.le_refl _⟩
theorem itOk_rng {W : Wd} {H : Hp} {lo hi : Int} : ItOk G W H (range lo hi) (Itr lo (hi - lo).toNat) where
  go := fun W2 H2 i a st2 b2 x R2 e => by
    unfold range at e
    rw [List.getElem?_map] at e
    cases z : (List.range (hi - lo).toNat)[i]? with
    | none => rw [z] at e; cases e
    | some j =>
      rw [z] at e
      cases e
      obtain ⟨hi', e'⟩ := List.getElem?_eq_some_iff.mp z
      rw [List.length_range] at hi'
      rw [List.getElem_range] at e'
      subst e'
      refine ⟨hi', fun y H3 q => ?_⟩
      obtain ⟨rfl, rfl⟩ := q
      exact ⟨fun _ _ h => h, VlR_int⟩
  stop := fun W2 H2 x => by
    unfold range
    rw [List.length_map, List.length_range]
    exact Nat.le_refl _
theorem new_pair {W : Wd} {H : Hp} {d e : D} {u v : V} (r1 : VR G (Av G W) H d u) (r2 : VR G (Av G W) H e v) {T : Addr} (hT : H T = none) (hav : ∀ a, Av G W a → H a ≠ none) : VlR G W (upd H T (.tup [u, v])) (.d (.tup [d, e])) (.ref T) := by
  unfold VlR VR
  exact ⟨T, [u, v], rfl, upd_same, fun a => hav T a hT, VRs.cons (VR.ext0 (ext_new hT).ext0 r1) (VRs.cons (VR.ext0 (ext_new hT).ext0 r2) VRs.nil)⟩
/-- an enumeration, a zip: the items in new pairs -/
theorem zipWith_get {α β γ : Type} (f : α → β → γ) : ∀ {xs : List α} {ys : List β} {i : Nat} {c : γ}, (List.zipWith f xs ys)[i]? = some c → ∃ a b, xs[i]? = some a ∧ ys[i]? = some b ∧ c = f a b
  | [], _, _, _, h => by simp at h
  | _ :: _, [], _, _, h => by simp at h
  | x :: xs, y :: ys, 0, c, h => by simp at h; exact ⟨x, y, rfl, rfl, h.symm⟩
  | x :: xs, y :: ys, i + 1, c, h => by simpa using zipWith_get f (i := i) (xs := xs) (ys := ys) (by simpa using h)
theorem itOk_enum {K : PySem.W.Frag} {W : Wd} {H : Hp} {p : Addr} {us : List V} {ds : List D} (h1 : H p = some (.lst us)) (n : ¬ Av G W p) (h2 : VRs G (Av G W) H ds us) : ItOk G W H (enum ds) (Ite K p) where
  go := fun W2 H2 i a st2 b2 x R2 e => by
    obtain ⟨j, d, e1, ed, rfl⟩ := zipWith_get _ e
    have ej : j = i := by
      obtain ⟨hi', e'⟩ := List.getElem?_eq_some_iff.mp e1
      rw [List.getElem_range] at e'
      exact e'.symm
    subst ej
    have h1' := x.keep _ _ h1 nofun n
    obtain ⟨u, eu, ru⟩ := (VRs.ext0 x.ext0 h2).get ed
    refine ⟨⟨us, u, SqL.of h1', eu⟩, fun y H3 q => ?_⟩
    obtain ⟨T, z, rfl, hT, rfl, q⟩ := q
    have := q us (SqL.of h1')
    rw [eu] at this
    cases this
    exact ⟨fun _ _ h => upd_keep hT h, new_pair VR.int ru hT fun a h => R2.av_there h⟩
  stop := fun W2 H2 x => ⟨us, SqL.of (x.keep _ _ h1 nofun n), by unfold enum; rw [List.length_zipWith, List.length_range, h2.length]; omega⟩
theorem itOk_zipL {K : PySem.W.Frag} {W : Wd} {H : Hp} {p p2 : Addr} {us us2 : List V} {ds ds2 : List D} (h1 : H p = some (.lst us)) (n : ¬ Av G W p) (h2 : VRs G (Av G W) H ds us) (k1 : H p2 = some (.lst us2)) (m : ¬ Av G W p2) (k2 : VRs G (Av G W) H ds2 us2) :
    ItOk G W H (zip2 ds ds2) (Itz K p p2) where
  go := fun W2 H2 i a st2 b2 x R2 e => by
    obtain ⟨d, d2, ed, ed2, rfl⟩ := zipWith_get _ e
    have h1' := x.keep _ _ h1 nofun n
    have k1' := x.keep _ _ k1 nofun m
    obtain ⟨u, eu, ru⟩ := (VRs.ext0 x.ext0 h2).get ed
    obtain ⟨u2, eu2, ru2⟩ := (VRs.ext0 x.ext0 k2).get ed2
    refine ⟨⟨us, us2, u, u2, SqL.of h1', SqL.of k1', eu, eu2⟩, fun y H3 q => ?_⟩
    obtain ⟨T, z, z2, rfl, hT, rfl, q, q2⟩ := q
    have e1 := q us (SqL.of h1')
    rw [eu] at e1
    cases e1
    have e2 := q2 us2 (SqL.of k1')
    rw [eu2] at e2
    cases e2
    exact ⟨fun _ _ h => upd_keep hT h, new_pair ru ru2 hT fun a h => R2.av_there h⟩
  stop := fun W2 H2 x => ⟨us, us2, SqL.of (x.keep _ _ h1 nofun n), SqL.of (x.keep _ _ k1 nofun m), by unfold zip2; rw [List.length_zipWith, h2.length, k2.length]; omega⟩
theorem itOk_zipT {K : PySem.W.Frag} {W : Wd} {H : Hp} {p p2 : Addr} {us us2 : List V} {ds ds2 : List D} (h1 : H p = some (.tup us)) (n : ¬ Av G W p) (h2 : VRs G (Av G W) H ds us) (k1 : H p2 = some (.tup us2)) (m : ¬ Av G W p2) (k2 : VRs G (Av G W) H ds2 us2) :
    ItOk G W H (zip2 ds ds2) (RZ.ItzT K p p2) where
  go := fun W2 H2 i a st2 b2 x R2 e => by
    obtain ⟨d, d2, ed, ed2, rfl⟩ := zipWith_get _ e
    have h1' := x.keep _ _ h1 nofun n
    have k1' := x.keep _ _ k1 nofun m
    obtain ⟨u, eu, ru⟩ := (VRs.ext0 x.ext0 h2).get ed
    obtain ⟨u2, eu2, ru2⟩ := (VRs.ext0 x.ext0 k2).get ed2
    refine ⟨⟨us, us2, u, u2, SqT.of h1', SqT.of k1', eu, eu2⟩, fun y H3 q => ?_⟩
    obtain ⟨T, z, z2, rfl, hT, rfl, q, q2⟩ := q
    have e1 := q us (SqT.of h1')
    rw [eu] at e1
    cases e1
    have e2 := q2 us2 (SqT.of k1')
    rw [eu2] at e2
    cases e2
    exact ⟨fun _ _ h => upd_keep hT h, new_pair ru ru2 hT fun a h => R2.av_there h⟩
  stop := fun W2 H2 x => ⟨us, us2, SqT.of (x.keep _ _ h1 nofun n), SqT.of (x.keep _ _ k1 nofun m), by unfold zip2; rw [List.length_zipWith, h2.length, k2.length]; omega⟩
/-! ### the walks of the text -/
/-- a list or a tuple, by its value -/
theorem pi_seq {tg l : Expr} {tl : TE} (hl : PE X l tl) : PI X tg l (fun σ H R => tl σ H fun x H1 => ∃ a, x = .ref a ∧ ((∃ xs, SqL X.K H1 a xs ∧ R (Itl X.K a) H1) ∨ (∃ xs, SqT X.K H1 a xs ∧ R (Itt X.K a) H1))) := by
  refine ⟨fun pins s σ H R I h => ?_⟩
  refine thn (hl.run pins s σ H _ I h) fun v s1 ⟨x, H1, I1, r1, q1⟩ => ?_
  obtain ⟨a, e, q1⟩ := q1
  subst e
  cases r1
  rcases q1 with ⟨xs, hq, q⟩ | ⟨xs, hq, q⟩
  · obtain ⟨its, rv, p, hz⟩ := I1.list hq
    refine wpAny_pyIter_list p.isList ?_
    refine ⟨s1.heap.objs.size, [s1.heap.objs.size], _, _, H1, rfl, I1.kept (t' := s1.toks) fun b o e => Heap.get?_push_of_some _ e, turn_list a _, ⟨_, Heap.get?_push_size _ rfl, rfl, rfl⟩, fun b hb => ?_, q⟩
    have e : b = s1.heap.objs.size := by simpa using hb
    subst e
    exact I1.fpOk (Nat.le_refl _) (I1.hok.fresh (Nat.le_refl _))
  · obtain ⟨its, rv, p, hz⟩ := I1.tuple hq
    refine wpAny_pyIter_tuple (show s1.heap.IsTuple a its.toArray from p) ?_
    refine ⟨s1.heap.objs.size, [s1.heap.objs.size], _, _, H1, rfl, I1.kept (t' := s1.toks) fun b o e => Heap.get?_push_of_some _ e, turn_tuple a _, ⟨_, Heap.get?_push_size _ rfl, rfl, rfl⟩, fun b hb => ?_, q⟩
    have e : b = s1.heap.objs.size := by simpa using hb
    subst e
    exact I1.fpOk (Nat.le_refl _) (I1.hok.fresh (Nat.le_refl _))
theorem pi_valE {tg l : Expr} {run : Env → Store → E Vl} (hl : PE X l (tE cs G Wx run)) : PI X tg l (tI cs G Wx run) := by
  refine PI.imp (pi_seq hl) fun σ H R ⟨W, e, st, b, R0, V, g⟩ => ?_
  refine ⟨W, e, st, b, R0, V, g.mono (fun a s b g W1 H1 v x1 R1 r1 => ?_) fun _ _ _ _ q => q⟩
  obtain ⟨vs, ev, q⟩ := g
  cases a with
  | d d =>
    cases d <;> simp only [itsOf, reduceCtorEq] at ev
    case lst ds =>
      cases ev
      unfold VlR VR at r1
      obtain ⟨p, us, rfl, h1, n, h2⟩ := r1
      exact ⟨p, rfl, .inl ⟨us, SqL.of h1, q W1 H1 _ x1 R1 (itOk_lst h1 n h2)⟩⟩
    case tup ds =>
      cases ev
      unfold VlR VR at r1
      obtain ⟨p, us, rfl, h1, n, h2⟩ := r1
      exact ⟨p, rfl, .inr ⟨us, SqT.of h1, q W1 H1 _ x1 R1 (itOk_tup h1 n h2)⟩⟩
  | its ys => exact r1.elim
  | ref i => cases ev
  | thk => cases ev
  | exn c fs => cases ev
  | h x => cases ev
  | hr i x => cases ev
/-- a walk's arguments -/
theorem wk_args {rs run : Env → Store → E Vl} {f : List Vl → Store → E Vl} (hr : ∀ e st, run e st = bnd (rs e st) fun vs st => match vs with
      | .its vs => f vs st
      | _ => .err) {σ : L2.St} {H : Hp} {R : It → Hp → Prop} (h : tI cs G Wx run σ H R) {Q : List V → Hp → Prop}
    (fin : ∀ W1 H1 vs us s b, Rel G W1 s b H1 → VlRs G W1 H1 vs us → EG (KI G W1 H1 R) (fun _ _ _ _ => True) (f vs s) b → Q us H1) : tA cs G Wx rs σ H Q := by
  obtain ⟨W, e, st, b, R0, V, g⟩ := h
  rw [hr, EG_bnd] at g
  refine ⟨W, e, st, b, R0, V, g.mono (fun a s b g => ?_) fun _ _ _ _ q => q⟩
  cases a <;> first
    | exact g.elim
    | skip
  rename_i vs
  refine ⟨vs, rfl, fun W1 H1 us x1 R1 r1 => fin W1 H1 vs us s b R1 r1 (g.mono (fun a s b q => ?_) fun _ _ _ _ _ => trivial)⟩
  obtain ⟨ys, ey, q⟩ := q
  exact ⟨ys, ey, fun W' H' J x' R' i => q W' H' J (x1.trans x') R' i⟩
theorem VlR_int_eq {W : Wd} {H : Hp} {i : Int} {v : V} (h : VlR G W H (.d (.int i)) v) : v = .int i := by unfold VlR VR at h; exact h
theorem pi_rangeE1 {tg a : Expr} {p pos : Pos} {rs run : Env → Store → E Vl} (hg : Gl X "range") (hm : X.mg "range" = none) (hs : PA X [a] (tA cs G Wx rs)) (hst : notStar a = true)
    (hr : ∀ e st, run e st = bnd (rs e st) fun vs st => match vs with
      | .its vs => wkE .range vs st
      | _ => .err) : PI X tg (.Call (.Name "range" p) [a] [] pos) (tI cs G Wx run) := by
  refine PI.imp (pi_range1 hg hm hs (star_cons hst)) fun σ H R h => wk_args (f := wkE .range) hr h fun W1 H1 vs us s b R1 r1 g => ?_
  unfold wkE at g
  split at g <;> try (rename_i h; cases h; done)
  all_goals try (exact g.elim)
  · rename_i i _
    split at g
    · rename_i hb
      cases r1 with
      | cons r t =>
        cases t
        rw [VlR_int_eq r]
        obtain ⟨ys, ey, q⟩ := g
        cases ey
        have ok := itOk_rng (G := G) (W := W1) (H := H1) (lo := 0) (hi := i)
        rw [Int.sub_zero] at ok
        exact ⟨i, rfl, by omega, by omega, q W1 H1 _ .refl R1 ok⟩
    · exact g.elim
theorem pi_rangeE2 {tg a c : Expr} {p pos : Pos} {rs run : Env → Store → E Vl} (hg : Gl X "range") (hm : X.mg "range" = none) (hs : PA X [a, c] (tA cs G Wx rs)) (hst : notStar a = true) (hst2 : notStar c = true)
    (hr : ∀ e st, run e st = bnd (rs e st) fun vs st => match vs with
      | .its vs => wkE .range2 vs st
      | _ => .err) : PI X tg (.Call (.Name "range" p) [a, c] [] pos) (tI cs G Wx run) := by
  refine PI.imp (pi_range2 hg hm hs (by rw [star_cons hst, star_cons hst2]; rfl) (by rw [star_cons hst2]; rfl)) fun σ H R h => wk_args (f := wkE .range2) hr h fun W1 H1 vs us s b R1 r1 g => ?_
  unfold wkE at g
  split at g <;> try (rename_i h; cases h; done)
  all_goals try (exact g.elim)
  rename_i i j _
  split at g
  · rename_i hb
    cases r1 with
    | cons r t =>
      cases t with
      | cons r2 t =>
        cases t
        rw [VlR_int_eq r, VlR_int_eq r2]
        obtain ⟨ys, ey, q⟩ := g
        cases ey
        exact ⟨i, j, rfl, ⟨by omega, by omega, by omega, by omega⟩, q W1 H1 _ .refl R1 itOk_rng⟩
  · exact g.elim
def isTupT : Expr → Bool
  | .Tuple _ _ _ => true
  | _ => false
theorem pi_zipE {tg a c : Expr} {p pos : Pos} {rs run : Env → Store → E Vl} (ht : isTupT tg = true) (hg : Gl X "zip") (hm : X.mg "zip" = none) (hs : PA X [a, c] (tA cs G Wx rs)) (hst : notStar a = true) (hst2 : notStar c = true)
    (hr : ∀ e st, run e st = bnd (rs e st) fun vs st => match vs with
      | .its vs => wkE .zip vs st
      | _ => .err) : PI X tg (.Call (.Name "zip" p) [a, c] [] pos) (tI cs G Wx run) := by
  cases tg <;> try (cases ht; done)
  refine PI.imp (RZ.pi_zipA hg hm hs (star_cons hst) (star_plain (by simp [hst2]))) fun σ H R h => wk_args (f := wkE .zip) hr h fun W1 H1 vs us s b R1 r1 g => ?_
  unfold wkE at g
  split at g <;> try (rename_i h; cases h; done)
  all_goals try (exact g.elim)
  · rename_i l k _
    cases r1 with
    | cons r t =>
      cases t with
      | cons r2 t =>
        cases t
        unfold VlR VR at r r2
        obtain ⟨pp, us, rfl, h1, n, h2⟩ := r
        obtain ⟨pp2, us2, rfl, k1, m, k2⟩ := r2
        obtain ⟨ys, ey, q⟩ := g
        cases ey
        exact ⟨pp, pp2, us, us2, rfl, .inl ⟨SqL.of h1, SqL.of k1, q W1 H1 _ .refl R1 (itOk_zipL h1 n h2 k1 m k2)⟩⟩
  · rename_i l k _
    cases r1 with
    | cons r t =>
      cases t with
      | cons r2 t =>
        cases t
        unfold VlR VR at r r2
        obtain ⟨pp, us, rfl, h1, n, h2⟩ := r
        obtain ⟨pp2, us2, rfl, k1, m, k2⟩ := r2
        obtain ⟨ys, ey, q⟩ := g
        cases ey
        exact ⟨pp, pp2, us, us2, rfl, .inr ⟨SqT.of h1, SqT.of k1, q W1 H1 _ .refl R1 (itOk_zipT h1 n h2 k1 m k2)⟩⟩
end
end EV

end
section
set_option Elab.async false
set_option linter.all false
set_option maxRecDepth 100000
set_option maxHeartbeats 4000000
/-! EV 11: targets, list comprehensions. -/
namespace EV
open PySem PySem.Spec PyProof.Rows L2
section
variable {cs : List ErrC} {G : Gd} {Wx : WX} {X : Cx}
/-! ### targets -/
def tgIn : Tg → List Nat → Bool
  | .nm i, own => own.contains i
  | .tp t, own => tgIn t own
  | .nil, _ => true
  | .cons a b, own => tgIn a own && tgIn b own
theorem wipe_in {σ : L2.St} {i : Nat} : ∀ {vs : List Nat}, i ∈ vs → (wipe σ vs)[i]? = if i < σ.length then some none else none
  | v :: vs, h => by
    unfold wipe
    by_cases e : v = i
    · subst e
      by_cases hl : v < σ.length
      · rw [if_pos hl, List.getElem?_set_self (by rw [wipe_length]; exact hl)]
      · rw [if_neg hl, List.getElem?_eq_none]
        rw [List.length_set, wipe_length]; omega
    · rw [List.getElem?_set_ne e]
      exact wipe_in ((List.mem_cons.mp h).resolve_left fun z => e z.symm)
theorem wipe_get {σ : L2.St} {i : Nat} {vs : List Nat} : (wipe σ vs)[i]? = if i ∈ vs then (if i < σ.length then some none else none) else σ[i]? := by
  by_cases h : i ∈ vs
  · rw [if_pos h, wipe_in h]
  · rw [if_neg h, wipe_out h]
theorem wipe_set {σ : L2.St} {i : Nat} {x : Option V} {vs : List Nat} (h : i ∈ vs) : wipe (σ.set i x) vs = wipe σ vs := by
  apply List.ext_getElem?
  intro j
  rw [wipe_get, wipe_get, List.length_set]
  by_cases hj : j ∈ vs
  · rw [if_pos hj, if_pos hj]
  · rw [if_neg hj, if_neg hj, List.getElem?_set_ne (by rintro rfl; exact hj h)]
theorem wipe_wipe {σ : L2.St} {vs : List Nat} : wipe (wipe σ vs) vs = wipe σ vs := by
  apply List.ext_getElem?
  intro j
  rw [wipe_get, wipe_get, wipe_length]
  by_cases hj : j ∈ vs
  · rw [if_pos hj, if_pos hj]
  · rw [if_neg hj, if_neg hj]
theorem EnvR.wipe {W : Wd} {H : Hp} {e : Env} {σ : L2.St} (h : EnvR G W H e σ) : ∀ vs : List Nat, EnvR G W H (wipeE e vs) (L2.wipe σ vs)
  | [] => h
  | v :: vs => by
    have i := EnvR.wipe h vs
    unfold wipeE L2.wipe
    refine ⟨by simp [i.len], fun j a q => ?_⟩
    by_cases hj : v = j
    · subst hj
      by_cases hl : v < (wipeE e vs).length
      · rw [List.getElem?_set_self hl] at q; cases q
      · rw [List.getElem?_eq_none (by simpa using hl)] at q; cases q
    · rw [List.getElem?_set_ne hj] at q ⊢
      exact i.get0 j a q
/-- a target's reading -/
def tG (G : Gd) (t : Tg) : TG := fun v σ H Q => ∃ W e a e', EnvR G W H e σ ∧ VlR G W H a v ∧ setTg t a e = some e' ∧ ∀ σ', EnvR G W H e' σ' → (∀ own, tgIn t own = true → wipe σ' own = wipe σ own) → Q σ' H
def tGs (G : Gd) (t : Tg) : TGs := fun vs σ H Q => ∃ W e as e', EnvR G W H e σ ∧ VlRs G W H as vs ∧ setTg.setTgs t as e = some e' ∧ ∀ σ', EnvR G W H e' σ' → (∀ own, tgIn t own = true → wipe σ' own = wipe σ own) → Q σ' H
theorem PG.imp {e : Expr} {t t' : TG} (h : PG X e t) (i : ∀ v σ H Q, t' v σ H Q → t v σ H Q) : PG X e t' := ⟨fun pins s σ H v u Q I r q => h.run pins s σ H v u Q I r (i v σ H Q q)⟩
theorem PGs.imp {e : List Expr} {t t' : TGs} (h : PGs X e t) (i : ∀ v σ H Q, t' v σ H Q → t v σ H Q) : PGs X e t' := ⟨fun pins s σ H v u Q I r q => h.run pins s σ H v u Q I r (i v σ H Q q)⟩
theorem PG.or {e : Expr} {t t' : TG} (h : PG X e t) (h' : PG X e t') : PG X e (fun v σ H Q => t v σ H Q ∨ t' v σ H Q) := ⟨fun pins s σ H v u Q I r q => by
  rcases q with q | q
  · exact h.run pins s σ H v u Q I r q
  · exact h'.run pins s σ H v u Q I r q⟩
/-- the checker of a name that is stored: fn tells the names whose cells are the block's own -/
def chkNm (N : List Str) (sc : Scope) (fn : Str → Bool) (i : Nat) : Expr → Bool
  | .Name x _ => N[i]? == some x && (sc.names.lookup x == some .local || sc.names.lookup x == some .cell && fn x)
  | _ => false
def chkTgs (N : List Str) (sc : Scope) (fn : Str → Bool) : Tg → List Expr → Bool
  | .nil, [] => true
  | .cons (.nm i) b, e :: es => chkNm N sc fn i e && chkTgs N sc fn b es
  | _, _ => false
def chkTg (N : List Str) (sc : Scope) (fn : Str → Bool) : Tg → Expr → Bool
  | .nm i, e => chkNm N sc fn i e
  | .tp t, .Tuple es _ _ => chkTgs N sc fn t es
  | _, _ => false
theorem pg_nm {i : Nat} {e : Expr} (hN : X.N.Nodup) (h : chkNm X.N X.env.scope X.fn i e = true) : PG X e (tG G (.nm i)) := by
  cases e <;> try (unfold chkNm at h; cases h; done)
  rename_i x pos
  simp only [chkNm, Bool.and_eq_true, Bool.or_eq_true, beq_iff_eq] at h
  obtain ⟨h1, h2⟩ := h
  have hl : Loc X.env.scope x := by
    rcases h2 with h2 | ⟨h2, _⟩
    · exact .inl h2
    · exact .inr h2
  have hf : X.fn x = true ∨ X.env.scope.names.lookup x = some .local := by
    rcases h2 with h2 | ⟨_, h2⟩
    · exact .inr h2
    · exact .inl h2
  refine PG.imp (pg_name hN h1 hl hf) fun v σ H Q ⟨W, e, a, e', V, r, es, q⟩ => ?_
  cases es
  refine q _ (V.set i r) fun own ho => wipe_set ?_
  simpa [tgIn] using ho
theorem assignEach_nm {N : List Str} {sc : Scope} {fn : Str → Bool} {i : Nat} {e : Expr} {es : List Expr} {env : PySem.Env} (h : chkNm N sc fn i e = true) : assignEach (e :: es) env = (false, assign e env) :: assignEach es env := by
  cases e <;> first | rfl | (unfold chkNm at h; cases h)
theorem pgs_nms (hN : X.N.Nodup) : ∀ {t : Tg} {es : List Expr}, chkTgs X.N X.env.scope X.fn t es = true → PGs X es (tGs G t) ∧ (assignEach es X.env).length = es.length ∧ (assignEach es X.env).findIdx? (·.1) = none
  | .nil, [], _ => by
    refine ⟨PGs.imp pgs_nil fun v σ H Q ⟨W, e, as, e', V, r, h, q⟩ => ?_, rfl, rfl⟩
    cases r with
    | nil =>
      cases h
      exact ⟨rfl, q σ V fun _ _ => rfl⟩
    | cons _ _ => cases h
  | .cons (.nm i) b, e :: es, h => by
    simp only [chkTgs, Bool.and_eq_true] at h
    obtain ⟨h1, h2⟩ := h
    obtain ⟨i1, i2, i3⟩ := pgs_nms (t := b) hN h2
    have ea := assignEach_nm (es := es) (env := X.env) h1
    refine ⟨PGs.imp (pgs_cons (pg_nm (G := G) hN h1) i1 (by rw [ea]; rfl)) fun v σ H Q ⟨W, e0, as, e', V, r, hs, q⟩ => ?_, by rw [ea]; simp [i2], by rw [ea]; simpa [List.findIdx?_cons] using i3⟩
    cases r with
    | nil => cases hs
    | cons r rr =>
      obtain ⟨e1, he1, he2⟩ := Option.bind_eq_some_iff.mp hs
      refine ⟨_, _, rfl, W, e0, _, e1, V, r, he1, fun σ1 V1 k1 => ?_⟩
      refine ⟨W, e1, _, e', V1, rr, he2, fun σ2 V2 k2 => q σ2 V2 fun own ho => ?_⟩
      have ho' : tgIn (.nm i) own = true ∧ tgIn b own = true := by simpa [tgIn] using ho
      rw [k2 own ho'.2, k1 own ho'.1]
  | .nil, _ :: _, h => by unfold chkTgs at h; cases h
  | .nm _, [], h => by unfold chkTgs at h; cases h
  | .nm _, _ :: _, h => by unfold chkTgs at h; cases h
  | .tp _, [], h => by unfold chkTgs at h; cases h
  | .tp _, _ :: _, h => by unfold chkTgs at h; cases h
  | .cons a _, [], h => by cases a <;> simp [chkTgs] at h
  | .cons .nil _, _ :: _, h => by unfold chkTgs at h; cases h
  | .cons (.tp _) _, _ :: _, h => by unfold chkTgs at h; cases h
  | .cons (.cons _ _) _, _ :: _, h => by unfold chkTgs at h; cases h
theorem setTgs_len : ∀ {t : Tg} {es : List Expr} {N : List Str} {sc : Scope} {fn : Str → Bool} {as : List Vl} {e e' : Env}, chkTgs N sc fn t es = true → setTg.setTgs t as e = some e' → as.length = es.length
  | .nil, [], _, _, _, as, _, _, _, h => by
    cases as with
    | nil => rfl
    | cons _ _ => cases h
  | .cons (.nm i) b, e :: es, N, sc, fn, as, _, _, hc, h => by
    simp only [chkTgs, Bool.and_eq_true] at hc
    cases as with
    | nil => cases h
    | cons a as =>
      obtain ⟨e1, _, he2⟩ := Option.bind_eq_some_iff.mp h
      simp [setTgs_len hc.2 he2]
  | .nil, _ :: _, _, _, _, _, _, _, h, _ => by unfold chkTgs at h; cases h
  | .nm _, [], _, _, _, _, _, _, h, _ => by unfold chkTgs at h; cases h
  | .nm _, _ :: _, _, _, _, _, _, _, h, _ => by unfold chkTgs at h; cases h
  | .tp _, [], _, _, _, _, _, _, h, _ => by unfold chkTgs at h; cases h
  | .tp _, _ :: _, _, _, _, _, _, _, h, _ => by unfold chkTgs at h; cases h
  | .cons a _, [], _, _, _, _, _, _, h, _ => by cases a <;> simp [chkTgs] at h
  | .cons .nil _, _ :: _, _, _, _, _, _, _, h, _ => by unfold chkTgs at h; cases h
  | .cons (.tp _) _, _ :: _, _, _, _, _, _, _, h, _ => by unfold chkTgs at h; cases h
  | .cons (.cons _ _) _, _ :: _, _, _, _, _, _, _, h, _ => by unfold chkTgs at h; cases h
theorem pg_tgE (hc : X.calm = true) {t : Tg} {e : Expr} (hN : X.N.Nodup) (h : chkTg X.N X.env.scope X.fn t e = true) : PG X e (tG G t) := by
  cases t with
  | nm i => exact pg_nm hN h
  | nil => cases e <;> (unfold chkTg at h; cases h)
  | cons a b => cases e <;> (unfold chkTg at h; cases h)
  | tp t =>
    cases e <;> try (unfold chkTg at h; cases h; done)
    rename_i es k pos
    have h' : chkTgs X.N X.env.scope X.fn t es = true := h
    obtain ⟨i1, i2, i3⟩ := pgs_nms (G := G) hN h'
    refine PG.imp (PG.or (pg_tup hc i1 i2 i3) (pg_lst hc i1 i2 i3)) fun v σ H Q ⟨W, e0, a, e', V, r, hs, q⟩ => ?_
    cases a with
    | d d =>
      cases d <;> try (unfold setTg at hs; cases hs; done)
      case tup ds =>
        unfold VlR VR at r
        obtain ⟨p, us, rfl, h1, n, h2⟩ := r
        have hl := setTgs_len h' hs
        refine .inl ⟨p, us, rfl, SqT.of h1, ?_, W, e0, _, e', V, VlRs_of h2, hs, q⟩
        rw [← hl, List.length_map, h2.length]
      case lst ds =>
        unfold VlR VR at r
        obtain ⟨p, us, rfl, h1, n, h2⟩ := r
        have hl := setTgs_len h' hs
        refine .inr ⟨p, us, rfl, SqL.of h1, ?_, W, e0, _, e', V, VlRs_of h2, hs, q⟩
        rw [← hl, List.length_map, h2.length]
    | _ => unfold setTg at hs; cases hs
end
end EV

end
section
set_option Elab.async false
set_option linter.all false
set_option maxRecDepth 100000
set_option maxHeartbeats 4000000
/-! EV 12: list comprehensions. -/
namespace EV
open PySem PySem.Spec PyProof.Rows L2
open LamX (Tabs TabS CodeO)
section
variable {cs : List ErrC} {G : Gd} {Wx : WX} {X : Cx}
theorem paired_len {α β : Type} {F : α → β → Prop} : ∀ {l : List α} {k : List β}, Paired F l k → l.length = k.length
  | _, _, .nil => rfl
  | _, _, .cons _ t => by simp [paired_len t]
theorem paired_snoc {α β : Type} {F : α → β → Prop} {a : α} {c : β} (r : F a c) : ∀ {l : List α} {k : List β}, Paired F l k → Paired F (l ++ [a]) (k ++ [c])
  | _, _, .nil => .cons r .nil
  | _, _, .cons q t => .cons q (paired_snoc r t)
/-- data lies nowhere at D besides -/
def Wd.plus (W : Wd) (D : Addr) : Wd := ⟨W.cells, fun q => W.av q ∨ q = D, W.hc⟩
def Wd.drop (W : Wd) (D : Addr) : Wd := ⟨W.cells, fun q => W.av q ∧ q ≠ D, W.hc⟩
theorem live_iff {W W' : Wd} (h : W.cells = W'.cells) {a : Addr} : W.live a ↔ W'.live a := by unfold Wd.live; rw [h]
theorem mv_iff {W W' : Wd} (h : W.cells = W'.cells) {a : Addr} : Mv G W a ↔ Mv G W' a := by unfold Mv; rw [live_iff h]
theorem ext0_h {W W' : Wd} {H H' : Hp} (e : W'.hc = W.hc) (x0 : Ext0 (Av G W) H (Av G W') H') : Ext0 (Ah G W) H (Ah G W') H' := ⟨fun q o h nt n => by
  obtain ⟨h1, h2⟩ := x0.keep q o h nt fun m => n (.inl m)
  refine ⟨h1, fun m => ?_⟩
  rcases m with m | m
  · exact h2 m
  · exact n (.inr (by rw [← e]; exact m))⟩
theorem VlR.sub {W W' : Wd} {H H' : Hp} (e : W'.hc = W.hc) (hc : W.cells.length ≤ W'.cells.length) (hb : ∀ (i : Nat) a, i < W.cells.length → W'.cells[i]? = some (some a) → W.cells[i]? = some (some a)) (x0 : Ext0 (Av G W) H (Av G W') H') {a : Vl} {v : V} (r : VlR G W H a v) : VlR G W' H' a v := by
  cases a with
  | d x => exact VR.ext0 x0 r
  | ref i => exact ⟨Nat.lt_of_lt_of_le r.1 hc, fun a e => r.2 a (hb i a r.1 e)⟩
  | thk => exact r
  | its xs => exact r
  | exn c fs => exact r
  | h x => exact VR.ext0 (ext0_h e x0) r
  | hr i x =>
    obtain ⟨a, h1, h2, h3⟩ := r
    exact ⟨a, by rw [e]; exact h1, h2, VR.ext0 x0 h3⟩
/-- entering: D is new, nothing lies at it -/
theorem ext_plus {W : Wd} {H : Hp} {D : Addr} {u : HO} (hD : H D = none) : Ext G W H (W.plus D) (upd H D u) where
  keep := fun q o h _ _ => upd_keep hD h
  there := fun q h => h.kept fun o e => upd_keep hD e
  grow := Nat.le_refl _
  back := fun _ _ _ h => h
  fresh := fun q h => .inl ((live_iff rfl).mp h)
  av := fun q h => by
    rcases h with h | h
    · exact .inl h
    · exact .inr (by rw [h]; exact .none hD)
  avm := fun q h => .inl h
  hc := rfl
theorem rel_plus {W : Wd} {st : Store} {b : Nat} {H : Hp} (R : Rel G W st b H) {D : Addr} {u : HO} (hD : H D = none) (hu : ∀ ps, u ≠ .tbl ps) : Rel G (W.plus D) st b (upd H D u) := by
  have x := ext_plus (G := G) (W := W) (u := u) hD
  have ndl : ∀ a, W.live a → a ≠ D := fun a l e => R.av_there (.inl (.inl l)) (by rw [e]; exact hD)
  refine ⟨R.len, R.inj, fun i c h => ?_, R.dead, R.spr.keeps ?_ ?_, R.nosp, fun a h => ?_, fun a l h => ?_, R.tabs.ext fun q o h => upd_keep hD h⟩
  · obtain ⟨a, h1, r⟩ := R.cell i c h
    exact ⟨a, h1, r.keeps x (upd_ne (ndl a ⟨i, h1⟩))⟩
  · exact upd_ne (by rintro e; exact R.av_there (.inl (.inr (.inl e.symm))) hD)
  · exact upd_ne (by rintro e; exact R.av_there (.inl (.inr (.inr e.symm))) hD)
  · rcases h with h | h
    · exact fun n => R.avt a h (x.there a n)
    · rw [h]; exact Nn.no upd_same hu
  · rcases h with h | h
    · exact R.avl a l h
    · exact ndl a l h
/-- what stands at D changes -/
theorem ext_at {W W' : Wd} {H H' : Hp} {D : Addr} {u : HO} (hD : H D = none) (x : Ext G W H W' H') : Ext G W H W' (upd H' D u) where
  keep := fun q o h nt n => by
    rw [upd_ne]
    · exact x.keep q o h nt n
    · rintro rfl; rw [hD] at h; cases h
  there := fun q h => by
    by_cases e : q = D
    · rw [e]; exact .none hD
    · refine x.there q fun o ho => h o ?_
      rw [upd_ne e]; exact ho
  grow := x.grow
  back := x.back
  fresh := x.fresh
  av := x.av
  avm := x.avm
  hc := x.hc
theorem extA_at {W W' : Wd} {H H' : Hp} {D : Addr} {u : HO} (hD : W.av D) (hu : ∀ ps, u ≠ .tbl ps) (x : ExtA G W H W' H') : ExtA G W H W' (upd H' D u) := ⟨fun q o h nt n => by
    rw [upd_ne]
    · exact x.keep q o h nt n
    · rintro rfl; exact n (.inr hD), fun q h => by
    by_cases e : q = D
    · rw [e] at h; exact absurd h (Nn.no upd_same hu)
    · exact x.there q fun o ho => h o (by rw [upd_ne e]; exact ho), x.fresh, x.av, x.grow, x.back, x.hc⟩
theorem extA_next {W W1 W2 : Wd} {H H1 H2 : Hp} (a : ExtA G W H W1 H1) (b : Ext G W1 H1 W2 H2) (hm : ∀ q o, H q = some o → (∀ ps, o ≠ .tbl ps) → ¬ Av G W q → ¬ Mv G W1 q) : ExtA G W H W2 H2 :=
  ⟨fun q o h nt n => b.keep q o (a.keep q o h nt n) nt (hm q o h nt n), fun q h => a.there q (b.there q h), fun q h => by
    rcases b.fresh q h with l | l
    · exact a.fresh q l
    · exact .inr (a.there q l), fun q h => by
    rcases b.av q h with l | l
    · exact a.av q l
    · exact .inr (a.there q l), Nat.le_trans a.grow b.grow, fun i c hi h => a.back i c hi (b.back i c (Nat.lt_of_lt_of_le hi a.grow) h), b.hc.trans a.hc⟩
theorem ExtA.trans {W W1 W2 : Wd} {H H1 H2 : Hp} (a : ExtA G W H W1 H1) (b : Ext G W1 H1 W2 H2) : ExtA G W H W2 H2 := extA_next a b fun q o h nt n m => by
  rcases m with m | m
  · rcases a.fresh q m with l | l
    · exact n (.inl (.inl l))
    · exact Nn.no h nt l
  · exact n (.inl (.inr m))
theorem ext0_at {W : Wd} {H : Hp} {D : Addr} {u : HO} (hD : W.av D) : Ext0 (Av G W) H (Av G W) (upd H D u) := ⟨fun q o h _ n => ⟨by
  rw [upd_ne]
  · exact h
  · rintro rfl; exact n (.inr hD), n⟩⟩
theorem tabs_at {T : List (Addr × Str)} {H : Hp} {D : Addr} {o u : HO} (t : Tabs T H) (hD : H D = some o) (h1 : ∀ ps, o ≠ .tbl ps) (h2 : ∀ c q, o ≠ CodeO c q) : Tabs T (upd H D u) := fun p hp => by
  obtain ⟨ps, k1, k2, k3⟩ := t p hp
  refine ⟨ps, ?_, k2, fun pos cv hc => ?_⟩
  · rw [upd_ne]
    · exact k1
    · rintro e; rw [e, hD] at k1; cases k1; exact h1 _ rfl
  · obtain ⟨c, e1, e2⟩ := k3 pos cv hc
    refine ⟨c, e1, ?_⟩
    rw [upd_ne]
    · exact e2
    · rintro e; rw [e, hD] at e2; cases e2; exact h2 _ _ rfl
theorem tabs_lst {T : List (Addr × Str)} {H : Hp} {D : Addr} {us : List V} {u : HO} (t : Tabs T H) (hD : H D = some (.lst us)) : Tabs T (upd H D u) := tabs_at t hD nofun fun c q => by unfold CodeO; exact nofun
theorem rel_at {W : Wd} {st : Store} {b : Nat} {H : Hp} {D : Addr} {u : HO} (R : Rel G W st b H) (hD : W.av D) (h1 : G.sp ≠ D) (h2 : G.sc ≠ D) (hu : ∀ ps, u ≠ .tbl ps) (ht : Tabs G.T (upd H D u)) : Rel G W st b (upd H D u) := by
  refine ⟨R.len, R.inj, fun i c h => ?_, R.dead, R.spr.keeps (upd_ne h1) (upd_ne h2), R.nosp, fun a h => ?_, R.avl, ht⟩
  · obtain ⟨a, k, r⟩ := R.cell i c h
    refine ⟨a, k, ?_⟩
    have e : upd H D u a = H a := upd_ne (by rintro rfl; exact R.avl _ ⟨i, k⟩ hD)
    have vl : ∀ {a : Vl} {v : V}, VlR G W H a v → VlR G W (upd H D u) a v := fun r => r.sub rfl (Nat.le_refl _) (fun _ _ _ h => h) (ext0_at hD)
    cases c with
    | lst xs => obtain ⟨vs, q, k⟩ := r; exact ⟨vs, e.trans q, Paired.mapP k fun _ _ => vl⟩
    | dct ks us => obtain ⟨vs, q, k1, k2⟩ := r; exact ⟨vs, e.trans q, k1, Paired.mapP k2 fun _ _ => vl⟩
    | ins c vs => exact r
  · by_cases e : a = D
    · rw [e]; exact Nn.no upd_same hu
    · exact fun n => R.avt a h fun o ho => n o (by rw [upd_ne e]; exact ho)
/-- leaving -/
theorem ext_drop {W W' : Wd} {H H' : Hp} {D : Addr} (x : Ext G W H W' H') (n : ¬ W.av D) : Ext G W H (W'.drop D) H' where
  keep := x.keep
  there := x.there
  grow := x.grow
  back := x.back
  fresh := x.fresh
  av := fun q h => x.av q h.1
  avm := fun q h => ⟨x.avm q h, by rintro rfl; exact n h⟩
  hc := x.hc
theorem ext0_drop {W : Wd} {D : Addr} {H : Hp} : Ext0 (Av G W) H (Av G (W.drop D)) H := ⟨fun q o h _ n => ⟨h, fun m => by
  rcases m with m | m
  · exact n (.inl ((mv_iff rfl).mp m))
  · exact n (.inr m.1)⟩⟩
theorem vlR_drop {W : Wd} {D : Addr} {H : Hp} {a : Vl} {v : V} (r : VlR G W H a v) : VlR G (W.drop D) H a v := VlR.sub (W := W) (W' := W.drop D) (H := H) (H' := H) rfl (Nat.le_refl _) (fun _ _ _ h => h) ext0_drop r
theorem rel_drop {W : Wd} {D : Addr} {st : Store} {b : Nat} {H : Hp} (R : Rel G W st b H) : Rel G (W.drop D) st b H where
  len := R.len
  inj := R.inj
  cell := fun i c h => by
    obtain ⟨a, h1, r⟩ := R.cell i c h
    refine ⟨a, h1, ?_⟩
    cases c with
    | lst xs => obtain ⟨vs, q, k⟩ := r; exact ⟨vs, q, Paired.mapP k fun _ _ => vlR_drop⟩
    | dct ks us => obtain ⟨vs, q, k1, k2⟩ := r; exact ⟨vs, q, k1, Paired.mapP k2 fun _ _ => vlR_drop⟩
    | ins c vs => exact r
  dead := R.dead
  spr := R.spr
  nosp := R.nosp
  avt := fun a h => R.avt a h.1
  avl := fun a l h => R.avl a l h.1
  tabs := R.tabs
/-- the list at D, kept away so far, becomes a mutable thing -/
theorem adopt {W W' : Wd} {H H' : Hp} {D : Addr} {c : Cell} {st : Store} {b : Nat} (hD : Nn H D) (x : Ext G W H W' H') (R : Rel G W' st b H') (hd : W'.av D) (n : ¬ W.av D) (h1 : G.sp ≠ D) (h2 : G.sc ≠ D)
    (r : ∀ W2, W2.hc = W'.hc → Ext0 (Av G W') H' (Av G W2) H' → W'.cells.length ≤ W2.cells.length → (∀ (i : Nat) a, i < W'.cells.length → W2.cells[i]? = some (some a) → W'.cells[i]? = some (some a)) → CellR G W2 H' D c) :
    Ext G W H ⟨W'.cells ++ [some D], (W'.drop D).av, W'.hc⟩ H' ∧ Rel G ⟨W'.cells ++ [some D], (W'.drop D).av, W'.hc⟩ (st ++ [some c]) b H' ∧ VlR G ⟨W'.cells ++ [some D], (W'.drop D).av, W'.hc⟩ H' (.ref st.length) (.ref D) := by
  have nl : ¬ W'.live D := fun l => R.avl D l hd
  have at_ : ∀ (i : Nat) a, (W'.cells ++ [some D])[i]? = some (some a) → W'.cells[i]? = some (some a) ∨ (i = W'.cells.length ∧ a = D) := fun i a h => by
    by_cases hi : i < W'.cells.length
    · rw [List.getElem?_append_left hi] at h; exact .inl h
    · rw [List.getElem?_append_right (by omega)] at h
      have : i - W'.cells.length = 0 := by
        cases z : i - W'.cells.length with
        | zero => rfl
        | succ n => rw [z] at h; simp at h
      rw [this] at h
      simp at h
      exact .inr ⟨by omega, h.symm⟩
  have hb : ∀ (i : Nat) a, i < W'.cells.length → (W'.cells ++ [some D])[i]? = some (some a) → W'.cells[i]? = some (some a) := fun i a hi h => by rwa [List.getElem?_append_left hi] at h
  have x0 : Ext0 (Av G W') H' (Av G ⟨W'.cells ++ [some D], (W'.drop D).av, W'.hc⟩) H' := ⟨fun q o h _ n => ⟨h, fun m => by
    rcases m with (⟨i, m⟩ | m) | m
    · rcases at_ i q m with m | ⟨_, e⟩
      · exact n (.inl (.inl ⟨i, m⟩))
      · rw [e] at n; exact n (.inr hd)
    · exact n (.inl (.inr m))
    · exact n (.inr m.1)⟩⟩
  have vl : ∀ {a : Vl} {v : V}, VlR G W' H' a v → VlR G ⟨W'.cells ++ [some D], (W'.drop D).av, W'.hc⟩ H' a v := fun r => VlR.sub (W := W') (W' := ⟨W'.cells ++ [some D], (W'.drop D).av, W'.hc⟩) rfl (by simp) hb x0 r
  refine ⟨⟨x.keep, x.there, by have := x.grow; simp at this ⊢; omega, fun i a hi h => ?_, fun q ⟨i, h⟩ => ?_, fun q h => x.av q h.1, fun q h => ⟨x.avm q h, by rintro rfl; exact n h⟩, x.hc⟩,
    ⟨by simp [R.len], fun i j a h1 h2 => ?_, fun i c h => ?_, fun i h => ?_, R.spr, ⟨fun ⟨i, h⟩ => ?_, fun ⟨i, h⟩ => ?_⟩, fun a h => R.avt a h.1, fun a ⟨i, l⟩ h => ?_, R.tabs⟩, ?_⟩
  · exact x.back i a hi (hb i a (Nat.lt_of_lt_of_le hi x.grow) h)
  · rcases at_ i q h with h | ⟨_, e⟩
    · exact x.fresh q ⟨i, h⟩
    · rw [e]; exact .inr hD
  · rcases at_ i a h1 with k1 | ⟨k1, e1⟩ <;> rcases at_ j a h2 with k2 | ⟨k2, e2⟩
    · exact R.inj i j a k1 k2
    · subst e2; exact absurd ⟨i, k1⟩ nl
    · subst e1; exact absurd ⟨j, k2⟩ nl
    · omega
  · by_cases hi : i < st.length
    · rw [List.getElem?_append_left hi] at h
      obtain ⟨a, h1, r'⟩ := R.cell i c h
      refine ⟨a, by rw [List.getElem?_append_left (by rw [R.len]; exact hi)]; exact h1, ?_⟩
      cases c with
      | lst xs => obtain ⟨vs, q, k⟩ := r'; exact ⟨vs, q, Paired.mapP k fun _ _ => vl⟩
      | dct ks us => obtain ⟨vs, q, k1, k2⟩ := r'; exact ⟨vs, q, k1, Paired.mapP k2 fun _ _ => vl⟩
      | ins c vs => exact r'
    · rw [List.getElem?_append_right (by omega)] at h
      have z : i - st.length = 0 := by
        cases z : i - st.length with
        | zero => rfl
        | succ n => rw [z] at h; simp at h
      rw [z] at h
      simp at h
      subst h
      have e : i = W'.cells.length := by rw [R.len]; omega
      exact ⟨D, by rw [e]; simp, r _ rfl x0 (by simp) hb⟩
  · by_cases hi : i < st.length
    · rw [List.getElem?_append_left hi] at h
      rw [List.getElem?_append_left (by rw [R.len]; exact hi)]
      exact R.dead i h
    · rw [List.getElem?_append_right (by omega)] at h
      cases z : i - st.length with
      | zero => rw [z] at h; simp at h
      | succ n => rw [z] at h; simp at h
  · rcases at_ i _ h with h | ⟨_, e⟩
    · exact R.nosp.1 ⟨i, h⟩
    · exact h1 e
  · rcases at_ i _ h with h | ⟨_, e⟩
    · exact R.nosp.2 ⟨i, h⟩
    · exact h2 e
  · rcases at_ i a l with l | ⟨_, e⟩
    · exact R.avl a ⟨i, l⟩ h.1
    · exact h.2 e
  · refine ⟨by simp [R.len], fun a h => ?_⟩
    rcases at_ _ a h with h | ⟨_, e⟩
    · have := (List.getElem?_eq_some_iff.mp h).1
      rw [R.len] at this; omega
    · rw [e]
/-! ### the loop -/
def noX : Nat → List D → Store → Nat → Prop := fun _ _ _ _ => False
def Wn : WX := fun _ _ _ _ => False
theorem compL_cons {f : Vl → Store → E (Option Vl)} {x : Vl} {xs acc : List Vl} {s : Store} {b : Nat} {K : List Vl → Store → Nat → Prop} {Kx : Nat → List D → Store → Nat → Prop} (h : EG K Kx (compL f (x :: xs) acc s) b) :
    EG (fun o s' b' => match o with
      | some v => acc.length < 1000000 ∧ EG K Kx (compL f xs (acc ++ [v]) s') b'
      | none => EG K Kx (compL f xs acc s') b') noX (f x s) b := by
  unfold compL at h
  unfold EG at h ⊢
  rw [good_bind] at h
  refine good_mono (fun o b q => ?_) h
  cases o with
  | x c fs s' => exact q.elim
  | v o s' =>
    cases o with
    | none => exact q
    | some v =>
      dsimp only at q
      split at q
      · rename_i hl; exact ⟨hl, q⟩
      · exact q.elim
theorem noX_KX {W : Wd} {H : Hp} {σ : L2.St} {K : Vl → Store → Nat → Prop} {r : E Vl} {b : Nat} (h : EG K noX r b) : EG K (KX cs G Wn W H σ) r b := h.mono (fun _ _ _ q => q) fun _ _ _ _ q => q.elim
/-- what a comprehension's turns keep -/
def LcInv (G : Gd) (f : Vl → Store → E (Option Vl)) (W : Wd) (H : Hp) (p : Addr) (K : List Vl → Store → Nat → Prop) (Kx : Nat → List D → Store → Nat → Prop) (vs : List Vl) (H' : Hp) : Prop :=
  ∃ W' s b acc us, Ext G W H W' H' ∧ W'.av p ∧ Rel G W' s b H' ∧ H' p = some (.lst us) ∧ VlRs G W' H' acc us ∧ EG K Kx (compL f vs acc s) b
def lcF (re rc : Env → Store → E Vl) (t : Tg) (own : List Nat) (e : Env) : Vl → Store → E (Option Vl) := fun v st => match setTg t v (wipeE e own) with
  | some e' => bnd (rc e' st) fun t st => match truth t with
    | some true => bnd (re e' st) fun y st => ret (some y) st
    | some false => ret none st
    | none => .err
  | none => .err
def lcE (ri rc re : Env → Store → E Vl) (m : Bool) (t : Tg) (own : List Nat) : Env → Store → E Vl := fun e st => bnd (ri e st) fun w st => match itsOf w with
  | none => .err
  | some vs => bnd (compL (lcF re rc t own e) vs [] st) fun ys st =>
    if m then ret (.ref st.length) (st ++ [some (.lst ys)]) else lift ((dats ys).map fun l => .d (.lst l)) st
theorem lc_read {ri rc re : Env → Store → E Vl} {m : Bool} {t : Tg} {own : List Nat} (hown : tgIn t own = true) {σ : L2.St} {H : Hp} {Q : VK} (h : tE cs G Wx (lcE ri rc re m t own) σ H Q) :
    tLc (tI cs G Wx ri) (tG G t) (tT cs G Wn rc) (tE cs G Wn re) own σ H Q := by
  obtain ⟨W, e, st, b, R, V, g⟩ := h
  unfold lcE at g
  rw [EG_bnd] at g
  refine ⟨W, e, st, b, R, V, g.mono (fun a s b g => ?_) fun _ _ _ _ q => q⟩
  cases ev : itsOf a with
  | none => rw [ev] at g; exact g.elim
  | some vs =>
    rw [ev] at g
    refine ⟨vs, ev, fun W1 H1 J x1 R1 J1 D hD => ?_⟩
    have V1 := V.ext x1
    have nsp : G.sp ≠ D := fun e => R1.av_there (.inl (.inr (.inl rfl))) (by rw [e]; exact hD)
    have nsc : G.sc ≠ D := fun e => R1.av_there (.inl (.inr (.inr rfl))) (by rw [e]; exact hD)
    have nav : ¬ W1.av D := fun h => R1.avt D h (.none hD)
    have g' : EG (fun ys s b => EG (KV' G W H Q) (KX cs G Wx W H σ) (if m then ret (.ref s.length) (s ++ [some (.lst ys)]) else lift ((dats ys).map fun l => .d (.lst l)) s) b) (KX cs G Wx W H σ) (compL (lcF re rc t own e) vs [] s) b := EG_bnd.mp g
    generalize hK : (fun (ys : List Vl) s b => EG (KV' G W H Q) (KX cs G Wx W H σ) (if m then ret (.ref s.length) (s ++ [some (.lst ys)]) else lift ((dats ys).map fun l => .d (.lst l)) s) b) = K at g'
    refine ⟨fun i n H' => n = vs.length - i ∧ i ≤ vs.length ∧ LcInv G (lcF re rc t own e) W1 H1 D K (KX cs G Wx W H σ) (vs.drop i) H', ⟨_, rfl, Nat.zero_le _, W1.plus D, s, b, [], [], ext_plus hD, .inr rfl, rel_plus R1 hD nofun, upd_same, .nil, g'⟩, ?_⟩
    rintro i n H' ⟨rfl, hi, W', s', b', acc, us, x', hav, R', hl, ra, g2⟩
    by_cases hlt : i < vs.length
    · refine .inr ?_
      obtain ⟨a, ea⟩ : ∃ a, vs[i]? = some a := ⟨vs[i], List.getElem?_eq_getElem hlt⟩
      obtain ⟨go, yl⟩ := J1.go W' H' i a s' b' x'.toA R' ea
      have ed : vs.drop i = a :: vs.drop (i + 1) := by
        rw [List.drop_eq_getElem_cons hlt]
        rw [List.getElem?_eq_getElem hlt] at ea
        cases ea; rfl
      rw [ed] at g2
      have g3 := compL_cons g2
      refine ⟨go, LcInv G (lcF re rc t own e) W1 H1 D K (KX cs G Wx W H σ) (vs.drop (i + 1)), fun H2 q => ⟨_, ?_, rfl, hlt, q⟩, fun x H3 y => ?_⟩
      · omega
      · obtain ⟨kp, rx⟩ := yl x H3 y
        have x3 := x'.trans (pure_ext (G := G) (W := W') kp)
        have R3 := pure_rel R' kp
        unfold lcF at g3
        cases es : setTg t a (wipeE e own) with
        | none => rw [es] at g3; exact g3.elim
        | some e' =>
          rw [es] at g3
          refine ⟨W', wipeE e own, a, e', (V1.ext x3).wipe own, rx, es, fun σ2 V2 hw => ⟨by rw [hw own hown, wipe_wipe], ?_⟩⟩
          have g4 := noX_KX (cs := cs) (G := G) (W := W') (H := H3) (σ := σ2) (EG_bnd.mp g3)
          refine ⟨W', e', s', b', R3, V2, g4.mono (fun tv s4 b4 g5 => ?_) fun _ _ _ _ q => q⟩
          cases et : truth tv with
          | none => rw [et] at g5; exact g5.elim
          | some tb =>
            rw [et] at g5
            refine ⟨tb, et, fun W4 H4 x4 R4 => ?_⟩
            have x14 := x3.trans x4
            have kpD : ∀ {W5 H5}, Ext G W' H3 W5 H5 → H5 D = some (.lst us) := fun x5 => x5.keep D _ (kp D _ hl) nofun fun mv => by
              rcases mv with mv | mv | mv
              · exact R'.avl D mv hav
              · exact nsp mv.symm
              · exact nsc mv.symm
            cases tb with
            | false =>
              simp only [Bool.false_eq_true, if_false]
              exact ⟨W4, s4, b4, acc, us, x14, x4.avm D hav, R4, kpD x4, Paired.mapP ra fun _ _ q => (q.ext (pure_ext kp)).ext x4, g5⟩
            | true =>
              simp only [if_true]
              have g6 := noX_KX (cs := cs) (G := G) (W := W4) (H := H4) (σ := σ2) (EG_bnd.mp g5)
              refine ⟨W4, e', s4, b4, R4, V2.ext x4, g6.mono (fun yv s5 b5 g7 => ?_) fun _ _ _ _ q => q⟩
              intro W5 H5 v x5 R5 r5
              obtain ⟨hlen, g7⟩ := g7
              have x35 := x4.trans x5
              have hl5 := kpD x35
              have av5 := x35.avm D hav
              have ra5 : VlRs G W5 H5 acc us := Paired.mapP ra fun _ _ q => (q.ext (pure_ext kp)).ext x35
              refine ⟨us, hl5, by rw [← paired_len ra]; exact Nat.lt_of_lt_of_le hlen million, W5, s5, b5, acc ++ [yv], us ++ [v], ext_at hD (x14.trans x5), av5, rel_at R5 av5 nsp nsc nofun (tabs_lst R5.tabs hl5), upd_same, ?_, g7⟩
              exact paired_snoc (r5.sub rfl (Nat.le_refl _) (fun _ _ _ h => h) (ext0_at av5)) (Paired.mapP ra5 fun _ _ q => q.sub rfl (Nat.le_refl _) (fun _ _ _ h => h) (ext0_at av5))
    · have e : i = vs.length := by omega
      subst e
      refine .inl ⟨J1.stop W' H' x'.toA, ?_⟩
      rw [List.drop_length] at g2
      have g3 : K acc s' b' := g2
      subst hK
      cases m with
      | true =>
        obtain ⟨y1, y2, y3⟩ := adopt (c := .lst acc) (.none hD) x' R' hav nav nsp nsc fun W2 eh x0 hc hb => ⟨us, hl, Paired.mapP ra fun _ _ q => q.sub eh hc hb x0⟩
        exact g3 _ H' _ (x1.trans y1) y2 y3
      | false =>
        have g3 := EG_lift.mp g3
        obtain ⟨o, eo, q⟩ := g3
        obtain ⟨ds, ed, rfl⟩ := Option.map_eq_some_iff.mp eo
        have ea := dats_mem ed
        subst ea
        refine q (W'.drop D) H' _ (x1.trans (ext_drop x' nav)) (rel_drop R') ?_
        have rr := VlRs_d ra
        unfold VlR VR
        refine ⟨D, us, rfl, hl, fun av => ?_, VRs.ext0 ext0_drop rr⟩
        rcases av with (av | av | av) | av
        · exact R'.avl D ((live_iff rfl).mp av) hav
        · exact nsp av.symm
        · exact nsc av.symm
        · exact av.2 rfl
theorem pe_lcE {elt tg iter : Expr} {ifs : List Expr} {scope : Scope} {own : List (Str × Nat)} {pos : Pos} {ri rc re run : Env → Store → E Vl} {m : Bool} {t : Tg} (hc : X.calm = true) (hN : X.N.Nodup) (hi : PI X tg iter (tI cs G Wx ri)) (ok : BlkOk X.N X.env.scope scope own)
    (hg : ∀ (s : Shared) (H : Hp) (C : Addr) (cl : List (Str × Addr)) (fp : List Addr), PG (X.blk s H scope (compEnvC scope cl C X.env) fp) tg (tG G t)) (ht : ∀ (s : Shared) (H : Hp) (C : Addr) (cl : List (Str × Addr)) (fp : List Addr), PTs (X.blk s H scope (compEnvC scope cl C X.env) fp) ifs (tT cs G Wn rc))
    (he : ∀ (s : Shared) (H : Hp) (C : Addr) (cl : List (Str × Addr)) (fp : List Addr), PE (X.blk s H scope (compEnvC scope cl C X.env) fp) elt (tE cs G Wn re)) (hs : ∀ x, foldedSetIterable iter X.env x = pure x)
    (hown : tgIn t (own.map (·.2)) = true) (hr : ∀ e st, run e st = lcE ri rc re m t (own.map (·.2)) e st) : PE X (.ListComp elt [⟨tg, iter, ifs, 0⟩] scope pos) (tE cs G Wx run) := by
  have er : run = lcE ri rc re m t (own.map (·.2)) := funext fun e => funext fun st => hr e st
  subst er
  exact PE.imp (pe_lc hc hN hi ok hg ht he hs) fun σ H Q h => lc_read hown h
end
end EV

end
section
set_option Elab.async false
set_option linter.all false
set_option maxRecDepth 100000
set_option maxHeartbeats 4000000
/-! EV 12b: list comprehensions with two sources. -/
namespace EV
open PySem PySem.Spec PyProof.Rows L2
open LamX (Tabs TabS CodeO)
section
variable {cs : List ErrC} {G : Gd} {Wx : WX} {X : Cx}
theorem EnvR.extA {W W' : Wd} {H H' : Hp} (x : ExtA G W H W' H') {e : Env} {σ : L2.St} (h : EnvR G W H e σ) : EnvR G W' H' e σ :=
  ⟨h.len, fun i a q => let ⟨v, h1, h2⟩ := h.get0 i a q; ⟨v, h1, h2.sub x.hc x.grow x.back x.ext0⟩⟩
theorem outL_cons {g : Vl → List Vl → Store → E (List Vl)} {x : Vl} {xs acc : List Vl} {s : Store} {b : Nat} {K : List Vl → Store → Nat → Prop} {Kx : Nat → List D → Store → Nat → Prop} (h : EG K Kx (outL g (x :: xs) acc s) b) :
    EG (fun acc s b => EG K Kx (outL g xs acc s) b) noX (g x acc s) b := by
  unfold outL at h
  unfold EG at h ⊢
  rw [good_bind] at h
  refine good_mono (fun o b q => ?_) h
  cases o with
  | x c fs s' => exact q.elim
  | v acc s' => exact q
def lc2G (rc ri1 rc1 re : Env → Store → E Vl) (t : Tg) (own : List Nat) (t1 : Tg) (own1 : List Nat) (e : Env) : Vl → List Vl → Store → E (List Vl) := fun v acc st => match setTg t v (wipeE e own) with
  | none => .err
  | some e2 => bnd (rc e2 st) fun tv st => match truth tv with
    | none => .err
    | some false => ret acc st
    | some true => bnd (ri1 e2 st) fun w1 st => match itsOf w1 with
      | none => .err
      | some vs1 => compL (lcF re rc1 t1 own1 e2) vs1 acc st
def lc2E (ri rc ri1 rc1 re : Env → Store → E Vl) (m : Bool) (t : Tg) (own : List Nat) (t1 : Tg) (own1 : List Nat) : Env → Store → E Vl := fun e st => bnd (ri e st) fun w st => match itsOf w with
  | none => .err
  | some vs => bnd (outL (lc2G rc ri1 rc1 re t own t1 own1 e) vs [] st) fun ys st =>
    if m then ret (.ref st.length) (st ++ [some (.lst ys)]) else lift ((dats ys).map fun l => .d (.lst l)) st
/-- what the outer turns keep -/
def OutInv (G : Gd) (g : Vl → List Vl → Store → E (List Vl)) (W : Wd) (H : Hp) (p : Addr) (K : List Vl → Store → Nat → Prop) (Kx : Nat → List D → Store → Nat → Prop) (vs : List Vl) (H' : Hp) : Prop :=
  ∃ W' s b acc us, Ext G W H W' H' ∧ W'.av p ∧ Rel G W' s b H' ∧ H' p = some (.lst us) ∧ VlRs G W' H' acc us ∧ EG K Kx (outL g vs acc s) b
theorem lc2_read {ri rc ri1 rc1 re : Env → Store → E Vl} {m : Bool} {t t1 : Tg} {own own1 : List Nat} (hown : tgIn t own = true) (hown1 : tgIn t1 own1 = true) {σ : L2.St} {H : Hp} {Q : VK} (h : tE cs G Wx (lc2E ri rc ri1 rc1 re m t own t1 own1) σ H Q) :
    tLc2 (tI cs G Wx ri) (tG G t) (tT cs G Wn rc) (tI cs G Wn ri1) (tG G t1) (tT cs G Wn rc1) (tE cs G Wn re) own own1 σ H Q := by
  obtain ⟨W, e, st, b, R, V, g⟩ := h
  unfold lc2E at g
  rw [EG_bnd] at g
  refine ⟨W, e, st, b, R, V, g.mono (fun a s b g => ?_) fun _ _ _ _ q => q⟩
  cases ev : itsOf a with
  | none => rw [ev] at g; exact g.elim
  | some vs =>
    rw [ev] at g
    refine ⟨vs, ev, fun W1 H1 J x1 R1 J1 D hD => ?_⟩
    have V1 := V.ext x1
    have nsp : G.sp ≠ D := fun e => R1.av_there (.inl (.inr (.inl rfl))) (by rw [e]; exact hD)
    have nsc : G.sc ≠ D := fun e => R1.av_there (.inl (.inr (.inr rfl))) (by rw [e]; exact hD)
    have nav : ¬ W1.av D := fun h => R1.avt D h (.none hD)
    have g' : EG (fun ys s b => EG (KV' G W H Q) (KX cs G Wx W H σ) (if m then ret (.ref s.length) (s ++ [some (.lst ys)]) else lift ((dats ys).map fun l => .d (.lst l)) s) b) (KX cs G Wx W H σ) (outL (lc2G rc ri1 rc1 re t own t1 own1 e) vs [] s) b := EG_bnd.mp g
    generalize hK : (fun (ys : List Vl) s b => EG (KV' G W H Q) (KX cs G Wx W H σ) (if m then ret (.ref s.length) (s ++ [some (.lst ys)]) else lift ((dats ys).map fun l => .d (.lst l)) s) b) = K at g'
    have kpD : ∀ {W' s' b' H' us}, Rel G W' s' b' H' → W'.av D → H' D = some (.lst us) → ∀ {W5 H5}, Ext G W' H' W5 H5 → H5 D = some (.lst us) := fun {W' s' b' H' us} R' hav hl {W5 H5} x5 => x5.keep D _ hl nofun fun mv => by
      rcases mv with mv | mv | mv
      · exact R'.avl D mv hav
      · exact nsp mv.symm
      · exact nsc mv.symm
    refine ⟨fun i n H' => n = vs.length - i ∧ i ≤ vs.length ∧ OutInv G (lc2G rc ri1 rc1 re t own t1 own1 e) W1 H1 D K (KX cs G Wx W H σ) (vs.drop i) H', ⟨_, rfl, Nat.zero_le _, W1.plus D, s, b, [], [], ext_plus hD, .inr rfl, rel_plus R1 hD nofun, upd_same, .nil, g'⟩, ?_⟩
    rintro i n H' ⟨rfl, hi, W', s', b', acc, us, x', hav, R', hl, ra, g2⟩
    by_cases hlt : i < vs.length
    · refine .inr ?_
      obtain ⟨a, ea⟩ : ∃ a, vs[i]? = some a := ⟨vs[i], List.getElem?_eq_getElem hlt⟩
      obtain ⟨go, yl⟩ := J1.go W' H' i a s' b' x'.toA R' ea
      have ed : vs.drop i = a :: vs.drop (i + 1) := by
        rw [List.drop_eq_getElem_cons hlt]
        rw [List.getElem?_eq_getElem hlt] at ea
        cases ea; rfl
      rw [ed] at g2
      have g3 := outL_cons g2
      generalize hK1 : (fun acc s b => EG K (KX cs G Wx W H σ) (outL (lc2G rc ri1 rc1 re t own t1 own1 e) (vs.drop (i + 1)) acc s) b) = K1 at g3
      refine ⟨go, OutInv G (lc2G rc ri1 rc1 re t own t1 own1 e) W1 H1 D K (KX cs G Wx W H σ) (vs.drop (i + 1)), fun H2 q => ⟨_, ?_, rfl, hlt, q⟩, fun x H3 y => ?_⟩
      · omega
      · obtain ⟨kp, rx⟩ := yl x H3 y
        have x3 := x'.trans (pure_ext (G := G) (W := W') kp)
        have R3 := pure_rel R' kp
        have hl3 := kp D _ hl
        have ra3 : VlRs G W' H3 acc us := Paired.mapP ra fun _ _ q => q.ext (pure_ext kp)
        unfold lc2G at g3
        cases es : setTg t a (wipeE e own) with
        | none => rw [es] at g3; exact g3.elim
        | some e2 =>
          rw [es] at g3
          refine ⟨W', wipeE e own, a, e2, (V1.ext x3).wipe own, rx, es, fun σ2 V2 hw => ⟨by rw [hw own hown, wipe_wipe], ?_⟩⟩
          have g4 := noX_KX (cs := cs) (G := G) (W := W') (H := H3) (σ := σ2) (EG_bnd.mp g3)
          refine ⟨W', e2, s', b', R3, V2, g4.mono (fun tv s4 b4 g5 => ?_) fun _ _ _ _ q => q⟩
          cases et : truth tv with
          | none => rw [et] at g5; exact g5.elim
          | some tb =>
            rw [et] at g5
            refine ⟨tb, et, fun W4 H4 x4 R4 => ?_⟩
            have x14 := x3.trans x4
            have hl4 := kpD R3 hav hl3 x4
            have ra4 : VlRs G W4 H4 acc us := Paired.mapP ra3 fun _ _ q => q.ext x4
            cases tb with
            | false =>
              simp only [Bool.false_eq_true, if_false]
              have g5' : K1 acc s4 b4 := g5
              rw [← hK1] at g5'
              exact ⟨W4, s4, b4, acc, us, x14, x4.avm D hav, R4, hl4, ra4, g5'⟩
            | true =>
              simp only [if_true]
              dsimp only at g5
              have g6 := noX_KX (cs := cs) (G := G) (W := W4) (H := H4) (σ := σ2) (EG_bnd.mp g5)
              refine ⟨W4, e2, s4, b4, R4, V2.ext x4, g6.mono (fun wv s5 b5 g7 => ?_) fun _ _ _ _ q => q⟩
              cases ew : itsOf wv with
              | none => rw [ew] at g7; exact g7.elim
              | some vs1 =>
                rw [ew] at g7
                dsimp only at g7
                refine ⟨vs1, ew, fun W5 H5 J5 x5 R5 K5 => ?_⟩
                have V5 := (V2.ext x4).ext x5
                refine ⟨fun j k H' => k = vs1.length - j ∧ j ≤ vs1.length ∧ ∃ W' s b acc us, ExtA G W5 H5 W' H' ∧ Ext G W1 H1 W' H' ∧ W'.av D ∧ Rel G W' s b H' ∧ H' D = some (.lst us) ∧ VlRs G W' H' acc us ∧ EG K1 noX (compL (lcF re rc1 t1 own1 e2) (vs1.drop j) acc s) b,
                  ⟨_, rfl, Nat.zero_le _, W5, s5, b5, acc, us, Ext.refl.toA, x14.trans x5, x5.avm D (x4.avm D hav), R5, kpD R4 (x4.avm D hav) hl4 x5, Paired.mapP ra4 fun _ _ q => q.ext x5, g7⟩, ?_⟩
                rintro j k H6 ⟨rfl, hj, W6, s6, b6, acc6, us6, x56, x16, av6, R6, hl6, ra6, g8⟩
                by_cases hlt1 : j < vs1.length
                · refine .inr ?_
                  obtain ⟨a1, ea1⟩ : ∃ a, vs1[j]? = some a := ⟨vs1[j], List.getElem?_eq_getElem hlt1⟩
                  obtain ⟨go1, yl1⟩ := K5.go W6 H6 j a1 s6 b6 x56 R6 ea1
                  have ed1 : vs1.drop j = a1 :: vs1.drop (j + 1) := by
                    rw [List.drop_eq_getElem_cons hlt1]
                    rw [List.getElem?_eq_getElem hlt1] at ea1
                    cases ea1; rfl
                  rw [ed1] at g8
                  have h3 := compL_cons g8
                  refine ⟨go1, fun H' => j + 1 ≤ vs1.length ∧ ∃ W' s b acc us, ExtA G W5 H5 W' H' ∧ Ext G W1 H1 W' H' ∧ W'.av D ∧ Rel G W' s b H' ∧ H' D = some (.lst us) ∧ VlRs G W' H' acc us ∧ EG K1 noX (compL (lcF re rc1 t1 own1 e2) (vs1.drop (j + 1)) acc s) b, fun H2 q => ⟨_, ?_, rfl, q⟩, fun x H7 y => ?_⟩
                  · have := q.1; omega
                  · obtain ⟨kp7, rx7⟩ := yl1 x H7 y
                    have p7 := pure_ext (G := G) (W := W6) kp7
                    have R7 := pure_rel R6 kp7
                    have hl7 := kp7 D _ hl6
                    have ra7 : VlRs G W6 H7 acc6 us6 := Paired.mapP ra6 fun _ _ q => q.ext p7
                    unfold lcF at h3
                    cases es1 : setTg t1 a1 (wipeE e2 own1) with
                    | none => rw [es1] at h3; exact h3.elim
                    | some e3 =>
                      rw [es1] at h3
                      refine ⟨W6, wipeE e2 own1, a1, e3, ((EnvR.extA x56 V5).ext p7).wipe own1, rx7, es1, fun σ3 V3 hw3 => ⟨by rw [hw3 own1 hown1, wipe_wipe], ?_⟩⟩
                      have h4 := noX_KX (cs := cs) (G := G) (W := W6) (H := H7) (σ := σ3) (EG_bnd.mp h3)
                      refine ⟨W6, e3, s6, b6, R7, V3, h4.mono (fun tv1 s8 b8 h5 => ?_) fun _ _ _ _ q => q⟩
                      cases et1 : truth tv1 with
                      | none => rw [et1] at h5; exact h5.elim
                      | some tb1 =>
                        rw [et1] at h5
                        refine ⟨tb1, et1, fun W8 H8 x8 R8 => ?_⟩
                        cases tb1 with
                        | false =>
                          simp only [Bool.false_eq_true, if_false]
                          exact ⟨hlt1, W8, s8, b8, acc6, us6, (x56.trans p7).trans x8, (x16.trans p7).trans x8, x8.avm D av6, R8, kpD R7 av6 hl7 x8, Paired.mapP ra7 fun _ _ q => q.ext x8, h5⟩
                        | true =>
                          simp only [if_true]
                          have h6 := noX_KX (cs := cs) (G := G) (W := W8) (H := H8) (σ := σ3) (EG_bnd.mp h5)
                          refine ⟨W8, e3, s8, b8, R8, V3.ext x8, h6.mono (fun yv s9 b9 h7 => ?_) fun _ _ _ _ q => q⟩
                          intro W9 H9 v9 x9 R9 r9
                          obtain ⟨hlen, h7⟩ := h7
                          have x79 := x8.trans x9
                          have hl9 := kpD R7 av6 hl7 x79
                          have av9 := x79.avm D av6
                          have ra9 : VlRs G W9 H9 acc6 us6 := Paired.mapP ra7 fun _ _ q => q.ext x79
                          refine ⟨us6, hl9, by rw [← paired_len ra6]; exact Nat.lt_of_lt_of_le hlen million, hlt1, W9, s9, b9, acc6 ++ [yv], us6 ++ [v9], ?_, ext_at hD ((x16.trans p7).trans x79), av9, rel_at R9 av9 nsp nsc nofun (tabs_lst R9.tabs hl9), upd_same, ?_, h7⟩
                          · exact extA_at (x5.avm D (x4.avm D hav)) nofun ((x56.trans p7).trans x79)
                          · exact paired_snoc (r9.sub rfl (Nat.le_refl _) (fun _ _ _ h => h) (ext0_at av9)) (Paired.mapP ra9 fun _ _ q => q.sub rfl (Nat.le_refl _) (fun _ _ _ h => h) (ext0_at av9))
                · have e0 : j = vs1.length := by omega
                  subst e0
                  refine .inl ⟨K5.stop W6 H6 x56, ?_⟩
                  rw [List.drop_length] at g8
                  have g9 : K1 acc6 s6 b6 := g8
                  rw [← hK1] at g9
                  exact ⟨W6, s6, b6, acc6, us6, x16, av6, R6, hl6, ra6, g9⟩
    · have e : i = vs.length := by omega
      subst e
      refine .inl ⟨J1.stop W' H' x'.toA, ?_⟩
      rw [List.drop_length] at g2
      have g3 : K acc s' b' := g2
      subst hK
      cases m with
      | true =>
        obtain ⟨y1, y2, y3⟩ := adopt (c := .lst acc) (.none hD) x' R' hav nav nsp nsc fun W2 eh x0 hc hb => ⟨us, hl, Paired.mapP ra fun _ _ q => q.sub eh hc hb x0⟩
        exact g3 _ H' _ (x1.trans y1) y2 y3
      | false =>
        have g3 := EG_lift.mp g3
        obtain ⟨o, eo, q⟩ := g3
        obtain ⟨ds, ed, rfl⟩ := Option.map_eq_some_iff.mp eo
        have ea := dats_mem ed
        subst ea
        refine q (W'.drop D) H' _ (x1.trans (ext_drop x' nav)) (rel_drop R') ?_
        have rr := VlRs_d ra
        unfold VlR VR
        refine ⟨D, us, rfl, hl, fun av => ?_, VRs.ext0 ext0_drop rr⟩
        rcases av with (av | av | av) | av
        · exact R'.avl D ((live_iff rfl).mp av) hav
        · exact nsp av.symm
        · exact nsc av.symm
        · exact av.2 rfl
theorem pe_lc2E {elt tg iter tg1 iter1 : Expr} {ifs ifs1 : List Expr} {scope : Scope} {own : List (Str × Nat)} {own1 : List Nat} {pos : Pos} {ri rc ri1 rc1 re run : Env → Store → E Vl} {m : Bool} {t t1 : Tg} (hc : X.calm = true) (hN : X.N.Nodup) (hi : PI X tg iter (tI cs G Wx ri)) (ok : BlkOk X.N X.env.scope scope own) (hv : ∀ i ∈ own1, i ∈ own.map (·.2))
    (hg : ∀ (s : Shared) (H : Hp) (C : Addr) (cl : List (Str × Addr)) (fp : List Addr), PG (X.blk s H scope (compEnvC scope cl C X.env) fp) tg (tG G t)) (ht : ∀ (s : Shared) (H : Hp) (C : Addr) (cl : List (Str × Addr)) (fp : List Addr), PTs (X.blk s H scope (compEnvC scope cl C X.env) fp) ifs (tT cs G Wn rc))
    (hi1 : ∀ (s : Shared) (H : Hp) (C : Addr) (cl : List (Str × Addr)) (fp : List Addr), PI (X.blk s H scope (compEnvC scope cl C X.env) fp) tg1 iter1 (tI cs G Wn ri1))
    (hg1 : ∀ (s : Shared) (H : Hp) (C : Addr) (cl : List (Str × Addr)) (fp : List Addr), PG (X.blk s H scope (compEnvC scope cl C X.env) fp) tg1 (tG G t1)) (ht1 : ∀ (s : Shared) (H : Hp) (C : Addr) (cl : List (Str × Addr)) (fp : List Addr), PTs (X.blk s H scope (compEnvC scope cl C X.env) fp) ifs1 (tT cs G Wn rc1))
    (he : ∀ (s : Shared) (H : Hp) (C : Addr) (cl : List (Str × Addr)) (fp : List Addr), PE (X.blk s H scope (compEnvC scope cl C X.env) fp) elt (tE cs G Wn re)) (hs : ∀ x, foldedSetIterable iter X.env x = pure x) (hs1 : ∀ env x, foldedSetIterable iter1 env x = pure x)
    (hown : tgIn t (own.map (·.2)) = true) (hown1 : tgIn t1 own1 = true) (hr : ∀ e st, run e st = lc2E ri rc ri1 rc1 re m t (own.map (·.2)) t1 own1 e st) : PE X (.ListComp elt [⟨tg, iter, ifs, 0⟩, ⟨tg1, iter1, ifs1, 0⟩] scope pos) (tE cs G Wx run) := by
  have er : run = lc2E ri rc ri1 rc1 re m t (own.map (·.2)) t1 own1 := funext fun e => funext fun st => hr e st
  subst er
  exact PE.imp (pe_lc2 hc hN hi ok hv hg ht hi1 hg1 ht1 he hs hs1) fun σ H Q h => lc2_read hown hown1 h
end
end EV

end
section
set_option Elab.async false
set_option linter.all false
set_option maxRecDepth 100000
set_option maxHeartbeats 4000000
/-! EV 13: enumerate over a tuple. -/
namespace EV
open PySem PySem.Spec PyProof.Rows L2

theorem meets_enumerate_newB1 {v : Value} {o : Obj} {H : Heap → Prop} (B : Begins v o H) :
    Meets (Builtin.«enumerate.__new__» ⟨[.type "enumerate", v], []⟩) (fun _ R s => H s.heap ∧
      R (.ok (.ret (.ref (s.heap.push o).objs.size))) { s with heap := (s.heap.push o).push { cls := .type "enumerate", data := .fields #[.none, .bool false, .ref s.heap.objs.size, rawInt 0, .none, .none] } }) :=
  .of_wp fun prog w A R s h => by
    obtain ⟨hp, g, d, tk, os⟩ := s; obtain ⟨h1, h⟩ := h
    have hsub := sub_enumerate
    have q1 : ∀ {A' : Around} {E : Value → Shared → Prop} {Q : Value → Shared → Prop}, Q (.ref hp.objs.size) ⟨hp.push o, g, d, tk, os⟩ → wpAny (model prog w) A' (pyIter v) Q E ⟨hp, g, d, tk, os⟩ :=
      fun q => B.iter prog w _ _ ⟨hp, g, d, tk, os⟩ _ h1 q
    wp_walk using q1
    refine wpAny_stack_any fun st => wpAny_pure ?_
    split
    · rename_i c _ _ _ _ _
      cases (c == Value.type "enumerate")
      · wp_walk using q1
        exact ⟨_, rfl, h⟩
      · wp_walk using q1
        exact ⟨_, rfl, h⟩
    · wp_walk using q1
      exact ⟨_, rfl, h⟩
section
variable {prog : Program} {w : World} {A : Around} {E : Value → Shared → Prop} {s : Shared}
theorem enum_begins1 {v : Value} {o : Obj} {H : Heap → Prop} {Q : Value → Shared → Prop} (B : Begins v o H) (h1 : H s.heap)
    (h : ∀ h', IsEnum h' (s.heap.objs.size + 1) s.heap.objs.size 0 .none → h'.get? s.heap.objs.size = some o → h'.objs.size = s.heap.objs.size + 2 →
      (∀ b o, s.heap.get? b = some o → h'.get? b = some o) → Q (.ref (s.heap.objs.size + 1)) { s with heap := h' }) :
    wpAny (model prog w) A (call (.type "enumerate") [v]) Q E s := by
  refine callType_new F.called_enumerate (by decide) (F.typeCall_enumerate_1 _) (F.newCall_enumerate_1 _) (fun obj => F.args_object_init_2 obj _) F.entry_enumerate_new
    (meets_enumerate_newB1 B) ⟨h1, ?_⟩
  have hz : (s.heap.push o).objs.size = s.heap.objs.size + 1 := Heap.size_push ..
  show _ ∧ _
  rw [hz]
  have he : IsEnum ((s.heap.push o).push { cls := .type "enumerate", data := .fields #[.none, .bool false, .ref s.heap.objs.size, rawInt 0, .none, .none] }) (s.heap.objs.size + 1) s.heap.objs.size 0 .none := by
    have := Heap.get?_push_size (s.heap.push o) (o := { cls := .type "enumerate", data := .fields #[.none, .bool false, .ref s.heap.objs.size, rawInt 0, .none, .none] }) rfl
    rw [hz] at this; exact this
  refine ⟨⟨_, he, rfl⟩, h _ he (Heap.get?_push_of_some _ (Heap.get?_push_size _ B.free)) (by rw [Heap.size_push, hz]) fun b o x => Heap.get?_push_of_some _ (Heap.get?_push_of_some _ x)⟩
end
/-- the tuple at a -/
def IteT (K : PySem.W.Frag) (a : Addr) : It :=
  ⟨fun i H => ∃ (xs : List V) (x : V), SqT K H a xs ∧ xs[i]? = some x, fun i H v H' => ∃ T x, v = .ref T ∧ H T = none ∧ H' = upd H T (.tup [.int (i : Nat), x]) ∧ ∀ xs, SqT K H a xs → xs[i]? = some x, fun i H => ∃ xs : List V, SqT K H a xs ∧ xs.length ≤ i⟩
theorem turn_enumT {P : Program} {w : World} {K : PySem.W.Frag} {elts : List Expr} {kk : Nat} {tpos : Pos} (a e it : Addr) (hai : a ≠ it) (hae : a ≠ e) :
    Turn P w K (.Tuple elts kk tpos) (IteT K a) [e, it] e (fun i h => (∃ old, IsEnum h e it ((i : Nat) : Int) old) ∧ h.IsTupleIter it a i ∧ e ≠ it) where
  mem := by simp
  obj := fun i h st b hb => by
    obtain ⟨⟨old, he⟩, ⟨o, ho, hc, hd⟩, _⟩ := st
    have e' : b = e ∨ b = it := by simpa using hb
    rcases e' with z | z
    · rw [z]; exact ⟨_, he, fun v q => nomatch q⟩
    · rw [z]; exact ⟨o, ho, fun v q => by rw [hd] at q; cases q⟩
  keep := fun i h h' st k => let ⟨⟨old, he⟩, hi, hne⟩ := st; ⟨⟨old, k e (by simp) _ he⟩, hi.at fun o q => k it (by simp) o q, hne⟩
  item := by
    intro X hP hw hK hc i pins s σ H E I hf st hg
    subst hP hw hK
    obtain ⟨⟨old, he⟩, hit, hne⟩ := st
    obtain ⟨xs, x, hq, hx⟩ := hg
    obtain ⟨its, rv, p, hz⟩ := I.tuple hq
    obtain ⟨u, hu, ru⟩ := rv.get hx
    have hel : e < s.heap.objs.size := Heap.lt_size he
    have hil : it < s.heap.objs.size := by obtain ⟨_, q, _⟩ := hit; exact Heap.lt_size q
    have pt : s.heap.IsTuple a its.toArray := p
    have hlt : i < its.toArray.size := by
      have := (List.getElem?_eq_some_iff.mp hu).1
      simpa using this
    refine wpAny_pyNext_enum_itemD (Draws.tuple (A := X.A.in1) (I.ok.hd hc) it a hai its.toArray) he ⟨hit, pt⟩ hlt hne (by simp [hne, Ne.symm hae]) fun x' h' tk hx' ho hit' hT hsz hk => ?_
    have hxu : x' = u := by
      have hx' : its.toArray[i]? = some x' := hx'
      have : its[i]? = some x' := by simpa using hx'
      rw [hu] at this; cases this; rfl
    subst hxu
    refine ⟨_, rfl, wpAny_letOwnedTupleGo_enum (s := { s with heap := h', toks := tk + 1 }) ho fun h'' he' sb => ?_⟩
    have hT2 : h''.get? s.heap.objs.size = some { cls := .type "tuple", data := .seq #[.int i tk, x'] } := (sb.2 _ (Nat.ne_of_gt hel)).trans hT
    have new : ObjOk X.prog X.w (upd H s.heap.objs.size (.tup [.int (i : Nat), x])) h'' s.heap.objs.size (.tup [.int (i : Nat), x]) :=
      ⟨by show 2 ≤ sizeLine; decide, [.int i tk, x'], .cons ⟨_, rfl⟩ (.cons ru .nil), ⟨_, hT2, rfl, _, rfl⟩⟩
    have I1 : Inv X pins σ (upd H s.heap.objs.size (.tup [.int (i : Nat), x])) { s with heap := h'', toks := tk + 1 } :=
      I.turnedNew (ch := [e, it]) (fun b ob hb q => (sb.2 b (fun z => hb (by simp [z]))).trans (hk b ob (fun z => hb (by simp [z])) (fun z => hb (by simp [z])) q)) hf (Nat.le_refl _) new
    refine ⟨.ref s.heap.objs.size, _, I1, rfl, ⟨_, x, rfl, I.hok.fresh (Nat.le_refl _), rfl, fun ys hy => by rw [I.tuple_inj hy hq]; exact hx⟩, ⟨⟨x', ?_⟩, hit'.1.at fun o q => (sb.2 it (Ne.symm hne)).trans q, hne⟩, fun b hb => ?_⟩
    · have e1 : ((i + 1 : Nat) : Int) = (i : Int) + 1 := by omega
      rw [e1]; exact he'
    · have hb' : b < s.heap.objs.size := by
        have e' : b = e ∨ b = it := by simpa using hb
        rcases e' with z | z
        · rw [z]; exact hel
        · rw [z]; exact hil
      rw [upd_ne (Nat.ne_of_lt hb')]
      exact (hf b hb).1
  done := by
    intro X hP hw hK hc i pins s σ H E I hf st hg
    subst hP hw hK
    obtain ⟨⟨old, he⟩, hit, hne⟩ := st
    obtain ⟨xs, hq, hx⟩ := hg
    obtain ⟨its, rv, p, hz⟩ := I.tuple hq
    have pt : s.heap.IsTuple a its.toArray := p
    obtain ⟨f0, f1, f2, f3, f4, f5⟩ := hf it (by simp)
    have hl := rv.length
    have hT : s.TypeIs (.ref e) "enumerate" := ⟨_, he, rfl⟩
    unfold pyNext
    refine wpAny_bind (wpAny_attempt (wpAny_callSpecial?_slot (name := Str.ofString "__next__") hT F.slot_enumerate_next
      (wpAny_call_entry F.slot_enumerate_next hT F.entry_enumerate_next ?_ (F.args_enumerate_next_1 _))))
    show wpAny _ _ (field (.ref e) 2 >>= _) _ _ _
    refine wpAny_bind (wpAny_field he rfl (x := .ref it) rfl ?_)
    refine wpAny_bind (RZ.nextOf_tuple_end (I.ok.hd hc) hit pt (by simp; omega) fun h' x he' hx' => ?_)
    obtain ⟨o, ho, hc'⟩ := hx'
    refine wpAny_bind (wpAny_isInstance (T := "StopIteration") (b := true) ⟨o, ho, hc'⟩ isSubtype_stop ?_)
    exact wpAny_pure ⟨rfl, I.turned (t' := s.toks) (fun b o hb q => he' b o hb q) f0 f1 f3 f4 f5⟩
  self := fun A i s Q E st h => let ⟨⟨_, he⟩, _⟩ := st; wpAny_pyIter_enum he h
def iEnumA (K : PySem.W.Frag) (ta : TA) : TI := fun σ H R => ta σ H fun vs H1 => ∃ a xs, vs = [.ref a] ∧ ((SqL K H1 a xs ∧ R (Ite K a) H1) ∨ (SqT K H1 a xs ∧ R (IteT K a) H1))
theorem pi_enumA {X : Cx} {e : Expr} {ta : TA} {p pos tpos : Pos} {elts : List Expr} {kk : Nat} (hg : Gl X "enumerate") (hm : X.mg "enumerate" = none) (ha : PA X [e] ta) (hs : starEach [e] X.env = [(false, eval e X.env)] := by rfl) :
    PI X (.Tuple elts kk tpos) (.Call (.Name "enumerate" p) [e] [] pos) (iEnumA X.K ta) := by
  refine ⟨fun pins s σ H R I h => ?_⟩
  refine Call_ (ld_blt I hg hm boot_enumerate (PyProof.Rows.callWith_type1 (thn (ha.run pos pins s σ H _ I h) fun us s1 ⟨vs, H1, I1, r1, q1⟩ => ?_) hs rfl))
  obtain ⟨a, xs, ex, q⟩ := q1
  subst ex
  cases r1 with
  | cons r rr =>
    cases rr
    cases r
    have fin : ∀ b, b ∈ [s1.heap.objs.size + 1, s1.heap.objs.size] → FpOk X pins H1 b := fun b hb => by
      have e' : b = s1.heap.objs.size + 1 ∨ b = s1.heap.objs.size := by simpa using hb
      have hle : s1.heap.objs.size ≤ b := by
        rcases e' with z | z
        · rw [z]; exact Nat.le_add_right _ _
        · rw [z]; exact Nat.le_refl _
      exact I1.fpOk hle (I1.hok.fresh hle)
    rcases q with ⟨hq, q⟩ | ⟨hq, q⟩
    · obtain ⟨its, rv, p', hz⟩ := I1.list hq
      refine call_enumerate_list p'.isList fun h' he hit hsz hk => wpAny_pyIter_enum he ?_
      have I2 : Inv X pins σ H1 { s1 with heap := h' } := I1.kept (t' := s1.toks) hk
      exact ⟨s1.heap.objs.size + 1, [s1.heap.objs.size + 1, s1.heap.objs.size], _, _, H1, rfl, I2, turn_enum a (s1.heap.objs.size + 1) s1.heap.objs.size, ⟨⟨.none, he⟩, hit, Nat.succ_ne_self _⟩, fin, q⟩
    · obtain ⟨its, rv, p', hz⟩ := I1.tuple hq
      have pt : s1.heap.IsTuple a its.toArray := p'
      have hlt : a < s1.heap.objs.size := by obtain ⟨o, ho, _⟩ := id pt; exact Heap.lt_size ho
      refine enum_begins1 (begins_tuple a its.toArray) pt fun h' he hit hsz hk => wpAny_pyIter_enum he ?_
      have I2 : Inv X pins σ H1 { s1 with heap := h' } := I1.kept (t' := s1.toks) hk
      exact ⟨s1.heap.objs.size + 1, [s1.heap.objs.size + 1, s1.heap.objs.size], _, _, H1, rfl, I2, turn_enumT a (s1.heap.objs.size + 1) s1.heap.objs.size (Nat.ne_of_lt hlt) (Nat.ne_of_lt (Nat.lt_succ_of_lt hlt)), ⟨⟨.none, he⟩, ⟨_, hit, rfl, rfl⟩, Nat.succ_ne_self _⟩, fin, q⟩
end EV

end
section
set_option Elab.async false
set_option linter.all false
set_option maxRecDepth 100000
set_option maxHeartbeats 4000000
/-! EV 14: enumerate; methods of lists. -/
namespace EV
open PySem PySem.Spec PyProof.Rows L2
open LamX (Tabs TabS CodeO)
section
variable {cs : List ErrC} {G : Gd} {Wx : WX} {X : Cx}
theorem itOk_enumT {K : PySem.W.Frag} {W : Wd} {H : Hp} {p : Addr} {us : List V} {ds : List D} (h1 : H p = some (.tup us)) (n : ¬ Av G W p) (h2 : VRs G (Av G W) H ds us) : ItOk G W H (enum ds) (IteT K p) where
  go := fun W2 H2 i a st2 b2 x R2 e => by
    obtain ⟨j, d, e1, ed, rfl⟩ := zipWith_get _ e
    have ej : j = i := by
      obtain ⟨hi', e'⟩ := List.getElem?_eq_some_iff.mp e1
      rw [List.getElem_range] at e'
      exact e'.symm
    subst ej
    have h1' := x.keep _ _ h1 nofun n
    obtain ⟨u, eu, ru⟩ := (VRs.ext0 x.ext0 h2).get ed
    refine ⟨⟨us, u, SqT.of h1', eu⟩, fun y H3 q => ?_⟩
    obtain ⟨T, z, rfl, hT, rfl, q⟩ := q
    have := q us (SqT.of h1')
    rw [eu] at this
    cases this
    exact ⟨fun _ _ h => upd_keep hT h, new_pair VR.int ru hT fun a h => R2.av_there h⟩
  stop := fun W2 H2 x => ⟨us, SqT.of (x.keep _ _ h1 nofun n), by unfold enum; rw [List.length_zipWith, List.length_range, h2.length]; omega⟩
theorem pi_enumE {tg a : Expr} {p pos : Pos} {rs run : Env → Store → E Vl} (ht : isTupT tg = true) (hg : Gl X "enumerate") (hm : X.mg "enumerate" = none) (hs : PA X [a] (tA cs G Wx rs)) (hst : notStar a = true)
    (hr : ∀ e st, run e st = bnd (rs e st) fun vs st => match vs with
      | .its vs => wkE .enumr vs st
      | _ => .err) : PI X tg (.Call (.Name "enumerate" p) [a] [] pos) (tI cs G Wx run) := by
  cases tg <;> try (cases ht; done)
  refine PI.imp (pi_enumA hg hm hs (star_cons hst)) fun σ H R h => wk_args (f := wkE .enumr) hr h fun W1 H1 vs us s b R1 r1 g => ?_
  unfold wkE at g
  split at g <;> try (rename_i h; cases h; done)
  all_goals try (exact g.elim)
  · rename_i l _
    cases r1 with
    | cons r t =>
      cases t
      unfold VlR VR at r
      obtain ⟨pp, us, rfl, h1, n, h2⟩ := r
      obtain ⟨ys, ey, q⟩ := g
      cases ey
      exact ⟨pp, us, rfl, .inl ⟨SqL.of h1, q W1 H1 _ .refl R1 (itOk_enum h1 n h2)⟩⟩
  · rename_i l _
    cases r1 with
    | cons r t =>
      cases t
      unfold VlR VR at r
      obtain ⟨pp, us, rfl, h1, n, h2⟩ := r
      obtain ⟨ys, ey, q⟩ := g
      cases ey
      exact ⟨pp, us, rfl, .inr ⟨SqT.of h1, q W1 H1 _ .refl R1 (itOk_enumT h1 n h2)⟩⟩
/-! ### a mutable thing is written -/
theorem cell_set {W : Wd} {st : Store} {b : Nat} {H : Hp} {i : Nat} {p : Addr} {o u : HO} {c c0 : Cell} (R : Rel G W st b H) (hi : W.cells[i]? = some (some p)) (h0 : st[i]? = some (some c0)) (ho : H p = some o) (n1 : ∀ ps, o ≠ .tbl ps) (n2 : ∀ c q, o ≠ CodeO c q) (hu : ∀ ps, u ≠ .tbl ps)
    (hc : Ext G W H W (upd H p u) → CellR G W (upd H p u) p c) : Ext G W H W (upd H p u) ∧ Rel G W (st.set i (some c)) b (upd H p u) := by
  have hb : i < st.length := (List.getElem?_eq_some_iff.mp h0).1
  have lp : W.live p := ⟨i, hi⟩
  have x : Ext G W H W (upd H p u) := ⟨fun q o h nt n => by
      rw [upd_ne]
      · exact h
      · rintro rfl; exact n (.inl lp), fun q h => by
      by_cases e : q = p
      · rw [e] at h; exact absurd h (Nn.no upd_same hu)
      · exact fun o ho => h o (by rw [upd_ne e]; exact ho), Nat.le_refl _, fun _ _ _ h => h, fun _ h => .inl h, fun _ h => .inl h, fun _ h => h, rfl⟩
  refine ⟨x, ⟨by rw [List.length_set]; exact R.len, R.inj, fun j c' h => ?_, fun j h => ?_, R.spr.keeps (upd_ne ?_) (upd_ne ?_), R.nosp, fun a h n => R.avt a h (x.there a n), R.avl, tabs_at R.tabs ho n1 n2⟩⟩
  · by_cases e : i = j
    · subst e
      rw [List.getElem?_set_self hb] at h
      cases h
      exact ⟨p, hi, hc x⟩
    · rw [List.getElem?_set_ne e] at h
      obtain ⟨a, h1, r⟩ := R.cell j c' h
      refine ⟨a, h1, r.keeps x (upd_ne ?_)⟩
      rintro rfl
      exact e (R.inj _ _ _ hi h1)
  · by_cases e : i = j
    · subst e
      rw [List.getElem?_set_self hb] at h
      cases h
    · rw [List.getElem?_set_ne e] at h
      exact R.dead j h
  · rintro e; exact R.nosp.1 (e ▸ lp)
  · rintro e; exact R.nosp.2 (e ▸ lp)
theorem lst_no (us : List V) : (∀ ps, (HO.lst us) ≠ .tbl ps) ∧ ∀ c q, (HO.lst us) ≠ CodeO c q := ⟨nofun, fun c q => by unfold CodeO; exact nofun⟩
theorem dK_no (us : List (Key × V)) : (∀ ps, (HO.dK us) ≠ .tbl ps) ∧ ∀ c q, (HO.dK us) ≠ CodeO c q := ⟨nofun, fun c q => by unfold CodeO; exact nofun⟩
theorem VlRs.set {W : Wd} {H : Hp} {a : Vl} {v : V} (r : VlR G W H a v) : ∀ {as : List Vl} {vs : List V}, VlRs G W H as vs → ∀ j : Nat, VlRs G W H (as.set j a) (vs.set j v)
  | _, _, .nil, _ => .nil
  | _, _, .cons q t, 0 => .cons r t
  | _, _, .cons q t, j + 1 => .cons q (VlRs.set r t j)
theorem VlRs.erase {W : Wd} {H : Hp} : ∀ {as : List Vl} {vs : List V}, VlRs G W H as vs → ∀ j : Nat, VlRs G W H (as.eraseIdx j) (vs.eraseIdx j)
  | _, _, .nil, _ => .nil
  | _, _, .cons q t, 0 => t
  | _, _, .cons q t, j + 1 => .cons q (VlRs.erase t j)
theorem VlRs.app {W : Wd} {H : Hp} : ∀ {as bs : List Vl} {vs us : List V}, VlRs G W H as vs → VlRs G W H bs us → VlRs G W H (as ++ bs) (vs ++ us)
  | _, _, _, _, .nil, q => q
  | _, _, _, _, .cons r t, q => .cons r (VlRs.app t q)
theorem isLst_of {W : Wd} {st : Store} {b : Nat} {H : Hp} {x : Vl} {v : V} {K : PySem.W.Frag} (R : Rel G W st b H) (r : VlR G W H x v) (h : isLstV st x = true) : ∃ i, x = .ref i ∧ tyV K "list" v H := by
  cases x <;> try (cases h; done)
  rename_i i
  unfold isLstV at h
  dsimp only at h
  split at h
  · rename_i xs e
    obtain ⟨p, rfl, _, us, h1, _⟩ := ref_cell R r e
    exact ⟨i, rfl, .inl ⟨rfl, us, SqL.of h1⟩⟩
  · cases h
/-- a method's reading: by values, the things of the store changed -/
def rM (cs : List ErrC) (G : Gd) (m : Mt) : V → List V → Hp → VK → Prop := fun x xs H Q => ∃ W st b a as, Rel G W st b H ∧ VlR G W H a x ∧ VlRs G W H as xs ∧ EG (KV' G W H Q) (fun _ _ _ _ => True) (mtE m a as st) b
theorem noX_mt {K : Vl → Store → Nat → Prop} {Kx : Nat → List D → Store → Nat → Prop} {m : Mt} {x : Vl} {vs : List Vl} {st : Store} {b : Nat} (h : EG K Kx (mtE m x vs st) b) : EG K (fun _ _ _ _ => True) (mtE m x vs st) b := h.mono (fun _ _ _ q => q) fun _ _ _ _ _ => trivial
theorem mt_appendE : MtR X "list.append" (rM cs G .append) := by
  intro pins s σ H x xs v us Q I rx rxs ⟨W, st, b, a, as, R, ra, ras, g⟩
  refine mt_append pins s σ H x xs v us Q I rx rxs ?_
  cases a <;> (try (unfold mtE at g; exact g.elim))
  rename_i r
  cases ras with
  | nil => unfold mtE at g; exact g.elim
  | cons q t =>
    cases t with
    | cons _ _ => unfold mtE at g; exact g.elim
    | nil =>
      unfold mtE at g
      dsimp only at g
      split at g
      · rename_i ys e
        split at g
        · rename_i hl
          obtain ⟨p, rfl, hi, us', h1, h2⟩ := ref_cell R ra e
          obtain ⟨x', R'⟩ := cell_set (u := .lst (us' ++ [_])) (c := .lst (ys ++ [_])) R hi (geti_some e) h1 (lst_no _).1 (lst_no _).2 nofun fun x' => ⟨_, upd_same, paired_snoc (q.ext x') (h2.ext x')⟩
          exact ⟨p, us', _, rfl, rfl, h1, by rw [← paired_len h2]; exact Nat.lt_of_lt_of_le hl million, g W _ _ x' R' VlR_non⟩
        · exact g.elim
      · exact g.elim
theorem mt_extendE : MtR X "list.extend" (rM cs G .extend) := by
  intro pins s σ H x xs v us Q I rx rxs ⟨W, st, b, a, as, R, ra, ras, g⟩
  refine mt_extend pins s σ H x xs v us Q I rx rxs ?_
  cases a <;> (try (unfold mtE at g; exact g.elim))
  rename_i r
  cases ras with
  | nil => unfold mtE at g; exact g.elim
  | cons q t =>
    cases t with
    | cons _ _ => unfold mtE at g; exact g.elim
    | nil =>
      unfold mtE at g
      dsimp only at g
      split at g
      · rename_i ys zs e e2
        split at g
        · rename_i hl
          obtain ⟨p, rfl, hi, us', h1, h2⟩ := ref_cell R ra e
          obtain ⟨p2, us2, rfl, k1, k2⟩ := lst_at R q e2
          obtain ⟨x', R'⟩ := cell_set (u := .lst (us' ++ us2)) (c := .lst (ys ++ zs)) R hi (geti_some e) h1 (lst_no _).1 (lst_no _).2 nofun fun x' => ⟨_, upd_same, VlRs.app (h2.ext x') (k2.ext x')⟩
          exact ⟨p, p2, us', us2, rfl, rfl, h1, k1, by rw [← paired_len h2, ← paired_len k2]; exact Nat.le_trans hl million, g W _ _ x' R' VlR_non⟩
        · exact g.elim
      · exact g.elim
theorem mt_popE : MtR X "list.pop" (rM cs G .pop) := by
  intro pins s σ H x xs v us Q I rx rxs ⟨W, st, b, a, as, R, ra, ras, g⟩
  refine mt_popAt pins s σ H x xs v us Q I rx rxs ?_
  cases a <;> (try (unfold mtE at g; exact g.elim))
  rename_i r
  cases ras with
  | nil => unfold mtE at g; exact g.elim
  | cons q t =>
    rename_i a2 _ _ _
    cases t with
    | cons _ _ => unfold mtE at g; cases a2 <;> first | exact g.elim | (rename_i d; cases d <;> exact g.elim)
    | nil =>
      cases a2 <;> (try (unfold mtE at g; exact g.elim))
      rename_i d
      cases d <;> (try (unfold mtE at g; exact g.elim))
      rename_i k
      unfold mtE at g
      dsimp only at g
      cases e : geti st r with
      | none => rw [e] at g; exact g.elim
      | some c =>
        cases c with
        | dct ks vs => rw [e] at g; exact g.elim
        | ins c vs => rw [e] at g; exact g.elim
        | lst ys =>
          rw [e] at g
          dsimp only at g
          cases ej : EV.ixN ys.length k with
          | none => rw [ej] at g; exact g.elim
          | some j =>
            rw [ej] at g
            cases ey : ys[j]? with
            | none => simp only [Option.bind_some, ey, Option.map_none] at g; exact g.elim
            | some y =>
              simp only [Option.bind_some, ey, Option.map_some] at g
              obtain ⟨p, rfl, hi, us', h1, h2⟩ := ref_cell R ra e
              obtain ⟨z, hz, rz⟩ := VlRs.get h2 ey
              obtain ⟨x', R'⟩ := cell_set (u := .lst (us'.eraseIdx j)) (c := .lst (ys.eraseIdx j)) R hi (geti_some e) h1 (lst_no _).1 (lst_no _).2 nofun fun x' => ⟨_, upd_same, VlRs.erase (h2.ext x') _⟩
              rw [VlR_int_eq q]
              have hl := paired_len h2
              have ej' : L2.ixN us'.length k = some j := by rw [← hl, ← ixN_eq]; exact ej
              obtain ⟨k1, k2, k3, k4⟩ := ixN_seq ej'
              have hz63 := (I.lstM h1).1
              have l63 := line63
              exact ⟨p, us', k, j, z, rfl, rfl, h1, by omega, by omega, k1, hz, g W _ _ x' R' (rz.ext x')⟩
def mtName : Mt → Str
  | .append => "append"
  | .extend => "extend"
  | .pop => "pop"
  | _ => ""
def mtIs : Mt → Bool
  | .append => true
  | .extend => true
  | .pop => true
  | _ => false
theorem pe_mtE {o a : Expr} {apos cpos : Pos} {ro rs run : Env → Store → E Vl} (m : Mt) (hmt : mtIs m = true) (ho : PE X o (tE cs G Wx ro)) (hs : PA X [a] (tA cs G Wx rs)) (hst : notStar a = true)
    (hbase : attributeBase o (mtName m) X.env (eval o X.env) = eval o X.env) (hline : (apos.endLine == cpos.line) = true)
    (hr : ∀ e st, run e st = bnd (ro e st) fun x st => if isLstV st x then bnd (rs e st) fun vs st => match vs with
      | .its vs => mtE m x vs st
      | _ => .err
    else .err) : PE X (.Call (.Attribute o (mtName m) apos) [a] [] cpos) (tE cs G Wx run) := by
  have fin : ∀ σ H Q, tE cs G Wx run σ H Q → tBM X.K "list" (rM cs G m) (tE cs G Wx ro) (tA cs G Wx rs) σ H Q := fun σ H Q ⟨W, e, st, b, R, V, g⟩ => by
    rw [hr, EG_bnd] at g
    refine ⟨W, e, st, b, R, V, g.mono (fun x s b g W1 H1 v x1 R1 r1 => ?_) fun _ _ _ _ q => q⟩
    cases hl : isLstV s x with
    | false => rw [hl] at g; exact g.elim
    | true =>
      rw [hl] at g
      simp only [if_true] at g
      rw [EG_bnd] at g
      obtain ⟨i, ei, ty⟩ := isLst_of (K := X.K) R1 r1 hl
      refine ⟨ty, Here.next x1 R1 V g fun a2 s2 b2 g => ?_⟩
      cases a2 <;> first
        | exact g.elim
        | skip
      rename_i vs
      refine ⟨vs, rfl, fun W2 H2 us x2 R2 r2 => ⟨W2, s2, b2, x, vs, R2, r1.ext x2, r2, noX_mt (g.mono (fun a s b q => ?_) fun _ _ _ _ q => q)⟩⟩
      exact fun W' H' v' x' R' r' => q W' H' v' ((x1.trans x2).trans x') R' r'
  have few : ((backTo cpos (starEach [a] X.env)).all (fun x => !x.1) && (backToKw cpos (keywordEach [] X.env)).all (fun x => x.1.isSome)
      && decide ([a].length + ([] : List Keyword).length + (if ([] : List Keyword).isEmpty then 0 else 1) < 30)) = true := by rw [star_cons hst]; rfl
  have hpl : (backTo cpos (starEach [] X.env)).any (·.1) = false := rfl
  cases m <;> (try (cases hmt; done))
  · exact PE.imp (pe_bm PySem.F.plainAttrs_list PySem.F.slot_list_append (by rfl) mt_appendE ho hs hbase few hline (star_cons hst) hpl) fin
  · exact PE.imp (pe_bm PySem.F.plainAttrs_list PySem.F.slot_list_extend (by rfl) mt_extendE ho hs hbase few hline (star_cons hst) hpl) fin
  · exact PE.imp (pe_bm PySem.F.plainAttrs_list PySem.F.slot_list_pop (by rfl) mt_popE ho hs hbase few hline (star_cons hst) hpl) fin
end
end EV

end
section
set_option Elab.async false
set_option linter.all false
set_option maxRecDepth 100000
set_option maxHeartbeats 4000000
/-! EV 15: statements. -/
namespace EV
open PySem PySem.Spec PyProof.Rows L2
open LamX (Tabs TabS CodeO)
section
variable (cs : List ErrC) (G : Gd) (Wx : WX)
def KOut (W : Wd) (H : Hp) (Dn : Ends) : Out → Nat → Prop
  | .nx e s, b => ∀ W' H' σ', Ext G W H W' H' → Rel G W' s b H' → EnvR G W' H' e σ' → Dn.nx σ' H'
  | .bk e s, b => ∀ W' H' σ', Ext G W H W' H' → Rel G W' s b H' → EnvR G W' H' e σ' → Dn.bk σ' H'
  | .ct e s, b => ∀ W' H' σ', Ext G W H W' H' → Rel G W' s b H' → EnvR G W' H' e σ' → Dn.ct σ' H'
  | .rt v s, b => ∀ W' H' u, Ext G W H W' H' → Rel G W' s b H' → VlR G W' H' v u → Dn.rt u H'
  | .x c fs e s, b => ∀ W' H' σ' cls d, Ext G W H W' H' → Rel G W' s b H' → EnvR G W' H' e σ' → ErrR cs G W' H' c fs cls d → Wx cls d σ' H'
def tS (run : Env → Store → R Out) : TS := fun Dn σ H => ∃ W e st b, Rel G W st b H ∧ EnvR G W H e σ ∧ good (KOut cs G Wx W H Dn) (run e st) b
end
section
variable {cs : List ErrC} {G : Gd} {Wx : WX} {X : Cx}
theorem KOut.ext {W W1 : Wd} {H H1 : Hp} {Dn : Ends} (x : Ext G W H W1 H1) : ∀ {o : Out} {b : Nat}, KOut cs G Wx W H Dn o b → KOut cs G Wx W1 H1 Dn o b
  | .nx e s, b, h => fun W' H' σ' y => h W' H' σ' (x.trans y)
  | .bk e s, b, h => fun W' H' σ' y => h W' H' σ' (x.trans y)
  | .ct e s, b, h => fun W' H' σ' y => h W' H' σ' (x.trans y)
  | .rt v s, b, h => fun W' H' u y => h W' H' u (x.trans y)
  | .x c fs e s, b, h => fun W' H' σ' cls d y => h W' H' σ' cls d (x.trans y)
theorem KOut.mono {W : Wd} {H : Hp} {D1 D2 : Ends} (h1 : ∀ σ H, D1.nx σ H → D2.nx σ H) (h2 : ∀ σ H, D1.bk σ H → D2.bk σ H) (h3 : ∀ σ H, D1.ct σ H → D2.ct σ H) (h4 : ∀ v H, D1.rt v H → D2.rt v H) : ∀ {o : Out} {b : Nat}, KOut cs G Wx W H D1 o b → KOut cs G Wx W H D2 o b
  | .nx e s, b, h => fun W' H' σ' y r v => h1 _ _ (h W' H' σ' y r v)
  | .bk e s, b, h => fun W' H' σ' y r v => h2 _ _ (h W' H' σ' y r v)
  | .ct e s, b, h => fun W' H' σ' y r v => h3 _ _ (h W' H' σ' y r v)
  | .rt v s, b, h => fun W' H' u y r v => h4 _ _ (h W' H' u y r v)
  | .x c fs e s, b, h => h
theorem PS.imp {st : Stmt} {t t' : TS} (h : PS X st t) (i : ∀ D σ H, t' D σ H → t D σ H) : PS X st t' := ⟨fun pins s σ H D I q => h.run pins s σ H D I (i D σ H q)⟩
theorem PSs.imp {st : List Stmt} {t t' : TS} (h : PSs X st t) (i : ∀ D σ H, t' D σ H → t D σ H) : PSs X st t' := ⟨fun pins s σ H D I q => h.run pins s σ H D I (i D σ H q)⟩
theorem good_sB {α : Type} {P : Out → Nat → Prop} {m : E α} {e : Env} {f : α → Store → R Out} {b : Nat} (h : good P (sBnd m e f) b) : EG (fun a s b => good P (f a s) b) (fun c fs s b => P (.x c fs e s) b) m b := by
  unfold sBnd at h
  rw [good_bind] at h
  refine good_mono (fun o b q => ?_) h
  cases o <;> exact q
/-- an expression ahead of what comes -/
theorem tS_E {re : Env → Store → E Vl} {f : Env → Vl → Store → R Out} {run : Env → Store → R Out} (hr : ∀ e st, run e st = sBnd (re e st) e (f e)) {Dn : Ends} {σ : L2.St} {H : Hp} {K : Wd → Hp → Vl → Store → Nat → Prop} (h : tS cs G Wx run Dn σ H)
    (fin : ∀ W e a s b, EnvR G W H e σ → good (KOut cs G Wx W H Dn) (f e a s) b → K W H a s b) : Here cs G Wx re σ H K := by
  obtain ⟨W, e, st, b, R, V, g⟩ := h
  rw [hr] at g
  exact ⟨W, e, st, b, R, V, (good_sB g).mono (fun a s b q => fin W e a s b V q) fun c fs s b q W' H' cls d x r k => q W' H' σ cls d x r (V.ext x) k⟩
theorem tS_V {re : Env → Store → E Vl} {f : Env → Vl → Store → R Out} {run : Env → Store → R Out} (hr : ∀ e st, run e st = sBnd (re e st) e (f e)) {Dn : Ends} {σ : L2.St} {H : Hp} {Q : VK} (h : tS cs G Wx run Dn σ H)
    (fin : ∀ W e a s b H1 v, Rel G W s b H1 → EnvR G W H1 e σ → VlR G W H1 a v → good (KOut cs G Wx W H1 Dn) (f e a s) b → Q v H1) : tE cs G Wx re σ H Q :=
  tS_E hr h fun W e a s b V g W' H' v x R r => fin W' e a s b H' v R (V.ext x) r (good_mono (fun _ _ q => q.ext x) g)
theorem ps_setE {tg e : Expr} {pos : Pos} {t : Tg} {re : Env → Store → E Vl} {run : Env → Store → R Out} (he : PE X e (tE cs G Wx re)) (hg : PG X tg (tG G t)) (hs : swapsWithSole [tg] e pos.line X.env = pure false) (hw : swappedStores [tg] e X.env = pure none)
    (h1 : (assignEach [tg] X.env).map (·.2) = [assign tg X.env]) (hr : ∀ e st, run e st = sBnd (re e st) e fun v st => match setTg t v e with
      | some e => .ok (.nx e st)
      | none => .err) : PS X (.Assign [tg] e pos) (tS cs G Wx run) := by
  refine PS.imp (ps_asg he hg hs hw h1) fun Dn σ H h => tS_V (f := fun e v st => match setTg t v e with
      | some e => .ok (.nx e st)
      | none => .err) hr h fun W e a s b H1 v R V r g => ?_
  cases et : setTg t a e with
  | none => rw [et] at g; exact g.elim
  | some e' =>
    rw [et] at g
    exact ⟨W, e, a, e', V, r, et, fun σ' V' _ => g W H1 σ' .refl R V'⟩
/-- name = [.. for ..] on one line -/
theorem ps_setLcE {elt tg iter : Expr} {ifs : List Expr} {scope : Scope} {own : List (Str × Nat)} {pos spos py : Pos} {i : Nat} {y : Str} {ri rc re : Env → Store → E Vl} {m : Bool} {t : Tg} {run : Env → Store → R Out} (hc : X.calm = true) (hN : X.N.Nodup) (hy : X.N[i]? = some y) (hyl : X.env.scope.names.lookup y = some .local)
    (hsw : swapsWith (.ListComp elt [⟨tg, iter, ifs, 0⟩] scope pos) (some (.Name y py)) spos.line X.env = pure true) (hi : PI X tg iter (tI cs G Wx ri)) (ok : BlkOk X.N X.env.scope scope own)
    (hg : ∀ (s : Shared) (H : Hp) (C : Addr) (cl : List (Str × Addr)) (fp : List Addr), PG (X.blk s H scope (compEnvC scope cl C X.env) fp) tg (tG G t)) (ht : ∀ (s : Shared) (H : Hp) (C : Addr) (cl : List (Str × Addr)) (fp : List Addr), PTs (X.blk s H scope (compEnvC scope cl C X.env) fp) ifs (tT cs G Wn rc))
    (he : ∀ (s : Shared) (H : Hp) (C : Addr) (cl : List (Str × Addr)) (fp : List Addr), PE (X.blk s H scope (compEnvC scope cl C X.env) fp) elt (tE cs G Wn re)) (hs : ∀ x, foldedSetIterable iter X.env x = pure x)
    (hown : tgIn t (own.map (·.2)) = true) (hr : ∀ e st, run e st = sBnd (lcE ri rc re m t (own.map (·.2)) e st) e fun v st => match setTg (.nm i) v e with
      | some e => .ok (.nx e st)
      | none => .err) : PS X (.Assign [.Name y py] (.ListComp elt [⟨tg, iter, ifs, 0⟩] scope pos) spos) (tS cs G Wx run) := by
  refine PS.imp (ps_setLc hc hN hy hyl hsw hi ok hg ht he hs) fun Dn σ H h => lc_read hown (tS_V (f := fun e v st => match setTg (.nm i) v e with
      | some e => .ok (.nx e st)
      | none => .err) hr h fun W e a s b H1 v R V r g => g W H1 _ .refl R (V.set i r))
theorem ps_retE {e : Expr} {pos : Pos} {re : Env → Store → E Vl} {run : Env → Store → R Out} (he : PE X e (tE cs G Wx re)) (hr : ∀ e st, run e st = sBnd (re e st) e fun v st => .ok (.rt v st)) : PS X (.Return (some e) pos) (tS cs G Wx run) :=
  PS.imp (ps_ret he) fun Dn σ H h => tS_V (f := fun _ v st => .ok (.rt v st)) hr h fun W e a s b H1 v R V r g => g W H1 v .refl R r
theorem ps_retNE {pos : Pos} {run : Env → Store → R Out} (hr : ∀ e st, run e st = .ok (.rt (.d .non) st)) : PS X (.Return none pos) (tS cs G Wx run) :=
  PS.imp ps_retN fun Dn σ H ⟨W, e, st, b, R, V, g⟩ => by rw [hr] at g; exact g W H _ .refl R VlR_non
theorem ps_exprE {e : Expr} {pos : Pos} {re : Env → Store → E Vl} {run : Env → Store → R Out} (he : PE X e (tE cs G Wx re)) (hs : swapsWith e none pos.line X.env = pure false) (hr : ∀ e st, run e st = sBnd (re e st) e fun _ st => .ok (.nx e st)) : PS X (.Expr e pos) (tS cs G Wx run) :=
  PS.imp (ps_expr he hs) fun Dn σ H h => tS_V (f := fun e _ st => .ok (.nx e st)) hr h fun W e a s b H1 v R V r g => g W H1 σ .refl R V
theorem ps_brkE {pos : Pos} {run : Env → Store → R Out} (hr : ∀ e st, run e st = .ok (.bk e st)) : PS X (.Break pos) (tS cs G Wx run) :=
  PS.imp ps_break fun Dn σ H ⟨W, e, st, b, R, V, g⟩ => by rw [hr] at g; exact g W H σ .refl R V
theorem ps_contE {pos : Pos} {run : Env → Store → R Out} (hr : ∀ e st, run e st = .ok (.ct e st)) : PS X (.Continue pos) (tS cs G Wx run) :=
  PS.imp ps_continue fun Dn σ H ⟨W, e, st, b, R, V, g⟩ => by rw [hr] at g; exact g W H σ .refl R V
theorem ps_passE {pos : Pos} {run : Env → Store → R Out} (hr : ∀ e st, run e st = .ok (.nx e st)) : PS X (.Pass pos) (tS cs G Wx run) :=
  PS.imp ps_pass fun Dn σ H ⟨W, e, st, b, R, V, g⟩ => by rw [hr] at g; exact g W H σ .refl R V
theorem ps_docE {x j pos pos'} {run : Env → Store → R Out} (hr : ∀ e st, run e st = .ok (.nx e st)) : PS X (.Expr (.Constant (.str x) j pos) pos') (tS cs G Wx run) :=
  PS.imp ps_doc fun Dn σ H ⟨W, e, st, b, R, V, g⟩ => by rw [hr] at g; exact g W H σ .refl R V
theorem pss_nilE {run : Env → Store → R Out} (hr : ∀ e st, run e st = .ok (.nx e st)) : PSs X [] (tS cs G Wx run) :=
  PSs.imp pss_nil fun Dn σ H ⟨W, e, st, b, R, V, g⟩ => by rw [hr] at g; exact g W H σ .refl R V
/-- what stands behind -/
def seqR (ra rb : Env → Store → R Out) : Env → Store → R Out := fun e st => R.bind (ra e st) fun
  | .nx e st => rb e st
  | o => .ok o
theorem seq_read {ra rb : Env → Store → R Out} {Dn : Ends} {σ : L2.St} {H : Hp} (h : tS cs G Wx (seqR ra rb) Dn σ H) : tSeq (tS cs G Wx ra) (tS cs G Wx rb) Dn σ H := by
  obtain ⟨W, e, st, b, R, V, g⟩ := h
  unfold seqR at g
  rw [good_bind] at g
  refine ⟨W, e, st, b, R, V, good_mono (fun o b q => ?_) g⟩
  cases o with
  | nx e s => exact fun W' H' σ' x R' V' => ⟨W', e, s, b, R', V', good_mono (fun _ _ k => k.ext x) q⟩
  | bk e s => exact q
  | ct e s => exact q
  | rt v s => exact q
  | x c fs e s => exact q
theorem ps_ifE {c : Expr} {a b : List Stmt} {pos : Pos} {rt : Env → Store → E Vl} {ra rb run : Env → Store → R Out} (hc : PT X c (tT cs G Wx rt)) (ha : PSs X a (tS cs G Wx ra)) (hb : PSs X b (tS cs G Wx rb))
    (hr : ∀ e st, run e st = sBnd (rt e st) e fun v st => match truth v with
      | some true => ra e st
      | some false => rb e st
      | none => .err) : PS X (.If c a b pos) (tS cs G Wx run) := by
  refine PS.imp (ps_if hc ha hb) fun Dn σ H h => ?_
  show Here cs G Wx rt σ H (fun W H => KT G W H _)
  refine tS_E (f := fun e v st => match truth v with
      | some true => ra e st
      | some false => rb e st
      | none => .err) hr h fun W e v s b V g => ?_
  cases et : truth v with
  | none => rw [et] at g; exact g.elim
  | some t =>
    rw [et] at g
    refine ⟨t, et, fun W' H' x R' => ?_⟩
    cases t with
    | true => exact ⟨W', e, s, b, R', V.ext x, good_mono (fun _ _ k => k.ext x) g⟩
    | false => exact ⟨W', e, s, b, R', V.ext x, good_mono (fun _ _ k => k.ext x) g⟩
theorem ps_forE {tg iter : Expr} {body : List Stmt} {pos : Pos} {t : Tg} {ri : Env → Store → E Vl} {rb run : Env → Store → R Out} (hp : PassesOwn (model X.prog X.w) X.A X.env X.xe) (hc : X.calm = true) (hi : PI X tg iter (tI cs G Wx ri)) (hg : PG X tg (tG G t)) (hb : PSs X body (tS cs G Wx rb))
    (hs : ∀ x, foldedSetIterable iter X.env x = pure x) (hr : ∀ e st, run e st = sBnd (ri e st) e fun w st => match itsOf w with
      | some vs => forL t rb vs e st
      | none => .err) : PS X (.For tg iter body [] pos) (tS cs G Wx run) := by
  refine PS.imp (L2.ps_for hp hc hi hg hb hs) fun Dn σ H h => ?_
  show Here cs G Wx ri σ H (fun W H => KI G W H _)
  refine tS_E (f := fun e w st => match itsOf w with
      | some vs => forL t rb vs e st
      | none => .err) hr h fun W e w s b V g => ?_
  cases ev : itsOf w with
  | none => rw [ev] at g; exact g.elim
  | some vs =>
    rw [ev] at g
    refine ⟨vs, ev, fun W1 H1 J x1 R1 J1 => ?_⟩
    refine ⟨fun i n σ' H' => n = vs.length - i ∧ i ≤ vs.length ∧ ∃ W' e' s' b', Ext G W1 H1 W' H' ∧ Rel G W' s' b' H' ∧ EnvR G W' H' e' σ' ∧ good (KOut cs G Wx W H Dn) (forL t rb (vs.drop i) e' s') b', ⟨_, rfl, Nat.zero_le _, W1, e, s, b, .refl, R1, V.ext x1, g⟩, ?_⟩
    rintro i n σ' H' ⟨rfl, hi', W', e', s', b', x', R', V', g'⟩
    by_cases hlt : i < vs.length
    · refine .inr ?_
      obtain ⟨a, ea⟩ : ∃ a, vs[i]? = some a := ⟨vs[i], List.getElem?_eq_getElem hlt⟩
      obtain ⟨go, yl⟩ := J1.go W' H' i a s' b' x'.toA R' ea
      have ed : vs.drop i = a :: vs.drop (i + 1) := by
        rw [List.drop_eq_getElem_cons hlt]
        rw [List.getElem?_eq_getElem hlt] at ea
        cases ea; rfl
      rw [ed] at g'
      unfold forL at g'
      cases es : setTg t a e' with
      | none => rw [es] at g'; exact g'.elim
      | some e2 =>
        rw [es] at g'
        dsimp only at g'
        rw [good_bind] at g'
        refine ⟨go, fun σ2 H2 => i + 1 ≤ vs.length ∧ ∃ W2 e2 s2 b2, Ext G W1 H1 W2 H2 ∧ Rel G W2 s2 b2 H2 ∧ EnvR G W2 H2 e2 σ2 ∧ good (KOut cs G Wx W H Dn) (forL t rb (vs.drop (i + 1)) e2 s2) b2, fun σ2 H2 q => ⟨_, ?_, rfl, q⟩, fun x H3 y => ?_⟩
        · have := q.1; omega
        · obtain ⟨kp, rx⟩ := yl x H3 y
          have x3 := x'.trans (pure_ext (G := G) (W := W') kp)
          have R3 := pure_rel R' kp
          refine ⟨W', e', a, e2, V'.ext (pure_ext kp), rx, es, fun σ3 V3 _ => ⟨W', e2, s', b', R3, V3, good_mono (fun o b3 q => ?_) g'⟩⟩
          cases o with
          | nx e4 s4 => exact fun W4 H4 σ4 x4 R4 V4 => ⟨hlt, W4, e4, s4, b3, x3.trans x4, R4, V4, q⟩
          | ct e4 s4 => exact fun W4 H4 σ4 x4 R4 V4 => ⟨hlt, W4, e4, s4, b3, x3.trans x4, R4, V4, q⟩
          | bk e4 s4 => exact fun W4 H4 σ4 x4 R4 V4 => q W4 H4 σ4 ((x1.trans x3).trans x4) R4 V4
          | rt v4 s4 => exact fun W4 H4 u x4 R4 r4 => q W4 H4 u ((x1.trans x3).trans x4) R4 r4
          | x c fs e4 s4 => exact fun W4 H4 σ4 cls d x4 R4 V4 k4 => q W4 H4 σ4 cls d ((x1.trans x3).trans x4) R4 V4 k4
    · have e0 : i = vs.length := by omega
      subst e0
      refine .inl ⟨J1.stop W' H' x'.toA, ?_⟩
      rw [List.drop_length] at g'
      exact g' W' H' σ' (x1.trans x') R' V'
theorem ps_whlE {c : Expr} {body : List Stmt} {pos : Pos} {rt : Env → Store → E Vl} {rb run : Env → Store → R Out} {turns : Nat} (hp : PassesOwn (model X.prog X.w) X.A X.env X.xe) (hc : PT X c (tT cs G Wx rt)) (hb : PSs X body (tS cs G Wx rb))
    (hr : ∀ e st, run e st = whlL rt rb turns e st) : PS X (.While c body [] pos) (tS cs G Wx run) := by
  refine PS.imp (ps_while hp hc hb) fun Dn σ H ⟨W, e, st, b, R, V, g⟩ => ?_
  rw [hr] at g
  refine ⟨fun n σ' H' => ∃ W' e' s' b', Ext G W H W' H' ∧ Rel G W' s' b' H' ∧ EnvR G W' H' e' σ' ∧ good (KOut cs G Wx W H Dn) (whlL rt rb n e' s') b', ⟨turns, W, e, st, b, .refl, R, V, g⟩, ?_⟩
  rintro n σ' H' ⟨W', e', s', b', x', R', V', g'⟩
  cases n with
  | zero => exact g'.elim
  | succ n =>
    unfold whlL at g'
    have g1 := good_sB g'
    refine ⟨W', e', s', b', R', V', g1.mono (fun v s2 b2 q => ?_) fun c fs s b q W2 H2 cls d x2 r2 k => q W2 H2 σ' cls d (x'.trans x2) r2 (V'.ext x2) k⟩
    cases et : truth v with
    | none => rw [et] at q; exact q.elim
    | some tb =>
      rw [et] at q
      refine ⟨tb, et, fun W2 H2 x2 R2 => ?_⟩
      cases tb with
      | false =>
        simp only [Bool.false_eq_true, if_false]
        exact q W2 H2 σ' (x'.trans x2) R2 (V'.ext x2)
      | true =>
        simp only [if_true]
        dsimp only at q
        rw [good_bind] at q
        refine ⟨fun σ3 H3 => ∃ W3 e3 s3 b3, Ext G W H W3 H3 ∧ Rel G W3 s3 b3 H3 ∧ EnvR G W3 H3 e3 σ3 ∧ good (KOut cs G Wx W H Dn) (whlL rt rb n e3 s3) b3, fun σ3 H3 k => ⟨n, Nat.lt_succ_self n, k⟩, W2, e', s2, b2, R2, V'.ext x2, good_mono (fun o b3 k => ?_) q⟩
        have x12 := x'.trans x2
        cases o with
        | nx e4 s4 => exact fun W4 H4 σ4 x4 R4 V4 => ⟨W4, e4, s4, b3, x12.trans x4, R4, V4, k⟩
        | ct e4 s4 => exact fun W4 H4 σ4 x4 R4 V4 => ⟨W4, e4, s4, b3, x12.trans x4, R4, V4, k⟩
        | bk e4 s4 => exact fun W4 H4 σ4 x4 R4 V4 => k W4 H4 σ4 (x12.trans x4) R4 V4
        | rt v4 s4 => exact fun W4 H4 u x4 R4 r4 => k W4 H4 u (x12.trans x4) R4 r4
        | x c fs e4 s4 => exact fun W4 H4 σ4 cls d x4 R4 V4 k4 => k W4 H4 σ4 cls d (x12.trans x4) R4 V4 k4
/-! ### o[i] = v -/
theorem keysOk_len : ∀ {ks : List D} {kvs : List (Key × V)}, KeysOk ks kvs → ks.length = kvs.length
  | [], [], _ => rfl
  | [], _ :: _, h => h.elim
  | _ :: _, [], h => h.elim
  | _ :: _, _ :: _, h => by simp [keysOk_len h.2]
theorem pset_or {t t' : TSet} (h : PSet X t) (h' : PSet X t') : PSet X (fun o i v H Q => t o i v H Q ∨ t' o i v H Q) := fun pins s σ H o i v ov iv u Q I r1 r2 r3 q => by
  rcases q with q | q
  · exact h pins s σ H o i v ov iv u Q I r1 r2 r3 q
  · exact h' pins s σ H o i v ov iv u Q I r1 r2 r3 q
theorem ps_setixE {o i e : Expr} {pos tpos : Pos} {ro ri re : Env → Store → E Vl} {run : Env → Store → R Out} (hu : X.A.units + 1 < cLine) (he : PE X e (tE cs G Wx re)) (ho : PE X o (tE cs G Wx ro)) (hi : PE X i (tE cs G Wx ri))
    (ha : ∀ v, assign (.Subscript o i tpos) X.env v = (do
      let ov ← holding [v] (eval o X.env)
      let iv ← holding [v, ov] (eval i X.env)
      standAt tpos
      holding [v, ov, iv] (setItem ov iv v)
      release [v, ov, iv] []))
    (hs : swapsWithSole [.Subscript o i tpos] e pos.line X.env = pure false) (hw : swappedStores [.Subscript o i tpos] e X.env = pure none)
    (hr : ∀ e st, run e st = sBnd (re e st) e fun v st => sBnd (ro e st) e fun o st => sBnd (ri e st) e fun i st => match setIx st o i v with
      | some st => .ok (.nx e st)
      | none => .err) : PS X (.Assign [.Subscript o i tpos] e pos) (tS cs G Wx run) := by
  refine PS.imp (ps_asg he (pg_sub ho hi (pset_or set_list (set_dict hu)) ha) hs hw rfl) fun Dn σ H h => tS_V (f := fun e v st => sBnd (ro e st) e fun o st => sBnd (ri e st) e fun i st => match setIx st o i v with
      | some st => .ok (.nx e st)
      | none => .err) hr h fun W e a s b H1 v R V r g => ?_
  have g1 := good_sB g
  refine ⟨W, e, s, b, R, V, g1.mono (fun ov s2 b2 g2 W2 H2 ou x2 R2 r2 => ?_) fun c fs s b q W2 H2 cls d x2 r2 k => q W2 H2 σ cls d x2 r2 (V.ext x2) k⟩
  have g3 := good_sB g2
  refine ⟨W2, e, s2, b2, R2, V.ext x2, g3.mono (fun iv s3 b3 g4 W3 H3 iu x3 R3 r3 => ?_) fun c fs s b q W3 H3 cls d x3 r3 k => q W3 H3 σ cls d (x2.trans x3) r3 ((V.ext x2).ext x3) k⟩
  cases es : setIx s3 ov iv a with
  | none => rw [es] at g4; exact g4.elim
  | some s4 =>
    rw [es] at g4
    have rv := (r.ext x2).ext x3
    have ro' := r2.ext x3
    have V3 := (V.ext x2).ext x3
    cases ov <;> (try (unfold setIx at es; cases es; done))
    rename_i rr
    cases iv <;> (try (unfold setIx at es; cases es; done))
    rename_i k
    unfold setIx at es
    dsimp only at es
    cases ec : geti s3 rr with
    | none => rw [ec] at es; cases es
    | some c =>
      rw [ec] at es
      obtain ⟨p, rfl, hi', cr⟩ := ref_cell R3 ro' ec
      cases c with
      | ins c vs => cases es
      | lst ys =>
        cases k <;> try (cases es; done)
        rename_i n
        obtain ⟨j, ej, rfl⟩ := Option.map_eq_some_iff.mp es
        obtain ⟨us, h1, h2⟩ := cr
        obtain ⟨x', R'⟩ := cell_set (u := .lst (us.set j v)) (c := .lst (ys.set j a)) R3 hi' (geti_some ec) h1 (lst_no _).1 (lst_no _).2 nofun fun x' => ⟨_, upd_same, VlRs.set (rv.ext x') (Paired.mapP h2 fun _ _ q => q.ext x') j⟩
        refine .inl ⟨p, us, n, j, rfl, VlR_int_eq r3, h1, ?_, g4 W3 _ σ ((x2.trans x3).trans x') R' (V3.ext x')⟩
        rw [← paired_len h2, ← ixN_eq]; exact ej
      | dct ks ws =>
        have es' : (if isKey k = true ∧ ks.length < 1000000 then some (s3.set rr (some (.dct (putD k a ks ws).1 (putD k a ks ws).2))) else none) = some s4 := by
          cases k <;> exact es
        split at es'
        · rename_i hk
          cases es'
          obtain ⟨kc, ek⟩ := keyOf_of hk.1
          obtain ⟨kvs, h1, h2, h3⟩ := cr
          have ey := key_of ek (VR.top r3)
          obtain ⟨q1, q2⟩ := putD_of (P := VlR G W3 H3) ek rv h2 h3
          obtain ⟨x', R'⟩ := cell_set (u := .dK (putK kvs kc v)) (c := .dct (putD k a ks ws).1 (putD k a ks ws).2) R3 hi' (geti_some ec) h1 (dK_no _).1 (dK_no _).2 nofun fun x' => ⟨_, upd_same, q1, Paired.mapP q2 fun _ _ q => q.ext x'⟩
          refine .inr ⟨p, upd H3 p (.dK (putK kvs kc v)), rfl, ?_, g4 W3 _ σ ((x2.trans x3).trans x') R' (V3.ext x')⟩
          subst ey
          refine DPut.k h1 ?_
          have := keysOk_len h2
          rw [← this]
          exact Nat.lt_of_lt_of_le hk.2 million
        · cases es'
/-! ### a, b = x, y -/
theorem par_vs {W : Wd} {H : Hp} {vs : List Vl} {us : List V} (h : VlRs G W H vs us) : ∀ {is : List Nat} {e e' : Env} {σ : L2.St}, EnvR G W H e σ → setPar is vs e = some e' → ∃ σ', EnvR G W H e' σ' ∧ (is = [] → us = [] ∧ σ' = σ) ∧ (∀ i, is = [i] → ∃ u, us = [u] ∧ σ' = σ.set i (some u)) ∧
    (∀ i j, is = [i, j] → ∃ u w, us = [u, w] ∧ σ' = (σ.set i (some u)).set j (some w)) ∧ (∀ i j l, is = [i, j, l] → ∃ u w z, us = [u, w, z] ∧ σ' = ((σ.set i (some u)).set j (some w)).set l (some z)) := by
  induction h with
  | nil =>
    intro is e e' σ V hs
    cases is with
    | nil => cases hs; exact ⟨σ, V, fun _ => ⟨rfl, rfl⟩, nofun, nofun, nofun⟩
    | cons _ _ => cases hs
  | cons r t ih =>
    intro is e e' σ V hs
    cases is with
    | nil => cases hs
    | cons i is =>
      rename_i u _ _
      obtain ⟨σ', V', k0, k1, k2, k3⟩ := ih (V.set i r) (show setPar is _ (e.set i _) = some e' from hs)
      refine ⟨σ', V', nofun, fun i' e1 => ?_, fun i' j e1 => ?_, fun i' j l e1 => ?_⟩
      · cases e1
        obtain ⟨rfl, rfl⟩ := k0 rfl
        exact ⟨_, rfl, rfl⟩
      · cases e1
        obtain ⟨w, rfl, rfl⟩ := k1 j rfl
        exact ⟨_, _, rfl, rfl⟩
      · cases e1
        obtain ⟨w, z, rfl, rfl⟩ := k2 j l rfl
        exact ⟨_, _, _, rfl, rfl⟩
theorem tS_A {rs : Env → Store → E Vl} {is : List Nat} {run : Env → Store → R Out} (hr : ∀ e st, run e st = sBnd (rs e st) e fun v st => match v with
      | .its vs => match setPar is vs e with
        | some e => .ok (.nx e st)
        | none => .err
      | _ => .err) {Dn : Ends} {σ : L2.St} {H : Hp} {Q : List V → Hp → Prop} (h : tS cs G Wx run Dn σ H)
    (fin : ∀ W e vs e' H1 us, EnvR G W H1 e σ → VlRs G W H1 vs us → setPar is vs e = some e' → (∀ σ', EnvR G W H1 e' σ' → Dn.nx σ' H1) → Q us H1) : tA cs G Wx rs σ H Q :=
  tS_E (f := fun e v st => match v with
      | .its vs => match setPar is vs e with
        | some e => .ok (.nx e st)
        | none => .err
      | _ => .err) hr h fun W e a s b V g => by
    cases a <;> first
      | exact g.elim
      | skip
    rename_i vs
    dsimp only at g
    cases es : setPar is vs e with
    | none => rw [es] at g; exact g.elim
    | some e' =>
      rw [es] at g
      exact ⟨vs, rfl, fun W' H' us x R r => fin W' e vs e' H' us (V.ext x) r es fun σ' V' => g W' H' σ' x R V'⟩
theorem ps_par2E {i j : Nat} {x y : Str} {a b : Expr} {px py pt pos : Pos} {kt k2 pt2} {rs : Env → Store → E Vl} {run : Env → Store → R Out} (hc : X.calm = true) (hN : X.N.Nodup) (hi : X.N[i]? = some x) (hj : X.N[j]? = some y) (hij : i ≠ j)
    (hx : X.env.scope.names.lookup x = some .local) (hy : X.env.scope.names.lookup y = some .local) (ha : PA X [a, b] (tA cs G Wx rs))
    (hw : swappedStores [.Tuple [.Name x px, .Name y py] kt pt] (.Tuple [a, b] k2 pt2) X.env = pure (some [x, y]))
    (hr : ∀ e st, run e st = sBnd (rs e st) e fun v st => match v with
      | .its vs => match setPar [i, j] vs e with
        | some e => .ok (.nx e st)
        | none => .err
      | _ => .err) : PS X (.Assign [.Tuple [.Name x px, .Name y py] kt pt] (.Tuple [a, b] k2 pt2) pos) (tS cs G Wx run) :=
  PS.imp (ps_par hc hN hi hj hij hx hy ha hw (by rfl)) fun Dn σ H h => tS_A hr h fun W e vs e' H1 us V r es q => by
    obtain ⟨σ', V', _, _, k2, _⟩ := par_vs r V es
    obtain ⟨u, w, rfl, rfl⟩ := k2 i j rfl
    exact ⟨u, w, rfl, q _ V'⟩
theorem ps_par3E {i j l : Nat} {x y z : Str} {a b c : Expr} {px py pz pt pos : Pos} {kt k2 pt2} {rs : Env → Store → E Vl} {run : Env → Store → R Out} (hc : X.calm = true) (hN : X.N.Nodup) (hi : X.N[i]? = some x) (hj : X.N[j]? = some y) (hl : X.N[l]? = some z) (hij : i ≠ j) (hil : i ≠ l) (hjl : j ≠ l)
    (hx : X.env.scope.names.lookup x = some .local) (hy : X.env.scope.names.lookup y = some .local) (hz : X.env.scope.names.lookup z = some .local) (ha : PA X [a, b, c] (tA cs G Wx rs))
    (hw : swappedStores [.Tuple [.Name x px, .Name y py, .Name z pz] kt pt] (.Tuple [a, b, c] k2 pt2) X.env = pure (some [x, y, z]))
    (hr : ∀ e st, run e st = sBnd (rs e st) e fun v st => match v with
      | .its vs => match setPar [i, j, l] vs e with
        | some e => .ok (.nx e st)
        | none => .err
      | _ => .err) : PS X (.Assign [.Tuple [.Name x px, .Name y py, .Name z pz] kt pt] (.Tuple [a, b, c] k2 pt2) pos) (tS cs G Wx run) :=
  PS.imp (ps_par3 hc hN hi hj hl hij hil hjl hx hy hz ha hw (by rfl)) fun Dn σ H h => tS_A hr h fun W e vs e' H1 us V r es q => by
    obtain ⟨σ', V', _, _, _, k3⟩ := par_vs r V es
    obtain ⟨u, w, z, rfl, rfl⟩ := k3 i j l rfl
    exact ⟨u, w, z, rfl, q _ V'⟩
end
end EV

end
section
set_option Elab.async false
set_option linter.all false
set_option maxRecDepth 100000
set_option maxHeartbeats 4000000
/-! EV 16: borrowing, freezing, calls. -/
namespace EV
open PySem PySem.Spec PyProof.Rows L2
open LamX (Tabs TabS CodeO)
section
variable {cs : List ErrC} {G : Gd} {Wx : WX} {X : Cx}
theorem spr_ne {W : Wd} {st : Store} {b : Nat} {H : Hp} (R : Rel G W st b H) {a : Addr} (l : W.live a) : a ≠ G.sp ∧ a ≠ G.sc := ⟨by rintro rfl; exact R.nosp.1 l, by rintro rfl; exact R.nosp.2 l⟩
/-- what stands in a mutable thing -/
theorem live_obj {W : Wd} {st : Store} {b : Nat} {H : Hp} (R : Rel G W st b H) {a : Addr} (l : W.live a) : ∃ o, H a = some o ∧ (∀ ps, o ≠ .tbl ps) := by
  obtain ⟨i, hi⟩ := l
  have hb : i < st.length := by rw [← R.len]; exact (List.getElem?_eq_some_iff.mp hi).1
  cases e : st[i]? with
  | none => rw [List.getElem?_eq_none_iff] at e; omega
  | some o =>
    cases o with
    | none => rw [R.dead i e] at hi; cases hi
    | some c =>
      obtain ⟨a', h', r⟩ := R.cell i c e
      rw [hi] at h'
      cases h'
      cases c with
      | lst xs => obtain ⟨vs, q, _⟩ := r; exact ⟨_, q, nofun⟩
      | dct ks us => obtain ⟨vs, q, _⟩ := r; exact ⟨_, q, nofun⟩
      | ins c vs => exact False.elim r
/-- a world whose things are put aside: what comes back keeps them -/
theorem aside {W Wc W2 : Wd} {st s2 : Store} {b b2 : Nat} {H H2 : Hp} {hx : Nat → Option Addr} {k : Nat} (R : Rel G W st b H) (hm : ∀ a, Mv G Wc a → a = G.sp ∨ a = G.sc) (hl : ∀ a, W.av a → Wc.av a) (x : Ext G Wc H W2 H2) (R2 : Rel G W2 s2 b2 H2) {av : Addr → Prop} (ha1 : ∀ a, av a → W.av a ∨ Nn H a) (ha2 : ∀ a, W.av a → av a)
    (ha3 : ∀ a, av a → ¬ Nn H2 a) :
    Ext G W H ⟨W.cells ++ List.replicate k none, av, W.hc⟩ H2 ∧ Rel G ⟨W.cells ++ List.replicate k none, av, W.hc⟩ (st ++ List.replicate k none) b2 H2 := by
  have at_ : ∀ (i : Nat) a, (W.cells ++ List.replicate k none)[i]? = some (some a) → W.cells[i]? = some (some a) := fun i a h => by
    by_cases hi : i < W.cells.length
    · rwa [List.getElem?_append_left hi] at h
    · rw [List.getElem?_append_right (by omega), List.getElem?_replicate] at h
      split at h <;> cases h
  have x' : Ext G W H ⟨W.cells ++ List.replicate k none, av, W.hc⟩ H2 :=
    ⟨fun q o h nt n => x.keep q o h nt fun m => by
        rcases hm q m with m | m
        · exact n (.inr (.inl m))
        · exact n (.inr (.inr m)), x.there, by simp, fun i a _ h => at_ i a h, fun q ⟨i, h⟩ => .inl ⟨i, at_ i q h⟩, ha1, ha2, rfl⟩
  refine ⟨x', by simp [R.len], fun i j a h1 h2 => R.inj i j a (at_ i a h1) (at_ j a h2), fun i c h => ?_, fun i h => ?_, R2.spr, ⟨fun ⟨i, h⟩ => R.nosp.1 ⟨i, at_ i _ h⟩, fun ⟨i, h⟩ => R.nosp.2 ⟨i, at_ i _ h⟩⟩, ha3, fun a ⟨i, h⟩ q => ?_, R2.tabs⟩
  · have hi : i < st.length := by
      by_cases hi : i < st.length
      · exact hi
      · rw [List.getElem?_append_right (by omega), List.getElem?_replicate] at h
        split at h <;> cases h
    rw [List.getElem?_append_left hi] at h
    obtain ⟨a, h1, r⟩ := R.cell i c h
    refine ⟨a, by rw [List.getElem?_append_left (by rw [R.len]; exact hi)]; exact h1, r.keeps x' ?_⟩
    obtain ⟨o, ho, nt⟩ := live_obj R ⟨i, h1⟩
    rw [ho]
    refine x.keep a o ho nt fun m => ?_
    obtain ⟨n1, n2⟩ := spr_ne R ⟨i, h1⟩
    rcases hm a m with m | m
    · exact n1 m
    · exact n2 m
  · by_cases hi : i < st.length
    · rw [List.getElem?_append_left hi] at h
      rw [List.getElem?_append_left (by rw [R.len]; exact hi)]
      exact R.dead i h
    · rw [List.getElem?_append_right (by omega), List.getElem?_replicate] at h
      rw [List.getElem?_append_right (by rw [R.len]; omega), List.getElem?_replicate, R.len]
      split at h
      · rename_i hlt
        rw [if_pos hlt]
      · cases h
  · have l := at_ i a h
    rcases ha1 a q with q | q
    · exact R.avl a ⟨i, l⟩ q
    · exact R.av_nn (.inl (.inl ⟨i, l⟩)) q
/-! ### a block that borrows -/
def borR (run : Env → Store → R Out) : Env → Store → R Out := fun e st => R.bind (run (e.map (borE st)) (st.map fun _ => none)) (borO st)
theorem map_get {α β : Type} {f : Option α → Option β} {l : List (Option α)} {i : Nat} {a : β} (h : (l.map f)[i]? = some (some a)) : ∃ o, l[i]? = some o ∧ f o = some a := by
  rw [List.getElem?_map] at h
  cases e : l[i]? with
  | none => rw [e] at h; cases h
  | some o => rw [e] at h; exact ⟨o, rfl, Option.some.inj h⟩
theorem flat_any {W W' : Wd} {H H' : Hp} {d : D} {v : V} (h : flat d = true) (r : VlR G W H (.d d) v) : VlR G W' H' (.d d) v := by
  cases d <;> (try (cases h; done)) <;> (unfold VlR VR at r ⊢; exact r)
theorem bor_read {run : Env → Store → R Out} {Dn : Ends} {σ : L2.St} {H : Hp} (h : tS cs G Wx (borR run) Dn σ H) : tS cs G Wx run Dn σ H := by
  obtain ⟨W, e, st, b, R, V, g⟩ := h
  unfold borR at g
  rw [good_bind] at g
  let W1 : Wd := ⟨W.cells.map fun _ => none, W.av, fun i => (W.cells[i]?).join⟩
  have hcl : ∀ i a, W1.hc i = some a → W.cells[i]? = some (some a) := fun i a h => by
    have h' : (W.cells[i]?).join = some a := h
    cases e : W.cells[i]? with
    | none => rw [e] at h'; cases h'
    | some o => rw [e] at h'; have h2 : o = some a := h'; rw [h2]
  have nl : ∀ a, ¬ W1.live a := fun a ⟨i, h⟩ => by
    obtain ⟨o, _, z⟩ := map_get (f := fun _ => none) (show (W.cells.map fun _ => none)[i]? = some (some a) from h)
    cases z
  have mv1 : ∀ a, Mv G W1 a → a = G.sp ∨ a = G.sc := fun a m => by
    rcases m with m | m
    · exact absurd m (nl a)
    · exact m
  have av1 : ∀ a, Av G W1 a → Av G W a := fun a m => by
    rcases m with m | m
    · exact .inl (.inr (mv1 a m))
    · exact .inr m
  have ah1 : ∀ a, Ah G W1 a → Av G W a := fun a m => by
    rcases m with m | ⟨i, m⟩
    · exact av1 a m
    · exact .inl (.inl ⟨i, hcl i a m⟩)
  have R1 : Rel G W1 (st.map fun _ => none) b H := by
    refine ⟨by simp [W1, R.len], fun i j a h => absurd ⟨i, h⟩ (nl a), fun i c h => ?_, fun i h => ?_, R.spr, ⟨nl _, nl _⟩, R.avt, fun a l => absurd l (nl a), R.tabs⟩
    · obtain ⟨o, _, z⟩ := map_get (f := fun (_ : Option Cell) => (none : Option Cell)) h
      cases z
    · have hi : i < st.length := by
        have := (List.getElem?_eq_some_iff.mp h).1
        simpa using this
      show (W.cells.map fun _ => none)[i]? = some none
      rw [List.getElem?_map, List.getElem?_eq_getElem (by rw [R.len]; exact hi)]
      rfl
  have V1 : EnvR G W1 H (e.map (borE st)) σ := by
    refine ⟨by simp [V.len], fun i a h => ?_⟩
    obtain ⟨o, ho, z⟩ := map_get h
    cases o with
    | none => cases z
    | some w =>
      obtain ⟨v, hv, r⟩ := V.get0 i w ho
      refine ⟨v, hv, ?_⟩
      cases w with
      | d x => cases z; exact VR.ext0 (.less ah1) r
      | h x => cases z; exact VR.ext0 (.less fun a m => .inl (ah1 a m)) r
      | thk => cases z
      | its _ => cases z
      | exn _ _ => cases z
      | hr _ _ => cases z
      | ref j =>
        obtain ⟨x, es, z⟩ := Option.map_eq_some_iff.mp z
        cases z
        unfold snap at es
        dsimp only at es
        have main : ∀ c, geti st j = some c → ∃ p, W.cells[j]? = some (some p) ∧ CellR G W H p c ∧ v = .ref p ∧ ¬ Av G W1 p := fun c z => by
          obtain ⟨p, h1, h2⟩ := R.cell j c (geti_some z)
          refine ⟨p, h1, h2, r.2 p h1, fun m => ?_⟩
          obtain ⟨n1, n2⟩ := spr_ne R ⟨j, h1⟩
          rcases m with m | m
          · rcases mv1 p m with m | m
            · exact n1 m
            · exact n2 m
          · exact R.avl p ⟨j, h1⟩ m
        have hj : ∀ p, W.cells[j]? = some (some p) → W1.hc j = some p := fun p h => by
          show (W.cells[j]?).join = some p
          rw [h]; rfl
        split at es
        · rename_i xs ez
          obtain ⟨ds, ed, rfl⟩ := Option.map_eq_some_iff.mp es
          obtain ⟨p, k1, ⟨us, k2, k3⟩, rfl, k4⟩ := main _ ez
          have ea := dats_mem ed
          subst ea
          refine ⟨p, hj p k1, rfl, ?_⟩
          unfold VR
          exact ⟨p, us, rfl, k2, k4, VRs.ext0 (.less av1) (VlRs_d k3)⟩
        · rename_i ks us ez
          obtain ⟨ds, ed, rfl⟩ := Option.map_eq_some_iff.mp es
          obtain ⟨p, k1, ⟨kvs, k2, k3, k5⟩, rfl, k4⟩ := main _ ez
          have ea := dats_mem ed
          subst ea
          refine ⟨p, hj p k1, rfl, ?_⟩
          unfold VR
          exact ⟨p, kvs, rfl, k2, k4, k3, VRs.ext0 (.less av1) (VlRs_d k5)⟩
        · rename_i c us ez
          obtain ⟨p, k1, k2, _⟩ := main _ ez
          exact k2.elim
        · cases es
  have fin : ∀ {W2 H2 s2 b2}, Ext G W1 H W2 H2 → Rel G W2 s2 b2 H2 → ∀ k, Ext G W H ⟨W.cells ++ List.replicate k none, W2.av, W.hc⟩ H2 ∧ Rel G ⟨W.cells ++ List.replicate k none, W2.av, W.hc⟩ (st ++ List.replicate k none) b2 H2 := fun x R2 k =>
    aside (hx := W1.hc) R mv1 (fun a h => h) x R2 x.av x.avm R2.avt
  have env : ∀ {W2 : Wd} {H2 : Hp} {e2 : Env} {σ2 : L2.St} (k : Nat), Ext G W1 H W2 H2 → EnvR G W2 H2 e2 σ2 → EnvR G ⟨W.cells ++ List.replicate k none, W2.av, W.hc⟩ H2 (e2.map retE) σ2 := fun {W2 H2 e2 σ2} k x V2 => by
    refine ⟨by simp [V2.len], fun i a h => ?_⟩
    obtain ⟨o, ho, z⟩ := map_get h
    cases o with
    | none => cases z
    | some w =>
      obtain ⟨v, hv, r⟩ := V2.get0 i w ho
      refine ⟨v, hv, ?_⟩
      cases w with
      | d x =>
        unfold retE at z
        dsimp only at z
        split at z
        · rename_i hf
          cases z
          exact flat_any hf r
        · cases z
      | ref _ => cases z
      | thk => cases z
      | its _ => cases z
      | exn _ _ => cases z
      | h y =>
        cases z
        refine VR.ext0 (.less fun a m => ?_) r
        rcases m with (⟨i, m⟩ | m) | m
        · have l : W.cells[i]? = some (some a) := by
            by_cases hi : i < W.cells.length
            · rwa [List.getElem?_append_left hi] at m
            · rw [List.getElem?_append_right (by omega), List.getElem?_replicate] at m
              split at m <;> cases m
          refine .inr ⟨i, ?_⟩
          rw [x.hc]
          show (W.cells[i]?).join = some a
          rw [l]; rfl
        · exact .inl (.inl (.inr m))
        · exact .inl (.inr m)
      | hr j y =>
        cases z
        obtain ⟨a, h1, h2, h3⟩ := r
        rw [x.hc] at h1
        have l := hcl j a h1
        have hj := (List.getElem?_eq_some_iff.mp l).1
        refine ⟨by simp; omega, fun a' m => ?_⟩
        have m' : (W.cells ++ List.replicate k none)[j]? = some (some a') := m
        rw [List.getElem?_append_left hj, l] at m'
        cases m'
        exact h2
  refine ⟨W1, _, _, b, R1, V1, good_mono (fun o b2 q => ?_) g⟩
  cases o with
  | nx e2 s2 => exact fun W2 H2 σ2 x R2 V2 => let ⟨y1, y2⟩ := fin x R2 (s2.length - st.length); q _ H2 σ2 y1 y2 (env _ x V2)
  | bk e2 s2 => exact fun W2 H2 σ2 x R2 V2 => let ⟨y1, y2⟩ := fin x R2 (s2.length - st.length); q _ H2 σ2 y1 y2 (env _ x V2)
  | ct e2 s2 => exact fun W2 H2 σ2 x R2 V2 => let ⟨y1, y2⟩ := fin x R2 (s2.length - st.length); q _ H2 σ2 y1 y2 (env _ x V2)
  | rt v s2 =>
    cases v <;> (try (exact False.elim q))
    rename_i dx
    unfold borO at q
    dsimp only at q
    split at q
    · rename_i hf
      exact fun W2 H2 u x R2 r2 => let ⟨y1, y2⟩ := fin x R2 (s2.length - st.length); q _ H2 u y1 y2 (flat_any hf r2)
    · exact False.elim q
  | x c fs e2 s2 => exact False.elim q
/-! ### a mutable thing turned into data -/
theorem frz_read {W : Wd} {st : Store} {b : Nat} {H : Hp} (R : Rel G W st b H) {a : Vl} {v : V} (r : VlR G W H a v) {x : D} {s' : Store} (h : frzV st a = some (x, s')) : ∃ W', Ext G W H W' H ∧ Rel G W' s' b H ∧ VlR G W' H (.d x) v := by
  cases a with
  | d y => cases h; exact ⟨W, .refl, R, r⟩
  | thk => cases h
  | its _ => cases h
  | exn _ _ => cases h
  | h _ => cases h
  | hr _ _ => cases h
  | ref i =>
    obtain ⟨y, es, h⟩ := Option.map_eq_some_iff.mp h
    cases h
    have VT' := snap_VT R r es
    have at_ : ∀ (j : Nat) q, (W.cells.set i none)[j]? = some (some q) → j ≠ i ∧ W.cells[j]? = some (some q) := fun j q h => by
      by_cases e : i = j
      · subst e
        by_cases hl : i < W.cells.length
        · rw [List.getElem?_set_self hl] at h; cases h
        · rw [List.getElem?_eq_none (by simpa using hl)] at h; cases h
      · rw [List.getElem?_set_ne e] at h
        exact ⟨fun z => e z.symm, h⟩
    have x0 : Ext G W H ⟨W.cells.set i none, W.av, W.hc⟩ H := ⟨fun _ _ h _ _ => h, fun _ h => h, by simp, fun j q _ h => (at_ j q h).2, fun q ⟨j, h⟩ => .inl ⟨j, (at_ j q h).2⟩, fun _ h => .inl h, fun _ h => h, rfl⟩
    have R' : Rel G ⟨W.cells.set i none, W.av, W.hc⟩ (st.set i none) b H := by
      refine ⟨by simp [R.len], fun j k q h1 h2 => R.inj j k q (at_ j q h1).2 (at_ k q h2).2, fun j c h => ?_, fun j h => ?_, R.spr, ⟨fun ⟨j, h⟩ => R.nosp.1 ⟨j, (at_ j _ h).2⟩, fun ⟨j, h⟩ => R.nosp.2 ⟨j, (at_ j _ h).2⟩⟩, R.avt, fun q ⟨j, h⟩ => R.avl q ⟨j, (at_ j q h).2⟩, R.tabs⟩
      · by_cases e : i = j
        · subst e
          by_cases hl : i < st.length
          · rw [List.getElem?_set_self hl] at h; cases h
          · rw [List.getElem?_eq_none (by simpa using hl)] at h; cases h
        · rw [List.getElem?_set_ne e] at h
          obtain ⟨q, h1, h2⟩ := R.cell j c h
          exact ⟨q, by show (W.cells.set i none)[j]? = _; rw [List.getElem?_set_ne e]; exact h1, h2.keeps x0 rfl⟩
      · show (W.cells.set i none)[j]? = some none
        by_cases e : i = j
        · subst e
          have hl : i < st.length := by have := (List.getElem?_eq_some_iff.mp h).1; simpa using this
          rw [List.getElem?_set_self (by rw [R.len]; exact hl)]
        · rw [List.getElem?_set_ne e] at h ⊢
          exact R.dead j h
    refine ⟨_, x0, R', ?_⟩
    unfold snap at es
    dsimp only at es
    have main : ∀ c, geti st i = some c → ∃ p, CellR G W H p c ∧ v = .ref p ∧ ¬ Av G ⟨W.cells.set i none, W.av, W.hc⟩ p := fun c z => by
      obtain ⟨p, h1, h2⟩ := R.cell i c (geti_some z)
      refine ⟨p, h2, r.2 p h1, fun m => ?_⟩
      obtain ⟨n1, n2⟩ := spr_ne R ⟨i, h1⟩
      rcases m with (⟨j, m⟩ | m | m) | m
      · obtain ⟨e1, e2⟩ := at_ j p m
        exact e1 (R.inj j i p e2 h1)
      · exact n1 m
      · exact n2 m
      · exact R.avl p ⟨i, h1⟩ m
    split at es
    · rename_i xs ez
      obtain ⟨ds, ed, rfl⟩ := Option.map_eq_some_iff.mp es
      obtain ⟨p, ⟨us, k2, k3⟩, rfl, k4⟩ := main _ ez
      have ea := dats_mem ed
      subst ea
      unfold VlR VR
      exact ⟨p, us, rfl, k2, k4, VRs.ext0 x0.ext0 (VlRs_d k3)⟩
    · rename_i ks us ez
      obtain ⟨ds, ed, rfl⟩ := Option.map_eq_some_iff.mp es
      obtain ⟨p, ⟨kvs, k2, k3, k5⟩, rfl, k4⟩ := main _ ez
      have ea := dats_mem ed
      subst ea
      unfold VlR VR
      exact ⟨p, kvs, rfl, k2, k4, k3, VRs.ext0 x0.ext0 (VlRs_d k5)⟩
    · rename_i c us ez
      obtain ⟨p, k2, _⟩ := main _ ez
      exact k2.elim
    · cases es
theorem pe_frzE {e : Expr} {ra run : Env → Store → E Vl} (he : PE X e (tE cs G Wx ra)) (hr : ∀ e st, run e st = bnd (ra e st) fun x st => match frzV st x with
      | some (x, st) => ret (.d x) st
      | none => .err) : PE X e (tE cs G Wx run) := by
  refine PE.imp he fun σ H Q ⟨W, en, st, b, R, V, g⟩ => ?_
  rw [hr, EG_bnd] at g
  refine ⟨W, en, st, b, R, V, g.mono (fun a s b g W1 H1 v x1 R1 r1 => ?_) fun _ _ _ _ q => q⟩
  cases ef : frzV s a with
  | none => rw [ef] at g; exact g.elim
  | some p =>
    obtain ⟨x, s'⟩ := p
    rw [ef] at g
    obtain ⟨W', x', R', r'⟩ := frz_read R1 r1 ef
    exact g W' H1 v (x1.trans x') R' r'
end
end EV

end
section
set_option Elab.async false
set_option linter.all false
set_option maxRecDepth 100000
set_option maxHeartbeats 4000000
/-! EV 17: calls. -/
namespace EV
open PySem PySem.Spec PyProof.Rows L2
open LamX (Tabs TabS CodeO)
/-- a def's promise: run tells all -/
def spF (cs : List ErrC) (G : Gd) (np : Nat) (run : List Vl → Store → E Vl) : Sp := fun vs H Q E => vs.length = np ∧ ∃ W st b as, Rel G W st b H ∧ VlRs G W H as vs ∧ EG (KV' G W H Q) (KX cs G (fun cls d _ H => E cls d H) W H []) (run as st) b
section
variable {cs : List ErrC} {G : Gd} {Wx : WX} {X : Cx}
/-- a callee's world, when only data is handed -/
def Wd.callee (W : Wd) : Wd := ⟨[], fun a => W.live a ∨ W.av a, fun _ => none⟩
theorem callee_av {W : Wd} {a : Addr} : Av G W.callee a ↔ Av G W a := by
  constructor
  · rintro ((⟨i, h⟩ | m) | m | m)
    · have h' : ([] : List (Option Addr))[i]? = some (some a) := h
      simp at h'
    · exact .inl (.inr m)
    · exact .inl (.inl m)
    · exact .inr m
  · rintro ((m | m) | m)
    · exact .inr (.inl m)
    · exact .inl (.inr m)
    · exact .inr (.inr m)
theorem callee_live {W : Wd} {a : Addr} : ¬ W.callee.live a := fun ⟨i, h⟩ => by
  have h' : ([] : List (Option Addr))[i]? = some (some a) := h
  simp at h'
theorem callee_mv {W : Wd} {a : Addr} (m : Mv G W.callee a) : a = G.sp ∨ a = G.sc := by
  rcases m with m | m
  · exact absurd m callee_live
  · exact m
theorem callee_rel {W : Wd} {st : Store} {b : Nat} {H : Hp} (R : Rel G W st b H) : Rel G W.callee [] b H := by
  refine ⟨rfl, fun i j a h => absurd ⟨i, h⟩ callee_live, fun i c h => by simp at h, fun i h => by simp at h, R.spr, ⟨callee_live, callee_live⟩, fun a h => ?_, fun a l => absurd l callee_live, R.tabs⟩
  rcases h with h | h
  · exact R.av_nn (.inl (.inl h))
  · exact R.avt a h
theorem callee_args {W : Wd} {H : Hp} {ds : List D} {us : List V} (h : VlRs G W H (ds.map .d) us) : VlRs G W.callee H (ds.map .d) us :=
  VlRs_of (VRs.ext0 (.less fun a m => callee_av.mp m) (VlRs_d h))
/-- back from a callee that had only data -/
theorem callee_back {W W2 : Wd} {st s2 : Store} {b b2 : Nat} {H H2 : Hp} (R : Rel G W st b H) (x : Ext G W.callee H W2 H2) (R2 : Rel G W2 s2 b2 H2) : Ext G W H W H2 ∧ Rel G W st b2 H2 := by
  have q := aside (k := 0) (hx := fun _ => none) (av := W.av) R (fun a => callee_mv) (fun a h => .inr h) x R2 (fun a h => .inl h) (fun a h => h) fun a h n => R.avt a h (x.there a n)
  simpa using q
theorem back_av {W W2 : Wd} {H H2 : Hp} (x : Ext G W.callee H W2 H2) {a : Addr} (m : Av G W a) : Av G W2 a := by
  rcases m with (m | m) | m
  · exact .inr (x.avm a (.inl m))
  · exact .inl (.inr m)
  · exact .inr (x.avm a (.inr m))
theorem back_err {W W2 : Wd} {H H2 : Hp} {c : Nat} {fs : List D} {cls : Value} {d : Option Addr} (x : Ext G W.callee H W2 H2) (h : ErrR cs G W2 H2 c fs cls d) : ErrR cs G W H2 c fs cls d := by
  obtain ⟨ec, vs, dd, h1, h2, h3, h4, h5, h6, h7⟩ := h
  exact ⟨ec, vs, dd, h1, h2, h3, h4, h5, VRs.ext0 (.less fun a m => back_av x m) h6, fun m => h7 (back_av x m)⟩
/-- what a snap lies at -/
theorem snap_at {W : Wd} {st : Store} {b : Nat} {H : Hp} (R : Rel G W st b H) {i : Nat} {v : V} (r : VlR G W H (.ref i) v) {x : D} (h : snap st (.ref i) = some x) :
    ∃ p, v = .ref p ∧ W.live p ∧ ((∃ ds us, x = .lst ds ∧ H p = some (.lst us) ∧ VRs G (Av G W) H ds us) ∨ ∃ ks ds kvs, x = .dct ks ds ∧ H p = some (.dK kvs) ∧ KeysOk ks kvs ∧ VRs G (Av G W) H ds (kvs.map (·.2))) := by
  unfold snap at h
  dsimp only at h
  have main : ∀ c, geti st i = some c → ∃ p, W.live p ∧ CellR G W H p c ∧ v = .ref p := fun c z => by
    obtain ⟨p, h1, h2⟩ := R.cell i c (geti_some z)
    exact ⟨p, ⟨i, h1⟩, h2, r.2 p h1⟩
  split at h
  · rename_i xs ez
    obtain ⟨ds, ed, rfl⟩ := Option.map_eq_some_iff.mp h
    obtain ⟨p, l, ⟨us, k2, k3⟩, rfl⟩ := main _ ez
    have ea := dats_mem ed
    subst ea
    exact ⟨p, rfl, l, .inl ⟨ds, us, rfl, k2, VlRs_d k3⟩⟩
  · rename_i ks us ez
    obtain ⟨ds, ed, rfl⟩ := Option.map_eq_some_iff.mp h
    obtain ⟨p, l, ⟨kvs, k2, k3, k5⟩, rfl⟩ := main _ ez
    have ea := dats_mem ed
    subst ea
    exact ⟨p, rfl, l, .inr ⟨ks, ds, kvs, rfl, k2, k3, VlRs_d k5⟩⟩
  · rename_i c us ez
    obtain ⟨p, l, k2, _⟩ := main _ ez
    exact k2.elim
  · cases h
/-- a callee's own list or dict is data to the caller -/
theorem back_val {W W2 : Wd} {s2 : Store} {b2 : Nat} {H H2 : Hp} (x : Ext G W.callee H W2 H2) (R2 : Rel G W2 s2 b2 H2) {a : Vl} {u : V} (r : VlR G W2 H2 a u) {d : D} (h : snap s2 a = some d) : VlR G W H2 (.d d) u := by
  cases a with
  | d y => cases h; exact VR.ext0 (.less fun a m => back_av x m) r
  | thk => cases h
  | its _ => cases h
  | exn _ _ => cases h
  | h _ => cases h
  | hr _ _ => cases h
  | ref i =>
    obtain ⟨p, rfl, l, q⟩ := snap_at R2 r h
    have np : ¬ Av G W p := fun m => by
      obtain ⟨n1, n2⟩ := spr_ne R2 l
      rcases m with (m | m | m) | m
      · exact R2.avl p l (x.avm p (.inl m))
      · exact n1 m
      · exact n2 m
      · exact R2.avl p l (x.avm p (.inr m))
    rcases q with ⟨ds, us, rfl, k1, k2⟩ | ⟨ks, ds, kvs, rfl, k1, k2, k3⟩
    · unfold VlR VR
      exact ⟨p, us, rfl, k1, np, VRs.ext0 (.less fun a m => back_av x m) k2⟩
    · unfold VlR VR
      exact ⟨p, kvs, rfl, k1, np, k2, VRs.ext0 (.less fun a m => back_av x m) k3⟩
/-- .. or the caller's own -/
theorem back_adopt {W W2 : Wd} {st s2 : Store} {b b2 : Nat} {H H2 : Hp} (R : Rel G W st b H) (x : Ext G W.callee H W2 H2) (R2 : Rel G W2 s2 b2 H2) {i : Nat} {u : V} (r : VlR G W2 H2 (.ref i) u) {d : D} (h : snap s2 (.ref i) = some d) {c : Cell}
    (hc : match d with
      | .lst xs => c = .lst (xs.map .d)
      | .dct ks vs => c = .dct ks (vs.map .d)
      | _ => False) :
    ∃ W3, Ext G W H W3 H2 ∧ Rel G W3 (st ++ [some c]) b2 H2 ∧ VlR G W3 H2 (.ref st.length) u := by
  obtain ⟨p, rfl, l, q⟩ := snap_at R2 r h
  have hp : Nn H p := by
    rcases x.fresh p l with z | z
    · exact absurd z callee_live
    · exact z
  obtain ⟨x1, R1⟩ := callee_back R x R2
  obtain ⟨n1, n2⟩ := spr_ne R2 l
  have nav : ¬ W.av p := fun m => R2.avl p l (x.avm p (.inr m))
  have nlv : ¬ W.live p := fun m => R2.avl p l (x.avm p (.inl m))
  -- p kept away, then taken
  have x2 : Ext G W H (W.plus p) H2 := ⟨x1.keep, x1.there, x1.grow, x1.back, fun q h => x1.fresh q ((live_iff rfl).mp h), fun q h => by
    rcases h with h | h
    · exact .inl h
    · exact .inr (by rw [h]; exact hp), fun q h => .inl h, rfl⟩
  have hav : ∀ a, Av G (W.plus p) a → Av G W2 a := fun a m => by
    rcases m with m | m | m
    · exact back_av x (.inl ((mv_iff rfl).mp m))
    · exact back_av x (.inr m)
    · exact .inl (.inl (m ▸ l))
  have R3 : Rel G (W.plus p) st b2 H2 := by
    refine ⟨R1.len, R1.inj, fun j c h => ?_, R1.dead, R1.spr, R1.nosp, fun a h => ?_, fun a la h => ?_, R1.tabs⟩
    · obtain ⟨a, h1, h2⟩ := R.cell j c h
      refine ⟨a, h1, h2.keeps x2 ?_⟩
      obtain ⟨o, ho, nt⟩ := live_obj R ⟨j, h1⟩
      rw [ho]
      refine x.keep a o ho nt fun m => ?_
      obtain ⟨n1, n2⟩ := spr_ne R ⟨j, h1⟩
      rcases callee_mv m with m | m
      · exact n1 m
      · exact n2 m
    · rcases h with h | h
      · exact R1.avt a h
      · rw [h]; exact R2.av_nn (.inl (.inl l))
    · rcases h with h | h
      · exact R1.avl a la h
      · exact nlv (h ▸ la)
  rcases q with ⟨ds, us, rfl, k1, k2⟩ | ⟨ks, ds, kvs, rfl, k1, k2, k3⟩
  · subst hc
    obtain ⟨y1, y2, y3⟩ := adopt (c := .lst (ds.map .d)) hp x2 R3 (.inr rfl) nav (fun e => n1 e.symm) (fun e => n2 e.symm) fun W4 eh x0 hc hb => ⟨us, k1, VlRs_of (VRs.ext0 x0 (VRs.ext0 (.less hav) k2))⟩
    exact ⟨_, y1, y2, y3⟩
  · subst hc
    obtain ⟨y1, y2, y3⟩ := adopt (c := .dct ks (ds.map .d)) hp x2 R3 (.inr rfl) nav (fun e => n1 e.symm) (fun e => n2 e.symm) fun W4 eh x0 hc hb => ⟨kvs, k1, k2, VlRs_of (VRs.ext0 x0 (VRs.ext0 (.less hav) k3))⟩
    exact ⟨_, y1, y2, y3⟩
/-- what is known of a call's arguments and of what fills up -/
structure Fills (cs : List ErrC) (G : Gd) (F : Cfg) (f n np : Nat) (dd : List D) (dvs : List V) : Prop where
  len : n + dd.length = np
  rel : ∀ W H, VlRs G W H (dd.map .d) dvs
  same : ∀ as st, as.length = n → F.call f as st = F.call f (as ++ dd.map .d) st
theorem sp_call {F : Cfg} {m : Md} {f n np : Nat} {dd : List D} {dvs : List V} (fl : Fills cs G F f n np dd dvs) {W : Wd} {H : Hp} {σ : L2.St} {Q : VK} {vs : List Vl} {us : List V} {s : Store} {b : Nat} (hl : vs.length = n) (R : Rel G W s b H) (r : VlRs G W H vs us)
    (g : EG (KV' G W H Q) (KX cs G Wx W H σ) (callE F m f vs s) b) : spF cs G np (F.call f) (us ++ dvs) H Q (WE Wx σ) := by
  refine ⟨by rw [List.length_append, ← paired_len r, hl, ← paired_len (fl.rel W H), List.length_map]; exact fl.len, ?_⟩
  cases m with
  | shared =>
    unfold callE at g
    rw [fl.same vs s hl] at g
    exact ⟨W, s, b, _, R, VlRs.app r (fl.rel W H), g.mono (fun _ _ _ q => q) fun _ _ _ _ q W' H' cls d x R' k => q W' H' cls d x R' k⟩
  | frz =>
    unfold callE at g
    dsimp only at g
    cases ed : dats vs with
    | none => rw [ed] at g; exact g.elim
    | some ds =>
      rw [ed] at g
      have ev := dats_mem ed
      subst ev
      dsimp only at g
      unfold EG at g
      rw [good_bind, fl.same _ [] hl] at g
      refine ⟨W.callee, [], b, _, callee_rel R, VlRs.app (callee_args r) (fl.rel _ H), good_mono (fun o b2 q => ?_) g⟩
      cases o with
      | v a s2 =>
        intro W2 H2 u x R2 r2
        obtain ⟨o, eo, q⟩ := EG_lift.mp q
        obtain ⟨d, es, rfl⟩ := Option.map_eq_some_iff.mp eo
        obtain ⟨x1, R1⟩ := callee_back R x R2
        exact q W H2 u x1 R1 (back_val x R2 r2 es)
      | x c fs s2 =>
        intro W2 H2 cls d x R2 k
        obtain ⟨x1, R1⟩ := callee_back R x R2
        exact q W H2 cls d x1 R1 (back_err x k)
  | adopt =>
    unfold callE at g
    dsimp only at g
    cases ed : dats vs with
    | none => rw [ed] at g; exact g.elim
    | some ds =>
      rw [ed] at g
      have ev := dats_mem ed
      subst ev
      dsimp only at g
      unfold EG at g
      rw [good_bind, fl.same _ [] hl] at g
      refine ⟨W.callee, [], b, _, callee_rel R, VlRs.app (callee_args r) (fl.rel _ H), good_mono (fun o b2 q => ?_) g⟩
      cases o with
      | v a s2 =>
        intro W2 H2 u x R2 r2
        cases a <;> (try (exact False.elim q))
        rename_i i
        dsimp only at q
        split at q
        · rename_i xs es
          obtain ⟨W3, y1, y2, y3⟩ := back_adopt R x R2 r2 es (c := .lst (xs.map .d)) rfl
          exact q W3 H2 u y1 y2 y3
        · rename_i ks vs es
          obtain ⟨W3, y1, y2, y3⟩ := back_adopt R x R2 r2 es (c := .dct ks (vs.map .d)) rfl
          exact q W3 H2 u y1 y2 y3
        · exact False.elim q
      | x c fs s2 =>
        intro W2 H2 cls d x R2 k
        obtain ⟨x1, R1⟩ := callee_back R x R2
        exact q W H2 cls d x1 R1 (back_err x k)
theorem pe_callE {x : Str} {p pos : Pos} {e : Expr} {es : List Expr} {F : Cfg} {m : Md} {f n np k : Nat} {fa : Addr} {fd : FuncData} {ps : List Str} {ds : List Value} {dd : List D} {dvs : List V} {rs run : Env → Store → E Vl} (tk : Takes X Wx)
    (Fn : FnOk X.prog X.w X.K X.mg X.base (L2.CX X.prog X.w) k fa fd ps (spF cs G np (F.call f))) (room : Room k X.A) (hg : Gl X x) (hm : X.mg x = some (.ref fa)) (hk : PySem.W.keepIn X.K (.ref fa) = true) (hb : Binds X.K fd ps ds) (hd : Vals dvs ds) (fl : Fills cs G F f n np dd dvs)
    (hs : PA X (e :: es) (tA cs G Wx rs)) (hst : notStar e = true) (hpl : (backTo pos (starEach es X.env)).any (·.1) = false) (hdb : (x == ("__debug__" : Str)) = false)
    (hr : ∀ e st, run e st = bnd (rs e st) fun vs st => match vs with
      | .its vs => if vs.length = n then callE F m f vs st else .err
      | _ => .err) : PE X (.Call (.Name x p) (e :: es) [] pos) (tE cs G Wx run) := by
  refine PE.imp (pe_callSD Fn room hg hm hk hb hd (fun σ => passAt tk σ) hs hdb (star_cons hst) hpl) fun σ H Q ⟨W, en, st, b, R, V, g⟩ => ?_
  rw [hr, EG_bnd] at g
  refine ⟨W, en, st, b, R, V, g.mono (fun a s b g => ?_) fun _ _ _ _ q => q⟩
  cases a <;> first
    | exact g.elim
    | skip
  rename_i vs
  dsimp only at g
  split at g
  · rename_i hl
    refine ⟨vs, rfl, fun W1 H1 us x1 R1 r1 => sp_call (m := m) fl hl R1 r1 (g.mono (fun a s b q W' H' v x' => q W' H' v (x1.trans x')) fun c fs s b q W' H' cls d x' => q W' H' cls d (x1.trans x'))⟩
  · exact g.elim
end
end EV

end
section
set_option Elab.async false
set_option linter.all false
set_option maxRecDepth 100000
set_option maxHeartbeats 4000000
/-! EV 18: several except clauses with a name each. -/
namespace EV
open PySem PySem.Spec PyProof.Rows L2
open LamX (Tabs TabS CodeO)
/-- behind a clause with a name -/
def goneD (i : Nat) (Dn : Ends) : Ends := { nx := fun σ' H' => Dn.nx (σ'.set i none) H', rt := Dn.rt, bk := fun σ' H' => Dn.bk (σ'.set i none) H', ct := fun σ' H' => Dn.ct (σ'.set i none) H' }
abbrev Clause := Value × Bool × (Addr → Value → Option Addr → TS)
def wManyA (K : PySem.W.Frag) (Wout : WX) (i : Nat) (Dn : Ends) : List Clause → WX
  | [] => Wout
  | (c, true, ts) :: r => fun cls d σ H => ∃ b, PySem.W.exmOne K cls c = some b ∧ (b = true → ∀ a, H a = none → ts a cls d (goneD i Dn) (σ.set i (some (.ref a))) H) ∧ (b = false → wManyA K Wout i Dn r cls d σ H)
  | (c, false, ts) :: r => fun cls d σ H => ∃ b, PySem.W.exmOne K cls c = some b ∧ (b = true → ∀ a, H a = none → ts a cls d Dn σ H) ∧ (b = false → wManyA K Wout i Dn r cls d σ H)
inductive HdsA (X : Cx) (n : Str) : List ExceptHandler → List Clause → Prop
  | nil : HdsA X n [] []
  | as {x : Str} {c : Value} {ts : Addr → Value → Option Addr → TS} {b₀ : Stmt} {suite : List Stmt} {np pos' : Pos} {hds : List ExceptHandler} {l : List Clause} (hc : Names X x c)
      (hsu : ∀ (a : Addr) (oe : Obj) (cls : Value) (d : Option Addr) (pn : List (Addr × Obj)), Zc cls d oe → (∃ vs, oe.data = .fields vs) → PSs (X.suite a ((a, oe) :: pn)) (b₀ :: suite) (ts a cls d)) (r : HdsA X n hds l) :
      HdsA X n (.ExceptHandler (some (.Name x np)) (some n) (b₀ :: suite) pos' :: hds) ((c, true, ts) :: l)
  | un {x : Str} {c : Value} {ts : Addr → Value → Option Addr → TS} {b₀ : Stmt} {suite : List Stmt} {np pos' : Pos} {hds : List ExceptHandler} {l : List Clause} (hc : Names X x c)
      (hsu : ∀ (a : Addr) (oe : Obj) (cls : Value) (d : Option Addr) (pn : List (Addr × Obj)), Zc cls d oe → (∃ vs, oe.data = .fields vs) → PSs (X.suite a ((a, oe) :: pn)) (b₀ :: suite) (ts a cls d)) (r : HdsA X n hds l) :
      HdsA X n (.ExceptHandler (some (.Name x np)) none (b₀ :: suite) pos' :: hds) ((c, false, ts) :: l)
section
variable {X : Cx} {body : List Stmt} {h₀ : ExceptHandler} {hds : List ExceptHandler} {l : List Clause} {pos : Pos} {tb : WX → TS} {Wout : WX} {i : Nat} {n : Str}
theorem ps_try_manyA (hs : X.stack = X.env :: X.outer) (hf : X.env.frame = some X.env.locals) (hN : X.N.Nodup) (hi : X.N[i]? = some n) (hln : X.env.kindOf n = some .local) (tk : Takes X Wout)
    (hb : ∀ (W : WX) (pn : List (Addr × Obj)) (xe : Value → Shared → Prop), Takes (X.tr pn xe) W → PassesOwn (model X.prog X.w) X.A X.env xe → PSs (X.tr pn xe) body (tb W))
    (hh : HdsA X n (h₀ :: hds) l) : PS X (.Try body (h₀ :: hds) [] [] pos) (fun D σ H => tb (wManyA X.K Wout i D l) D σ H) := by
  refine ⟨fun pins s σ H D I h => ?_⟩
  have ok := I.ok
  have hfr : X.A.frames = some (X.env :: X.outer) := by rw [ok.frames, hs]
  have hloc : Loc X.env.scope n := .inl hln
  refine wpAny_Try_except ?_
  refine wpAny_mono ((hb (wManyA X.K Wout i D l) (X.pn ++ pins) (fun e s₁ => wpAny (model X.prog X.w) X.A (noteFrame e X.env) (fun _ s₂ => wpAny (model X.prog X.w) X.A (setFlight e none) (fun _ s₃ =>
    wpAny (model X.prog X.w) X.A (handleBy e X.env (h₀ :: hds)) (SP X pins D) X.xe s₃) X.xe s₂) X.xe s₁) (fun u s' xx => ?_) PassesOwn.looking).run [] s σ H D (I.toTry _) h) (fun f s1 hsp => ?_) (fun e s1 he => he)
  · -- the catch
    obtain ⟨a, B, sI, pins', σ', H', cls, d, rfl, J', nb, up, sky, na, os, ag, w⟩ := xx
    have J : Inv X pins σ' H' sI := J'.ofTry ok
    have sky' : Sky B (X.env :: X.outer) a (Zc cls d) X.env.locals s'.heap := by rw [← hs]; exact sky
    show wpAny (model X.prog X.w) X.A (noteFrame (.ref a) X.env) _ _ _
    refine Sky.land Zc.steady hfr hf sky' fun h3 fl3 up3 => ?_
    have J3 : Inv X pins σ' H' { s' with heap := h3 } := J.landed nb fl3.1 (up.trans up3) os ag
    obtain ⟨oe3, vs3, he3, hz3, hd3⟩ := fl3.there
    have notFr : ∀ {h : Heap} {o : Obj} {vs : Array Value}, h.FunFrames B (X.env :: X.outer) → h.get? a = some o → o.data = .fields vs → a ∉ frs (X.env :: X.outer) := fun {h o vs} ff e dd hm => by
      obtain ⟨_, o', e', hnf⟩ := ff.mem hm
      rw [e] at e'; cases e'
      exact hnf _ dd
    have nfr := notFr fl3.2.2.1 he3 hd3
    have nL : a ≠ X.env.locals := fun z => nfr (List.mem_filterMap.mpr ⟨X.env, List.mem_cons_self, by rw [hf, z]⟩)
    have nF : a ∉ X.fs := fun hm => by
      obtain ⟨e, he, q⟩ := List.mem_filterMap.mp hm
      exact nfr (List.mem_filterMap.mpr ⟨e, List.mem_cons_of_mem _ he, q⟩)
    have S3 := J3.suite he3 hd3 na nL nF
    have LT : PySem.W.Looks (model X.prog X.w) h3 (typeOf (.ref a)) cls := fun A Q E s k q => wpAny_typeOf_ref (k _ _ he3) (by rw [hz3.1]; exact q)
    have test : ∀ {x : Str} {c : Value} {np : Pos} {Q : Value → Shared → Prop} {E : Value → Shared → Prop}, Names X x c → Q c { s' with heap := h3 } → wpAny (model X.prog X.w) (X.A.mark (some (.ref a))) (eval (.Name x np) X.env) Q E { s' with heap := h3 } := fun {x c np Q E} hc q => by
      obtain ⟨hg, hdbg, hm | ⟨hm, hv, hnn⟩⟩ := hc
      · exact ld_glob (X := X.suite a ((a, oe3) :: (X.pn ++ pins))) S3 hg hm q hdbg
      · exact ld_blt (X := X.suite a ((a, oe3) :: (X.pn ++ pins))) S3 hg hm hv q hnn hdbg
    have go : ∀ {hds' : List ExceptHandler} {l' : List Clause}, HdsA X n hds' l' → wManyA X.K Wout i D l' cls d σ' H' →
        wpAny (model X.prog X.w) X.A (handleBy (.ref a) X.env hds') (SP X pins D) X.xe { s' with heap := h3 } := by
      intro hds' l' hk
      induction hk with
      | nil =>
        intro w
        refine wpAny_handleBy_nil ?_
        obtain ⟨k1, k2, k3, oe, vs, T, oT, ts', he, hz, hd, h1, hr⟩ := id fl3
        unfold PySem.passOn
        refine wpAny_bind (wpAny_field he hd h1 ?_)
        rw [if_neg (show ¬ ((Value.ref T == Value.none) = true) from by simp)]
        have fin : wpAny (model X.prog X.w) X.A (setFlight (.ref a) X.env.frame) (fun _ s4 => wpAny (model X.prog X.w) X.A (throw (.ref a) : Sem Flow) (SP X pins D) X.xe s4) X.xe { s' with heap := h3 } := by
          rw [hf]
          refine HandSPX.setFlight_upZ fl3 fun h4 hh4 up4 => wpAny_throw (tk _ _ ?_)
          exact ⟨a, B, sI, pins, σ', H', cls, d, rfl, J, nb, (up.trans up3).trans up4, .inr (.inr (by rw [hs]; exact hh4)), na, os, ag, w⟩
        first
          | exact wpAny_bind (wpAny_pure (wpAny_bind fin))
          | exact wpAny_bind fin
      | @as x c ts b₀ suite np pos' hds2 l2 hc hsu r ih =>
        intro w
        obtain ⟨b, hb1, hyes, hno⟩ := w
        refine wpAny_handleBy_cons (codeAny_handlers_test ?_) (by intro q; cases q)
        have LM := PySem.W.exm_one (M := model X.prog X.w) (J3.kIn) LT hb1
        refine test hc (LM.here ?_)
        cases b with
        | true =>
          refine codeAny_handlers_suite_as ?_
          refine HandSPX.lands_againZ fl3 fun h4 fl4 up4 => ?_
          have J4 : Inv X pins σ' H' { s' with heap := h4 } := J.landed nb fl4.1 ((up.trans up3).trans up4) os ag
          obtain ⟨oe4, vs4, he4, hz4, hd4⟩ := fl4.there
          have S4 := J4.suite he4 hd4 na nL nF
          refine store_ok (X := X.suite a ((a, oe4) :: (X.pn ++ pins))) (v := .ref a) S4 hN hi hloc rfl (fun s5 S5 => ?_) (.inr hln)
          refine wpAny_mono ((hsu a oe4 cls d (X.pn ++ pins) hz4 ⟨_, hd4⟩).run [] s5 _ H' _ S5 (hyes rfl a na)) (fun f s6 hsp => ?_) (fun _ _ z => False.elim z)
          have end_ : ∀ {σ6 : L2.St} {H6 : Hp} {Q : Shared → Prop}, Inv (X.suite a ((a, oe4) :: (X.pn ++ pins))) [] σ6 H6 s6 → (∀ s7, Inv X pins (σ6.set i none) H6 s7 → Q s7) →
              wpAny (model X.prog X.w) X.A (do bindName X.env n .none; unbindBehindTheSuite X.env n pos') (fun _ s7 => Q s7) X.xe s6 := fun {σ6 H6 Q} S6 hq => gone_ok (S6.unsuite ok) hN hi hln hq
          cases f with
          | next =>
            obtain ⟨σ6, H6, S6, q6⟩ := hsp
            exact end_ S6 fun s7 J7 => ⟨_, _, J7, q6⟩
          | brk =>
            obtain ⟨σ6, H6, S6, q6⟩ := hsp
            exact end_ S6 fun s7 J7 => ⟨_, _, J7, q6⟩
          | cont =>
            obtain ⟨σ6, H6, S6, q6⟩ := hsp
            exact end_ S6 fun s7 J7 => ⟨_, _, J7, q6⟩
          | ret u =>
            obtain ⟨v6, σ6, H6, S6, r6, q6⟩ := hsp
            exact end_ S6 fun s7 J7 => ⟨_, _, _, J7, r6, q6⟩
        | false =>
          show wpAny _ X.A (handleBy (.ref a) X.env hds2) _ _ _
          exact ih (hno rfl)
      | @un x c ts b₀ suite np pos' hds2 l2 hc hsu r ih =>
        intro w
        obtain ⟨b, hb1, hyes, hno⟩ := w
        refine wpAny_handleBy_cons (codeAny_handlers_test ?_) (by intro q; cases q)
        have LM := PySem.W.exm_one (M := model X.prog X.w) (J3.kIn) LT hb1
        refine test hc (LM.here ?_)
        cases b with
        | true =>
          refine codeAny_handlers_suite ?_
          refine HandSPX.lands_againZ fl3 fun h4 fl4 up4 => ?_
          have J4 : Inv X pins σ' H' { s' with heap := h4 } := J.landed nb fl4.1 ((up.trans up3).trans up4) os ag
          obtain ⟨oe4, vs4, he4, hz4, hd4⟩ := fl4.there
          have S4 := J4.suite he4 hd4 na nL nF
          refine wpAny_mono ((hsu a oe4 cls d (X.pn ++ pins) hz4 ⟨_, hd4⟩).run [] _ _ H' _ S4 (hyes rfl a na)) (fun f s6 hsp => ?_) (fun _ _ z => False.elim z)
          cases f with
          | next =>
            obtain ⟨σ6, H6, S6, q6⟩ := hsp
            exact ⟨_, _, S6.unsuite ok, q6⟩
          | brk =>
            obtain ⟨σ6, H6, S6, q6⟩ := hsp
            exact ⟨_, _, S6.unsuite ok, q6⟩
          | cont =>
            obtain ⟨σ6, H6, S6, q6⟩ := hsp
            exact ⟨_, _, S6.unsuite ok, q6⟩
          | ret u =>
            obtain ⟨v6, σ6, H6, S6, r6, q6⟩ := hsp
            exact ⟨_, _, _, S6.unsuite ok, r6, q6⟩
        | false =>
          show wpAny _ X.A (handleBy (.ref a) X.env hds2) _ _ _
          exact ih (hno rfl)
    exact go hh w
  · cases f with
    | next =>
      obtain ⟨σ', H', J', q⟩ := hsp
      exact wpAny_execs_nil ⟨σ', H', J'.ofTry ok, q⟩
    | brk =>
      obtain ⟨σ', H', J', q⟩ := hsp
      exact ⟨σ', H', J'.ofTry ok, q⟩
    | cont =>
      obtain ⟨σ', H', J', q⟩ := hsp
      exact ⟨σ', H', J'.ofTry ok, q⟩
    | ret u =>
      obtain ⟨v, σ', H', J', r, q⟩ := hsp
      exact ⟨v, σ', H', J'.ofTry ok, r, q⟩
end
end EV

end
section
set_option Elab.async false
set_option linter.all false
set_option maxRecDepth 100000
set_option maxHeartbeats 4000000
/-! EV 19: the def that asks and tells how it was met. -/
namespace EV
open PySem PySem.Spec PyProof.Rows L2
open LamX (Tabs TabS CodeO ExtN)
def toldS : List Nat := [116, 111, 108, 100]
/-! ### the text -/
def chkAttrs (n : Str) : List Str → List Expr → Bool
  | [], [] => true
  | f :: fs, .Attribute (.Name x _) f' _ :: es => x == n && f' == f && chkAttrs n fs es
  | _, _ => false
def chkHd (cs : List ErrC) (sc : Scope) (n : Str) : ExceptHandler → Nat × List Nat × List Nat → Bool
  | .ExceptHandler (some (.Name x _)) (some n') [.Return (some (.Tuple (.Constant (.str s) _ _ :: es) _ _)) _] _, (c, tag, is) => match cs[c]? with
    | some ec => x == ec.name && sc.names.lookup x == some .globalImplicit && n' == n && s.cps.toList == tag && !is.isEmpty && match is.mapM fun i => ec.fields[i]? with
      | some l => chkAttrs n l es
      | none => false
    | none => false
  | .ExceptHandler (some (.Name x _)) none [.Return (some (.Tuple [.Constant (.str s) _ _, .Constant .none _ _] _ _)) _] _, (c, tag, is) => match cs[c]? with
    | some ec => x == ec.name && sc.names.lookup x == some .globalImplicit && s.cps.toList == tag && is.isEmpty
    | none => false
  | _, _ => false
def chkHds (cs : List ErrC) (sc : Scope) (n : Str) : List ExceptHandler → List (Nat × List Nat × List Nat) → Bool
  | [], [] => true
  | h :: r, t :: ts => chkHd cs sc n h t && chkHds cs sc n r ts
  | _, _ => false
/-- the body: try: return ('told', a()) except .. -/
def chkMet (cs : List ErrC) (sc : Scope) (a n : Str) (hs : List (Nat × List Nat × List Nat)) : List Stmt → Bool
  | [.Try [.Return (some (.Tuple [.Constant (.str s) _ _, .Call (.Name x _) [] [] _] _ _)) _] (h :: hds) [] [] _] => s.cps.toList == toldS && x == a && chkHds cs sc n (h :: hds) hs
  | _ => false
/-! ### the readings -/
section
variable {X : Cx} {cs : List ErrC} {a C : Addr} {oe : Obj} {cls : Value} {d : Option Addr} {pn : List (Addr × Obj)} {n : Str} {i : Nat}
def tAt (i : Nat) (a C : Addr) (cls : Value) (d : Option Addr) (l : List Str) : TA := fun σ H Q => σ[i]? = some (some (.ref a)) ∧ cls = .ref C ∧ ∃ dd fsV vs, d = some dd ∧ H dd = some (.xd fsV) ∧ l.mapM (fun f => fsV.lookup f) = some vs ∧ Q vs H
theorem pa_attrs (T : XfC X.K C) (hz : Zc cls d oe) (hf : ∃ vs, oe.data = .fields vs) (hi : X.N[i]? = some n) (hv : Vis X.env.scope n) (hd : (n == ("__debug__" : Str)) = false) (hcd : (n == ("__classdict__" : Str)) = false) :
    ∀ {l : List Str} {es : List Expr}, (∀ f ∈ l, PySem.W.findIn X.K (.ref C) f = some none) → chkAttrs n l es = true → PA (X.suite a ((a, oe) :: pn)) es (tAt i a C cls d l)
  | [], [], _, _ => PA.imp pa_nil fun σ H Q ⟨_, _, _, _, vs, _, _, e, q⟩ => by
    cases e; exact q
  | f :: l, [], _, h => by cases h
  | [], _ :: _, _, h => by cases h
  | f :: l, e :: es, hno, h => by
    cases e <;> try (cases h; done)
    rename_i o f' pos
    cases o <;> try (cases h; done)
    rename_i x p
    simp only [chkAttrs, Bool.and_eq_true, beq_iff_eq] at h
    obtain ⟨⟨e1, e2⟩, h⟩ := h
    have ih := pa_attrs T hz hf hi hv hd hcd (l := l) (es := es) (fun f hf => hno f (List.mem_cons_of_mem _ hf)) h
    subst e1 e2
    refine PA.imp (pa_cons (pe_xf T (hno _ List.mem_cons_self) hz hf (pe_var (X := X.suite a ((a, oe) :: pn)) (i := i) hi hv hd hcd) rfl) ih rfl) fun σ H Q ⟨h1, h2, dd, fsV, vs, h3, h4, h5, q⟩ => ?_
    rw [List.mapM_cons] at h5
    obtain ⟨v, e1, h5⟩ := Option.bind_eq_some_iff.mp h5
    obtain ⟨vs', e2, h5⟩ := Option.bind_eq_some_iff.mp h5
    cases h5
    exact ⟨.ref a, h1, rfl, h2, dd, fsV, v, h3, h4, e1, h1, h2, dd, fsV, vs', h3, h4, e2, q⟩
/-- a suite: return (tag, e.f, ..) -/
def tSuite (i : Nat) (C : Addr) (tag : Str) (l : List Str) (a : Addr) (cls : Value) (d : Option Addr) : TS := fun Dn σ H => tAt i a C cls d l σ H fun vs H1 => vs.length + 1 ≤ sizeLine ∧ ∀ p, H1 p = none → Dn.rt (.ref p) (upd H1 p (.tup (.str tag :: vs)))
def tSuite0 (tag : Str) : TS := fun Dn _ H => ∀ p, H p = none → Dn.rt (.ref p) (upd H p (.tup [.str tag, .non]))
theorem suite_ps (T : XfC X.K C) (hz : Zc cls d oe) (hf : ∃ vs, oe.data = .fields vs) (hi : X.N[i]? = some n) (hv : Vis X.env.scope n) (hd : (n == ("__debug__" : Str)) = false) (hcd : (n == ("__classdict__" : Str)) = false)
    {l : List Str} {es : List Expr} (hno : ∀ f ∈ l, PySem.W.findIn X.K (.ref C) f = some none) (h : chkAttrs n l es = true) {s : Str} {j k : Nat} {p0 p1 p2 : Pos} :
    PSs (X.suite a ((a, oe) :: pn)) [.Return (some (.Tuple (.Constant (.str s) j p0 :: es) k p1)) p2] (tSuite i C s l a cls d) :=
  PSs.imp (pss_one (ps_ret (pe_tup (pa_cons pe_str (pa_attrs T hz hf hi hv hd hcd hno h) rfl)))) fun Dn σ H ⟨h1, h2, dd, fsV, vs, h3, h4, h5, q1, q2⟩ =>
    ⟨h1, h2, dd, fsV, vs, h3, h4, h5, q1, q2⟩
theorem suite_ps0 {s : Str} {j j2 k : Nat} {p0 p1 p2 p3 : Pos} :
    PSs (X.suite a ((a, oe) :: pn)) [.Return (some (.Tuple [.Constant (.str s) j p0, .Constant .none j2 p3] k p1)) p2] (tSuite0 s) :=
  PSs.imp (pss_one (ps_ret (pe_tup (pa_cons pe_str (pa_cons pe_non pa_nil rfl) rfl)))) fun Dn σ H q => ⟨by show 2 ≤ sizeLine; decide, q⟩
end
/-! ### what holds of the error classes -/
structure ErrsOk (K : PySem.W.Frag) (mg : Str → Option Value) (cs : List ErrC) : Prop where
  xf : ∀ ec ∈ cs, XfC K ec.at'
  no : ∀ ec ∈ cs, ∀ f ∈ ec.fields, PySem.W.findIn K (.ref ec.at') f = some none
  mg : ∀ ec ∈ cs, mg ec.name = some (.ref ec.at')
  exm : ∀ (i j : Nat) e1 e2, cs[i]? = some e1 → cs[j]? = some e2 → PySem.W.exmOne K (.ref e1.at') (.ref e2.at') = some (decide (i = j))
  nd : ∀ ec ∈ cs, ec.fields.Nodup
  nm : ∀ ec ∈ cs, (ec.name == ("__debug__" : Str)) = false
/-- what the clauses make of an error -/
def wHs (K : PySem.W.Frag) (cs : List ErrC) (Q : VK) : List (Nat × List Nat × List Nat) → XK
  | [] => fun _ _ _ => False
  | (c, tag, is) :: r => fun cls d H => ∃ ec b, cs[c]? = some ec ∧ PySem.W.exmOne K cls (.ref ec.at') = some b ∧
    (b = true → if is.isEmpty then ∀ T, H T = none → Q (.ref T) (upd H T (.tup [.str (sOf tag), .non])) else
      cls = .ref ec.at' ∧ ∃ dd fsV l vs, d = some dd ∧ H dd = some (.xd fsV) ∧ is.mapM (fun i => ec.fields[i]?) = some l ∧ l.mapM (fun f => fsV.lookup f) = some vs ∧ vs.length + 1 ≤ sizeLine ∧ ∀ T, H T = none → Q (.ref T) (upd H T (.tup (.str (sOf tag) :: vs)))) ∧
    (b = false → wHs K cs Q r cls d H)
def TTmet (K : PySem.W.Frag) (cs : List ErrC) (hs : List (Nat × List Nat × List Nat)) : (XK → Hp → VK → Prop) → Hp → VK → Prop := fun tl H Q => tl (wHs K cs Q hs) H fun v H' => [V.str (sOf toldS), v].length ≤ sizeLine ∧ ∀ T, H' T = none → Q (.ref T) (upd H' T (.tup [.str (sOf toldS), v]))
theorem mapM_mem {α : Type} {L : List α} : ∀ {is : List Nat} {fl : List α}, (is.mapM fun i => L[i]?) = some fl → ∀ f ∈ fl, f ∈ L
  | [], fl, h, f, hf => by cases h; cases hf
  | i :: is, fl, h, f, hf => by
    rw [List.mapM_cons] at h
    obtain ⟨f0, e1, h⟩ := Option.bind_eq_some_iff.mp h
    obtain ⟨fl', e2, h⟩ := Option.bind_eq_some_iff.mp h
    cases h
    rcases List.mem_cons.mp hf with e | hf
    · subst e; exact List.mem_of_getElem? e1
    · exact mapM_mem e2 f hf
theorem sOf_of {s : Str} {l : List Nat} (h : s.cps.toList = l) : s = sOf l := by
  subst h; unfold sOf; simp
section
variable {X : Cx} {cs : List ErrC} {n : Str} {i : Nat}
theorem hds_met (E : ErrsOk X.K X.mg cs) (hi : X.N[i]? = some n) (hv : Vis X.env.scope n) (hd : (n == ("__debug__" : Str)) = false) (hcd : (n == ("__classdict__" : Str)) = false) (Dn : Ends) :
    ∀ {hds : List ExceptHandler} {hs : List (Nat × List Nat × List Nat)}, chkHds cs X.env.scope n hds hs = true → ∃ l, HdsA X n hds l ∧ ∀ cls d σ H Q, (∀ v H, Q v H → Dn.rt v H) → i < σ.length → wHs X.K cs Q hs cls d H → wManyA X.K (fun _ _ _ _ => False) i Dn l cls d σ H
  | [], [], _ => ⟨[], .nil, fun _ _ _ _ _ _ _ w => w⟩
  | [], _ :: _, h => by cases h
  | _ :: _, [], h => by cases h
  | h :: hds, (c, tag, is) :: hs, hc => by
    simp only [chkHds, Bool.and_eq_true] at hc
    obtain ⟨l, hl, ih⟩ := hds_met E hi hv hd hcd Dn hc.2
    have hc1 := hc.1
    unfold chkHd at hc1
    split at hc1
    · rename_i x np n' s j p0 es k p1 p2 pos' c' tag' is' he
      cases he
      cases ec : cs[c]? with
      | none => rw [ec] at hc1; cases hc1
      | some e =>
        rw [ec] at hc1
        have hm := List.mem_of_getElem? ec
        simp only [Bool.and_eq_true, beq_iff_eq, Bool.not_eq_true'] at hc1
        obtain ⟨⟨⟨⟨⟨rfl, hg⟩, rfl⟩, hs'⟩, hne⟩, hc1⟩ := hc1
        cases em : is.mapM (fun i => e.fields[i]?) with
        | none => rw [em] at hc1; cases hc1
        | some fl =>
          rw [em] at hc1
          have hno : ∀ f ∈ fl, PySem.W.findIn X.K (.ref e.at') f = some none := fun f hf => by
            exact E.no e hm f (mapM_mem em f hf)
          refine ⟨(.ref e.at', true, fun a cls d => tSuite i e.at' s fl a cls d) :: l, .as ⟨hg, E.nm e hm, .inl (E.mg e hm)⟩ (fun a oe cls d pn hz hf => suite_ps (E.xf e hm) hz hf hi hv hd hcd hno hc1) hl, fun cls d σ H Q hQ hil w => ?_⟩
          obtain ⟨ec', b, e1, e2, e3, e4⟩ := w
          rw [ec] at e1
          cases e1
          refine ⟨b, e2, fun hb a ha => ?_, fun hb => ih cls d σ H Q hQ hil (e4 hb)⟩
          have e3 := e3 hb
          rw [hne] at e3
          simp only [Bool.false_eq_true, if_false] at e3
          obtain ⟨k1, dd, fsV, l', vs, k2, k3, k4, k5, k6, k7⟩ := e3
          rw [em] at k4
          cases k4
          rw [← sOf_of hs'] at k7
          exact ⟨List.getElem?_set_self hil, k1, dd, fsV, vs, k2, k3, k5, k6, fun T hT => hQ _ _ (k7 T hT)⟩
    · rename_i x np s j p0 j2 p3 k p1 p2 pos' c' tag' is' he
      cases he
      cases ec : cs[c]? with
      | none => rw [ec] at hc1; cases hc1
      | some e =>
        rw [ec] at hc1
        have hm := List.mem_of_getElem? ec
        simp only [Bool.and_eq_true, beq_iff_eq] at hc1
        obtain ⟨⟨⟨rfl, hg⟩, hs'⟩, hne⟩ := hc1
        refine ⟨(.ref e.at', false, fun a cls d => tSuite0 s) :: l, .un ⟨hg, E.nm e hm, .inl (E.mg e hm)⟩ (fun a oe cls d pn hz hf => suite_ps0) hl, fun cls d σ H Q hQ hil w => ?_⟩
        obtain ⟨ec', b, e1, e2, e3, e4⟩ := w
        rw [ec] at e1
        cases e1
        refine ⟨b, e2, fun hb a ha => ?_, fun hb => ih cls d σ H Q hQ hil (e4 hb)⟩
        have e3 := e3 hb
        rw [hne] at e3
        simp only [if_true] at e3
        rw [← sOf_of hs'] at e3
        exact fun T hT => hQ _ _ (e3 T hT)
    · cases hc1

theorem met_gives {Ng : List Str} {x a q : Str} {sg : Scope} {g : Addr} {cdg : Value} {body : List Stmt} {hs : List (Nat × List Nat × List Nat)} (E : ErrsOk X.K X.mg cs) (hN : Ng.Nodup) (h0 : Ng[0]? = some a) (h1 : Ng[1]? = some n) (hl : Ng.length = 2) (hv : sg.names.lookup n = some .local)
    (hd : (n == ("__debug__" : Str)) = false) (hcd : (n == ("__classdict__" : Str)) = false) (hb : chkMet cs sg a n hs body = true) : LamX.GivesTo X Ng x sg g cdg body a q (TTmet X.K cs hs) := by
  unfold chkMet at hb
  split at hb
  · rename_i s j p0 x' p1 p2 k p3 p4 h hds p5
    simp only [Bool.and_eq_true, beq_iff_eq] at hb
    obtain ⟨⟨hs', rfl⟩, hb⟩ := hb
    intro f c' s0 H0 Q tl act hc hq
    have E' : ErrsOk (cxOf C8.CX0 X.prog X.w X.K X.mg X.base Ng x sg g cdg X.A X.stack s0 H0 C8.E0).nox.K (cxOf C8.CX0 X.prog X.w X.K X.mg X.base Ng x sg g cdg X.A X.stack s0 H0 C8.E0).nox.mg cs := E
    obtain ⟨l, hl', hw⟩ := hds_met (X := (cxOf C8.CX0 X.prog X.w X.K X.mg X.base Ng x sg g cdg X.A X.stack s0 H0 C8.E0).nox) (i := 1) E' h1 (.inl hv) hd hcd { nx := fun _ H' => Q .non H', rt := Q } hb
    refine ⟨_, pss_one (ps_try_manyA (X := (cxOf C8.CX0 X.prog X.w X.K X.mg X.base Ng x sg g cdg X.A X.stack s0 H0 C8.E0).nox) (i := 1) (n := n)
      (tb := fun W D σ H => ∃ Ech : XK, (∀ cls d σ' H', Ech cls d H' → σ'.length = Ng.length → W cls d σ' H') ∧ σ = L2.start Ng [.ref f] ∧ H c' = some (CodeO c' q) ∧ tl Ech H (fun v H' => [V.str (sOf toldS), v].length ≤ sizeLine ∧ ∀ T, H' T = none → D.rt (.ref T) (upd H' T (.tup [.str (sOf toldS), v]))))
      rfl rfl hN h1 hv LamX.takes0 (fun W pn xe tk _ => ?_) hl'), ?_⟩
    · refine ⟨fun pins s' σ H D I h' => ?_⟩
      obtain ⟨Ech, hW, e0, h2, h3⟩ := h'
      have tk' : Takes ((cxOf C8.CX0 X.prog X.w X.K X.mg X.base Ng x sg g cdg X.A X.stack s0 H0 C8.E0).tr pn xe) (fun cls d σ' H' => σ'.length = Ng.length → W cls d σ' H') := fun u s2 ⟨a, B, sI, pins, σ, H, cls, d, e, I, nb, up, sky, na, os, ag, w⟩ =>
        tk u s2 ⟨a, B, sI, pins, σ, H, cls, d, e, I, nb, up, sky, na, os, ag, w I.len⟩
      have hp := act (fun cls d σ' H' => σ'.length = Ng.length → W cls d σ' H') pn xe Ech p1 p2 tk' hW
      have hr := pss_one (ps_ret (pos := p4) (pe_tup (x1 := k) (pos := p3) (pa_cons (pe_str (x := s) (j := j) (pos := p0)) (pa_cons hp pa_nil rfl) rfl)))
      refine hr.run pins s' σ H D I ?_
      refine ⟨by rw [e0]; simp [L2.start, List.getElem?_append], h2, ?_⟩
      rw [sOf_of hs']
      exact h3
    · refine ⟨wHs X.K cs Q hs, fun cls d σ' H' w hl2 => ?_, rfl, hc, hq⟩
      refine hw cls d _ H' Q (fun _ _ z => z) ?_ w
      rw [hl2, hl]; decide
  · cases hb

/-! ### x(lambda: body) -/
theorem zip_look {fields : List Str} : ∀ {vs : List V} {i : Nat} {f : Str} {v : V}, fields.Nodup → fields[i]? = some f → vs[i]? = some v → (fields.zip vs).lookup f = some v := by
  induction fields with
  | nil => intro vs i f v _ h; simp at h
  | cons g gs ih =>
    intro vs i f v nd h1 h2
    cases vs with
    | nil => simp at h2
    | cons u us =>
      cases i with
      | zero =>
        simp at h1 h2
        subst h1 h2
        simp [List.zip_cons_cons, List.lookup]
      | succ i =>
        rw [List.getElem?_cons_succ] at h1 h2
        have hne : (f == g) = false := beq_eq_false_iff_ne.mpr fun e => by
          subst e
          exact (List.nodup_cons.mp nd).1 (List.mem_of_getElem? h1)
        rw [List.zip_cons_cons, List.lookup_cons, hne]
        exact ih (List.nodup_cons.mp nd).2 h1 h2
theorem fields_at {G : Gd} {A : Addr → Prop} {H : Hp} {fields : List Str} {fs : List D} {vs : List V} (nd : fields.Nodup) (hl : vs.length = fields.length) (r : VRs G A H fs vs) :
    ∀ {is : List Nat} {us : List D}, (is.mapM fun i => fs[i]?) = some us → ∃ l ws, (is.mapM fun i => fields[i]?) = some l ∧ (l.mapM fun f => (fields.zip vs).lookup f) = some ws ∧ VRs G A H us ws ∧ ws.length = is.length
  | [], us, h => by cases h; exact ⟨[], [], rfl, rfl, VRs.nil, rfl⟩
  | i :: is, us, h => by
    rw [List.mapM_cons] at h
    obtain ⟨u, e1, h⟩ := Option.bind_eq_some_iff.mp h
    obtain ⟨us', e2, h⟩ := Option.bind_eq_some_iff.mp h
    cases h
    obtain ⟨l, ws, k1, k2, k3, k4⟩ := fields_at nd hl r e2
    obtain ⟨w, ew, rw'⟩ := r.get e1
    have hi : i < fields.length := by rw [← hl]; exact (List.getElem?_eq_some_iff.mp ew).1
    have ef : fields[i]? = some fields[i] := List.getElem?_eq_getElem hi
    refine ⟨fields[i] :: l, w :: ws, ?_, ?_, VRs.cons rw' k3, by simp [k4]⟩
    · rw [List.mapM_cons, ef, k1]; rfl
    · rw [List.mapM_cons, zip_look nd ef ew, k2]; rfl
theorem lam_ext {G : Gd} {W : Wd} {H H1 : Hp} (e : ExtN H H1) : Ext G W H W H1 := ⟨fun q o h nt _ => e q o h nt, fun q n o h => by
    by_cases c : ∃ ps, o = .tbl ps
    · exact c
    · exact n o (e q o h fun ps z => c ⟨ps, z⟩), Nat.le_refl _, fun _ _ _ h => h, fun _ h => .inl h, fun _ h => .inl h, fun _ h => h, rfl⟩
theorem lam_rel {G : Gd} {W : Wd} {st : Store} {b : Nat} {H H1 : Hp} (R : Rel G W st b H) (e : ExtN H H1) (t : Tabs G.T H1) : Rel G W st b H1 := by
  have x := lam_ext (G := G) (W := W) e
  obtain ⟨ns, g, m, c, h1, h2, h3⟩ := R.spr
  refine ⟨R.len, R.inj, fun i c h => ?_, R.dead, ⟨ns, g, m, c, e _ _ h1 nofun, e _ _ h2 nofun, h3⟩, R.nosp, fun a h n => R.avt a h (x.there a n), R.avl, t⟩
  obtain ⟨a, k1, k2⟩ := R.cell i c h
  refine ⟨a, k1, ?_⟩
  cases c with
  | lst xs => obtain ⟨vs, q, r⟩ := k2; exact ⟨vs, e _ _ q nofun, r.ext x⟩
  | dct ks us => obtain ⟨vs, q, r1, r2⟩ := k2; exact ⟨vs, e _ _ q nofun, r1, r2.ext x⟩
  | ins c vs => exact k2
theorem wHs_of {G : Gd} {W : Wd} {H : Hp} {s : Store} {b : Nat} {Q : VK} {K0 : Vl → Store → Nat → Prop} {mg : Str → Option Value} {K : PySem.W.Frag} (E : ErrsOk K mg cs) {c : Nat} {fs : List D} {cls : Value} {d : Option Addr} (R : Rel G W s b H) (k : ErrR cs G W H c fs cls d)
    (hQ : ∀ a, K0 a s b → ∀ W' H' v, Ext G W H W' H' → Rel G W' s b H' → VlR G W' H' a v → Q v H') :
    ∀ {hs : List (Nat × List Nat × List Nat)}, (hs.all fun h => decide (h.1 < cs.length) && decide (h.2.2.length ≤ 100)) = true → EG K0 (fun _ _ _ _ => True) (metE hs (.x c fs s)) b → wHs K cs Q hs cls d H
  | [], _, g => g.elim
  | (c', tag, is) :: hs, hk, g => by
    obtain ⟨ec, vs, dd, h1, rfl, rfl, h4, h5, h6, h7⟩ := id k
    rw [List.all_cons, Bool.and_eq_true, Bool.and_eq_true, decide_eq_true_eq, decide_eq_true_eq] at hk
    obtain ⟨⟨hlt, h100⟩, hk⟩ := hk
    have h100' : is.length ≤ 100 := h100
    have e' : cs[c']? = some cs[c'] := List.getElem?_eq_getElem hlt
    refine ⟨cs[c'], decide (c = c'), e', E.exm c c' _ _ h1 e', fun hb => ?_, fun hb => ?_⟩
    · have ecc : c = c' := of_decide_eq_true hb
      subst ecc
      rw [h1] at e'
      have e2 : ec = cs[c] := Option.some.inj e'
      rw [← e2]
      unfold metE at g
      simp only [List.lookup_cons, beq_self_eq_true] at g
      cases em : is.mapM (fun i => fs[i]?) with
      | none => rw [em] at g; exact g.elim
      | some us =>
        rw [em] at g
        dsimp only at g
        have hm := List.mem_of_getElem? h1
        obtain ⟨l, ws, k1, k2, k3, k4⟩ := fields_at (E.nd ec hm) h5 h6 em
        cases hi : is.isEmpty with
        | true =>
          rw [hi] at g
          simp only [if_true] at g ⊢
          intro T hT
          refine hQ _ g W _ _ (ext_new hT) (R.new hT) (VR.newT R hT (VRs.cons VR.str (VRs.cons VR.non VRs.nil)))
        | false =>
          rw [hi] at g
          simp only [Bool.false_eq_true, if_false] at g ⊢
          have h63 : (101 : Nat) ≤ sizeLine := by rw [sizeLine_eq]; decide
          refine ⟨trivial, dd, _, l, ws, rfl, h4, k1, k2, by omega, fun T hT => ?_⟩
          exact hQ _ g W _ _ (ext_new hT) (R.new hT) (VR.newT R hT (VRs.cons VR.str k3))
    · have ecc : c ≠ c' := of_decide_eq_false hb
      refine wHs_of E R k hQ hk ?_
      unfold metE at g ⊢
      have : (c == c') = false := beq_eq_false_iff_ne.mpr ecc
      simp only [List.lookup_cons, this] at g
      exact g

theorem pe_metE {G : Gd} {Wx : WX} {x a : Str} {g c P : Addr} {k : Nat} {pg : Arguments} {bg : List Stmt} {sg : Scope} {dV kV doc pm cdv ct oc : Value} {an od : Option Addr} {osl : Array (Option Value)} {Ng : List Str}
    {params : Arguments} {body : Expr} {scope : Scope} {hs : List (Nat × List Nat × List Nat)} {rb run : Env → Store → E Vl} {p lpos pos : Pos} (hg : Gl X x) (hm : X.mg x = some (.ref g)) (hk : PySem.W.keepIn X.K (.ref g) = true)
    (lk : X.K.lookup g = some ⟨oc, od, .func (PySem.W.fnOf x x pg bg sg dV kV doc pm an cdv ct), osl⟩) (hcg : PySem.W.codeIn X.K cdv x = true) (hb : L2.Binds X.K (PySem.W.fnOf x x pg bg sg dV kV doc pm an cdv ct) [a] []) (Sg : FnScope Ng [a] sg) (h0 : Ng[0]? = some a) (h1 : Ng[1]? = some n) (hl : Ng.length = 2) (hva : Vis sg a) (hv : sg.names.lookup n = some .local)
    (E : ErrsOk X.K X.mg cs) (hbg : chkMet cs sg a n hs bg = true) (hhs : (hs.all fun h => decide (h.1 < cs.length) && decide (h.2.2.length ≤ 100)) = true)
    (TB : LamX.TabB X.base X.mg c P) (hcode : X.env.code = .ref c) (hmT : (P, X.env.qual ++ "<lambda>") ∈ G.T) (hu : ∀ p ∈ G.T, p.1 = P → p.2 = X.env.qual ++ "<lambda>") (hr : Room (k + 2) X.A) (L : LamX.LamS X.env.scope scope) (hdef : defaultsOf params X.env = ([], []))
    (hbind : ∀ (q : Str) (cl : List (Str × Addr)) (pm cv ctv : Value), bindArgs (PySem.W.kla_fn "<lambda>" q params body scope cl pm cv ctv) ⟨[], []⟩ = pure [])
    (hbody : ∀ (A : Around) (outer : List PySem.Env) (s : Shared) (H : Hp) (E : XK) (f c' : Addr), Room k (A.deeper (LamX.lamEnv X scope s.heap.objs.size f c')) → PE (LamX.lamCx X A outer s H E scope f c') body (tE cs G (fun cls d _ H => E cls d H) rb))
    (hdb : (x == ("__debug__" : Str)) = false) (hda : (a == ("__debug__" : Str)) = false) (hca : (a == ("__classdict__" : Str)) = false) (hdn : (n == ("__debug__" : Str)) = false) (hcn : (n == ("__classdict__" : Str)) = false)
    (hrun : ∀ e st, run e st = R.bind (rb e st) (metE hs)) :
    PE X (.Call (.Name x p) [.Lambda params body scope lpos] [] pos) (tE cs G Wx run) := by
  refine PE.imp (LamX.pe_lamcall (TT := TTmet X.K cs hs) (t := fun E => tE cs G (fun cls d _ H => E cls d H) rb) hg hm hk lk hcg hb Sg h0 hva (met_gives E Sg.nd h0 h1 hl hv hdn hcn hbg) TB hcode hmT hu hr L hdef hbind hbody hdb hda hca) fun σ H Q ⟨W, e, st, b, R, V, g⟩ => ?_
  rw [hrun] at g
  refine ⟨R.tabs, fun H1 eN T1 => ?_⟩
  have x1 := lam_ext (G := G) (W := W) eN
  have R1 := lam_rel R eN T1
  unfold EG at g
  rw [good_bind] at g
  refine ⟨W, e, st, b, R1, V.ext x1, good_mono (fun o b2 q => ?_) g⟩
  cases o with
  | v av s2 =>
    cases av <;> (try (exact False.elim q))
    rename_i dx
    intro W' H' v x' R' r
    refine ⟨by show 2 ≤ sizeLine; decide, fun T hT => ?_⟩
    exact q W' _ _ ((x1.trans x').trans (ext_new hT)) (R'.new hT) (VR.newT R' hT (VRs.cons VR.str (VRs.cons r VRs.nil)))
  | x c0 fs s2 =>
    intro W' H' cls d x' R' k
    refine wHs_of (K0 := KV' G W H Q) E R' k (fun a q W2 H2 v x2 R2 r2 => q W2 H2 v ((x1.trans x').trans x2) R2 r2) hhs ?_
    exact good_mono (fun o b q => by
      cases o with
      | v a s => exact q
      | x _ _ _ => trivial) q
end
end EV

end
section
set_option Elab.async false
set_option linter.all false
set_option maxRecDepth 100000
set_option maxHeartbeats 4000000
/-! EV 20: raise; name += e. -/
namespace EV
open PySem PySem.Spec PyProof.Rows L2
open LamX (Tabs TabS CodeO ExtN)
/-- what __init__(self, f): self.f = f makes -/
def sp1 (C : Addr) (f : Str) : Sp := fun vs H Q _ => ∃ a v, vs = [.ref a, v] ∧ H a = some (exo a C none) ∧ ∀ dx, H dx = none → dx ≠ a → Q .non (upd (upd H dx (exd dx [(f, v)])) a (exo a C (some dx)))
def chkInit (f : Str) : List Stmt → Bool
  | [.Assign [.Attribute (.Name s _) f' _] (.Name g _) _] => s == ("self" : Str) && f' == f && g == f
  | _ => false
theorem init1 {CX : CXT} {P : Program} {w : World} {K : PySem.W.Frag} {mg : Str → Option Value} {base : Heap} {k : Nat} {fI C : Addr} {name qual f : Str} {params : Arguments} {body : List Stmt} {scope : Scope} {dV kV doc pm cdv ct oc : Value} {an od : Option Addr}
    {osl : Array (Option Value)} (T : OexC K C) (hno : PySem.W.findIn K (.ref C) f = some none) (lk : K.lookup fI = some ⟨oc, od, .func (PySem.W.fnOf name qual params body scope dV kV doc pm an cdv ct), osl⟩) (hcd : PySem.W.codeIn K cdv qual = true) (S : FnScope ["self", f] ["self", f] scope)
    (hb : chkInit f body = true) (h1 : scope.names.lookup ("self" : Str) = some .local) (h2 : scope.names.lookup f = some .local) (hd : (f == ("__debug__" : Str)) = false) (hcl : (f == ("__classdict__" : Str)) = false) :
    FnOk P w K mg base CX (k + 1) fI (PySem.W.fnOf name qual params body scope dV kV doc pm an cdv ct) ["self", f] (sp1 C f) := by
  refine fn_of lk hcd S (fun vs H Q E ⟨a, v, e, _⟩ => by rw [e]; rfl) fun A outer s H vs Q E hr ⟨a, v, e, h3, h4⟩ => ?_
  unfold chkInit at hb
  split at hb
  · rename_i s' p1 f' p2 g p3 p4
    simp only [Bool.and_eq_true, beq_iff_eq] at hb
    obtain ⟨⟨rfl, rfl⟩, rfl⟩ := hb
    refine ⟨_, pss_one (ps_ost (pe_var (i := 0) rfl (.inl h1) (by decide) (by decide)) (pe_var (i := 1) rfl (.inl h2) hd hcl) (by rfl)), ?_⟩
    subst e
    exact ⟨v, rfl, .ref a, rfl, a, C, rfl, T, hno, .inl ⟨h3, h4⟩⟩
  · cases hb
/-- what is known of a class whose __init__ keeps one thing -/
def ErrMk (X : Cx) (k : Nat) (ec : ErrC) : Prop := ∃ fI fd ps f, OexC X.K ec.at' ∧ PySem.W.findIn X.K (.ref ec.at') "__init__" = some (some (.ref fI)) ∧ PySem.W.typeIn X.K (.ref fI) = some (.type "function") ∧
  FnOk X.prog X.w X.K X.mg X.base (L2.CX X.prog X.w) k fI fd ps (sp1 ec.at' f) ∧ L2.Binds X.K fd ps [] ∧ ec.fields = [f]
theorem PMk.imp {X : Cx} {e : Expr} {t t' : L2.St → Hp → XK → Prop} (h : PMk X e t) (i : ∀ σ H Q, t' σ H Q → t σ H Q) : PMk X e t' := fun pins s σ H Q I q => h pins s σ H Q I (i σ H Q q)
section
variable {X : Cx} {cs : List ErrC} {G : Gd} {Wx : WX}
theorem made_eq {H1 : Hp} {a d : Addr} {u1 u2 u3 u4 : HO} (ha : H1 a = none) (hda : d ≠ a) : upd (del (upd (upd (upd H1 a u1) d u2) a u3) a) d u4 = upd H1 d u4 := by
  funext q
  by_cases h1 : q = d
  · subst h1; rw [upd_same, upd_same]
  · rw [upd_ne h1, upd_ne h1]
    by_cases h2 : q = a
    · subst h2; rw [del_same, ha]
    · rw [del_ne h2, upd_ne h2, upd_ne h1, upd_ne h2]
theorem ps_raiseE {k c : Nat} {ec : ErrC} {x : Str} {e : Expr} {p cpos pos : Pos} {rs : Env → Store → E Vl} {run : Env → Store → R Out} (hc : X.calm = true) (tk : Takes X Wx) (hec : cs[c]? = some ec) (M : ErrMk X k ec) (hr : Room (k + 1) X.A) (hg : Gl X x) (hm : X.mg x = some (.ref ec.at'))
    (hs : PA X [e] (tA cs G Wx rs)) (hst : notStar e = true) (hdb : (x == ("__debug__" : Str)) = false)
    (hrun : ∀ e st, run e st = sBnd (rs e st) e fun v st => match v with
      | .its vs => match dats vs with
        | some fs => if fs.length = 1 then .ok (.x c fs e st) else .err
        | none => .err
      | _ => .err) : PS X (.Raise (some (.Call (.Name x p) [e] [] cpos)) none pos) (tS cs G Wx run) := by
  obtain ⟨fI, fd, ps, f, T, iC, tI, F1, hb, hf⟩ := M
  refine PS.imp (ps_raise hc tk (pmk_oex (ds := []) (dvs := []) T iC tI F1 hr hb .nil (passes_call LamX.takes0 fun _ _ _ _ h => h) hg hm hs hdb (star_cons hst) rfl)) fun Dn σ H h => ?_
  refine tS_E (K := fun W H => KA G W H _) (f := fun e v st => match v with
      | .its vs => match dats vs with
        | some fs => if fs.length = 1 then .ok (.x c fs e st) else .err
        | none => .err
      | _ => .err) hrun h fun W en a s b V g => ?_
  cases a <;> first
    | exact g.elim
    | skip
  rename_i vs
  dsimp only at g
  cases ed : dats vs with
  | none => rw [ed] at g; exact g.elim
  | some fs =>
    rw [ed] at g
    have ev := dats_mem ed
    subst ev
    refine ⟨_, rfl, fun W1 H1 us x1 R1 r1 => ?_⟩
    have hfs := VlRs_d r1
    dsimp only at g
    split at g
    · rename_i hl
      have hul : us.length = 1 := by rw [← hfs.length]; exact hl
      match us, hul with
      | [u], _ =>
        refine ⟨by simp, fun a ha => ⟨a, u, rfl, upd_same, fun dx hdx hne => ?_⟩⟩
        have hdx1 : H1 dx = none := by rw [upd_ne hne] at hdx; exact hdx
        refine ⟨rfl, dx, [(f, u)], upd_same, ?_, hdx1, ?_⟩
        · rw [upd_ne hne, upd_same]
        · rw [made_eq ha hne]
          refine g W1 _ σ _ _ (x1.trans (ext_new hdx1)) (R1.new hdx1) (V.ext (x1.trans (ext_new hdx1))) ⟨ec, [u], dx, hec, rfl, rfl, ?_, by rw [hf]; rfl, VRs.ext0 (ext_new hdx1).ext0 hfs, R1.new_av hdx1⟩
          rw [upd_same, hf]; rfl
    · exact g.elim
/-- name += e, name -= e -/
theorem ps_augE {i : Nat} {x : Str} {e : Expr} {o : BOp} {p pos : Pos} {re : Env → Store → E Vl} {run : Env → Store → R Out} (ho : o = .add ∨ o = .sub) (hN : X.N.Nodup) (hi : X.N[i]? = some x) (hx : Loc X.env.scope x) (hf : X.fn x = true ∨ X.env.scope.names.lookup x = some .local) (he : PE X e (tE cs G Wx re))
    (hrun : ∀ e st, run e st = match envGet e i with
      | some (.d (.int a)) => sBnd (re e st) e fun v st => match v with
        | .d (.int b) => match augI o a b with
          | some c => .ok (.nx (e.set i (some (.d (.int c)))) st)
          | none => .err
        | _ => .err
      | _ => .err) : PS X (.AugAssign (.Name x p) (bopOf o) e pos) (tS cs G Wx run) := by
  have key : ∀ (f : Int → Int → Int), (∀ a b : Int, augI o a b = some (f a b)) → ∀ Dn σ H, tS cs G Wx run Dn σ H → tAug i (tE cs G Wx re) (ipI f) Dn σ H := fun f hfo Dn σ H ⟨W, en, st, b, R, V, g⟩ => by
    rw [hrun] at g
    cases ee : envGet en i with
    | none => rw [ee] at g; exact g.elim
    | some a =>
      rw [ee] at g
      cases a <;> (try (exact False.elim g))
      rename_i da
      cases da <;> (try (exact False.elim g))
      rename_i ia
      obtain ⟨v, hv, rv⟩ := V.get ee
      have g1 := good_sB g
      refine ⟨v, hv, W, en, st, b, R, V, g1.mono (fun ov s2 b2 g2 W2 H2 u x2 R2 r2 => ?_) fun c fs s b q W2 H2 cls d x2 r2 k => q W2 H2 σ cls d x2 r2 (V.ext x2) k⟩
      cases ov <;> (try (exact False.elim g2))
      rename_i db
      cases db <;> (try (exact False.elim g2))
      rename_i ib
      dsimp only at g2
      rw [hfo ia ib] at g2
      exact ⟨ia, ib, VlR_int_eq rv, VlR_int_eq r2, g2 W2 H2 _ x2 R2 ((V.ext x2).set i VlR_int)⟩
  rcases ho with rfl | rfl
  · exact PS.imp (ps_aug hN hi hx he ip_add hf) (key _ fun a b => rfl)
  · exact PS.imp (ps_aug hN hi hx he ip_sub hf) (key _ fun a b => rfl)
theorem VRs_rg {A : Addr → Prop} {H : Hp} (n : Nat) : VRs G A H ((List.range n).map fun k => D.int (k : Nat)) (rgV 0 n) := by
  unfold rgV
  rw [Int.sub_zero, Int.toNat_natCast]
  generalize List.range n = l
  induction l with
  | nil => exact VRs.nil
  | cons a l ih => exact VRs.cons (by show VR G A H (.int (a : Nat)) (.int (0 + (a : Nat))); rw [Int.zero_add]; exact VR.int) ih
theorem rg_neg {i : Int} (h : ¬ 0 ≤ i) : rgV 0 i = [] := by
  unfold rgV
  have : (i - 0).toNat = 0 := by omega
  rw [this]; rfl
theorem VRs_rgI {A : Addr → Prop} {H : Hp} (i : Int) : VRs G A H ((List.range i.toNat).map fun k => D.int (k : Nat)) (rgV 0 i) := by
  by_cases h : 0 ≤ i
  · have e : i = ((i.toNat : Nat) : Int) := by omega
    rw [e, Int.toNat_natCast]
    exact VRs_rg _
  · rw [rg_neg h]
    have : i.toNat = 0 := by omega
    rw [this]; exact VRs.nil
theorem pe_lrgE {m : Bool} {a : Expr} {p p1 pos pos1 : Pos} {ra run : Env → Store → E Vl} (hc : X.calm = true) (hl : Gl X "list") (hml : X.mg "list" = none) (hg : Gl X "range") (hm : X.mg "range" = none) (ha : PE X a (tE cs G Wx ra)) (hst : notStar a = true)
    (hr : ∀ e st, run e st = bnd (ra e st) fun x st => match x with
      | .d (.int i) => if -1000000 < i ∧ i < 1000000 then (if m then ret (.ref st.length) (st ++ [some (.lst (((List.range i.toNat).map fun k => D.int (k : Nat)).map .d))]) else ret (.d (.lst ((List.range i.toNat).map fun k => D.int (k : Nat)))) st) else .err
      | _ => .err) : PE X (.Call (.Name "list" p) [.Call (.Name "range" p1) [a] [] pos1] [] pos) (tE cs G Wx run) := by
  refine PE.imp (pe_listRg hc hl hml (prg_1 hg hm ha (star_cons hst)) rfl) fun σ H Q ⟨W, en, st, b, R, V, g⟩ => ?_
  rw [hr, EG_bnd] at g
  refine ⟨W, en, st, b, R, V, g.mono (fun x s b g W1 H1 v x1 R1 r1 => ?_) fun _ _ _ _ q => q⟩
  cases x <;> (try (exact False.elim g))
  rename_i d
  cases d <;> (try (exact False.elim g))
  rename_i i
  dsimp only at g
  split at g
  · rename_i hi
    refine ⟨i, VlR_int_eq r1, ⟨by omega, by omega, by omega, by omega, by omega⟩, fun q hq => ?_⟩
    cases m with
    | true =>
      obtain ⟨y1, y2, y3⟩ := new_cell (u := .lst (rgV 0 i)) (c := .lst (((List.range i.toNat).map fun k => D.int (k : Nat)).map .d)) R1 hq fun W' x' => ⟨_, upd_same, VlRs_of (VRs_rgI i)⟩
      exact g _ _ _ (x1.trans y1) y2 y3
    | false => exact g W1 _ _ (x1.trans (ext_new hq)) (R1.new hq) (VR.newL R1 hq (VRs_rgI i))
  · exact g.elim
end
end EV

end
section
set_option Elab.async false
set_option linter.all false
set_option maxRecDepth 100000
set_option maxHeartbeats 4000000
/-! EV 21: the checker of expressions. -/
namespace EV
open PySem PySem.Spec PyProof.Rows L2
open LamX (Tabs TabS CodeO ExtN)
/-- what a global name stands for -/
inductive Glob where
  | fn (i np : Nat) (dd : List D)
  | err (c : Nat)
/-- where a text stands: the slots' names, the scope, the block's own scope, the globals, the built-in names that nothing hides -/
structure CC where
  N : List Str
  sc : Scope
  blk : Option Scope
  gt : List (Str × Glob)
  bs : List Str
  /-- calls by names: def, keywords, which value each parameter takes -/
  kt : List (Str × List Str × List Nat) := []
  /-- repr may be asked -/
  rep : Bool := false
  /-- the asking def: its name, its clauses -/
  mt : Option (Str × List (Nat × List Nat × List Nat)) := none
def kwNames : List Keyword → Option (List Str)
  | [] => some []
  | ⟨some k, _, _⟩ :: r => (kwNames r).map (k :: ·)
  | _ :: _ => none
def kwVals (ks : List Keyword) : List Expr := ks.map (·.value)
def CC.fn (c : CC) (x : Str) : Bool := match c.blk with
  | none => true
  | some b => b.names.lookup x == some .cell
def CC.gl (c : CC) (x : Str) : Bool := c.sc.names.lookup x == some .globalImplicit && !(x == ("__debug__" : Str))
def CC.vis (c : CC) (x : Str) : Bool := (match c.sc.names.lookup x with
  | some .local => true
  | some .cell => true
  | some .free => true
  | _ => false) && !(x == ("__debug__" : Str)) && !(x == ("__classdict__" : Str))
def CC.blt (c : CC) (x : Str) : Bool := c.gl x && c.bs.contains x
/-- what is checked against -/
inductive Tx where | e (e : Expr) | i (tg e : Expr) | a (es : List Expr) | b (k : Bool) (es : List Expr) | k (ks : List Keyword)
def biName : Bi → Str
  | .len => "len" | .range => "range" | .range2 => "range" | .enumr => "enumerate" | .zip => "zip" | .all => "all" | .any => "any" | .sorted => "sorted" | .list => "list" | .tuple => "tuple" | .int => "int" | .repr => "repr" | .listm => "list"
  | _ => ""
def biIs : Bi → Bool
  | .len => true | .all => true | .any => true | .sorted => true | .list => true | .tuple => true | .int => true | .listm => true
  | _ => false
def isRepr : Bi → Bool
  | .repr => true
  | _ => false
def biOk (c : CC) (b : Bi) : Bool := biIs b || (isRepr b && c.rep)
def boolOf (k : Bool) : PySem.BoolOp := if k then .And else .Or
/-- isTrue looks at the value alone -/
def plainT : Expr → Bool
  | .UnaryOp .Not _ _ => false
  | .BoolOp _ _ _ => false
  | .IfExp _ _ _ _ => false
  | .Compare _ _ _ _ => false
  | _ => true
def noSet : Expr → Bool
  | .Set _ _ _ => false
  | _ => true
def noCall : Expr → Bool
  | .Call _ _ _ _ => false
  | _ => true
def notLc : Expr → Bool
  | .ListComp _ _ _ _ => false
  | .SetComp _ _ _ _ => false
  | .DictComp _ _ _ _ _ => false
  | _ => true
/-- a block's names -/
def blkB (N : List Str) (sc scope : Scope) (own : List Nat) : Bool :=
  decide (scope.kind = .function) && scope.names.all (fun y => scope.names.lookup y.1 == some y.2) && own.all (fun i => decide (i < N.length)) &&
  scope.names.all (fun y => !(y.2 == .free) || sc.names.lookup y.1 == some .cell || sc.names.lookup y.1 == some .free) &&
  scope.names.all (fun y => !(y.2 == .local || y.2 == .cell) || own.any (fun i => N[i]? == some y.1) || !N.contains y.1)
def ownN (N : List Str) (own : List Nat) : List (Str × Nat) := own.map fun i => ((N[i]?).getD Str.empty, i)
def inBlk (c : CC) (scope : Scope) : CC := { c with sc := relS scope c.sc, blk := some scope, rep := false, mt := none }
/-- in a lambda's body -/
def inLam (c : CC) (scope : Scope) : CC := { c with sc := scope, blk := some { scope with names := [] }, rep := false, mt := none }
def isYes : Ex → Bool
  | .c (.bl true) => true
  | _ => false
def one? : List Expr → Option (Option Expr)
  | [] => some none
  | [s] => some (some s)
  | _ => none
/-- no parameters -/
def noPar : Arguments → Bool
  | ⟨[], [], none, [], [], none, []⟩ => true
  | _ => false
structure Lc2 where
  elt : Expr
  l : Expr
  iter : Expr
  ifs : List Expr
  l1 : Expr
  iter1 : Expr
  ifs1 : List Expr
  scope : Scope
def lc2Of : Tx → Option Lc2
  | .e (.ListComp elt [⟨l, iter, ifs, 0⟩, ⟨l1, iter1, ifs1, 0⟩] scope _) => some ⟨elt, l, iter, ifs, l1, iter1, ifs1, scope⟩
  | _ => none
def lc2B (c : CC) (q : Lc2) (own own1 : List Nat) (tg tg1 : Tg) : Bool := blkB c.N c.sc q.scope own && own1.all (fun i => own.contains i) && tgIn tg own && tgIn tg1 own1 && noSet q.iter && noSet q.iter1 && chkTg c.N (relS q.scope c.sc) (fun y => q.scope.names.lookup y == some .cell) tg q.l && chkTg c.N (relS q.scope c.sc) (fun y => q.scope.names.lookup y == some .cell) tg1 q.l1
def chk : Ex → CC → Tx → Bool
  | .nope, _, _ => true
  | .c d, _, t => match t with
    | .e (.Constant k _ _) => (match litOf k with
      | some d' => sameD d' d
      | none => false)
    | _ => false
  | .v i, c, t => match t with
    | .e (.Name x _) => c.N[i]? == some x && c.vis x
    | .i _ (.Name x _) => c.N[i]? == some x && c.vis x
    | _ => false
  | .bin o a b, c, t => match t with
    | .e (.BinOp l p r _) => decide (p = bopOf o) && chk a c (.e l) && chk b c (.e r)
    | .i _ (.BinOp l p r _) => decide (p = bopOf o) && chk a c (.e l) && chk b c (.e r)
    | _ => false
  | .neg a, c, t => match t with
    | .e (.UnaryOp .USub l _) => chk a c (.e l)
    | _ => false
  | .not a, c, t => match t with
    | .e (.UnaryOp .Not l _) => chk a c (.e l)
    | _ => false
  | .bo k a b, c, t => match t with
    | .e (.BoolOp p (x :: y :: r) _) => decide (p = boolOf k) && chk a c (.e x) && (if r.isEmpty then chk b c (.e y) else chk b c (.b k (y :: r)))
    | .b k' (x :: y :: r) => k' == k && chk a c (.e x) && (if r.isEmpty then chk b c (.e y) else chk b c (.b k (y :: r)))
    | _ => false
  | .cmp o a b, c, t => match t with
    | .e (.Compare l [p] [r] _) => decide (p = copOf o) && noSet r && chk a c (.e l) && chk b c (.e r)
    | _ => false
  | .cmp2 o p a b d, c, t => match t with
    | .e (.Compare l [p1, p2] [r, s] _) => decide (p1 = copOf o) && decide (p2 = copOf p) && noSet r && noSet s && chk a c (.e l) && chk b c (.e r) && chk d c (.e s)
    | _ => false
  | .ite x a b, c, t => match t with
    | .e (.IfExp s l r _) => chk x c (.e s) && chk a c (.e l) && chk b c (.e r)
    | .i _ (.IfExp s l r _) => chk x c (.e s) && chk a c (.e l) && chk b c (.e r)
    | _ => false
  | .tup es, c, t => match t with
    | .e (.Tuple l _ _) => chk es c (.a l)
    | .i _ (.Tuple l _ _) => chk es c (.a l)
    | _ => false
  | .lst _ es, c, t => match t with
    | .e (.List l _) => chk es c (.a l)
    | .i _ (.List l _) => chk es c (.a l)
    | _ => false
  | .dct _, _, t => match t with
    | .e (.Dict [] [] _) => true
    | _ => false
  | .ix a b, c, t => match t with
    | .e (.Subscript l r _) => plainB r && chk a c (.e l) && chk b c (.e r)
    | .i _ (.Subscript l r _) => plainB r && chk a c (.e l) && chk b c (.e r)
    | _ => false
  | .sl a lo hi, c, t => match t with
    | .e (.Subscript l (.Slice x y none _) _) => chk a c (.e l) && (match x with
        | none => (match lo with
          | .nil => true
          | _ => false)
        | some x => chk lo c (.e x)) && (match y with
        | none => (match hi with
          | .nil => true
          | _ => false)
        | some y => chk hi c (.e y))
    | .i _ (.Subscript l (.Slice x y none _) _) => chk a c (.e l) && (match x with
        | none => (match lo with
          | .nil => true
          | _ => false)
        | some x => chk lo c (.e x)) && (match y with
        | none => (match hi with
          | .nil => true
          | _ => false)
        | some y => chk hi c (.e y))
    | _ => false
  | .rev a, c, t => match t with
    | .e (.Subscript l (.Slice none none (some (.UnaryOp .USub (.Constant (.int 1) _ _) _)) _) _) => chk a c (.e l)
    | _ => false
  | .isi a ts, c, t => match t with
    | .e (.Call (.Name f _) [l, .Tuple es _ _] [] _) => f == ("isinstance" : Str) && c.blt f && notStar l && chkTys c.sc ts es && decide (ts.length ≤ 100) && chk a c (.e l)
    | .e (.Call (.Name f _) [l, r] [] _) => f == ("isinstance" : Str) && c.blt f && notStar l && (match ts with
        | [t] => chkTys c.sc [t] [r]
        | _ => false) && chk a c (.e l)
    | _ => false
  | .call _ f es, c, t => match t with
    | .e (.Call (.Name x _) (l :: r) [] _) => c.gl x && (l :: r).all notStar && (match c.gt.lookup x with
        | some (.fn i np dd) => i == f && decide (exLen es = (l :: r).length) && decide (exLen es ≤ np) && decide (np ≤ exLen es + dd.length)
        | _ => false) && chk es c (.a (l :: r))
    | .i _ (.Call (.Name x _) (l :: r) [] _) => c.gl x && (l :: r).all notStar && (match c.gt.lookup x with
        | some (.fn i np dd) => i == f && decide (exLen es = (l :: r).length) && decide (exLen es ≤ np) && decide (np ≤ exLen es + dd.length)
        | _ => false) && chk es c (.a (l :: r))
    | _ => false
  | .callk _ f perm es, c, t => match t with
    | .e (.Call (.Name x _) [] kws _) => c.gl x && (match c.gt.lookup x, kwNames kws with
        | some (.fn i np _), some ks => i == f && c.kt.contains (x, ks, perm) && decide (exLen es = kws.length) && decide (perm.length = np)
        | _, _ => false) && chk es c (.k kws)
    | _ => false
  | .met hs _ b, c, t => match t with
    | .e (.Call (.Name x _) [.Lambda params body scope _] [] _) => c.gl x && c.mt == some (x, hs) && LamX.lamSB c.sc scope && noPar params && chk b (inLam c scope) (.e body)
    | _ => false
  | .bi b es, c, t => match t with
    | .e (.Call (.Name x _) (l :: r) [] _) => biOk c b && x == biName b && c.blt x && (l :: r).all notStar && chk es c (.a (l :: r))
    | .i _ (.Call (.Name x _) (l :: r) [] _) => biOk c b && x == biName b && c.blt x && (l :: r).all notStar && chk es c (.a (l :: r))
    | _ => false
  | .wk b es, c, t => match t with
    | .i tg (.Call (.Name x _) l [] _) => x == biName b && c.blt x && l.all notStar && (match b, l with
        | .range, [_] => true
        | .range2, [_, _] => true
        | .enumr, [_] => isTupT tg
        | .zip, [_, _] => isTupT tg
        | _, _ => false) && chk es c (.a l)
    | _ => false
  | .mt m o es, c, t => match t with
    | .e (.Call (.Attribute l n p) [r] [] q) => mtIs m && n == mtName m && noCall l && p.endLine == q.line && notStar r && chk o c (.e l) && chk es c (.a [r])
    | _ => false
  | .lc _ own tg it cond x, c, t => match t with
    | .e (.ListComp elt [⟨tg', iter, ifs, 0⟩] scope _) => blkB c.N c.sc scope own && tgIn tg own && noSet iter && chkTg c.N (relS scope c.sc) (fun y => scope.names.lookup y == some .cell) tg tg' && chk it c (.i tg' iter) && (match ifs with
        | [] => (match cond with
          | .c (.bl true) => true
          | _ => false)
        | [s] => chk cond (inBlk c scope) (.e s)
        | _ => false) && chk x (inBlk c scope) (.e elt)
    | _ => false
  | .lc2 _ own own1 tg it cond tg1 it1 cond1 x, c, t => match lc2Of t with
    | some q => lc2B c q own own1 tg tg1 && chk it c (.i q.l q.iter) && chk it1 (inBlk c q.scope) (.i q.l1 q.iter1) && (match one? q.ifs with
        | some (some s) => chk cond (inBlk c q.scope) (.e s)
        | some none => isYes cond
        | none => false) && (match one? q.ifs1 with
        | some (some s) => chk cond1 (inBlk c q.scope) (.e s)
        | some none => isYes cond1
        | none => false) && chk x (inBlk c q.scope) (.e q.elt)
    | none => false
  | .frz a, c, t => match t with
    | .e e => plainT e && chk a c (.e e)
    | .i _ e => plainT e && chk a c (.e e)
    | _ => false
  | .lrg _ a, c, t => match t with
    | .e (.Call (.Name x _) [.Call (.Name y _) [r] [] _] [] _) => x == ("list" : Str) && y == ("range" : Str) && c.blt x && c.blt y && notStar r && chk a c (.e r)
    | _ => false
  | .nil, _, t => match t with
    | .a [] => true
    | .k [] => true
    | _ => false
  | .cons a b, c, t => match t with
    | .a (x :: r) => notStar x && chk a c (.e x) && chk b c (.a r)
    | .k (⟨some _, x, _⟩ :: r) => chk a c (.e x) && chk b c (.k r)
    | _ => false
  | _, _, _ => false
end EV

end
section
set_option Elab.async false
set_option linter.all false
set_option maxRecDepth 100000
set_option maxHeartbeats 4000000
/-! EV 22: the checker of expressions is right. -/
namespace EV
open PySem PySem.Spec PyProof.Rows L2
open LamX (Tabs TabS CodeO ExtN)
/-- what the globals are -/
structure GloOk (cs : List ErrC) (G : Gd) (F : Cfg) (k : Nat) (P : Program) (w : World) (K : PySem.W.Frag) (mg : Str → Option Value) (base : Heap) (gt : List (Str × Glob)) (bs : List Str) (kt : List (Str × List Str × List Nat)) : Prop where
  bt : ∀ x ∈ bs, mg x = none
  tys : ∀ t, tyOk t = true → mg (tyStr t) = none
  fns : ∀ x i np dd, gt.lookup x = some (.fn i np dd) → ∃ fa fd ps, mg x = some (.ref fa) ∧ PySem.W.keepIn K (.ref fa) = true ∧ FnOk P w K mg base (L2.CX P w) k fa fd ps (spF cs G np (F.call i)) ∧
    ∀ n, n ≤ np → np ≤ n + dd.length → ∃ dvs ds, L2.Binds K fd ps ds ∧ Vals dvs ds ∧ Fills cs G F i n np (dd.drop (n + dd.length - np)) dvs
  kws : ∀ x ks perm, (x, ks, perm) ∈ kt → ∀ i np dd, gt.lookup x = some (.fn i np dd) → ∃ fa fd ps, mg x = some (.ref fa) ∧ PySem.W.keepIn K (.ref fa) = true ∧ FnOk P w K mg base (L2.CX P w) k fa fd ps (spF cs G np (F.call i)) ∧
    ∀ (s : Shared) (ws : List Value), K.In s.heap → ws.length = ks.length → perm.length = np → BindsTo s fd ⟨[], ks.zip ws⟩ (ps.zip (perm.filterMap fun j => ws[j]?))
/-- the def that asks and tells: all that pe_metE wants -/
def MetOk (cs : List ErrC) (G : Gd) (K : PySem.W.Frag) (mg : Str → Option Value) (base : Heap) (code : Value) (qual : Str) (x : Str) (hs : List (Nat × List Nat × List Nat)) : Prop :=
  ∃ (g c P : Addr) (pg : Arguments) (bg : List Stmt) (sg : Scope) (dV kV doc pm cdv ct oc : Value) (an od : Option Addr) (osl : Array (Option Value)) (Ng : List Str) (a n : Str),
    mg x = some (.ref g) ∧ PySem.W.keepIn K (.ref g) = true ∧ K.lookup g = some ⟨oc, od, .func (PySem.W.fnOf x x pg bg sg dV kV doc pm an cdv ct), osl⟩ ∧ PySem.W.codeIn K cdv x = true ∧ L2.Binds K (PySem.W.fnOf x x pg bg sg dV kV doc pm an cdv ct) [a] [] ∧
    FnScope Ng [a] sg ∧ (Ng[0]? = some a ∧ Ng[1]? = some n ∧ Ng.length = 2) ∧ Vis sg a ∧ sg.names.lookup n = some .local ∧ ErrsOk K mg cs ∧ chkMet cs sg a n hs bg = true ∧ (hs.all fun h => decide (h.1 < cs.length) && decide (h.2.2.length ≤ 100)) = true ∧
    LamX.TabB base mg c P ∧ code = .ref c ∧ ((P, qual ++ "<lambda>") ∈ G.T ∧ ∀ p ∈ G.T, p.1 = P → p.2 = qual ++ "<lambda>") ∧ (x == ("__debug__" : Str)) = false ∧ (a == ("__debug__" : Str)) = false ∧ (a == ("__classdict__" : Str)) = false ∧ (n == ("__debug__" : Str)) = false ∧ (n == ("__classdict__" : Str)) = false
structure XOk (cs : List ErrC) (G : Gd) (F : Cfg) (cc : CC) (X : Cx) (Wx : WX) : Prop where
  N : X.N = cc.N
  nd : X.N.Nodup
  calm : X.calm = true
  sc : X.env.scope = cc.sc
  fn : ∀ x, X.fn x = cc.fn x
  tk : Takes X Wx
  room : ∃ k, Room (k + 1) X.A ∧ GloOk cs G F k X.prog X.w X.K X.mg X.base cc.gt cc.bs cc.kt
  rep : cc.rep = true → X.A.guards = some []
  met : ∀ x hs, cc.mt = some (x, hs) → MetOk cs G X.K X.mg X.base X.env.code X.env.qual x hs ∧ ∃ k, Room (k + 3) X.A ∧ GloOk cs G F k X.prog X.w X.K X.mg X.base cc.gt cc.bs cc.kt
section
variable {cs : List ErrC} {G : Gd} {F : Cfg} {cc : CC} {X : Cx} {Wx : WX}
theorem XOk.gl (ok : XOk cs G F cc X Wx) {x : Str} (h : cc.gl x = true) : Gl X x ∧ (x == ("__debug__" : Str)) = false := by
  simp only [CC.gl, Bool.and_eq_true, beq_iff_eq, Bool.not_eq_true'] at h
  refine ⟨?_, h.2⟩
  show X.env.scope.names.lookup x = _
  rw [ok.sc]; exact h.1
theorem XOk.blt (ok : XOk cs G F cc X Wx) {x : Str} (h : cc.blt x = true) : Gl X x ∧ (x == ("__debug__" : Str)) = false ∧ X.mg x = none := by
  simp only [CC.blt, Bool.and_eq_true] at h
  obtain ⟨k, _, g⟩ := ok.room
  obtain ⟨h1, h2⟩ := ok.gl h.1
  exact ⟨h1, h2, g.bt x (by simpa using h.2)⟩
theorem XOk.slot (ok : XOk cs G F cc X Wx) {i : Nat} {x : Str} {pos : Pos} (h : (cc.N[i]? == some x && cc.vis x) = true) {run : Env → Store → E Vl} (hr : ∀ e st, run e st = lift (envGet e i) st) : PE X (.Name x pos) (tE cs G Wx run) := by
  simp only [Bool.and_eq_true, beq_iff_eq, CC.vis, Bool.not_eq_true'] at h
  obtain ⟨h1, ⟨h2, h3⟩, h4⟩ := h
  refine pe_slot (by rw [ok.N]; exact h1) ?_ h3 h4 hr
  rw [ok.sc]
  unfold Vis
  split at h2
  · rename_i e; exact .inl e
  · rename_i e; exact .inr (.inl e)
  · rename_i e; exact .inr (.inr e)
  · cases h2
theorem plain_true {e : Expr} (h : plainT e = true) (env : PySem.Env) : ∀ whole, isTrue e env whole = (do let v ← whole; standAt e.pos; holding [v] (truthy v)) := by
  intro whole
  cases e <;> (try (cases h; done)) <;> (try rfl)
  rename_i op x p
  cases op <;> (try (cases h; done)) <;> rfl
/-- .. and of keywords' values -/
def SndK (cs : List ErrC) (G : Gd) (F : Cfg) (x : Ex) : Prop := ∀ {cc X Wx ks}, XOk cs G F cc X Wx → chk x cc (.k ks) = true → PK X ks (tA cs G Wx (evE F x))
/-- what the checker promises of an expression -/
structure Snd (cs : List ErrC) (G : Gd) (F : Cfg) (x : Ex) : Prop where
  e : ∀ {cc X Wx e}, XOk cs G F cc X Wx → chk x cc (.e e) = true → PE X e (tE cs G Wx (evE F x)) ∧ PT X e (tT cs G Wx (evE F x))
  i : ∀ {cc X Wx tg e}, XOk cs G F cc X Wx → chk x cc (.i tg e) = true → PI X tg e (tI cs G Wx (evE F x))
  a : ∀ {cc X Wx es}, XOk cs G F cc X Wx → chk x cc (.a es) = true → PA X es (tA cs G Wx (evE F x))
  b : ∀ {cc X Wx k es} (pos : Pos), XOk cs G F cc X Wx → chk x cc (.b k es) = true → PE X (.BoolOp (boolOf k) es pos) (tE cs G Wx (evE F x)) ∧ PW X (.BoolOp (boolOf k) es pos) (tT cs G Wx (evE F x))
theorem Snd.val {x : Ex} (h : ∀ {cc X Wx e}, XOk cs G F cc X Wx → chk x cc (.e e) = true → PE X e (tE cs G Wx (evE F x)) ∧ plainT e = true) (hi : ∀ cc tg e, chk x cc (.i tg e) = true → chk x cc (.e e) = true) (ha : ∀ cc es, chk x cc (.a es) = true → False) (hb : ∀ cc k es, chk x cc (.b k es) = true → False) : Snd cs G F x where
  e := fun ok hc => ⟨(h ok hc).1, pt_ofE (h ok hc).1 (plain_true (h ok hc).2 _)⟩
  i := fun ok hc => pi_valE (h ok (hi _ _ _ hc)).1
  a := fun ok hc => (ha _ _ hc).elim
  b := fun pos ok hc => (hb _ _ _ hc).elim
theorem Snd.val2 {x : Ex} (h : ∀ {cc X Wx e}, XOk cs G F cc X Wx → chk x cc (.e e) = true → PE X e (tE cs G Wx (evE F x)) ∧ PT X e (tT cs G Wx (evE F x))) (hi : ∀ cc tg e, chk x cc (.i tg e) = true → chk x cc (.e e) = true) (ha : ∀ cc es, chk x cc (.a es) = true → False) (hb : ∀ cc k es, chk x cc (.b k es) = true → False) : Snd cs G F x where
  e := h
  i := fun ok hc => pi_valE (h ok (hi _ _ _ hc)).1
  a := fun ok hc => (ha _ _ hc).elim
  b := fun pos ok hc => (hb _ _ _ hc).elim
/-- a run that never ends well needs no text -/
theorem here_err {run : Env → Store → E Vl} (hr : ∀ e st, run e st = .err) {σ : L2.St} {H : Hp} {K : Wd → Hp → Vl → Store → Nat → Prop} (h : Here cs G Wx run σ H K) : False := by
  obtain ⟨W, e, st, b, R, V, g⟩ := h
  rw [hr] at g; exact g
theorem snd_nope : Snd cs G F .nope where
  e := fun ok _ => ⟨⟨fun _ _ _ _ _ _ q => (here_err (fun _ _ => rfl) q).elim⟩, ⟨fun _ _ _ _ _ _ q => (here_err (K := fun W H => KT G W H _) (fun _ _ => rfl) q).elim⟩⟩
  i := fun ok _ => ⟨fun _ _ _ _ _ _ q => (here_err (K := fun W H => KI G W H _) (fun _ _ => rfl) q).elim⟩
  a := fun ok _ => ⟨fun _ _ _ _ _ _ _ q => (here_err (K := fun W H => KA G W H _) (fun _ _ => rfl) q).elim⟩
  b := fun pos ok _ => ⟨⟨fun _ _ _ _ _ _ q => (here_err (fun _ _ => rfl) q).elim⟩, ⟨fun _ _ _ _ _ _ _ q => (here_err (K := fun W H => KT G W H _) (fun _ _ => rfl) q).elim⟩⟩
theorem snd_c (d : D) : Snd cs G F (.c d) := Snd.val (fun {cc X Wx e} ok h => by
    simp only [chk] at h
    split at h
    · rename_i k j p he
      cases he
      split at h
      · rename_i d' hd
        have := sameD_eq h
        subst this
        exact ⟨pe_lit hd fun _ _ => rfl, rfl⟩
      · cases h
    · cases h) (fun cc tg e h => by simp [chk] at h) (fun cc es h => by simp [chk] at h) (fun cc k es h => by simp [chk] at h)
theorem snd_v (i : Nat) : Snd cs G F (.v i) := Snd.val (fun {cc X Wx e} ok h => by
    simp only [chk] at h
    split at h
    · rename_i x p he
      cases he
      exact ⟨ok.slot h fun _ _ => rfl, rfl⟩
    · rename_i he; cases he
    · cases h) (fun cc tg e h => by
    simp only [chk] at h ⊢
    split at h
    · rename_i he; cases he
    · rename_i he; cases he; exact h
    · cases h) (fun cc es h => by simp [chk] at h) (fun cc k es h => by simp [chk] at h)
theorem snd_bin {o : BOp} {a b : Ex} (ia : Snd cs G F a) (ib : Snd cs G F b) : Snd cs G F (.bin o a b) := Snd.val (fun {cc X Wx e} ok h => by
    simp only [chk] at h
    split at h
    · rename_i l p r pos he
      cases he
      simp only [Bool.and_eq_true, decide_eq_true_eq] at h
      obtain ⟨⟨rfl, h1⟩, h2⟩ := h
      exact ⟨pe_binD (ia.e ok h1).1 (ib.e ok h2).1 fun _ _ => rfl, rfl⟩
    · rename_i he; cases he
    · cases h) (fun cc tg e h => by
    simp only [chk] at h ⊢
    split at h
    · rename_i he; cases he
    · rename_i he; cases he; exact h
    · cases h) (fun cc es h => by simp [chk] at h) (fun cc k es h => by simp [chk] at h)
theorem snd_neg {a : Ex} (ia : Snd cs G F a) : Snd cs G F (.neg a) := Snd.val (fun {cc X Wx e} ok h => by
    simp only [chk] at h
    split at h
    · rename_i l pos he
      cases he
      exact ⟨pe_negE (ia.e ok h).1 fun _ _ => rfl, rfl⟩
    · cases h) (fun cc tg e h => by simp [chk] at h) (fun cc es h => by simp [chk] at h) (fun cc k es h => by simp [chk] at h)
theorem snd_not {a : Ex} (ia : Snd cs G F a) : Snd cs G F (.not a) := Snd.val2 (fun {cc X Wx e} ok h => by
    simp only [chk] at h
    split at h
    · rename_i l pos he
      cases he
      exact ⟨PE.imp (pe_not (ia.e ok h).1) fun σ H Q q => tNotV_of (fun _ _ => rfl) q, PT.imp (pt_not (ia.e ok h).2) fun σ H Q q => tNot_of (fun _ _ => rfl) q⟩
    · cases h) (fun cc tg e h => by simp [chk] at h) (fun cc es h => by simp [chk] at h) (fun cc k es h => by simp [chk] at h)
theorem snd_bo {k : Bool} {a b : Ex} (ia : Snd cs G F a) (ib : Snd cs G F b) : Snd cs G F (.bo k a b) := by
  have key : ∀ {cc X Wx} (x y : Expr) (r : List Expr) (pos : Pos), XOk cs G F cc X Wx → (chk a cc (.e x) && (if r.isEmpty then chk b cc (.e y) else chk b cc (.b k (y :: r)))) = true →
      PE X (.BoolOp (boolOf k) (x :: y :: r) pos) (tE cs G Wx (evE F (.bo k a b))) ∧ PW X (.BoolOp (boolOf k) (x :: y :: r) pos) (tT cs G Wx (evE F (.bo k a b))) := fun {cc X Wx} x y r pos ok h => by
    simp only [Bool.and_eq_true] at h
    obtain ⟨h1, h2⟩ := h
    obtain ⟨p1, p2⟩ := ia.e ok h1
    have q : PE X (.BoolOp (boolOf k) (y :: r) pos) (tE cs G Wx (evE F b)) ∧ PW X (.BoolOp (boolOf k) (y :: r) pos) (tT cs G Wx (evE F b)) := by
      cases r with
      | nil =>
        have h2 : chk b cc (.e y) = true := h2
        obtain ⟨q1, q2⟩ := ib.e ok h2
        cases k with
        | true => exact ⟨pe_one q1, pw_and1 q2⟩
        | false => exact ⟨pe_one q1, pw_or1 q2⟩
      | cons z r =>
        have h2 : chk b cc (.b k (y :: z :: r)) = true := h2
        exact ib.b pos ok h2
    cases k with
    | true => exact ⟨PE.imp (pe_and p1 q.1) fun σ H Q z => tAndV_of (fun _ _ => rfl) z, PW.imp (pw_and p2 q.2) fun σ H Q z => tAnd_of (fun _ _ => rfl) z⟩
    | false => exact ⟨PE.imp (pe_or p1 q.1) fun σ H Q z => tOrV_of (fun _ _ => rfl) z, PW.imp (pw_or p2 q.2) fun σ H Q z => tOr_of (fun _ _ => rfl) z⟩
  refine ⟨fun {cc X Wx e} ok h => ?_, fun {cc X Wx tg e} ok h => ?_, fun {cc X Wx es} ok h => ?_, fun {cc X Wx k' es} pos ok h => ?_⟩
  · simp only [chk] at h
    split at h
    · rename_i p x y r pos he
      cases he
      rw [Bool.and_assoc, Bool.and_eq_true, decide_eq_true_eq] at h
      obtain ⟨rfl, h⟩ := h
      obtain ⟨q1, q2⟩ := key x y r pos ok h
      exact ⟨q1, q2.pt⟩
    · rename_i he; cases he
    · cases h
  · simp [chk] at h
  · simp [chk] at h
  · simp only [chk] at h
    split at h
    · rename_i he; cases he
    · rename_i k2 x y r he
      cases he
      rw [Bool.and_assoc, Bool.and_eq_true, beq_iff_eq] at h
      obtain ⟨rfl, h⟩ := h
      exact key x y r pos ok h
    · cases h
end
end EV

end
section
set_option Elab.async false
set_option linter.all false
set_option maxRecDepth 100000
set_option maxHeartbeats 4000000
/-! EV 23: the checker of expressions is right, second part. -/
namespace EV
open PySem PySem.Spec PyProof.Rows L2
open LamX (Tabs TabS CodeO ExtN)
section
variable {cs : List ErrC} {G : Gd} {F : Cfg} {cc : CC} {X : Cx} {Wx : WX}
theorem noSet_marks {o : COp} {r : Expr} (h : noSet r = true) : behindInMarks (copOf o) r = false := by
  cases r <;> first | rfl | cases h
theorem snd_cmp {o : COp} {a b : Ex} (ia : Snd cs G F a) (ib : Snd cs G F b) : Snd cs G F (.cmp o a b) := Snd.val2 (fun {cc X Wx e} ok h => by
    simp only [chk] at h
    split at h
    · rename_i l p r pos he
      cases he
      simp only [Bool.and_eq_true, decide_eq_true_eq] at h
      obtain ⟨⟨⟨rfl, hn⟩, h1⟩, h2⟩ := h
      obtain ⟨k, rm, _⟩ := ok.room
      exact pe_cmpD rm (ia.e ok h1).1 (ib.e ok h2).1 (noSet_marks hn) fun _ _ => rfl
    · cases h) (fun cc tg e h => by simp [chk] at h) (fun cc es h => by simp [chk] at h) (fun cc k es h => by simp [chk] at h)
theorem snd_cmp2 {o p : COp} {a b d : Ex} (ia : Snd cs G F a) (ib : Snd cs G F b) (ic : Snd cs G F d) : Snd cs G F (.cmp2 o p a b d) := Snd.val2 (fun {cc X Wx e} ok h => by
    simp only [chk] at h
    split at h
    · rename_i l p1 p2 r s pos he
      cases he
      simp only [Bool.and_eq_true, decide_eq_true_eq] at h
      obtain ⟨⟨⟨⟨⟨⟨rfl, rfl⟩, hn⟩, hn2⟩, h1⟩, h2⟩, h3⟩ := h
      obtain ⟨k, rm, _⟩ := ok.room
      have hm : lastMarks [copOf o, copOf p] [r, s] = false := by
        show behindInMarks (copOf p) s = false
        exact noSet_marks hn2
      refine ⟨PE.imp (pe_chain (cD (G := G) rm o) (cD (G := G) rm p) (ia.e ok h1).1 (ib.e ok h2).1 (ic.e ok h3).1 hm) fun σ H Q q => chain_of (fun _ _ => rfl) q, PT.imp (pt_chain (cD (G := G) rm o) (cD (G := G) rm p) (ia.e ok h1).1 (ib.e ok h2).1 (ic.e ok h3).1 hm) fun σ H Q q => chain_of (fun _ _ => rfl) (tB_of q)⟩
    · cases h) (fun cc tg e h => by simp [chk] at h) (fun cc es h => by simp [chk] at h) (fun cc k es h => by simp [chk] at h)
def tIfT (t u v : TT) : TT := fun σ H Q => t σ H fun c H1 => if c = true then u σ H1 Q else v σ H1 Q
theorem pt_ifExp {c a b : Expr} {tc ta tb : TT} {pos : Pos} (hc : PT X c tc) (ha : PT X a ta) (hb : PT X b tb) : PT X (.IfExp c a b pos) (tIfT tc ta tb) := by
  refine ⟨fun pins s σ H Q I h => ?_⟩
  show wpAny _ _ (do if ← isTrue c X.env (eval c X.env) then isTrue a X.env (eval a X.env) else isTrue b X.env (eval b X.env)) _ _ _
  refine wpAny_bind (thn (hc.run pins s σ H _ I h) fun d s1 ⟨H1, I1, q1⟩ => ?_)
  cases d with
  | true => exact ha.run pins s1 σ H1 Q I1 q1
  | false => exact hb.run pins s1 σ H1 Q I1 q1
theorem tIfT_of {rt ra rb run : Env → Store → E Vl} (hr : ∀ e st, run e st = bnd (rt e st) fun x st => match truth x with
      | some true => ra e st
      | some false => rb e st
      | none => .err) {σ : L2.St} {H : Hp} {Q : Bool → Hp → Prop} (h : tT cs G Wx run σ H Q) : tIfT (tT cs G Wx rt) (tT cs G Wx ra) (tT cs G Wx rb) σ H Q :=
  here_if (f := fun x e st => match truth x with
      | some true => ra e st
      | some false => rb e st
      | none => .err) hr (fun x e s h => by rw [h]) h fun W H W1 H1 x t s b e x1 R V g ht => by
    rw [ht] at g
    cases t with
    | true =>
      rw [if_pos rfl]
      exact Here.on (K := fun W H => KT G W H Q) x1 R V g fun a s b q => q.mono x1
    | false =>
      rw [if_neg Bool.false_ne_true]
      exact Here.on (K := fun W H => KT G W H Q) x1 R V g fun a s b q => q.mono x1
theorem snd_ite {x a b : Ex} (ix : Snd cs G F x) (ia : Snd cs G F a) (ib : Snd cs G F b) : Snd cs G F (.ite x a b) := Snd.val2 (fun {cc X Wx e} ok h => by
    simp only [chk] at h
    split at h
    · rename_i s l r pos he
      cases he
      simp only [Bool.and_eq_true] at h
      obtain ⟨⟨h1, h2⟩, h3⟩ := h
      exact ⟨PE.imp (pe_ifExp (ix.e ok h1).2 (ia.e ok h2).1 (ib.e ok h3).1) fun σ H Q q => tIf_of (fun _ _ => rfl) q, PT.imp (pt_ifExp (ix.e ok h1).2 (ia.e ok h2).2 (ib.e ok h3).2) fun σ H Q q => tIfT_of (fun _ _ => rfl) q⟩
    · rename_i he; cases he
    · cases h) (fun cc tg e h => by
    simp only [chk] at h ⊢
    split at h
    · rename_i he; cases he
    · rename_i he; cases he; exact h
    · cases h) (fun cc es h => by simp [chk] at h) (fun cc k es h => by simp [chk] at h)
theorem snd_tup {es : Ex} (ia : Snd cs G F es) : Snd cs G F (.tup es) := Snd.val (fun {cc X Wx e} ok h => by
    simp only [chk] at h
    split at h
    · rename_i l k pos he
      cases he
      exact ⟨pe_tupE (ia.a ok h) fun _ _ => rfl, rfl⟩
    · rename_i he; cases he
    · cases h) (fun cc tg e h => by
    simp only [chk] at h ⊢
    split at h
    · rename_i he; cases he
    · rename_i he; cases he; exact h
    · cases h) (fun cc es h => by simp [chk] at h) (fun cc k es h => by simp [chk] at h)
theorem snd_lst {m : Bool} {es : Ex} (ia : Snd cs G F es) : Snd cs G F (.lst m es) := Snd.val (fun {cc X Wx e} ok h => by
    simp only [chk] at h
    split at h
    · rename_i l pos he
      cases he
      cases m with
      | true => exact ⟨pe_lstM (ia.a ok h) fun _ _ => rfl, rfl⟩
      | false => exact ⟨pe_lstE (ia.a ok h) fun _ _ => rfl, rfl⟩
    · rename_i he; cases he
    · cases h) (fun cc tg e h => by
    simp only [chk] at h ⊢
    split at h
    · rename_i he; cases he
    · rename_i he; cases he; exact h
    · cases h) (fun cc es h => by simp [chk] at h) (fun cc k es h => by simp [chk] at h)
theorem snd_dct {m : Bool} : Snd cs G F (.dct m) := Snd.val (fun {cc X Wx e} ok h => by
    simp only [chk] at h
    split at h
    · rename_i pos he
      cases he
      cases m with
      | true => exact ⟨pe_dctM fun _ _ => rfl, rfl⟩
      | false => exact ⟨pe_dctE fun _ _ => rfl, rfl⟩
    · cases h) (fun cc tg e h => by simp [chk] at h) (fun cc es h => by simp [chk] at h) (fun cc k es h => by simp [chk] at h)
theorem snd_ix {a b : Ex} (ia : Snd cs G F a) (ib : Snd cs G F b) : Snd cs G F (.ix a b) := Snd.val (fun {cc X Wx e} ok h => by
    simp only [chk] at h
    split at h
    · rename_i l r pos he
      cases he
      simp only [Bool.and_eq_true] at h
      obtain ⟨⟨hp, h1⟩, h2⟩ := h
      obtain ⟨k, rm, _⟩ := ok.room
      exact ⟨pe_ixE rm (ia.e ok h1).1 (ib.e ok h2).1 hp fun _ _ => rfl, rfl⟩
    · rename_i he; cases he
    · cases h) (fun cc tg e h => by
    simp only [chk] at h ⊢
    split at h
    · rename_i he; cases he
    · rename_i he; cases he; exact h
    · cases h) (fun cc es h => by simp [chk] at h) (fun cc k es h => by simp [chk] at h)
theorem snd_sl {a lo hi : Ex} (ia : Snd cs G F a) (il : Snd cs G F lo) (ih : Snd cs G F hi) : Snd cs G F (.sl a lo hi) := Snd.val (fun {cc X Wx e} ok h => by
    simp only [chk] at h
    split at h
    · rename_i l x y p2 pos he
      cases he
      simp only [Bool.and_eq_true] at h
      obtain ⟨⟨h1, h2⟩, h3⟩ := h
      have pl : PO X x (tO cs G Wx (evE F lo)) := by
        cases x with
        | none => cases lo <;> (try (cases h2; done)); exact po_noneE fun _ _ => rfl
        | some x => exact po_someE (il.e ok h2).1
      have ph : PO X y (tO cs G Wx (evE F hi)) := by
        cases y with
        | none => cases hi <;> (try (cases h3; done)); exact po_noneE fun _ _ => rfl
        | some y => exact po_someE (ih.e ok h3).1
      exact ⟨pe_slE (ia.e ok h1).1 pl ph fun _ _ => rfl, rfl⟩
    · rename_i he; cases he
    · cases h) (fun cc tg e h => by
    simp only [chk] at h ⊢
    split at h
    · rename_i he; cases he
    · rename_i he; cases he; exact h
    · cases h) (fun cc es h => by simp [chk] at h) (fun cc k es h => by simp [chk] at h)
theorem snd_rev {a : Ex} (ia : Snd cs G F a) : Snd cs G F (.rev a) := Snd.val (fun {cc X Wx e} ok h => by
    simp only [chk] at h
    split at h
    · rename_i l k p1 p2 p3 pos he
      cases he
      refine ⟨PE.imp (pe_revL (ia.e ok h).1) fun σ H Q ⟨W, en, st, b, R, V, g⟩ => ?_, rfl⟩
      unfold evE at g
      rw [EG_bnd] at g
      refine ⟨W, en, st, b, R, V, g.mono (fun a s b g W1 H1 v x1 R1 r1 => ?_) fun _ _ _ _ q => q⟩
      split at g
      · rename_i xs es
        obtain ⟨p, vs, rfl, k1, k2⟩ := snap_VT R1 r1 es
        exact ⟨p, vs, rfl, SqL.of k1, fun q hq => g W1 _ _ (x1.trans (ext_new hq)) (R1.new hq) (VR.newL R1 hq k2.reverse)⟩
      · exact g.elim
    · cases h) (fun cc tg e h => by simp [chk] at h) (fun cc es h => by simp [chk] at h) (fun cc k es h => by simp [chk] at h)
theorem snd_isi {a : Ex} {ts : List Ty} (ia : Snd cs G F a) : Snd cs G F (.isi a ts) := Snd.val (fun {cc X Wx e} ok h => by
    simp only [chk] at h
    split at h
    · rename_i f p1 l es k p2 p3 he
      cases he
      simp only [Bool.and_eq_true, beq_iff_eq, decide_eq_true_eq] at h
      obtain ⟨⟨⟨⟨⟨rfl, hb⟩, hst⟩, ht⟩, hl⟩, h1⟩ := h
      obtain ⟨g1, _, g2⟩ := ok.blt hb
      obtain ⟨k, _, gg⟩ := ok.room
      exact ⟨isi_many gg.tys g2 (ia.e ok h1).1 hst g1 (by rw [ok.sc]; exact ht) hl fun _ _ => rfl, rfl⟩
    · rename_i f p1 l r p3 hnt he
      cases he
      simp only [Bool.and_eq_true, beq_iff_eq] at h
      obtain ⟨⟨⟨⟨rfl, hb⟩, hst⟩, ht⟩, h1⟩ := h
      obtain ⟨g1, _, g2⟩ := ok.blt hb
      obtain ⟨k, _, gg⟩ := ok.room
      split at ht
      · exact ⟨isi_one gg.tys g2 (ia.e ok h1).1 hst g1 (by rw [ok.sc]; exact ht) fun _ _ => rfl, rfl⟩
      · cases ht
    · cases h) (fun cc tg e h => by simp [chk] at h) (fun cc es h => by simp [chk] at h) (fun cc k es h => by simp [chk] at h)
theorem snd_call {m : Md} {f : Nat} {es : Ex} (ia : Snd cs G F es) : Snd cs G F (.call m f es) := Snd.val (fun {cc X Wx e} ok h => by
    simp only [chk] at h
    split at h
    · rename_i x p l r pos he
      cases he
      simp only [Bool.and_eq_true] at h
      obtain ⟨⟨⟨hg, hst⟩, hf⟩, h1⟩ := h
      obtain ⟨g1, g2⟩ := ok.gl hg
      obtain ⟨k, rm, gg⟩ := ok.room
      split at hf
      · rename_i i np dd hx
        simp only [Bool.and_eq_true, beq_iff_eq, decide_eq_true_eq] at hf
        obtain ⟨⟨⟨rfl, _⟩, hn1⟩, hn2⟩ := hf
        obtain ⟨fa, fd, ps, hm, hk, Fn, hb⟩ := gg.fns x i np dd hx
        obtain ⟨dvs, ds, hbs, hd, fl⟩ := hb (exLen es) hn1 hn2
        rw [List.all_cons, Bool.and_eq_true] at hst
        exact ⟨pe_callE ok.tk Fn (rm.mono (Nat.le_succ _)) g1 hm hk hbs hd fl (ia.a ok h1) hst.1 (star_plain hst.2) g2 fun _ _ => rfl, rfl⟩
      · cases hf
    · rename_i he; cases he
    · cases h) (fun cc tg e h => by
    simp only [chk] at h ⊢
    split at h
    · rename_i he; cases he
    · rename_i he; cases he; exact h
    · cases h) (fun cc es h => by simp [chk] at h) (fun cc k es h => by simp [chk] at h)
theorem snd_nil : Snd cs G F .nil where
  e := fun ok h => by simp [chk] at h
  i := fun ok h => by simp [chk] at h
  a := fun {cc X Wx es} ok h => by
    simp only [chk] at h
    split at h
    · rename_i he; cases he; exact pa_nilE fun _ _ => rfl
    · rename_i he; cases he
    · cases h
  b := fun pos ok h => by simp [chk] at h
theorem snd_cons {a b : Ex} (ia : Snd cs G F a) (ib : Snd cs G F b) : Snd cs G F (.cons a b) where
  e := fun ok h => by simp [chk] at h
  i := fun ok h => by simp [chk] at h
  a := fun {cc X Wx es} ok h => by
    simp only [chk] at h
    split at h
    · rename_i x r he
      cases he
      simp only [Bool.and_eq_true] at h
      obtain ⟨⟨hst, h1⟩, h2⟩ := h
      exact pa_consE (ia.e ok h1).1 (ib.a ok h2) hst fun _ _ => rfl
    · rename_i he; cases he
    · cases h
  b := fun pos ok h => by simp [chk] at h
theorem snd_mt {m : Mt} {o es : Ex} (io : Snd cs G F o) (ia : Snd cs G F es) : Snd cs G F (.mt m o es) := Snd.val (fun {cc X Wx e} ok h => by
    simp only [chk] at h
    split at h
    · rename_i l n p r q he
      cases he
      simp only [Bool.and_eq_true, beq_iff_eq] at h
      obtain ⟨⟨⟨⟨⟨⟨hm, rfl⟩, hc⟩, hl⟩, hst⟩, h1⟩, h2⟩ := h
      have hbase : attributeBase l (mtName m) X.env (eval l X.env) = eval l X.env := by
        cases l <;> first | rfl | cases hc
      exact ⟨pe_mtE m hm (io.e ok h1).1 (ia.a ok h2) hst hbase (by rw [hl]; exact beq_self_eq_true _) fun _ _ => rfl, rfl⟩
    · cases h) (fun cc tg e h => by simp [chk] at h) (fun cc es h => by simp [chk] at h) (fun cc k es h => by simp [chk] at h)
end
end EV

end
section
set_option Elab.async false
set_option linter.all false
set_option maxRecDepth 100000
set_option maxHeartbeats 4000000
/-! EV 24: the checker of expressions is right, joined. -/
namespace EV
open PySem PySem.Spec PyProof.Rows L2
open LamX (Tabs TabS CodeO ExtN)
section
variable {cs : List ErrC} {G : Gd} {F : Cfg} {cc : CC} {X : Cx} {Wx : WX}
theorem Snd.no {x : Ex} (h : ∀ cc t, chk x cc t = true → False) : Snd cs G F x :=
  ⟨fun _ q => (h _ _ q).elim, fun _ q => (h _ _ q).elim, fun _ q => (h _ _ q).elim, fun _ _ q => (h _ _ q).elim⟩
theorem snd_bi {b : Bi} {es : Ex} (ia : Snd cs G F es) : Snd cs G F (.bi b es) := Snd.val (fun {cc X Wx e} ok h => by
    simp only [chk] at h
    split at h
    · rename_i x p l r pos he
      cases he
      simp only [Bool.and_eq_true, beq_iff_eq] at h
      obtain ⟨⟨⟨⟨hb, rfl⟩, hx⟩, hst⟩, h1⟩ := h
      obtain ⟨g1, g2, g3⟩ := ok.blt hx
      rw [List.all_cons, Bool.and_eq_true] at hst
      have hA := ia.a ok h1
      have calm := ok.calm
      refine ⟨?_, rfl⟩
      unfold biOk at hb
      cases b <;> (try (simp [biIs, isRepr] at hb; done))
      · exact pe_callBE (run0 := biE .len) cr_len (fun ha => pe_callB cr_len g1 g3 PySem.boot_len ha (by decide) g2 (star_cons hst.1) (star_plain hst.2)) hA (noX_bi _) fun _ _ => rfl
      · exact pe_callBE (run0 := biE .all) (cr_all calm) (fun ha => pe_callB (cr_all calm) g1 g3 boot_all ha (by decide) g2 (star_cons hst.1) (star_plain hst.2)) hA (noX_bi _) fun _ _ => rfl
      · exact pe_callBE (run0 := biE .any) (cr_any calm) (fun ha => pe_callB (cr_any calm) g1 g3 boot_any ha (by decide) g2 (star_cons hst.1) (star_plain hst.2)) hA (noX_bi _) fun _ _ => rfl
      · exact pe_callBE (run0 := biE .sorted) cr_sorted (fun ha => pe_callB cr_sorted g1 g3 boot_sorted ha (by decide) g2 (star_cons hst.1) (star_plain hst.2)) hA (noX_bi _) fun _ _ => rfl
      · exact pe_callBE (run0 := biE .list) (cr_list calm) (fun ha => pe_callTy (cr_list calm) g1 g3 PyProof.Rows.Boot.«list» ha (by decide) g2 (star_cons hst.1) (star_plain hst.2)) hA (noX_bi _) fun _ _ => rfl
      · exact pe_callBE (run0 := biE .tuple) cr_tuple (fun ha => pe_callTy cr_tuple g1 g3 PyProof.Rows.Boot.«tuple» ha (by decide) g2 (star_cons hst.1) (star_plain hst.2)) hA (noX_bi _) fun _ _ => rfl
      · exact pe_callBE (run0 := biE .int) cr_int (fun ha => pe_callTy cr_int g1 g3 PyProof.Rows.Boot.«int» ha (by decide) g2 (star_cons hst.1) (star_plain hst.2)) hA (noX_bi _) fun _ _ => rfl
      · obtain ⟨k, rm, _⟩ := ok.room
        have hr : cc.rep = true := by simpa [biIs, isRepr] using hb
        exact pe_callBE (run0 := biE .repr) (cr_repr (ok.rep hr) rm.units) (fun ha => pe_callB (cr_repr (ok.rep hr) rm.units) g1 g3 (by decide +kernel) ha (by decide) g2 (star_cons hst.1) (star_plain hst.2)) hA (noX_bi _) fun _ _ => rfl
      · exact pe_callBE (run0 := biE .listm) (cr_listm calm) (fun ha => pe_callTy (cr_listm calm) g1 g3 PyProof.Rows.Boot.«list» ha (by decide) g2 (star_cons hst.1) (star_plain hst.2)) hA (noX_bi _) fun _ _ => rfl
    · rename_i he; cases he
    · cases h) (fun cc tg e h => by
    simp only [chk] at h ⊢
    split at h
    · rename_i he; cases he
    · rename_i he; cases he; exact h
    · cases h) (fun cc es h => by simp [chk] at h) (fun cc k es h => by simp [chk] at h)
/-! ### keywords -/
theorem sndK_nil : SndK cs G F .nil := fun {cc X Wx ks} ok h => by
  simp only [chk] at h
  split at h
  · rename_i he; cases he
  · rename_i he
    cases he
    refine ⟨fun pos pins s σ H Q I q => pk_nil.run pos pins s σ H Q I ?_⟩
    obtain ⟨W, e, st, b, R, V, g⟩ := q
    obtain ⟨vs, ev, k⟩ := g
    cases ev
    exact k W H [] .refl R .nil
  · cases h
theorem sndK_cons {a b : Ex} (ia : Snd cs G F a) (ib : SndK cs G F b) : SndK cs G F (.cons a b) := fun {cc X Wx ks} ok h => by
  simp only [chk] at h
  split at h
  · rename_i he; cases he
  · rename_i k x p r he
    cases he
    rw [Bool.and_eq_true] at h
    have p1 := (ia.e ok h.1).1
    have p2 := ib ok h.2
    refine ⟨fun pos pins s σ H Q I q => (pk_cons p1 p2).run pos pins s σ H Q I ?_⟩
    obtain ⟨W, e, st, b', R, V, g⟩ := q
    have hr : ∀ e st, evE F (.cons a b) e st = bnd (evE F a e st) fun x st => bnd (evE F b e st) fun y st => match y with
      | .its ys => ret (.its (x :: ys)) st
      | _ => .err := fun _ _ => rfl
    rw [hr, EG_bnd] at g
    refine ⟨W, e, st, b', R, V, g.mono (fun x s b g W1 H1 v x1 R1 r1 => ?_) fun _ _ _ _ q => q⟩
    rw [EG_bnd] at g
    refine Here.next x1 R1 V g fun y s b g => ?_
    cases y <;> first
      | exact g.elim
      | skip
    rename_i ys
    obtain ⟨vs, ev, q⟩ := g
    cases ev
    exact ⟨ys, rfl, fun W' H' us x2 R2 r2 => q W' H' (v :: us) (x1.trans x2) R2 (.cons (r1.ext x2) r2)⟩
  · cases h
theorem kw_each : ∀ {kws : List Keyword} {ks : List Str} {env : PySem.Env} {pos : Pos}, kwNames kws = some ks → (backToKw pos (keywordEach kws env)).all (·.1.isSome) = true ∧ (backToKw pos (keywordEach kws env)).filterMap (·.1) = ks ∧ (backToKw pos (keywordEach kws env)).any (·.1.isNone) = false ∧ ks.length = kws.length
  | [], ks, env, pos, h => by cases h; exact ⟨rfl, rfl, rfl, rfl⟩
  | ⟨none, v, p⟩ :: r, ks, env, pos, h => by cases h
  | ⟨some k, v, p⟩ :: r, ks, env, pos, h => by
    obtain ⟨ks', e, rfl⟩ := Option.map_eq_some_iff.mp h
    obtain ⟨h1, h2, h3, h4⟩ := kw_each (env := env) (pos := pos) e
    refine ⟨?_, ?_, ?_, by simp [h4]⟩
    · show (true && _) = true
      rw [Bool.true_and]; exact h1
    · show k :: _ = _
      exact congrArg (k :: ·) h2
    · show (false || _) = false
      rw [Bool.false_or]; exact h3
theorem perm_rel {W : Wd} {H : Hp} {vs : List Vl} {us : List V} (r : VlRs G W H vs us) : ∀ {perm : List Nat} {as : List Vl}, (perm.mapM fun j => vs[j]?) = some as → VlRs G W H as (perm.filterMap fun j => us[j]?) ∧ as.length = perm.length
  | [], as, h => by cases h; exact ⟨.nil, rfl⟩
  | j :: js, as, h => by
    rw [List.mapM_cons] at h
    obtain ⟨a, e1, h⟩ := Option.bind_eq_some_iff.mp h
    obtain ⟨as', e2, h⟩ := Option.bind_eq_some_iff.mp h
    cases h
    obtain ⟨u, eu, ru⟩ := VlRs.get r e1
    obtain ⟨h1, h2⟩ := perm_rel r e2
    refine ⟨?_, by simp [h2]⟩
    rw [List.filterMap_cons, eu]
    exact .cons ru h1
theorem perm_vals {us : List V} {ws : List Value} (r : Vals us ws) : ∀ perm : List Nat, Vals (perm.filterMap fun j => us[j]?) (perm.filterMap fun j => ws[j]?)
  | [] => .nil
  | j :: js => by
    have ih := perm_vals r js
    have hl := r.length
    rw [List.filterMap_cons, List.filterMap_cons]
    by_cases hj : j < us.length
    · have e1 : us[j]? = some us[j] := List.getElem?_eq_getElem hj
      obtain ⟨w, e2, rw'⟩ := Vals.get r e1
      rw [e1, e2]
      exact .cons rw' ih
    · have e1 : us[j]? = none := List.getElem?_eq_none (by omega)
      have e2 : ws[j]? = none := List.getElem?_eq_none (by omega)
      rw [e1, e2]
      exact ih
theorem snd_callk {m : Md} {f : Nat} {perm : List Nat} {es : Ex} (ia : SndK cs G F es) : Snd cs G F (.callk m f perm es) := Snd.val (fun {cc X Wx e} ok h => by
    simp only [chk] at h
    split at h
    · rename_i x p kws pos he
      cases he
      simp only [Bool.and_eq_true] at h
      obtain ⟨⟨hg, hf⟩, h1⟩ := h
      obtain ⟨g1, g2⟩ := ok.gl hg
      obtain ⟨k, rm, gg⟩ := ok.room
      split at hf
      · rename_i i np dd ks hx hk
        simp only [Bool.and_eq_true, beq_iff_eq, decide_eq_true_eq] at hf
        obtain ⟨⟨⟨rfl, hkt⟩, hn⟩, hpl⟩ := hf
        obtain ⟨fa, fd, ps, hm, hkeep, Fn, hb⟩ := gg.kws x ks perm (by simpa using hkt) i np dd hx
        obtain ⟨k1, k2, k3, k4⟩ := kw_each (env := X.env) (pos := pos) hk
        refine ⟨⟨fun pins s σ H Q I q => ?_⟩, rfl⟩
        refine wpAny_Call_Name_kw (ld_glob I g1 hm ?_ g2)
        refine PySem.W.callWith_KW0 (h₀ := X.base) I.ok.mod.kin hkeep k1 (thn ((ia ok h1).run pos pins s σ H (fun us H1 => us.length = exLen es ∧ spF cs G np (F.call i) (perm.filterMap fun j => us[j]?) H1 Q (WE Wx σ)) I ?_) fun ws s2 ⟨zs, H2, I2, rz, q2l, q2⟩ => ⟨I2.kIn, ?_⟩) (by rw [k3]; rfl)
        · obtain ⟨W, en, st, b, R, V, g⟩ := q
          have hr : ∀ e st, evE F (.callk m i perm es) e st = bnd (evE F es e st) fun vs st => match vs with
            | .its vs => if vs.length = exLen es then match perm.mapM fun j => vs[j]? with
                | some us => callE F m i us st
                | none => .err
              else .err
            | _ => .err := fun _ _ => rfl
          rw [hr, EG_bnd] at g
          refine ⟨W, en, st, b, R, V, g.mono (fun a s b g => ?_) fun _ _ _ _ q => q⟩
          cases a <;> first
            | exact g.elim
            | skip
          rename_i vs
          dsimp only at g
          split at g
          · rename_i hl
            split at g
            · rename_i as ep
              refine ⟨vs, rfl, fun W1 H1 us x1 R1 r1 => ⟨by rw [← paired_len r1]; exact hl, ?_⟩⟩
              obtain ⟨q1, q2⟩ := perm_rel r1 ep
              have fl : Fills cs G F i as.length np [] [] := ⟨by simp [q2, hpl], fun W H => .nil, fun as st _ => by simp⟩
              have := sp_call (m := m) fl rfl R1 q1 (g.mono (fun a s b q W' H' v x' => q W' H' v (x1.trans x')) fun c fs s b q W' H' cls d x' => q W' H' cls d (x1.trans x'))
              simpa using this
            · exact g.elim
          · exact g.elim
        · rw [k2]
          have hws : ws.length = ks.length := by rw [← rz.length, q2l, hn, k4]
          refine wpAny_call (codeAny_mono (Fn.run X.A X.stack s2 H2 ⟨[], ks.zip ws⟩ (perm.filterMap fun j => ws[j]?) (perm.filterMap fun j => zs[j]?) Q (WE Wx σ) (rm.mono (Nat.le_succ _)) I2.env0 (hb s2 ws I2.kIn hws hpl) (perm_vals rz perm) q2) fun r s' hq => ?_)
          cases r with
          | error e => exact passAt ok.tk σ pins H2 s2 e s' I2 hq
          | ok fl =>
            cases fl with
            | ret u => exact I2.after hq
            | next => exact False.elim hq
            | brk => exact False.elim hq
            | cont => exact False.elim hq
      · cases hf
    · cases h) (fun cc tg e h => by simp [chk] at h) (fun cc es h => by simp [chk] at h) (fun cc k es h => by simp [chk] at h)
/-! ### the asking def -/
theorem lam_x {s : Shared} {H : Hp} {A : Around} {outer : List PySem.Env} {E : XK} {scope : Scope} {f c' : Addr} (ok : XOk cs G F cc X Wx) {k : Nat} (hr : Room (k + 1) (A.deeper (LamX.lamEnv X scope s.heap.objs.size f c'))) (gg : GloOk cs G F k X.prog X.w X.K X.mg X.base cc.gt cc.bs cc.kt) :
    XOk cs G F (inLam cc scope) (LamX.lamCx X A outer s H E scope f c') (fun cls d _ H => E cls d H) where
  N := ok.N
  nd := ok.nd
  calm := rfl
  sc := rfl
  fn := fun x => rfl
  tk := takes_of rfl rfl rfl rfl
  room := ⟨k, hr, gg⟩
  rep := fun h => by cases h
  met := fun x hs h => by cases h
theorem noPar_of {p : Arguments} (h : noPar p = true) : p = ⟨[], [], none, [], [], none, []⟩ := by
  unfold noPar at h
  split at h
  · rfl
  · cases h
theorem snd_met {hs : List (Nat × List Nat × List Nat)} {f : Nat} {b : Ex} (ib : Snd cs G F b) : Snd cs G F (.met hs f b) := Snd.val (fun {cc X Wx e} ok h => by
    simp only [chk] at h
    split at h
    · rename_i x p params body scope lpos pos he
      cases he
      simp only [Bool.and_eq_true, beq_iff_eq] at h
      obtain ⟨⟨⟨⟨hg, hm⟩, hL⟩, hp⟩, h1⟩ := h
      obtain ⟨g1, g2⟩ := ok.gl hg
      have hpar := noPar_of hp
      subst hpar
      obtain ⟨⟨g, c, P, pg, bg, sg, dV, kV, doc, pm, cdv, ct, oc, an, od, osl, Ng, a, n, m1, m2, m3, m4, m5, m6, ⟨m7, m8, m9⟩, m10, m11, m12, m13, m14, m15, m16, ⟨m17, m18⟩, m19, m20, m21, m22, m23⟩, k, rm, gg⟩ := ok.met x hs hm
      refine ⟨pe_metE (k := k + 1) (rb := evE F b) g1 m1 m2 m3 m4 m5 m6 m7 m8 m9 m10 m11 m12 m13 m14 m15 m16 m17 m18 rm (LamX.lamS_by (by rw [ok.sc]; exact hL)) rfl (fun q cl pm cv ctv => rfl) (fun A outer s H E f c' hr => ?_) m19 m20 m21 m22 m23 fun _ _ => rfl, rfl⟩
      exact (ib.e (lam_x ok hr gg) h1).1
    · cases h) (fun cc tg e h => by simp [chk] at h) (fun cc es h => by simp [chk] at h) (fun cc k es h => by simp [chk] at h)
theorem snd_wk {b : Bi} {es : Ex} (ia : Snd cs G F es) : Snd cs G F (.wk b es) where
  e := fun ok h => by simp [chk] at h
  a := fun ok h => by simp [chk] at h
  b := fun pos ok h => by simp [chk] at h
  i := fun {cc X Wx tg e} ok h => by
    simp only [chk] at h
    split at h
    · rename_i tg' x p l pos he
      cases he
      simp only [Bool.and_eq_true, beq_iff_eq] at h
      obtain ⟨⟨⟨⟨rfl, hx⟩, hst⟩, hb⟩, h1⟩ := h
      obtain ⟨g1, g2, g3⟩ := ok.blt hx
      have hA := ia.a ok h1
      split at hb
      · simp only [List.all_cons, List.all_nil, Bool.and_true] at hst
        exact pi_rangeE1 g1 g3 hA hst fun _ _ => rfl
      · simp only [List.all_cons, List.all_nil, Bool.and_true, Bool.and_eq_true] at hst
        exact pi_rangeE2 g1 g3 hA hst.1 hst.2 fun _ _ => rfl
      · simp only [List.all_cons, List.all_nil, Bool.and_true] at hst
        exact pi_enumE hb g1 g3 hA hst fun _ _ => rfl
      · simp only [List.all_cons, List.all_nil, Bool.and_true, Bool.and_eq_true] at hst
        exact pi_zipE hb g1 g3 hA hst.1 hst.2 fun _ _ => rfl
      · cases hb
    · cases h
theorem snd_frz {a : Ex} (ia : Snd cs G F a) : Snd cs G F (.frz a) := Snd.val (fun {cc X Wx e} ok h => by
    simp only [chk, Bool.and_eq_true] at h
    exact ⟨pe_frzE (ia.e ok h.2).1 fun _ _ => rfl, h.1⟩) (fun cc tg e h => by
    simp only [chk] at h ⊢; exact h) (fun cc es h => by simp [chk] at h) (fun cc k es h => by simp [chk] at h)
/-! ### comprehensions -/
theorem blk_ok {N : List Str} {sc scope : Scope} {own : List Nat} (h : blkB N sc scope own = true) : BlkOk N sc scope (ownN N own) := by
  simp only [blkB, Bool.and_eq_true, decide_eq_true_eq, List.all_eq_true, Bool.or_eq_true, Bool.not_eq_true', beq_iff_eq] at h
  obtain ⟨⟨⟨⟨h1, h2⟩, h3⟩, h4⟩, h5⟩ := h
  refine ⟨h1, fun y hy => h2 y hy, fun p hp => ?_, fun y hy e => ?_, fun y hy e => ?_⟩
  · obtain ⟨i, hi, rfl⟩ := List.mem_map.mp hp
    have := h3 i hi
    show N[i]? = some _
    rw [List.getElem?_eq_getElem this]; rfl
  · rcases h4 y hy with (z | z) | z
    · rw [e] at z; cases z
    · exact .inl z
    · exact .inr z
  · rcases h5 y hy with (z | z) | z
    · rcases e with e | e <;> rw [e] at z <;> cases z
    · rw [List.any_eq_true] at z
      obtain ⟨i, hi, z⟩ := z
      left
      refine List.mem_map.mpr ⟨_, List.mem_map.mpr ⟨i, hi, rfl⟩, ?_⟩
      have z' : N[i]? = some y.1 := by simpa using z
      show (N[i]?).getD _ = y.1
      rw [z']; rfl
    · right
      intro hm
      have : N.contains y.1 = true := by simpa using hm
      rw [this] at z; cases z
theorem own_ix (N : List Str) (own : List Nat) : (ownN N own).map (·.2) = own := by
  unfold ownN
  rw [List.map_map]
  exact List.map_id' _
theorem PTs.imp {es : List Expr} {t t' : TT} (h : PTs X es t) (i : ∀ σ H Q, t' σ H Q → t σ H Q) : PTs X es t' := ⟨fun pins s σ H Q I q => h.run pins s σ H Q I (i σ H Q q)⟩
theorem blk_x (ok : XOk cs G F cc X Wx) (scope : Scope) (s : Shared) (H : Hp) (C : Addr) (cl : List (Str × Addr)) (fp : List Addr) : XOk cs G F (inBlk cc scope) (X.blk s H scope (compEnvC scope cl C X.env) fp) Wn where
  N := ok.N
  nd := ok.nd
  calm := ok.calm
  sc := by
    show relabel scope X.env = relS scope cc.sc
    rw [← ok.sc]; rfl
  fn := fun _ => rfl
  tk := LamX.takes0
  room := ok.room
  rep := fun h => by cases h
  met := fun x hs h => by cases h
theorem snd_lc {m : Bool} {own : List Nat} {tg : Tg} {it cond x : Ex} (ii : Snd cs G F it) (ic : Snd cs G F cond) (ix : Snd cs G F x) : Snd cs G F (.lc m own tg it cond x) := Snd.val (fun {cc X Wx e} ok h => by
    simp only [chk] at h
    split at h
    · rename_i elt tg' iter ifs scope pos he
      cases he
      simp only [Bool.and_eq_true] at h
      obtain ⟨⟨⟨⟨⟨⟨hb, hown⟩, hset⟩, htg⟩, hit⟩, hif⟩, hx⟩ := h
      refine ⟨?_, rfl⟩
      have hfs : ∀ v, foldedSetIterable iter X.env v = pure v := by
        intro v
        cases iter <;> first | rfl | cases hset
      refine pe_lcE (own := ownN cc.N own) (m := m) (t := tg) (rc := evE F cond) (re := evE F x) ok.calm ok.nd (ii.i ok hit) (by rw [ok.N, ok.sc]; exact blk_ok hb) (fun s H C cl fp => ?_) (fun s H C cl fp => ?_) (fun s H C cl fp => ?_) hfs (by rw [own_ix]; exact hown) fun e st => by rw [own_ix]; rfl
      · have ok' := blk_x ok scope s H C cl fp
        refine pg_tgE ok'.calm ok'.nd ?_
        rw [ok'.N, ok'.sc]
        exact htg
      · have ok' := blk_x ok scope s H C cl fp
        cases ifs with
        | nil =>
          refine PTs.imp pts_nil fun σ H Q ⟨W, en, st, b, R, V, g⟩ => ?_
          dsimp only at hif
          split at hif
          · obtain ⟨t, et, q⟩ := g
            cases et
            exact q W H .refl R
          · cases hif
        | cons s1 r =>
          cases r with
          | nil => exact pts_one (ic.e ok' hif).2
          | cons _ _ => cases hif
      · exact (ix.e (blk_x ok scope s H C cl fp) hx).1
    · cases h) (fun cc tg e h => by simp [chk] at h) (fun cc es h => by simp [chk] at h) (fun cc k es h => by simp [chk] at h)
theorem pts_of {cond : Ex} {ifs : List Expr} (ic : Snd cs G F cond) (ok : XOk cs G F cc X Wx) (hif : (match one? ifs with
        | some (some s) => chk cond cc (.e s)
        | some none => isYes cond
        | none => false) = true) : PTs X ifs (tT cs G Wx (evE F cond)) := by
  cases ifs with
  | nil =>
    refine PTs.imp pts_nil fun σ H Q ⟨W, en, st, b, R, V, g⟩ => ?_
    have h : isYes cond = true := hif
    unfold isYes at h
    split at h
    · obtain ⟨t, et, q⟩ := g
      cases et
      exact q W H .refl R
    · cases h
  | cons s1 r =>
    cases r with
    | nil => exact pts_one (ic.e ok hif).2
    | cons _ _ => cases hif
theorem lc2Of_e {t : Tx} {q : Lc2} (h : lc2Of t = some q) : ∃ pos, t = .e (.ListComp q.elt [⟨q.l, q.iter, q.ifs, 0⟩, ⟨q.l1, q.iter1, q.ifs1, 0⟩] q.scope pos) := by
  unfold lc2Of at h
  split at h
  · cases h; exact ⟨_, rfl⟩
  · cases h
theorem snd_lc2 {m : Bool} {own own1 : List Nat} {tg tg1 : Tg} {it cond it1 cond1 x : Ex} (ii : Snd cs G F it) (ic : Snd cs G F cond) (ii1 : Snd cs G F it1) (ic1 : Snd cs G F cond1) (ix : Snd cs G F x) : Snd cs G F (.lc2 m own own1 tg it cond tg1 it1 cond1 x) := Snd.val (fun {cc X Wx e} ok h => by
    simp only [chk] at h
    split at h
    · rename_i q hq
      obtain ⟨pos, he⟩ := lc2Of_e hq
      cases he
      simp only [Bool.and_eq_true, lc2B] at h
      obtain ⟨⟨⟨⟨⟨⟨⟨⟨⟨⟨⟨⟨hb, hv⟩, hown⟩, hown1⟩, hset⟩, hset1⟩, htg⟩, htg1⟩, hit⟩, hit1⟩, hif⟩, hif1⟩, hx⟩ := h
      obtain ⟨elt, l, iter, ifs, l1, iter1, ifs1, scope⟩ := q
      refine ⟨?_, rfl⟩
      have hfs : ∀ v, foldedSetIterable iter X.env v = pure v := by
        intro v
        cases iter <;> first | rfl | cases hset
      have hfs1 : ∀ env v, foldedSetIterable iter1 env v = pure v := by
        intro env v
        cases iter1 <;> first | rfl | cases hset1
      refine pe_lc2E (own := ownN cc.N own) (own1 := own1) (m := m) (t := tg) (t1 := tg1) (rc := evE F cond) (rc1 := evE F cond1) (ri1 := evE F it1) (re := evE F x) ok.calm ok.nd (ii.i ok hit) (by rw [ok.N, ok.sc]; exact blk_ok hb) (fun i hi => ?_) (fun s H C cl fp => ?_) (fun s H C cl fp => pts_of ic (blk_x ok scope s H C cl fp) hif) (fun s H C cl fp => ii1.i (blk_x ok scope s H C cl fp) hit1) (fun s H C cl fp => ?_) (fun s H C cl fp => pts_of ic1 (blk_x ok scope s H C cl fp) hif1) (fun s H C cl fp => (ix.e (blk_x ok scope s H C cl fp) hx).1) hfs hfs1 (by rw [own_ix]; exact hown) hown1 fun e st => by rw [own_ix]; rfl
      · rw [own_ix]
        have := List.all_eq_true.mp hv i hi
        simpa using this
      · have ok' := blk_x ok scope s H C cl fp
        refine pg_tgE ok'.calm ok'.nd ?_
        rw [ok'.N, ok'.sc]
        exact htg
      · have ok' := blk_x ok scope s H C cl fp
        refine pg_tgE ok'.calm ok'.nd ?_
        rw [ok'.N, ok'.sc]
        exact htg1
    · cases h) (fun cc tg e h => by simp [chk, lc2Of] at h) (fun cc es h => by simp [chk, lc2Of] at h) (fun cc k es h => by simp [chk, lc2Of] at h)
theorem snd_lrg {m : Bool} {a : Ex} (ia : Snd cs G F a) : Snd cs G F (.lrg m a) := Snd.val (fun {cc X Wx e} ok h => by
    simp only [chk] at h
    split at h
    · rename_i x p y p2 r p3 p4 he
      cases he
      simp only [Bool.and_eq_true, beq_iff_eq] at h
      obtain ⟨⟨⟨⟨⟨rfl, rfl⟩, hx⟩, hy⟩, hst⟩, h1⟩ := h
      obtain ⟨g1, _, g3⟩ := ok.blt hx
      obtain ⟨k1, _, k3⟩ := ok.blt hy
      exact ⟨pe_lrgE ok.calm g1 g3 k1 k3 (ia.e ok h1).1 hst fun _ _ => rfl, rfl⟩
    · cases h) (fun cc tg e h => by simp [chk] at h) (fun cc es h => by simp [chk] at h) (fun cc k es h => by simp [chk] at h)
mutual
/-- the checker of expressions is right -/
theorem sound : ∀ x : Ex, Snd cs G F x
  | .nope => snd_nope
  | .c d => snd_c d
  | .v i => snd_v i
  | .gc _ _ => .no fun cc t h => by simp [chk] at h
  | .bin _ a b => snd_bin (sound a) (sound b)
  | .neg a => snd_neg (sound a)
  | .bo _ a b => snd_bo (sound a) (sound b)
  | .not a => snd_not (sound a)
  | .cmp _ a b => snd_cmp (sound a) (sound b)
  | .cmp2 _ _ a b c => snd_cmp2 (sound a) (sound b) (sound c)
  | .ite t a b => snd_ite (sound t) (sound a) (sound b)
  | .tup es => snd_tup (sound es)
  | .lst _ es => snd_lst (sound es)
  | .dct _ => snd_dct
  | .ix a b => snd_ix (sound a) (sound b)
  | .sl a lo hi => snd_sl (sound a) (sound lo) (sound hi)
  | .rev a => snd_rev (sound a)
  | .fld _ _ => .no fun cc t h => by simp [chk] at h
  | .isi a _ => snd_isi (sound a)
  | .call _ _ es => snd_call (sound es)
  | .callk _ _ _ es => snd_callk (soundK es)
  | .met _ _ b => snd_met (sound b)
  | .bi _ es => snd_bi (sound es)
  | .wk _ es => snd_wk (sound es)
  | .wm _ _ => .no fun cc t h => by simp [chk] at h
  | .mt _ o es => snd_mt (sound o) (sound es)
  | .thk => .no fun cc t h => by simp [chk] at h
  | .lc _ _ _ it cond x => snd_lc (sound it) (sound cond) (sound x)
  | .lc2 _ _ _ _ it cond _ it1 cond1 x => snd_lc2 (sound it) (sound cond) (sound it1) (sound cond1) (sound x)
  | .frz a => snd_frz (sound a)
  | .lrg _ a => snd_lrg (sound a)
  | .nil => snd_nil
  | .cons a b => snd_cons (sound a) (sound b)
theorem soundK : ∀ x : Ex, SndK cs G F x
  | .nil => sndK_nil
  | .cons a b => sndK_cons (sound a) (soundK b)
  | .nope => fun _ _ => ⟨fun _ _ _ _ _ _ _ q => (here_err (K := fun W H => KA G W H _) (fun _ _ => rfl) q).elim⟩
  | .c _ => fun _ h => by simp [chk, lc2Of] at h
  | .v _ => fun _ h => by simp [chk, lc2Of] at h
  | .gc _ _ => fun _ h => by simp [chk, lc2Of] at h
  | .bin _ _ _ => fun _ h => by simp [chk, lc2Of] at h
  | .neg _ => fun _ h => by simp [chk, lc2Of] at h
  | .bo _ _ _ => fun _ h => by simp [chk, lc2Of] at h
  | .not _ => fun _ h => by simp [chk, lc2Of] at h
  | .cmp _ _ _ => fun _ h => by simp [chk, lc2Of] at h
  | .cmp2 _ _ _ _ _ => fun _ h => by simp [chk, lc2Of] at h
  | .ite _ _ _ => fun _ h => by simp [chk, lc2Of] at h
  | .tup _ => fun _ h => by simp [chk, lc2Of] at h
  | .lst _ _ => fun _ h => by simp [chk, lc2Of] at h
  | .dct _ => fun _ h => by simp [chk, lc2Of] at h
  | .ix _ _ => fun _ h => by simp [chk, lc2Of] at h
  | .sl _ _ _ => fun _ h => by simp [chk, lc2Of] at h
  | .rev _ => fun _ h => by simp [chk, lc2Of] at h
  | .fld _ _ => fun _ h => by simp [chk, lc2Of] at h
  | .isi _ _ => fun _ h => by simp [chk, lc2Of] at h
  | .call _ _ _ => fun _ h => by simp [chk, lc2Of] at h
  | .callk _ _ _ _ => fun _ h => by simp [chk, lc2Of] at h
  | .met _ _ _ => fun _ h => by simp [chk, lc2Of] at h
  | .bi _ _ => fun _ h => by simp [chk, lc2Of] at h
  | .wk _ _ => fun _ h => by simp [chk, lc2Of] at h
  | .wm _ _ => fun _ h => by simp [chk, lc2Of] at h
  | .mt _ _ _ => fun _ h => by simp [chk, lc2Of] at h
  | .thk => fun _ h => by simp [chk, lc2Of] at h
  | .lc _ _ _ _ _ _ => fun _ h => by simp [chk, lc2Of] at h
  | .lc2 _ _ _ _ _ _ _ _ _ _ => fun _ h => by simp [chk, lc2Of] at h
  | .frz _ => fun _ h => by simp [chk, lc2Of] at h
  | .lrg _ _ => fun _ h => by simp [chk, lc2Of] at h
end
end
end EV

end
section
set_option Elab.async false
set_option linter.all false
set_option maxRecDepth 100000
set_option maxHeartbeats 4000000
/-! EV 25: the checker of statements. -/
namespace EV
open PySem PySem.Spec PyProof.Rows L2
open LamX (Tabs TabS CodeO ExtN)
inductive Sx where | s (st : Stmt) | b (sts : List Stmt)
/-- names stored from the right: the very names, or none -/
def swNames (ts : List Expr) (sc : Scope) (line : Nat) : List Str := ts.filterMap fun
  | .Name id pos => if sc.names.lookup id == some .local && pos.line == line then some id else none
  | _ => none
def isStar : Expr → Bool
  | .Starred .. => true
  | _ => false
def swK (ts vs : List Expr) (sc : Scope) : Option (Option (List Str)) :=
  if !(ts.length == 2 || ts.length == 3) || vs.length != ts.length then some none
  else if vs.any isStar then some none
  else
    let names := swNames ts sc ((ts.head?.map (·.pos.line)).getD 0)
    if names.length != ts.length || names.eraseDups.length != names.length then some none
    else if vs.all (foldedForSure 8) then some none
    else if vs.all (constantsAlone 8) then none
    else some (some names)
def isTup : Expr → Bool
  | .Tuple _ _ _ => true
  | _ => false
def isTupL : Expr → Bool
  | .Tuple _ _ _ => true
  | .List _ _ => true
  | _ => false
/-- nothing is stored from the right -/
def swNone (tg e : Expr) (sc : Scope) : Bool := !isTupL tg || !isTup e || (match tg, e with
  | .Tuple ts _ _, .Tuple vs _ _ => swK ts vs sc == some none
  | _, _ => false)
/-- name = [.. for ..] whose list is stored from within -/
def lcSw (e : Expr) (tg : Expr) (sc : Scope) : Bool := match e, tg with
  | .ListComp _ _ scope pos, .Name y py => sc.names.lookup y == some .local && py.line == pos.line && !(scope.names.any fun (n, k) => n == y && (k == .local || k == .cell))
  | _, _ => false
def nmIs (N : List Str) (sc : Scope) (i : Nat) : Expr → Bool
  | .Name x _ => N[i]? == some x && sc.names.lookup x == some .local
  | _ => false
def lcOk (e : Expr) : Bool := match e with
  | .ListComp _ _ _ _ => true
  | e => notLc e
def borN : St → Option Nat
  | .bor n _ => some n
  | _ => none
def chkS : St → CC → Sx → Bool
  | .nope, _, _ => true
  | .skip, _, t => match t with
    | .s (.Pass _) => true
    | .s (.Expr (.Constant (.str _) _ _) _) => true
    | .b [] => true
    | _ => false
  | .seq s r, c, t => match t with
    | .b sts => match borN s with
      | some n => chkS s c (.b (sts.take n)) && chkS r c (.b (sts.drop n))
      | none => match sts with
        | st :: sts => chkS s c (.s st) && chkS r c (.b sts)
        | [] => false
    | _ => false
  | .bor _ b, c, t => match t with
    | .b sts => chkS b c (.b sts)
    | _ => false
  | .ex x, c, t => match t with
    | .s (.Expr e _) => notLc e && chk x c (.e e)
    | _ => false
  | .ret x, c, t => match t with
    | .s (.Return (some e) _) => chk x c (.e e)
    | .s (.Return none _) => (match x with
      | .c .non => true
      | _ => false)
    | _ => false
  | .set tg x, c, t => match t with
    | .s (.Assign [l] e _) => chkTg c.N c.sc c.fn tg l && lcOk e && (if lcSw e l c.sc then (match x, tg with
        | .lc _ _ _ _ _ _, .nm i => nmIs c.N c.sc i l && chk x c (.e e)
        | _, _ => false) else swNone l e c.sc && chk x c (.e e))
    | _ => false
  | .par is es, c, t => match t with
    | .s (.Assign [.Tuple ts _ _] (.Tuple vs _ _) _) => (match is, ts, vs with
        | [i, j], [x, y], [_, _] => nmIs c.N c.sc i x && nmIs c.N c.sc j y && !(i == j)
        | [i, j, l], [x, y, z], [_, _, _] => nmIs c.N c.sc i x && nmIs c.N c.sc j y && nmIs c.N c.sc l z && !(i == j) && !(i == l) && !(j == l)
        | _, _, _ => false) && (match swK ts vs c.sc with
        | some (some ns) => ns == swNames ts c.sc ((ts.head?.map (·.pos.line)).getD 0) && ns.length == ts.length
        | _ => false) && chk es c (.a vs)
    | _ => false
  | .setix o i x, c, t => match t with
    | .s (.Assign [.Subscript l r _] e _) => notLc e && plainB r && chk x c (.e e) && chk o c (.e l) && chk i c (.e r)
    | _ => false
  | .aug i o x, c, t => match t with
    | .s (.AugAssign (.Name y p) q e _) => (o == .add || o == .sub) && decide (q = bopOf o) && chkNm c.N c.sc c.fn i (.Name y p) && chk x c (.e e)
    | _ => false
  | .iff x a b, c, t => match t with
    | .s (.If e l r _) => chk x c (.e e) && chkS a c (.b l) && chkS b c (.b r)
    | _ => false
  | .whl x b, c, t => match t with
    | .s (.While e l [] _) => chk x c (.e e) && chkS b c (.b l)
    | _ => false
  | .for tg it b, c, t => match t with
    | .s (.For l e r [] _) => noSet e && chkTg c.N c.sc c.fn tg l && chk it c (.i l e) && chkS b c (.b r)
    | _ => false
  | .raise k es, c, t => match t with
    | .s (.Raise (some (.Call (.Name x _) [e] [] _)) none _) => c.gl x && notStar e && decide (exLen es = 1) && (match c.gt.lookup x with
        | some (.err k') => k' == k
        | _ => false) && chk es c (.a [e])
    | _ => false
  | .brk, _, t => match t with
    | .s (.Break _) => true
    | _ => false
  | .cont, _, t => match t with
    | .s (.Continue _) => true
    | _ => false
  | _, _, _ => false
/-! ### what the checks mean -/
theorem blockKind_of {env : PySem.Env} (h : env.scope.kind = .function) : env.blockKind = .function := by
  unfold Env.blockKind; rw [h]; rfl
theorem swNames_of {ts : List Expr} {env : PySem.Env} {line : Nat} : (ts.filterMap fun
    | .Name id pos => if env.kindOf id == some .local && pos.line == line then some id else none
    | _ => none) = swNames ts env.scope line := rfl
theorem sw_eq (ts vs : List Expr) (env : PySem.Env) (k k2 : Nat) (p p2 : Pos) : swappedStores [.Tuple ts k p] (.Tuple vs k2 p2) env =
    if (!(ts.length == 2 || ts.length == 3) || vs.length != ts.length || env.blockKind != .function) = true then pure none
    else if vs.any isStar = true then pure none
    else if ((swNames ts env.scope ((ts.head?.map (·.pos.line)).getD 0)).length != ts.length || (swNames ts env.scope ((ts.head?.map (·.pos.line)).getD 0)).eraseDups.length != (swNames ts env.scope ((ts.head?.map (·.pos.line)).getD 0)).length) = true then pure none
    else if vs.all (foldedForSure 8) = true then pure none
    else if vs.all (constantsAlone 8) = true then (do let _ : PUnit ← unsupported "assign.tuple-of-constant-expressions:order-of-the-stores"; pure (some (swNames ts env.scope ((ts.head?.map (·.pos.line)).getD 0))))
    else pure (some (swNames ts env.scope ((ts.head?.map (·.pos.line)).getD 0))) := by
  rfl
theorem swK_ok {ts vs : List Expr} {env : PySem.Env} {r : Option (List Str)} {k k2 : Nat} {p p2 : Pos} (hk : env.scope.kind = .function) (h : swK ts vs env.scope = some r) : swappedStores [.Tuple ts k p] (.Tuple vs k2 p2) env = pure r := by
  unfold swK at h
  rw [sw_eq, blockKind_of hk]
  have e0 : ∀ b : Bool, (b || PySem.ScopeKind.function != .function) = b := fun b => by cases b <;> rfl
  rw [e0]
  split at h
  · rename_i c; cases h; rw [if_pos c]
  · rename_i c
    rw [if_neg c]
    split at h
    · rename_i c; cases h; rw [if_pos c]
    · rename_i c
      rw [if_neg c]
      dsimp only at h
      split at h
      · rename_i c; cases h; rw [if_pos c]
      · rename_i c
        rw [if_neg c]
        split at h
        · rename_i c; cases h; rw [if_pos c]
        · rename_i c
          rw [if_neg c]
          split at h
          · cases h
          · rename_i c; cases h; rw [if_neg c]
theorem swNone_ok {tg e : Expr} {env : PySem.Env} (hk : env.scope.kind = .function) (h : swNone tg e env.scope = true) : swappedStores [tg] e env = pure none := by
  simp only [swNone, Bool.or_eq_true, Bool.not_eq_true'] at h
  rcases h with (h | h) | h
  · cases tg <;> first | rfl | cases h
  · cases e <;> first | (cases tg <;> rfl) | cases h
  · split at h
    · exact swK_ok hk (by simpa using h)
    · cases h
theorem swLc {elt : Expr} {gs : List Comprehension} {scope : Scope} {pos py : Pos} {y : Str} {l : Nat} {env : PySem.Env} (hk : env.scope.kind = .function) :
    swapsWith (.ListComp elt gs scope pos) (some (.Name y py)) l env = pure (env.scope.names.lookup y == some .local && py.line == pos.line && !(scope.names.any fun (n, k) => n == y && (k == .local || k == .cell))) := by
  have e : swapsWith (.ListComp elt gs scope pos) (some (.Name y py)) l env = pure (env.blockKind == .function && env.kindOf y == some .local && py.line == pos.line && !(scope.names.any fun (n, k) => n == y && (k == .local || k == .cell))) := rfl
  rw [e, blockKind_of hk]
  rfl
theorem swSole {tg e : Expr} {l : Nat} {env : PySem.Env} (hk : env.scope.kind = .function) (ho : lcOk e = true) (h : lcSw e tg env.scope = false) : swapsWithSole [tg] e l env = pure false := by
  show swapsWith e (some tg) l env = pure false
  cases e <;> (try (cases ho; done)) <;> (try rfl)
  cases tg <;> (try rfl)
  rw [swLc hk]
  exact congrArg pure h
theorem assign_one {N : List Str} {sc : Scope} {fn : Str → Bool} {t : Tg} {l : Expr} {env : PySem.Env} (h : chkTg N sc fn t l = true) : (assignEach [l] env).map (·.2) = [assign l env] := by
  cases t <;> cases l <;> first | rfl | (simp [chkTg, chkNm] at h)
end EV

end
section
set_option Elab.async false
set_option linter.all false
set_option maxRecDepth 100000
set_option maxHeartbeats 4000000
/-! EV 26: the checker of statements is right. -/
namespace EV
open PySem PySem.Spec PyProof.Rows L2
open LamX (Tabs TabS CodeO ExtN)
structure SOk (cs : List ErrC) (G : Gd) (F : Cfg) (cc : CC) (X : Cx) (Wx : WX) : Prop extends XOk cs G F cc X Wx where
  hp : PassesOwn (model X.prog X.w) X.A X.env X.xe
  kind : X.env.scope.kind = .function
  errs : ∀ x c, cc.gt.lookup x = some (.err c) → ∃ ec k, cs[c]? = some ec ∧ X.mg x = some (.ref ec.at') ∧ ErrMk X k ec ∧ Room (k + 1) X.A
section
variable {cs : List ErrC} {G : Gd} {F : Cfg} {cc : CC} {X : Cx} {Wx : WX}
structure SndS (cs : List ErrC) (G : Gd) (F : Cfg) (x : St) : Prop where
  s : ∀ {cc X Wx st}, SOk cs G F cc X Wx → chkS x cc (.s st) = true → PS X st (tS cs G Wx (evS F x))
  b : ∀ {cc X Wx sts rest t}, SOk cs G F cc X Wx → chkS x cc (.b sts) = true → PSs X rest t → PSs X (sts ++ rest) (tSeq (tS cs G Wx (evS F x)) t)
theorem SndS.one {x : St} (h : ∀ {cc X Wx st}, SOk cs G F cc X Wx → chkS x cc (.s st) = true → PS X st (tS cs G Wx (evS F x))) (hb : ∀ cc sts, chkS x cc (.b sts) = true → False) : SndS cs G F x := ⟨h, fun _ q => (hb _ _ q).elim⟩
theorem SndS.no {x : St} (h : ∀ cc t, chkS x cc t = true → False) : SndS cs G F x := ⟨fun _ q => (h _ _ q).elim, fun _ q => (h _ _ q).elim⟩
theorem ss_nope : SndS cs G F .nope where
  s := fun ok _ => ⟨fun _ _ _ _ _ _ ⟨_, _, _, _, _, _, g⟩ => g.elim⟩
  b := fun ok _ _ => ⟨fun _ _ _ _ _ _ ⟨_, _, _, _, _, _, g⟩ => g.elim⟩
theorem ss_skip : SndS cs G F .skip where
  s := fun ok h => by
    simp only [chkS] at h
    split at h
    · rename_i he; cases he; exact ps_passE fun _ _ => rfl
    · rename_i he; cases he; exact ps_docE fun _ _ => rfl
    · rename_i he; cases he
    · cases h
  b := fun {cc X Wx sts rest t} ok h hr => by
    simp only [chkS] at h
    split at h
    · rename_i he; cases he
    · rename_i he; cases he
    · rename_i he; cases he
      exact PSs.imp hr fun Dn σ H ⟨W, e, st, b, R, V, g⟩ => g W H σ .refl R V
    · cases h
theorem ss_bor {n : Nat} {b : St} (ib : SndS cs G F b) : SndS cs G F (.bor n b) where
  s := fun ok h => by simp [chkS] at h
  b := fun {cc X Wx sts rest t} ok h hr => by
    simp only [chkS] at h
    exact PSs.imp (ib.b ok h hr) fun Dn σ H q => bor_read (run := evS F b) q
theorem ss_seq {s r : St} (is : SndS cs G F s) (ir : SndS cs G F r) : SndS cs G F (.seq s r) where
  s := fun ok h => by simp [chkS] at h
  b := fun {cc X Wx sts rest t} ok h hr => by
    simp only [chkS] at h
    have imp : ∀ Dn σ H, tSeq (tS cs G Wx (evS F (.seq s r))) t Dn σ H → tSeq (tS cs G Wx (evS F s)) (tSeq (tS cs G Wx (evS F r)) t) Dn σ H := fun Dn σ H q => seq_read (ra := evS F s) (rb := evS F r) (Dn := { Dn with nx := t Dn }) q
    split at h
    · rename_i n hn
      simp only [Bool.and_eq_true] at h
      have q := is.b ok h.1 (ir.b ok h.2 hr)
      rw [← List.append_assoc, List.take_append_drop] at q
      exact PSs.imp q imp
    · cases sts with
      | nil => cases h
      | cons st sts =>
        have h' : (chkS s cc (.s st) && chkS r cc (.b sts)) = true := h
        simp only [Bool.and_eq_true] at h'
        exact PSs.imp (pss_cons (is.s ok h'.1) (ir.b ok h'.2 hr)) imp
theorem ss_ex {x : Ex} : SndS cs G F (.ex x) := SndS.one (fun {cc X Wx st} ok h => by
    simp only [chkS] at h
    split at h
    · rename_i e pos he
      cases he
      simp only [Bool.and_eq_true] at h
      have hs : swapsWith e none pos.line X.env = pure false := by
        have h1 := h.1
        cases e <;> first | rfl | cases h1
      exact ps_exprE ((sound x).e ok.toXOk h.2).1 hs fun _ _ => rfl
    · cases h) fun cc sts h => by simp [chkS] at h
theorem ss_ret {x : Ex} : SndS cs G F (.ret x) := SndS.one (fun {cc X Wx st} ok h => by
    simp only [chkS] at h
    split at h
    · rename_i e pos he
      cases he
      exact ps_retE ((sound x).e ok.toXOk h).1 fun _ _ => rfl
    · rename_i pos he
      cases he
      split at h
      · exact ps_retNE fun _ _ => rfl
      · cases h
    · cases h) fun cc sts h => by simp [chkS] at h
theorem ss_set {t : Tg} {x : Ex} : SndS cs G F (.set t x) := SndS.one (fun {cc X Wx st} ok h => by
    simp only [chkS] at h
    split at h
    · rename_i l e pos he
      cases he
      simp only [Bool.and_eq_true] at h
      obtain ⟨⟨htg, ho⟩, h⟩ := h
      have hk := ok.kind
      have htg' : chkTg X.N X.env.scope X.fn t l = true := by
        rw [ok.N, ok.sc, show X.fn = cc.fn from funext ok.fn]; exact htg
      split at h
      · rename_i hsw
        split at h
        · rename_i m own tg it cond x i
          simp only [Bool.and_eq_true] at h
          obtain ⟨hn, h⟩ := h
          -- the parts of the comprehension
          cases l <;> try (cases hn; done)
          rename_i y py
          simp only [nmIs, Bool.and_eq_true, beq_iff_eq] at hn
          simp only [chk] at h
          split at h
          · rename_i elt tg' iter ifs scope lp he
            cases he
            simp only [Bool.and_eq_true] at h
            obtain ⟨⟨⟨⟨⟨⟨hb, hown⟩, hset⟩, htg2⟩, hit⟩, hif⟩, hx⟩ := h
            have hfs : ∀ v, foldedSetIterable iter X.env v = pure v := by
              intro v
              cases iter <;> first | rfl | cases hset
            refine ps_setLcE (own := ownN cc.N own) (m := m) (t := tg) (rc := evE F cond) (re := evE F x) (ri := evE F it) ok.calm ok.nd (by rw [ok.N]; exact hn.1) (by rw [ok.sc]; exact hn.2) ?_ ((sound it).i ok.toXOk hit) (by rw [ok.N, ok.sc]; exact blk_ok hb) (fun s H C cl fp => ?_) (fun s H C cl fp => ?_) (fun s H C cl fp => ?_) hfs (by rw [own_ix]; exact hown) fun e st => by rw [own_ix]; rfl
            · rw [swLc hk, ok.sc]
              exact congrArg pure hsw
            · have ok' := blk_x ok.toXOk scope s H C cl fp
              refine pg_tgE ok'.calm ok'.nd ?_
              rw [ok'.N, ok'.sc]
              exact htg2
            · have ok' := blk_x ok.toXOk scope s H C cl fp
              cases ifs with
              | nil =>
                refine PTs.imp pts_nil fun σ H Q ⟨W, en, st, b, R, V, g⟩ => ?_
                dsimp only at hif
                split at hif
                · obtain ⟨t, et, q⟩ := g
                  cases et
                  exact q W H .refl R
                · cases hif
              | cons s1 r =>
                cases r with
                | nil => exact pts_one ((sound cond).e ok' hif).2
                | cons _ _ => cases hif
            · exact ((sound x).e (blk_x ok.toXOk scope s H C cl fp) hx).1
          · cases h
        · cases h
      · rename_i hsw
        simp only [Bool.and_eq_true] at h
        have hsw' : lcSw e l cc.sc = false := by simpa using hsw
        exact ps_setE ((sound x).e ok.toXOk h.2).1 (pg_tgE ok.calm ok.nd htg') (swSole hk ho (by rw [ok.sc]; exact hsw')) (swNone_ok hk (by rw [ok.sc]; exact h.1)) (assign_one htg) fun _ _ => rfl
    · cases h) fun cc sts h => by simp [chkS] at h
theorem ss_setix {o i x : Ex} : SndS cs G F (.setix o i x) := SndS.one (fun {cc X Wx st} ok h => by
    simp only [chkS] at h
    split at h
    · rename_i l r p e pos he
      cases he
      simp only [Bool.and_eq_true] at h
      obtain ⟨⟨⟨⟨hl, hp⟩, h1⟩, h2⟩, h3⟩ := h
      obtain ⟨k, rm, _⟩ := ok.room
      refine ps_setixE (by have := rm.un; omega) ((sound x).e ok.toXOk h1).1 ((sound o).e ok.toXOk h2).1 ((sound i).e ok.toXOk h3).1 (fun v => ?_) ?_ ?_ fun _ _ => rfl
      · cases r <;> first | rfl | cases hp
      · show swapsWith e (some (.Subscript l r p)) pos.line X.env = pure false
        cases e <;> first | rfl | cases hl
      · rfl
    · cases h) fun cc sts h => by simp [chkS] at h
theorem ss_aug {i : Nat} {o : EV.BOp} {x : Ex} : SndS cs G F (.aug i o x) := SndS.one (fun {cc X Wx st} ok h => by
    simp only [chkS] at h
    split at h
    · rename_i y p q e pos he
      cases he
      simp only [Bool.and_eq_true, Bool.or_eq_true, beq_iff_eq, decide_eq_true_eq] at h
      obtain ⟨⟨⟨ho, rfl⟩, hn⟩, h1⟩ := h
      simp only [chkNm, Bool.and_eq_true, Bool.or_eq_true, beq_iff_eq] at hn
      obtain ⟨n1, n2⟩ := hn
      refine ps_augE ho ok.nd (by rw [ok.N]; exact n1) ?_ ?_ ((sound x).e ok.toXOk h1).1 fun _ _ => rfl
      · rw [ok.sc]
        rcases n2 with n2 | ⟨n2, _⟩
        · exact .inl n2
        · exact .inr n2
      · rw [ok.sc, ok.fn]
        rcases n2 with n2 | ⟨_, n2⟩
        · exact .inr n2
        · exact .inl n2
    · cases h) fun cc sts h => by simp [chkS] at h
theorem ss_iff {x : Ex} {a b : St} (ia : SndS cs G F a) (ib : SndS cs G F b) : SndS cs G F (.iff x a b) := SndS.one (fun {cc X Wx st} ok h => by
    simp only [chkS] at h
    split at h
    · rename_i e l r pos he
      cases he
      simp only [Bool.and_eq_true] at h
      obtain ⟨⟨h1, h2⟩, h3⟩ := h
      have pa := ia.b ok h2 pss_nil
      have pb := ib.b ok h3 pss_nil
      rw [List.append_nil] at pa pb
      exact ps_ifE ((sound x).e ok.toXOk h1).2 (PSs.imp pa fun Dn σ H q => q) (PSs.imp pb fun Dn σ H q => q) fun _ _ => rfl
    · cases h) fun cc sts h => by simp [chkS] at h
theorem ss_whl {x : Ex} {b : St} (ib : SndS cs G F b) : SndS cs G F (.whl x b) := SndS.one (fun {cc X Wx st} ok h => by
    simp only [chkS] at h
    split at h
    · rename_i e l pos he
      cases he
      simp only [Bool.and_eq_true] at h
      obtain ⟨h1, h3⟩ := h
      have pb := ib.b ok h3 pss_nil
      rw [List.append_nil] at pb
      exact ps_whlE ok.hp ((sound x).e ok.toXOk h1).2 (PSs.imp pb fun Dn σ H q => q) fun _ _ => rfl
    · cases h) fun cc sts h => by simp [chkS] at h
theorem ss_for {t : Tg} {it : Ex} {b : St} (ib : SndS cs G F b) : SndS cs G F (.for t it b) := SndS.one (fun {cc X Wx st} ok h => by
    simp only [chkS] at h
    split at h
    · rename_i l e r pos he
      cases he
      simp only [Bool.and_eq_true] at h
      obtain ⟨⟨⟨hn, htg⟩, h1⟩, h3⟩ := h
      have pb := ib.b ok h3 pss_nil
      rw [List.append_nil] at pb
      have htg' : chkTg X.N X.env.scope X.fn t l = true := by
        rw [ok.N, ok.sc, show X.fn = cc.fn from funext ok.fn]; exact htg
      refine ps_forE ok.hp ok.calm ((sound it).i ok.toXOk h1) (pg_tgE ok.calm ok.nd htg') (PSs.imp pb fun Dn σ H q => q) (fun v => ?_) fun _ _ => rfl
      cases e <;> first | rfl | cases hn
    · cases h) fun cc sts h => by simp [chkS] at h
theorem ss_raise {c : Nat} {es : Ex} : SndS cs G F (.raise c es) := SndS.one (fun {cc X Wx st} ok h => by
    simp only [chkS] at h
    split at h
    · rename_i x p e cp pos he
      cases he
      simp only [Bool.and_eq_true, decide_eq_true_eq] at h
      obtain ⟨⟨⟨⟨hg, hst⟩, hl⟩, hx⟩, h1⟩ := h
      obtain ⟨g1, g2⟩ := ok.gl hg
      split at hx
      · rename_i k' hk'
        have : k' = c := by simpa using hx
        subst this
        obtain ⟨ec, k, e1, e2, e3, e4⟩ := ok.errs x k' hk'
        exact ps_raiseE ok.calm ok.tk e1 e3 e4 g1 e2 ((sound es).a ok.toXOk h1) hst g2 fun e st => by
          show sBnd (evE F es e st) e _ = _
          first | (rw [hl]; rfl) | rw [hl]
      · cases hx
    · cases h) fun cc sts h => by simp [chkS] at h
theorem ss_brk : SndS cs G F .brk := SndS.one (fun {cc X Wx st} ok h => by
    simp only [chkS] at h
    split at h
    · rename_i pos he; cases he; exact ps_brkE fun _ _ => rfl
    · cases h) fun cc sts h => by simp [chkS] at h
theorem ss_cont : SndS cs G F .cont := SndS.one (fun {cc X Wx st} ok h => by
    simp only [chkS] at h
    split at h
    · rename_i pos he; cases he; exact ps_contE fun _ _ => rfl
    · cases h) fun cc sts h => by simp [chkS] at h
end
end EV

end
section
set_option Elab.async false
set_option linter.all false
set_option maxRecDepth 100000
set_option maxHeartbeats 4000000
/-! EV 27: defs. -/
namespace EV
open PySem PySem.Spec PyProof.Rows L2
open LamX (Tabs TabS CodeO ExtN)
section
variable {cs : List ErrC} {G : Gd} {F : Cfg}
theorem soundS : ∀ x : St, SndS cs G F x
  | .nope => ss_nope
  | .skip => ss_skip
  | .seq a b => ss_seq (soundS a) (soundS b)
  | .ex _ => ss_ex
  | .ret _ => ss_ret
  | .set _ _ => ss_set
  | .par is es => SndS.one (fun {cc X Wx st} ok h => by
      simp only [chkS] at h
      split at h
      · rename_i ts k p vs k2 p2 pos he
        cases he
        simp only [Bool.and_eq_true] at h
        obtain ⟨⟨h1, h2⟩, h3⟩ := h
        have hA := (sound es).a ok.toXOk h3
        have hk := ok.kind
        split at h2
        · rename_i ns hsw
          simp only [Bool.and_eq_true, beq_iff_eq] at h2
          obtain ⟨h2, h2l⟩ := h2
          have nm : ∀ {i : Nat} {e : Expr}, nmIs cc.N cc.sc i e = true → ∃ x px, e = .Name x px ∧ X.N[i]? = some x ∧ X.env.scope.names.lookup x = some .local := fun {i e} q => by
            cases e <;> try (cases q; done)
            rename_i x px
            simp only [nmIs, Bool.and_eq_true, beq_iff_eq] at q
            exact ⟨x, px, rfl, by rw [ok.N]; exact q.1, by rw [ok.sc]; exact q.2⟩
          have hsw' : swK ts vs X.env.scope = some (some ns) := by rw [ok.sc]; exact hsw
          -- the names, all of them
          have full : ∀ {l : List Expr} {line : Nat}, (swNames l cc.sc line).length = l.length → ∀ xs : List (Str × Pos), l = xs.map (fun q => Expr.Name q.1 q.2) → swNames l cc.sc line = xs.map (·.1) := fun {l line} hl xs e => by
            subst e
            clear hsw hsw' h2 h2l h1 h3 hA
            induction xs with
            | nil => rfl
            | cons q xs ih =>
              have step : swNames ((q :: xs).map fun q => Expr.Name q.1 q.2) cc.sc line = (if cc.sc.names.lookup q.1 == some .local && q.2.line == line then [q.1] else []) ++ swNames (xs.map fun q => Expr.Name q.1 q.2) cc.sc line := by
                unfold swNames
                rw [List.map_cons, List.filterMap_cons]
                dsimp only
                split <;> rename_i z
                · split at z
                  · cases z
                  · rename_i c; rw [if_neg c]; rfl
                · split at z
                  · rename_i c; cases z; rw [if_pos c]; rfl
                  · cases z
              have le : (swNames (xs.map fun q => Expr.Name q.1 q.2) cc.sc line).length ≤ xs.length := by
                unfold swNames
                refine Nat.le_trans (List.length_filterMap_le _ _) (by simp)
              rw [step] at hl ⊢
              split
              · rename_i c
                rw [if_pos c] at hl
                rw [ih (by simp at hl ⊢; omega)]
                rfl
              · rename_i c
                rw [if_neg c] at hl
                simp at hl le
                omega
          split at h1
          · rename_i i j x y a b
            simp only [Bool.and_eq_true, Bool.not_eq_true', beq_eq_false_iff_ne] at h1
            obtain ⟨⟨n1, n2⟩, n3⟩ := h1
            obtain ⟨x, px, rfl, a1, a2⟩ := nm n1
            obtain ⟨y, py, rfl, b1, b2⟩ := nm n2
            have hns : ns = [x, y] := by
              rw [h2]
              exact full (by rw [← h2]; exact h2l) [(x, px), (y, py)] rfl
            subst hns
            exact ps_par2E ok.calm ok.nd a1 b1 n3 a2 b2 hA (swK_ok hk hsw') fun _ _ => rfl
          · rename_i i j l x y z a b d
            simp only [Bool.and_eq_true, Bool.not_eq_true', beq_eq_false_iff_ne] at h1
            obtain ⟨⟨⟨⟨⟨n1, n2⟩, n3⟩, m1⟩, m2⟩, m3⟩ := h1
            obtain ⟨x, px, rfl, a1, a2⟩ := nm n1
            obtain ⟨y, py, rfl, b1, b2⟩ := nm n2
            obtain ⟨z, pz, rfl, c1, c2⟩ := nm n3
            have hns : ns = [x, y, z] := by
              rw [h2]
              exact full (by rw [← h2]; exact h2l) [(x, px), (y, py), (z, pz)] rfl
            subst hns
            exact ps_par3E ok.calm ok.nd a1 b1 c1 m1 m2 m3 a2 b2 c2 hA (swK_ok hk hsw') fun _ _ => rfl
          · cases h1
        · cases h2
      · cases h) fun cc sts h => by simp [chkS] at h
  | .setix _ _ _ => ss_setix
  | .setfld _ _ _ => .no fun cc t h => by simp [chkS] at h
  | .aug _ _ _ => ss_aug
  | .iff _ a b => ss_iff (soundS a) (soundS b)
  | .whl _ b => ss_whl (soundS b)
  | .for _ _ b => ss_for (soundS b)
  | .raise _ _ => ss_raise
  | .tryx _ _ => .no fun cc t h => by simp [chkS] at h
  | .hd _ _ _ _ => .no fun cc t h => by simp [chkS] at h
  | .brk => ss_brk
  | .cont => ss_cont
  | .bor _ b => ss_bor (soundS b)
/-- levels of room -/
def lev (n : Nat) : Nat := 4 * n + 4
theorem fill_full {f : Fn} {as : List Vl} (h : as.length = f.ps) : fill f as = as := by
  unfold fill
  rw [h, Nat.add_sub_cancel, List.drop_length]
  simp
/-- a def's text, checked -/
theorem def_ok {fns : List FnK} {turns n i : Nat} {fn : Fn} {cc : CC} {P : Program} {w : World} {K : PySem.W.Frag} {mg : Str → Option Value} {base : Heap} {fa : Addr} {name qual : Str} {params : Arguments} {body : List Stmt} {scope : Scope} {dV kV doc pm cdv ct oc : Value} {an od : Option Addr}
    {osl : Array (Option Value)} {ps : List Str} (lk : K.lookup fa = some ⟨oc, od, .func (PySem.W.fnOf name qual params body scope dV kV doc pm an cdv ct), osl⟩) (hcd : PySem.W.codeIn K cdv qual = true) (S : FnScope cc.N ps scope)
    (hi : fns[i]? = some (.plain fn)) (hps : fn.ps = ps.length) (hsl : fn.slots = cc.N.length) (hsc : cc.sc = scope) (hbk : cc.blk = none) (hc : chkS fn.body cc (.b body) = true)
    (glo : GloOk cs G ⟨callN fns turns n, fun _ => .err, turns⟩ (lev n) P w K mg base cc.gt cc.bs cc.kt) (hrep : cc.rep = false) (met : ∀ x hs, cc.mt = some (x, hs) → MetOk cs G K mg base cdv (qual ++ ".<locals>.") x hs)
    (errs : ∀ x c, cc.gt.lookup x = some (.err c) → ∃ ec, cs[c]? = some ec ∧ mg x = some (.ref ec.at') ∧ ∀ X : Cx, X.prog = P → X.w = w → X.K = K → X.mg = mg → X.base = base → ErrMk X 1 ec) :
    FnOk P w K mg base (L2.CX P w) (lev (n + 1)) fa (PySem.W.fnOf name qual params body scope dV kV doc pm an cdv ct) ps (spF cs G fn.ps (callN fns turns (n + 1) i)) := by
  have elev : lev (n + 1) = lev n + 3 + 1 := by unfold lev; omega
  rw [elev]
  refine fn_of (k := lev n + 3) lk hcd S (fun vs H Q E h => h.1.trans hps) fun A outer s H vs Q E hr ⟨hl, W, st, b, as, R, r, g⟩ => ?_
  have ok : SOk cs G ⟨callN fns turns n, fun _ => .err, turns⟩ cc (cxOf (L2.CX P w) P w K mg base cc.N qual scope fa cdv A outer s H E) (fun cls d _ H => E cls d H) :=
    { N := rfl, nd := S.nd, calm := rfl, sc := hsc.symm, fn := fun x => by show true = cc.fn x; unfold CC.fn; rw [hbk], tk := takes_of rfl rfl rfl rfl, room := ⟨lev n, hr.mono (by omega), glo⟩, rep := fun h => (by rw [hrep] at h; cases h), met := fun x hs h => ⟨met x hs h, lev n, hr, glo⟩, hp := passes_of rfl, kind := S.kind,
      errs := fun x c h => by
        obtain ⟨ec, e1, e2, e3⟩ := errs x c h
        exact ⟨ec, 1, e1, e2, e3 _ rfl rfl rfl rfl rfl, hr.mono (by unfold lev; omega)⟩ }
  have p := (soundS fn.body).b ok hc pss_nil
  rw [List.append_nil] at p
  refine ⟨tS cs G (fun cls d _ H => E cls d H) (evS ⟨callN fns turns n, fun _ => .err, turns⟩ fn.body), PSs.imp p fun Dn σ H q => q, ?_⟩
  have hla : as.length = fn.ps := (paired_len r).trans hl
  unfold callN at g
  rw [hi] at g
  dsimp only at g
  unfold runFn at g
  rw [fill_full hla, if_pos hla] at g
  unfold EG at g
  rw [good_bind] at g
  refine ⟨W, as.map some ++ List.replicate (fn.slots - fn.ps) none, st, b, R, ?_, good_mono (fun o b2 q => ?_) g⟩
  · refine ⟨?_, fun j a h => ?_⟩
    · unfold L2.start
      have := S.pre
      have hle : ps.length ≤ cc.N.length := by rw [← this]; simp; omega
      simp [hla, hsl, hps, hl]
    · by_cases hj : j < as.length
      · rw [List.getElem?_append_left (by simpa using hj), List.getElem?_map] at h
        cases e : as[j]? with
        | none => rw [e] at h; cases h
        | some a' =>
          rw [e] at h
          cases h
          obtain ⟨v, hv, rv⟩ := VlRs.get r e
          refine ⟨v, ?_, rv⟩
          unfold L2.start
          rw [List.getElem?_append_left (by rw [List.length_map, ← paired_len r]; exact hj), List.getElem?_map, hv]
          rfl
      · rw [List.getElem?_append_right (by simpa using hj), List.getElem?_replicate] at h
        split at h <;> cases h
  · cases o with
    | nx e s2 => exact fun W' H' σ' x R' V' => q W' H' _ x R' VlR_non
    | bk e s2 => exact False.elim q
    | ct e s2 => exact False.elim q
    | rt v s2 => exact fun W' H' u x R' r' => q W' H' u x R' r'
    | x c fs e s2 => exact fun W' H' σ' cls d x R' V' k => q W' H' cls d x R' k
/-- without fuel nothing is promised -/
theorem def_zero {fns : List FnK} {turns i np : Nat} {P : Program} {w : World} {K : PySem.W.Frag} {mg : Str → Option Value} {base : Heap} {fa : Addr} {fd : FuncData} {ps : List Str} {CX : CXT} {k : Nat} (h : ps.length = np) : FnOk P w K mg base CX k fa fd ps (spF cs G np (callN fns turns 0 i)) :=
  ⟨fun vs H Q E q => q.1.trans h.symm, fun A outer s H args us vs Q E _ _ _ _ ⟨_, _, _, _, _, _, _, g⟩ => g.elim⟩
theorem fills_of {fns : List FnK} {turns m i n : Nat} {fn : Fn} {dvs : List V} (hi : fns[i]? = some (.plain fn)) (h1 : n ≤ fn.ps) (h2 : fn.ps ≤ n + fn.dfl.length) (hr : ∀ W H, VlRs G W H ((fn.dfl.drop (n + fn.dfl.length - fn.ps)).map .d) dvs) :
    Fills cs G ⟨callN fns turns m, fun _ => .err, turns⟩ i n fn.ps (fn.dfl.drop (n + fn.dfl.length - fn.ps)) dvs where
  len := by simp; omega
  rel := hr
  same := fun as st hl => by
    have e1 : fill fn as = as ++ (fn.dfl.drop (n + fn.dfl.length - fn.ps)).map .d := by
      unfold fill
      rw [hl, Nat.add_comm fn.dfl.length n]
    have e2 : fill fn (as ++ (fn.dfl.drop (n + fn.dfl.length - fn.ps)).map .d) = as ++ (fn.dfl.drop (n + fn.dfl.length - fn.ps)).map .d := fill_full (by simp; omega)
    cases m with
    | zero => rfl
    | succ m =>
      show callN fns turns (m + 1) i as st = callN fns turns (m + 1) i _ st
      unfold callN
      rw [hi]
      dsimp only
      unfold runFn
      rw [e1, e2]
end
end EV

end
section
set_option Elab.async false
set_option linter.all false
set_option maxRecDepth 1000000
set_option maxHeartbeats 0
namespace EV
open PySem PySem.Spec PyProof.Rows L2
def prg : Program := PySem.Challenge.pw_farfolder_k92_whole_letters_and_pages_ap
def top (i : Nat) : Stmt := prg.main.body.getD i (.Pass ⟨0, 0, 0, 0⟩)
def metHs : List (Nat × List Nat × List Nat) := [(1, [112, 97, 103, 101, 115], [0]), (2, [115, 112, 97, 110], [0]), (0, [97, 109, 111, 110, 103], [0]), (3, [111, 116, 104, 101, 114], [0])]
def gtab : List (Str × Glob) := [("is_list", .fn 0 1 []), ("is_integer", .fn 1 1 []), ("is_number", .fn 2 1 []), ("checked_pages", .fn 3 1 []), ("checked_among", .fn 4 1 []), ("checked_letters", .fn 5 3 []), ("is_carried", .fn 6 4 []), ("letters", .fn 7 3 [.non]), ("pages_apart", .fn 8 3 [.non]), ("are_letters", .fn 9 4 []), ("are_apart", .fn 10 4 []), ("_law_draw", .fn 12 2 []), ("_law_pick", .fn 13 2 []), ("_law_mixed", .fn 14 2 []), ("_law_same", .fn 15 2 []), ("_law_loose", .fn 16 2 []), ("_law_is_page", .fn 18 1 []), ("_law_is_one", .fn 19 4 []), ("_law_are_letters", .fn 20 4 []), ("_law_are_apart", .fn 21 4 []), ("_law_odd_letters", .fn 22 3 []), ("_law_refused_right", .fn 23 4 []), ("BadAmong", .err 0), ("BadPages", .err 1), ("BadSpan", .err 2), ("NotAmong", .err 3)]
def btab : List Str := ["all", "any", "bool", "dict", "enumerate", "int", "isinstance", "len", "list", "range", "repr", "sorted", "str", "tuple", "zip"]
def ktab : List (Str × List Str × List Nat) := [("letters", ["pages", "span", "among"], [0, 1, 2])]
def ir_is_list : St := (.seq (.ret (.isi (.v 0) [.list, .tuple])) .skip)
def cc_is_list : CC := ⟨["thing"], defScope (top 7), none, gtab, btab, ktab, false, none⟩
theorem ck_is_list : chkS ir_is_list cc_is_list (.b (defBody (top 7))) = true := by decide +kernel
def ir_is_integer : St := (.seq (.ret (.bo true (.isi (.v 0) [.int]) (.not (.isi (.v 0) [.bool])))) .skip)
def cc_is_integer : CC := ⟨["thing"], defScope (top 8), none, gtab, btab, ktab, false, none⟩
theorem ck_is_integer : chkS ir_is_integer cc_is_integer (.b (defBody (top 8))) = true := by decide +kernel
def ir_is_number : St := (.seq (.ret (.bo true (.call .frz 1 (.cons (.v 0) .nil)) (.cmp .ge (.v 0) (.c (.int 0))))) .skip)
def cc_is_number : CC := ⟨["thing"], defScope (top 9), none, gtab, btab, ktab, false, none⟩
theorem ck_is_number : chkS ir_is_number cc_is_number (.b (defBody (top 9))) = true := by decide +kernel
def ir_checked_pages : St := (.seq (.iff (.not (.call .frz 0 (.cons (.v 0) .nil))) (.seq (.raise 1 (.cons (.c (.int 0)) .nil)) .skip) .skip) (.seq (.set (.nm 1) (.lst true .nil)) (.seq (.for (.tp (.cons (.nm 2) (.cons (.nm 3) .nil))) (.wk .enumr (.cons (.v 0) .nil)) (.seq (.iff (.bo false (.not (.call .frz 2 (.cons (.v 3) .nil))) (.cmp .isin (.v 3) (.v 1))) (.seq (.raise 1 (.cons (.v 2) .nil)) .skip) .skip) (.seq (.ex (.mt .append (.v 1) (.cons (.v 3) .nil))) .skip))) (.seq (.ret (.bi .sorted (.cons (.v 1) .nil))) .skip))))
def cc_checked_pages : CC := ⟨["pages", "found", "index", "page"], defScope (top 11), none, gtab, btab, ktab, false, none⟩
theorem ck_checked_pages : chkS ir_checked_pages cc_checked_pages (.b (defBody (top 11))) = true := by decide +kernel
def ir_checked_among : St := (.seq (.iff (.cmp .isN (.v 0) (.c .non)) (.seq (.ret (.c .non)) .skip) .skip) (.seq (.iff (.not (.call .frz 0 (.cons (.v 0) .nil))) (.seq (.raise 0 (.cons (.c (.int 0)) .nil)) .skip) .skip) (.seq (.set (.nm 1) (.dct true)) (.seq (.for (.tp (.cons (.nm 2) (.cons (.nm 3) .nil))) (.wk .enumr (.cons (.v 0) .nil)) (.seq (.iff (.bo false (.not (.call .frz 2 (.cons (.v 3) .nil))) (.cmp .isin (.v 3) (.v 1))) (.seq (.raise 0 (.cons (.v 2) .nil)) .skip) .skip) (.seq (.setix (.v 1) (.v 3) (.c (.bl true))) .skip))) (.seq (.ret (.v 1)) .skip)))))
def cc_checked_among : CC := ⟨["among", "found", "index", "page"], defScope (top 13), none, gtab, btab, ktab, false, none⟩
theorem ck_checked_among : chkS ir_checked_among cc_checked_among (.b (defBody (top 13))) = true := by decide +kernel
def ir_checked_letters : St := (.seq (.set (.nm 3) (.call .frz 3 (.cons (.v 0) .nil))) (.seq (.iff (.bo false (.not (.call .frz 1 (.cons (.v 1) .nil))) (.cmp .lt (.v 1) (.c (.int 1)))) (.seq (.raise 2 (.cons (.v 1) .nil)) .skip) .skip) (.seq (.set (.nm 4) (.call .frz 4 (.cons (.v 2) .nil))) (.seq (.for (.nm 5) (.ite (.cmp .notN (.v 4) (.c .non)) (.v 0) (.lst false .nil)) (.seq (.iff (.cmp .notin (.v 5) (.v 4)) (.seq (.raise 3 (.cons (.v 5) .nil)) .skip) .skip) .skip)) (.seq (.ret (.tup (.cons (.v 3) (.cons (.v 4) .nil)))) .skip)))))
def cc_checked_letters : CC := ⟨["pages", "span", "among", "some", "known", "page"], defScope (top 14), none, gtab, btab, ktab, false, none⟩
theorem ck_checked_letters : chkS ir_checked_letters cc_checked_letters (.b (defBody (top 14))) = true := by decide +kernel
def ir_is_carried : St := (.seq (.iff (.bo false (.cmp .lt (.v 1) (.v 0)) (.cmp .ge (.bin .sub (.v 1) (.v 0)) (.v 2))) (.seq (.ret (.c (.bl false))) .skip) .skip) (.seq (.ret (.bo false (.cmp .isN (.v 3) (.c .non)) (.bi .all (.cons (.lc false [4] (.nm 4) (.wk .range2 (.cons (.v 0) (.cons (.bin .add (.v 1) (.c (.int 1))) .nil))) (.c (.bl true)) (.cmp .isin (.v 4) (.v 3))) .nil)))) .skip))
def cc_is_carried : CC := ⟨["first", "last", "span", "known", "page"], defScope (top 15), none, gtab, btab, ktab, false, none⟩
theorem ck_is_carried : chkS ir_is_carried cc_is_carried (.b (defBody (top 15))) = true := by decide +kernel
def ir_letters : St := (.seq (.set (.tp (.cons (.nm 5) (.cons (.nm 6) .nil))) (.call .frz 5 (.cons (.v 0) (.cons (.v 1) (.cons (.v 2) .nil))))) (.seq (.set (.nm 3) (.lst true .nil)) (.seq (.for (.nm 4) (.v 5) (.seq (.iff (.bo true (.cmp .ne (.v 3) (.lst false .nil)) (.call .frz 6 (.cons (.ix (.ix (.v 3) (.neg (.c (.int 1)))) (.c (.int 0))) (.cons (.v 4) (.cons (.v 1) (.cons (.v 6) .nil)))))) (.seq (.setix (.v 3) (.neg (.c (.int 1))) (.tup (.cons (.ix (.ix (.v 3) (.neg (.c (.int 1)))) (.c (.int 0))) (.cons (.v 4) .nil)))) .skip) (.seq (.ex (.mt .append (.v 3) (.cons (.tup (.cons (.v 4) (.cons (.v 4) .nil))) .nil))) .skip)) .skip)) (.seq (.ret (.v 3)) .skip))))
def cc_letters : CC := ⟨["pages", "span", "among", "found", "page", "some", "known"], defScope (top 16), none, gtab, btab, ktab, false, none⟩
theorem ck_letters : chkS ir_letters cc_letters (.b (defBody (top 16))) = true := by decide +kernel
def ir_pages_apart : St := (.seq (.ret (.lc true [3, 4] (.tp (.cons (.nm 3) (.cons (.nm 4) .nil))) (.call .frz 7 (.cons (.v 0) (.cons (.v 1) (.cons (.v 2) .nil)))) (.c (.bl true)) (.v 3))) .skip)
def cc_pages_apart : CC := ⟨["pages", "span", "among", "first", "last"], defScope (top 17), none, gtab, btab, ktab, false, none⟩
theorem ck_pages_apart : chkS ir_pages_apart cc_pages_apart (.b (defBody (top 17))) = true := by decide +kernel
def ir_are_letters : St := (.seq (.set (.tp (.cons (.nm 4) (.cons (.nm 5) .nil))) (.call .frz 5 (.cons (.v 0) (.cons (.v 1) (.cons (.v 2) .nil))))) (.seq (.iff (.bo false (.not (.call .frz 0 (.cons (.v 3) .nil))) (.not (.bi .all (.cons (.lc false [7] (.nm 7) (.v 3) (.c (.bl true)) (.bo true (.call .frz 0 (.cons (.v 7) .nil)) (.cmp .eq (.bi .len (.cons (.v 7) .nil)) (.c (.int 2))))) .nil)))) (.seq (.ret (.c (.bl false))) .skip) .skip) (.seq (.iff (.not (.bi .all (.cons (.lc2 false [7, 6] [6] (.nm 7) (.v 3) (.c (.bl true)) (.nm 6) (.v 7) (.c (.bl true)) (.call .frz 2 (.cons (.v 6) .nil))) .nil))) (.seq (.ret (.c (.bl false))) .skip) .skip) (.seq (.iff (.not (.bi .all (.cons (.lc false [8, 9] (.tp (.cons (.nm 8) (.cons (.nm 9) .nil))) (.v 3) (.c (.bl true)) (.call .frz 6 (.cons (.v 8) (.cons (.v 9) (.cons (.v 1) (.cons (.v 5) .nil)))))) .nil))) (.seq (.ret (.c (.bl false))) .skip) .skip) (.seq (.ret (.bi .all (.cons (.lc false [6] (.nm 6) (.v 4) (.c (.bl true)) (.bi .any (.cons (.lc false [8, 9] (.tp (.cons (.nm 8) (.cons (.nm 9) .nil))) (.v 3) (.c (.bl true)) (.cmp2 .le .le (.v 8) (.v 6) (.v 9))) .nil))) .nil))) .skip)))))
def cc_are_letters : CC := ⟨["pages", "span", "among", "thing", "some", "known", "page", "pair", "first", "last"], defScope (top 18), none, gtab, btab, ktab, false, none⟩
theorem ck_are_letters : chkS ir_are_letters cc_are_letters (.b (defBody (top 18))) = true := by decide +kernel
def ir_are_apart : St := (.seq (.set (.tp (.cons (.nm 4) (.cons (.nm 5) .nil))) (.call .frz 5 (.cons (.v 0) (.cons (.v 1) (.cons (.v 2) .nil))))) (.seq (.iff (.bo false (.not (.call .frz 0 (.cons (.v 3) .nil))) (.not (.bi .all (.cons (.lc false [8] (.nm 8) (.v 3) (.c (.bl true)) (.bo true (.call .frz 2 (.cons (.v 8) .nil)) (.cmp .isin (.v 8) (.v 4)))) .nil)))) (.seq (.ret (.c (.bl false))) .skip) .skip) (.seq (.ret (.bi .all (.cons (.lc false [6, 7] (.tp (.cons (.nm 6) (.cons (.nm 7) .nil))) (.wk .zip (.cons (.v 3) (.cons (.sl (.v 3) (.c (.int 1)) .nil) .nil))) (.c (.bl true)) (.bo true (.cmp .lt (.v 6) (.v 7)) (.not (.call .frz 6 (.cons (.v 6) (.cons (.v 7) (.cons (.v 1) (.cons (.v 5) .nil)))))))) .nil))) .skip)))
def cc_are_apart : CC := ⟨["pages", "span", "among", "thing", "some", "known", "one", "other", "page"], defScope (top 19), none, gtab, btab, ktab, false, none⟩
theorem ck_are_apart : chkS ir_are_apart cc_are_apart (.b (defBody (top 19))) = true := by decide +kernel
def ir__law_pick : St := (.seq (.ret (.ix (.v 1) (.call .frz 12 (.cons (.v 0) (.cons (.bi .len (.cons (.v 1) .nil)) .nil))))) .skip)
def cc__law_pick : CC := ⟨["_law_stream", "_law_some"], defScope (top 23), none, gtab, btab, ktab, false, none⟩
theorem ck__law_pick : chkS ir__law_pick cc__law_pick (.b (defBody (top 23))) = true := by decide +kernel
def ir__law_mixed : St := (.seq (.set (.nm 2) (.bi .listm (.cons (.v 1) .nil))) (.seq (.ret (.lc false [3] (.nm 3) (.wk .range (.cons (.bi .len (.cons (.v 2) .nil)) .nil)) (.c (.bl true)) (.mt .pop (.v 2) (.cons (.call .frz 12 (.cons (.v 0) (.cons (.bi .len (.cons (.v 2) .nil)) .nil))) .nil)))) .skip))
def cc__law_mixed : CC := ⟨["_law_stream", "_law_some", "_law_left", "_law_k"], defScope (top 24), none, gtab, btab, ktab, false, none⟩
theorem ck__law_mixed : chkS ir__law_mixed cc__law_mixed (.b (defBody (top 24))) = true := by decide +kernel
def ir__law_same : St := (.seq (.iff (.isi (.v 1) [.list, .tuple]) (.seq (.iff (.bo false (.cmp .ne (.isi (.v 0) [.list]) (.isi (.v 1) [.list])) (.cmp .ne (.isi (.v 0) [.tuple]) (.isi (.v 1) [.tuple]))) (.seq (.ret (.c (.bl false))) .skip) .skip) (.seq (.ret (.bo true (.cmp .eq (.bi .len (.cons (.v 0) .nil)) (.bi .len (.cons (.v 1) .nil))) (.bi .all (.cons (.lc false [2, 3] (.tp (.cons (.nm 2) (.cons (.nm 3) .nil))) (.wk .zip (.cons (.v 0) (.cons (.v 1) .nil))) (.c (.bl true)) (.call .frz 15 (.cons (.v 2) (.cons (.v 3) .nil)))) .nil)))) .skip)) .skip) (.seq (.iff (.isi (.v 1) [.dict]) (.seq (.ret (.bo true (.isi (.v 0) [.dict]) (.call .frz 15 (.cons (.bi .list (.cons .nope .nil)) (.cons (.bi .list (.cons .nope .nil)) .nil))))) .skip) .skip) (.seq (.iff (.isi (.v 1) [.int]) (.seq (.ret (.bo true (.isi (.v 0) [.int]) (.bo true (.cmp .eq (.isi (.v 0) [.bool]) (.isi (.v 1) [.bool])) (.cmp .eq (.v 0) (.v 1))))) .skip) .skip) (.seq (.ret (.bo true (.not (.isi (.v 0) [.int, .list, .tuple, .dict])) (.cmp .eq (.v 0) (.v 1)))) .skip))))
def cc__law_same : CC := ⟨["_law_found", "_law_due", "_law_x", "_law_y"], defScope (top 25), none, gtab, btab, ktab, false, none⟩
theorem ck__law_same : chkS ir__law_same cc__law_same (.b (defBody (top 25))) = true := by decide +kernel
def ir__law_loose : St := (.seq (.iff (.not (.isi (.v 1) [.list, .tuple])) (.seq (.ret (.v 1)) .skip) .skip) (.seq (.set (.nm 2) (.lc false [3] (.nm 3) (.v 1) (.c (.bl true)) (.call .frz 16 (.cons (.v 0) (.cons (.v 3) .nil))))) (.seq (.ret (.ite (.cmp .eq (.call .frz 12 (.cons (.v 0) (.cons (.c (.int 3)) .nil))) (.c (.int 0))) (.v 2) (.bi .tuple (.cons (.v 2) .nil)))) .skip)))
def cc__law_loose : CC := ⟨["_law_stream", "_law_thing", "_law_found", "_law_part"], defScope (top 26), none, gtab, btab, ktab, false, none⟩
theorem ck__law_loose : chkS ir__law_loose cc__law_loose (.b (defBody (top 26))) = true := by decide +kernel
def ir__law_is_page : St := (.seq (.ret (.bo true (.isi (.v 0) [.int]) (.bo true (.not (.isi (.v 0) [.bool])) (.cmp .ge (.v 0) (.c (.int 0)))))) .skip)
def cc__law_is_page : CC := ⟨["_law_thing"], defScope (top 28), none, gtab, btab, ktab, false, none⟩
theorem ck__law_is_page : chkS ir__law_is_page cc__law_is_page (.b (defBody (top 28))) = true := by decide +kernel
def ir__law_is_one : St := (.seq (.iff (.bo false (.cmp .lt (.v 1) (.v 0)) (.cmp .gt (.bin .add (.bin .sub (.v 1) (.v 0)) (.c (.int 1))) (.v 2))) (.seq (.ret (.c (.bl false))) .skip) .skip) (.seq (.ret (.bo false (.cmp .isN (.v 3) (.c .non)) (.bi .all (.cons (.lc false [4] (.nm 4) (.wk .range2 (.cons (.v 0) (.cons (.bin .add (.v 1) (.c (.int 1))) .nil))) (.c (.bl true)) (.cmp .isin (.v 4) (.v 3))) .nil)))) .skip))
def cc__law_is_one : CC := ⟨["_law_first", "_law_last", "_law_span", "_law_among", "_law_page"], defScope (top 29), none, gtab, btab, ktab, false, none⟩
theorem ck__law_is_one : chkS ir__law_is_one cc__law_is_one (.b (defBody (top 29))) = true := by decide +kernel
def ir__law_are_letters : St := (.seq (.iff (.not (.isi (.v 3) [.list, .tuple])) (.seq (.ret (.c (.bl false))) .skip) .skip) (.seq (.for (.nm 4) (.v 3) (.seq (.iff (.bo false (.not (.isi (.v 4) [.list, .tuple])) (.bo false (.cmp .ne (.bi .len (.cons (.v 4) .nil)) (.c (.int 2))) (.not (.bi .all (.cons (.lc false [5] (.nm 5) (.v 4) (.c (.bl true)) (.call .frz 18 (.cons (.v 5) .nil))) .nil))))) (.seq (.ret (.c (.bl false))) .skip) .skip) (.seq (.iff (.not (.call .frz 19 (.cons (.ix (.v 4) (.c (.int 0))) (.cons (.ix (.v 4) (.c (.int 1))) (.cons (.v 1) (.cons (.v 2) .nil)))))) (.seq (.ret (.c (.bl false))) .skip) .skip) .skip))) (.seq (.ret (.bi .all (.cons (.lc false [5] (.nm 5) (.v 0) (.c (.bl true)) (.bi .any (.cons (.lc false [4] (.nm 4) (.v 3) (.c (.bl true)) (.cmp2 .le .le (.ix (.v 4) (.c (.int 0))) (.v 5) (.ix (.v 4) (.c (.int 1))))) .nil))) .nil))) .skip)))
def cc__law_are_letters : CC := ⟨["_law_pages", "_law_span", "_law_among", "_law_thing", "_law_pair", "_law_page"], defScope (top 30), none, gtab, btab, ktab, false, none⟩
theorem ck__law_are_letters : chkS ir__law_are_letters cc__law_are_letters (.b (defBody (top 30))) = true := by decide +kernel
def ir__law_are_apart : St := (.seq (.iff (.bo false (.not (.isi (.v 3) [.list, .tuple])) (.not (.bi .all (.cons (.lc false [5] (.nm 5) (.v 3) (.c (.bl true)) (.bo true (.call .frz 18 (.cons (.v 5) .nil)) (.cmp .isin (.v 5) (.v 0)))) .nil)))) (.seq (.ret (.c (.bl false))) .skip) .skip) (.seq (.for (.tp (.cons (.nm 4) (.cons (.nm 5) .nil))) (.wk .enumr (.cons (.v 3) .nil)) (.seq (.iff (.bi .any (.cons (.lc false [6] (.nm 6) (.sl (.v 3) (.bin .add (.v 4) (.c (.int 1))) .nil) (.c (.bl true)) (.bo false (.cmp .le (.v 6) (.v 5)) (.call .frz 19 (.cons (.v 5) (.cons (.v 6) (.cons (.v 1) (.cons (.v 2) .nil))))))) .nil)) (.seq (.ret (.c (.bl false))) .skip) .skip) .skip)) (.seq (.ret (.c (.bl true))) .skip)))
def cc__law_are_apart : CC := ⟨["_law_pages", "_law_span", "_law_among", "_law_thing", "_law_at", "_law_page", "_law_other"], defScope (top 31), none, gtab, btab, ktab, false, none⟩
theorem ck__law_are_apart : chkS ir__law_are_apart cc__law_are_apart (.b (defBody (top 31))) = true := by decide +kernel
def ir__law_odd_letters : St := (.seq (.set (.nm 3) (.lst true (.cons (.c .non) (.cons (.c (.int 5)) (.cons (.c (.str [97, 98])) (.cons (.lst false .nil) (.cons (.dct false) (.cons (.lst false (.cons (.c .non) .nil)) (.cons (.lst false (.cons (.tup (.cons (.c (.int 1)) .nil)) .nil)) (.cons (.lst false (.cons (.tup (.cons (.c (.bl true)) (.cons (.c (.int 1)) .nil))) .nil)) (.cons (.lst false (.cons (.tup (.cons (.c (.int 0)) (.cons (.c (.int 39)) .nil))) .nil)) (.cons (.rev (.v 1)) (.cons (.sl (.v 1) (.c (.int 1)) .nil) (.cons (.bi .tuple (.cons (.v 1) .nil)) .nil)))))))))))))) (.seq (.ex (.mt .extend (.v 3) (.cons (.lst false (.cons (.bin .add (.v 1) (.sl (.v 1) .nil (.c (.int 1)))) (.cons (.lc false [4] (.nm 4) (.v 1) (.c (.bl true)) (.bi .list (.cons (.v 4) .nil))) (.cons (.lc false [4] (.nm 4) (.v 1) (.c (.bl true)) (.tup (.cons (.ix (.v 4) (.c (.int 0))) (.cons (.bin .add (.ix (.v 4) (.c (.int 1))) (.c (.int 1))) .nil)))) .nil)))) .nil))) (.seq (.ex (.mt .extend (.v 3) (.cons (.lst false (.cons (.lc false [4] (.nm 4) (.v 1) (.c (.bl true)) (.tup (.cons (.ix (.v 4) (.c (.int 1))) (.cons (.ix (.v 4) (.c (.int 0))) .nil)))) (.cons (.v 2) (.cons (.rev (.v 2)) (.cons (.sl (.v 2) (.c (.int 1)) .nil) (.cons (.bi .tuple (.cons (.v 2) .nil)) .nil)))))) .nil))) (.seq (.ex (.mt .extend (.v 3) (.cons (.lst false (.cons (.bin .add (.v 2) (.sl (.v 2) .nil (.c (.int 1)))) (.cons (.bin .add (.v 2) (.lst false (.cons (.neg (.c (.int 1))) .nil))) (.cons (.lst false (.cons (.c (.str [49])) .nil)) (.cons (.lst false (.cons (.c (.bl true)) .nil)) (.cons (.lst false (.cons (.c (.int 1)) (.cons (.c (.int 0)) .nil))) (.cons (.bin .add (.v 1) (.lst false (.cons (.tup (.cons (.neg (.c (.int 1))) (.cons (.c (.int 0)) .nil))) .nil))) (.cons (.lst false (.cons (.tup (.cons (.c (.int 0)) (.cons (.c (.int 3)) (.cons (.c (.int 5)) .nil)))) .nil)) .nil)))))))) .nil))) (.seq (.ret (.sl (.call .frz 14 (.cons (.v 0) (.cons (.frz (.v 3)) .nil))) .nil (.c (.int 9)))) .skip)))))
def cc__law_odd_letters : CC := ⟨["_law_stream", "_law_told", "_law_apart", "_law_found", "_law_pair"], defScope (top 32), none, gtab, btab, ktab, false, none⟩
theorem ck__law_odd_letters : chkS ir__law_odd_letters cc__law_odd_letters (.b (defBody (top 32))) = true := by decide +kernel
def ir__law_refused_right : St := (.seq (.par [8, 9] (.cons (.call .frz 13 (.cons (.v 0) (.cons (.lst false (.cons (.c .non) (.cons (.neg (.c (.int 1))) (.cons (.c (.bl true)) (.cons (.c (.str [49])) (.cons (.lst false (.cons (.c (.int 1)) .nil)) .nil)))))) .nil))) (.cons (.call .frz 12 (.cons (.v 0) (.cons (.bin .add (.bi .len (.cons (.v 1) .nil)) (.c (.int 1))) .nil))) .nil))) (.seq (.set (.nm 4) (.bin .add (.bin .add (.sl (.v 1) .nil (.v 9)) (.lst false (.cons (.ite (.cmp .eq (.v 9) (.c (.int 0))) (.v 8) (.call .frz 13 (.cons (.v 0) (.cons (.lst false (.cons (.v 8) (.cons (.ix (.v 1) (.c (.int 0))) .nil))) .nil)))) .nil))) (.sl (.v 1) (.v 9) .nil))) (.seq (.set (.nm 5) (.call .frz 13 (.cons (.v 0) (.cons (.lst false (.cons (.c .non) (.cons (.c (.int 0)) (.cons (.neg (.c (.int 2))) (.cons (.c (.bl true)) (.cons (.c (.str [50])) (.cons (.lst false (.cons (.c (.int 1)) .nil)) .nil))))))) .nil)))) (.seq (.set (.tp (.cons (.nm 10) (.cons (.nm 11) .nil))) (.tup (.cons (.call .frz 13 (.cons (.v 0) (.cons (.lst false (.cons (.lst false (.cons (.c (.int 3)) (.cons (.c (.int 3)) .nil))) (.cons (.lst false (.cons (.c (.int 5)) (.cons (.c .non) .nil))) (.cons (.tup (.cons (.c (.int 7)) (.cons (.neg (.c (.int 1))) .nil))) .nil)))) .nil))) (.cons (.lrg false (.c (.int 41))) .nil)))) (.seq (.set (.nm 6) (.lst true (.cons (.met metHs 0 (.call .frz 7 (.cons (.v 4) (.cons (.v 5) (.cons (.v 10) .nil))))) .nil))) (.seq (.ex (.mt .append (.v 6) (.cons (.met metHs 0 (.call .frz 8 (.cons (.v 1) (.cons (.v 5) (.cons (.v 10) .nil))))) .nil))) (.seq (.ex (.mt .append (.v 6) (.cons (.met metHs 0 (.call .frz 7 (.cons (.v 1) (.cons (.v 2) (.cons (.v 10) .nil))))) .nil))) (.seq (.ex (.mt .append (.v 6) (.cons (.met metHs 0 (.call .frz 9 (.cons (.c .non) (.cons (.v 5) (.cons (.v 10) (.cons (.lst false .nil) .nil)))))) .nil))) (.seq (.ex (.mt .append (.v 6) (.cons (.met metHs 0 (.call .frz 10 (.cons (.v 1) (.cons (.v 2) (.cons (.c (.int 5)) (.cons (.lst false .nil) .nil)))))) .nil))) (.seq (.ex (.mt .append (.v 6) (.cons (.met metHs 0 (.call .frz 9 (.cons (.v 1) (.cons (.v 5) (.cons (.lst false .nil) (.cons (.lst false .nil) .nil)))))) .nil))) (.seq (.set (.nm 7) (.lst true (.cons (.tup (.cons (.c (.str [112, 97, 103, 101, 115])) (.cons (.v 9) .nil))) (.cons (.tup (.cons (.c (.str [115, 112, 97, 110])) (.cons (.v 5) .nil))) (.cons (.tup (.cons (.c (.str [97, 109, 111, 110, 103])) (.cons (.c (.int 1)) .nil))) (.cons (.tup (.cons (.c (.str [112, 97, 103, 101, 115])) (.cons (.c (.int 0)) .nil))) (.cons (.tup (.cons (.c (.str [97, 109, 111, 110, 103])) (.cons (.c (.int 0)) .nil))) (.cons (.tup (.cons (.c (.str [115, 112, 97, 110])) (.cons (.v 5) .nil))) .nil)))))))) (.seq (.iff (.cmp .ne (.v 1) (.lst false .nil)) (.seq (.ex (.mt .append (.v 6) (.cons (.met metHs 0 (.call .frz 7 (.cons (.v 1) (.cons (.v 2) (.cons (.lc false [12] (.nm 12) (.v 11) (.cmp .ne (.v 12) (.ix (.v 1) (.neg (.c (.int 1))))) (.v 12)) .nil))))) .nil))) (.seq (.ex (.mt .append (.v 6) (.cons (.met metHs 0 (.call .frz 8 (.cons (.bin .add (.lst false (.cons (.c (.int 40)) .nil)) (.v 1)) (.cons (.v 2) (.cons (.lst false (.cons (.c (.int 0)) .nil)) .nil))))) .nil))) (.seq (.ex (.mt .extend (.v 7) (.cons (.lst false (.cons (.tup (.cons (.c (.str [111, 116, 104, 101, 114])) (.cons (.ix (.v 1) (.neg (.c (.int 1)))) .nil))) (.cons (.tup (.cons (.c (.str [111, 116, 104, 101, 114])) (.cons (.c (.int 40)) .nil))) .nil))) .nil))) .skip))) .skip) (.seq (.ret (.call .frz 15 (.cons (.frz (.v 6)) (.cons (.frz (.v 7)) .nil)))) .skip)))))))))))))
def cc__law_refused_right : CC := ⟨["_law_stream", "_law_pages", "_law_span", "_law_among", "_law_wrong", "_law_none", "_law_found", "_law_dues", "_law_odd", "_law_at", "_law_bad", "_law_rows", "_law_page"], defScope (top 33), none, gtab, btab, ktab, false, some ("_law_met", metHs)⟩
theorem ck__law_refused_right : chkS ir__law_refused_right cc__law_refused_right (.b (defBody (top 33))) = true := by decide +kernel
def ir_law : St := (.seq (.for (.nm 2) (.wk .range (.cons (.c (.int 5)) .nil)) (.seq (.set (.nm 3) (.call .frz 13 (.cons (.v 1) (.cons (.lst false (.cons (.c (.int 6)) (.cons (.c (.int 12)) (.cons (.c (.int 12)) (.cons (.c (.int 40)) .nil))))) .nil)))) (.seq (.set (.nm 4) (.ite (.cmp .gt (.call .frz 12 (.cons (.v 1) (.cons (.c (.int 3)) .nil))) (.c (.int 0))) (.lc false [17] (.nm 17) (.wk .range (.cons (.v 3) .nil)) (.cmp .gt (.call .frz 12 (.cons (.v 1) (.cons (.c (.int 4)) .nil))) (.c (.int 0))) (.v 17)) (.c .non))) (.seq (.set (.nm 5) (.ite (.cmp .isN (.v 4) (.c .non)) (.lrg false (.v 3)) (.v 4))) (.seq (.set (.nm 6) (.call .frz 14 (.cons (.v 1) (.cons (.lc false [17] (.nm 17) (.v 5) (.cmp .eq (.call .frz 12 (.cons (.v 1) (.cons (.c (.int 2)) .nil))) (.c (.int 0))) (.v 17)) .nil)))) (.seq (.set (.nm 7) (.call .frz 13 (.cons (.v 1) (.cons (.lst false (.cons (.c (.int 1)) (.cons (.c (.int 2)) (.cons (.c (.int 3)) (.cons (.c (.int 4)) (.cons (.c (.int 10)) .nil)))))) .nil)))) (.seq (.set (.nm 8) (.ite (.cmp .isN (.v 4) (.c .non)) (.c .non) (.call .frz 16 (.cons (.v 1) (.cons (.call .frz 14 (.cons (.v 1) (.cons (.v 4) .nil))) .nil))))) (.seq (.par [11, 12] (.cons (.call .frz 16 (.cons (.v 1) (.cons (.v 6) .nil))) (.cons (.bi .repr (.cons (.tup (.cons (.v 6) (.cons (.v 8) .nil))) .nil)) .nil))) (.seq (.par [13, 14] (.cons (.call .adopt 7 (.cons (.v 11) (.cons (.v 7) (.cons (.v 8) .nil)))) (.cons (.call .adopt 8 (.cons (.bi .tuple (.cons (.v 6) .nil)) (.cons (.v 7) (.cons (.v 8) .nil)))) .nil))) (.seq (.bor 10 (.seq (.iff (.cmp .ne (.bi .repr (.cons (.tup (.cons (.bi .list (.cons (.v 11) .nil)) (.cons (.v 8) .nil))) .nil)) (.v 12)) (.seq (.ret (.c (.bl false))) .skip) .skip) (.seq (.iff (.bo false (.not (.isi (.v 13) [.list])) (.bo false (.not (.call .frz 20 (.cons (.v 6) (.cons (.v 7) (.cons (.v 4) (.cons (.v 13) .nil)))))) (.cmp .ne (.bi .len (.cons (.v 13) .nil)) (.bi .len (.cons (.v 14) .nil))))) (.seq (.ret (.c (.bl false))) .skip) .skip) (.seq (.iff (.not (.call .frz 15 (.cons (.v 13) (.cons (.bi .sorted (.cons (.lc false [20] (.nm 20) (.v 13) (.c (.bl true)) (.tup (.cons (.ix (.v 20) (.c (.int 0))) (.cons (.ix (.v 20) (.c (.int 1))) .nil)))) .nil)) .nil)))) (.seq (.ret (.c (.bl false))) .skip) .skip) (.seq (.iff (.bi .any (.cons (.lc false [18, 19] (.tp (.cons (.nm 18) (.cons (.nm 19) .nil))) (.wk .zip (.cons (.v 13) (.cons (.sl (.v 13) (.c (.int 1)) .nil) .nil))) (.c (.bl true)) (.cmp .le (.ix (.v 19) (.c (.int 0))) (.ix (.v 18) (.c (.int 1))))) .nil)) (.seq (.ret (.c (.bl false))) .skip) .skip) (.seq (.iff (.bo false (.not (.isi (.v 14) [.list])) (.not (.call .frz 21 (.cons (.v 6) (.cons (.v 7) (.cons (.v 4) (.cons (.v 14) .nil))))))) (.seq (.ret (.c (.bl false))) .skip) .skip) (.seq (.for (.nm 9) (.bin .add (.call .frz 22 (.cons (.v 1) (.cons (.v 13) (.cons (.v 14) .nil)))) (.lst false (.cons (.v 13) (.cons (.v 14) .nil)))) (.seq (.set (.nm 15) (.lst false (.cons (.call .frz 9 (.cons (.v 6) (.cons (.v 7) (.cons (.v 4) (.cons (.v 9) .nil))))) (.cons (.call .frz 10 (.cons (.v 6) (.cons (.v 7) (.cons (.v 4) (.cons (.v 9) .nil))))) .nil)))) (.seq (.set (.nm 16) (.lst false (.cons (.call .frz 20 (.cons (.v 6) (.cons (.v 7) (.cons (.v 4) (.cons (.v 9) .nil))))) (.cons (.call .frz 21 (.cons (.v 6) (.cons (.v 7) (.cons (.v 4) (.cons (.v 9) .nil))))) .nil)))) (.seq (.iff (.not (.call .frz 15 (.cons (.v 15) (.cons (.v 16) .nil)))) (.seq (.ret (.c (.bl false))) .skip) .skip) .skip)))) (.seq (.iff (.bo true (.cmp .isN (.v 4) (.c .non)) (.bo false (.cmp .ne (.call .frz 7 (.cons (.v 6) (.cons (.v 7) .nil))) (.v 13)) (.cmp .ne (.call .frz 8 (.cons (.v 6) (.cons (.v 7) .nil))) (.v 14)))) (.seq (.ret (.c (.bl false))) .skip) .skip) (.seq (.iff (.cmp .ne (.callk .frz 7 [0, 1, 2] (.cons (.v 6) (.cons (.v 7) (.cons (.v 8) .nil)))) (.v 13)) (.seq (.ret (.c (.bl false))) .skip) .skip) (.seq (.iff (.not (.call .frz 23 (.cons (.v 1) (.cons (.v 6) (.cons (.v 7) (.cons (.v 4) .nil)))))) (.seq (.ret (.c (.bl false))) .skip) .skip) (.seq (.set (.nm 10) (.bi .repr (.cons (.tup (.cons (.v 13) (.cons (.v 14) .nil))) .nil))) .skip))))))))))) (.seq (.ex (.mt .append (.v 13) (.cons (.tup (.cons (.c (.int 0)) (.cons (.c (.int 0)) .nil))) .nil))) (.seq (.ex (.mt .append (.v 14) (.cons (.c (.int 0)) .nil))) (.seq (.iff (.cmp .ne (.bi .repr (.cons (.tup (.cons (.call .frz 7 (.cons (.v 11) (.cons (.v 7) (.cons (.v 8) .nil)))) (.cons (.call .frz 8 (.cons (.bi .tuple (.cons (.v 6) .nil)) (.cons (.v 7) (.cons (.v 8) .nil)))) .nil))) .nil)) (.v 10)) (.seq (.ret (.c (.bl false))) .skip) .skip) .skip))))))))))))) (.seq (.ret (.c (.bl true))) .skip))
def cc_law : CC := ⟨["_law_script", "_law_stream", "_law_turn", "_law_top", "_law_among", "_law_some", "_law_pages", "_law_span", "_law_handed", "_law_thing", "_law_kept", "_law_passed", "_law_was", "_law_told", "_law_apart", "_law_found", "_law_dues", "_law_page", "_law_one", "_law_other", "_law_pair"], defScope (top 34), none, gtab, btab, ktab, true, none⟩
theorem ck_law : chkS ir_law cc_law (.b (defBody (top 34)).tail) = true := by decide +kernel
def fd_is_list : Fn := ⟨1, 1, [], ir_is_list⟩
def fn_is_list : FnK := .plain fd_is_list
def fd_is_integer : Fn := ⟨1, 1, [], ir_is_integer⟩
def fn_is_integer : FnK := .plain fd_is_integer
def fd_is_number : Fn := ⟨1, 1, [], ir_is_number⟩
def fn_is_number : FnK := .plain fd_is_number
def fd_checked_pages : Fn := ⟨1, 4, [], ir_checked_pages⟩
def fn_checked_pages : FnK := .plain fd_checked_pages
def fd_checked_among : Fn := ⟨1, 4, [], ir_checked_among⟩
def fn_checked_among : FnK := .plain fd_checked_among
def fd_checked_letters : Fn := ⟨3, 6, [], ir_checked_letters⟩
def fn_checked_letters : FnK := .plain fd_checked_letters
def fd_is_carried : Fn := ⟨4, 5, [], ir_is_carried⟩
def fn_is_carried : FnK := .plain fd_is_carried
def fd_letters : Fn := ⟨3, 7, [.non], ir_letters⟩
def fn_letters : FnK := .plain fd_letters
def fd_pages_apart : Fn := ⟨3, 5, [.non], ir_pages_apart⟩
def fn_pages_apart : FnK := .plain fd_pages_apart
def fd_are_letters : Fn := ⟨4, 10, [], ir_are_letters⟩
def fn_are_letters : FnK := .plain fd_are_letters
def fd_are_apart : Fn := ⟨4, 9, [], ir_are_apart⟩
def fn_are_apart : FnK := .plain fd_are_apart
def fd__law_pick : Fn := ⟨2, 2, [], ir__law_pick⟩
def fn__law_pick : FnK := .plain fd__law_pick
def fd__law_mixed : Fn := ⟨2, 4, [], ir__law_mixed⟩
def fn__law_mixed : FnK := .plain fd__law_mixed
def fd__law_same : Fn := ⟨2, 4, [], ir__law_same⟩
def fn__law_same : FnK := .plain fd__law_same
def fd__law_loose : Fn := ⟨2, 4, [], ir__law_loose⟩
def fn__law_loose : FnK := .plain fd__law_loose
def fd__law_is_page : Fn := ⟨1, 1, [], ir__law_is_page⟩
def fn__law_is_page : FnK := .plain fd__law_is_page
def fd__law_is_one : Fn := ⟨4, 5, [], ir__law_is_one⟩
def fn__law_is_one : FnK := .plain fd__law_is_one
def fd__law_are_letters : Fn := ⟨4, 6, [], ir__law_are_letters⟩
def fn__law_are_letters : FnK := .plain fd__law_are_letters
def fd__law_are_apart : Fn := ⟨4, 7, [], ir__law_are_apart⟩
def fn__law_are_apart : FnK := .plain fd__law_are_apart
def fd__law_odd_letters : Fn := ⟨3, 5, [], ir__law_odd_letters⟩
def fn__law_odd_letters : FnK := .plain fd__law_odd_letters
def fd__law_refused_right : Fn := ⟨4, 13, [], ir__law_refused_right⟩
def fn__law_refused_right : FnK := .plain fd__law_refused_right
def fd_law : Fn := ⟨1, 21, [], ir_law⟩
def fn_law : FnK := .plain fd_law
def fns : List FnK := [fn_is_list, fn_is_integer, fn_is_number, fn_checked_pages, fn_checked_among, fn_checked_letters, fn_is_carried, fn_letters, fn_pages_apart, fn_are_letters, fn_are_apart, .spring, .draw, fn__law_pick, fn__law_mixed, fn__law_same, fn__law_loose, .plain ⟨1, 2, [], .nope⟩, fn__law_is_page, fn__law_is_one, fn__law_are_letters, fn__law_are_apart, fn__law_odd_letters, fn__law_refused_right, fn_law]
end EV

end
section
set_option Elab.async false
set_option linter.all false
set_option maxRecDepth 1000000
set_option maxHeartbeats 1000000
/-! the draw -/
namespace EV
open PySem PySem.Spec PyProof.Rows L2
open LamX (Tabs TabS CodeO ExtN)
/-- the spring alone has changed -/
structure SprTo (G : Gd) (H H' : Hp) : Prop where
  out : ∀ q o, H q = some o → q ≠ G.sp → q ≠ G.sc → H' q = some o
theorem Nn.lst {H : Hp} {q : Addr} {l : List V} (h : H q = some (.lst l)) : ¬ Nn H q := Nn.no h nofun
theorem spr_ext {G : Gd} {W : Wd} {H H' : Hp} {l1 l2 : List V} (s : SprTo G H H') (h1 : H' G.sp = some (.lst l1)) (h2 : H' G.sc = some (.lst l2)) : Ext G W H W H' :=
  ⟨fun q o h nt n => s.out q o h (fun e => n (.inr (.inl e))) (fun e => n (.inr (.inr e))),
   fun q n => by
    by_cases e1 : q = G.sp
    · subst e1; exact (Nn.lst h1 n).elim
    · by_cases e2 : q = G.sc
      · subst e2; exact (Nn.lst h2 n).elim
      · exact fun o h => n o (s.out q o h e1 e2),
   Nat.le_refl _, fun _ _ _ h => h, fun _ h => .inl h, fun _ h => .inl h, fun _ h => h, rfl⟩
theorem spr_rel {G : Gd} {W : Wd} {st : Store} {b b' : Nat} {H H' : Hp} (R : Rel G W st b H) (s : SprTo G H H') (o : SprOk G H' b') : Rel G W st b' H' := by
  obtain ⟨ns, g, m, c, h1, h2, h3⟩ := id o
  have x := spr_ext (W := W) s h1 h2
  have tb : ∀ q ps, H q = some (.tbl ps) → H' q = some (.tbl ps) := fun q ps e => by
    obtain ⟨_, _, _, _, k1, k2, _⟩ := R.spr
    exact s.out q _ e (fun z => by rw [z, k1] at e; cases e) (fun z => by rw [z, k2] at e; cases e)
  refine ⟨R.len, R.inj, fun i c h => ?_, R.dead, o, R.nosp, fun a h n => R.avt a h (x.there a n), R.avl, fun p hp => ?_⟩
  · obtain ⟨a, k1, k2⟩ := R.cell i c h
    refine ⟨a, k1, k2.keeps x ?_⟩
    obtain ⟨n1, n2⟩ := spr_ne R ⟨i, k1⟩
    obtain ⟨o', ho, _⟩ := live_obj R ⟨i, k1⟩
    rw [ho]
    exact s.out a _ ho n1 n2
  · obtain ⟨ps, t1, t2, t3⟩ := R.tabs p hp
    obtain ⟨_, _, _, _, k1, k2, _⟩ := R.spr
    refine ⟨ps, tb _ _ t1, t2, fun pos cv hc => ?_⟩
    obtain ⟨c', e1, e2⟩ := t3 pos cv hc
    refine ⟨c', e1, ?_⟩
    exact s.out c' _ e2 (fun z => by rw [z, k1] at e2; unfold CodeO at e2; cases e2) (fun z => by rw [z, k2] at e2; unfold CodeO at e2; cases e2)
theorem SprTo.trans {G : Gd} {H H1 H2 : Hp} (a : SprTo G H H1) (b : SprTo G H1 H2) : SprTo G H H2 := ⟨fun q o e n1 n2 => b.out q o (a.out q o e n1 n2) n1 n2⟩
theorem SprTo.sp {G : Gd} {H : Hp} (o : HO) : SprTo G H (upd H G.sp o) := ⟨fun q o e n1 n2 => by rw [upd_ne n1]; exact e⟩
theorem SprTo.sc {G : Gd} {H : Hp} (o : HO) : SprTo G H (upd H G.sc o) := ⟨fun q o e n1 n2 => by rw [upd_ne n2]; exact e⟩
theorem SprTo.new {G : Gd} {H : Hp} {p : Addr} (o : HO) (hp : H p = none) : SprTo G H (upd H p o) := ⟨fun q o e n1 n2 => by rw [upd_ne (ne_of_none e hp)]; exact e⟩
theorem okBs_ints (l : List Int) (n : Nat) : okBs (l.map .int) n = true := by
  induction l with
  | nil => rfl
  | cons a l ih => simp [okBs, okB, ih]
theorem ne_nil_D (l : List Int) : (eqD (.lst (l.map .int)) (.lst [])).map not = some (!l.isEmpty) := by
  unfold eqD
  simp only [okB, okBs_ints, okBs, Bool.and_self, if_true]
  cases l <;> rfl
/-- where the spring stands -/
structure SprAt (G : Gd) (H : Hp) (ns : List Int) (g c m : Int) : Prop where
  sp : H G.sp = some (.lst [.ref G.sc, .int g, .int c, .int m])
  sc : H G.sc = some (.lst (ns.map V.int))
/-- its numbers are small enough -/
structure SprNs (ns : List Int) (g m : Int) : Prop where
  g0 : 0 ≤ g
  gl : g.natAbs < 2 ^ 1048576
  nl : ∀ n ∈ ns, n.natAbs < 2 ^ 1048576
  len : ns.length ≤ 63
  m0 : 0 ≤ m
  ml : m < 2147483647
theorem ite_false' {c : Bool} {a b : Prop} (h : c = false) (hb : b) : if c = true then a else b := by rw [h]; exact hb
theorem ite_true' {c : Bool} {a b : Prop} (h : c = true) (hb : a) : if c = true then a else b := by rw [h]; exact hb
theorem base_small {m : Int} {c b : Nat} (h0 : 0 ≤ m) (h1 : m < 2147483647) (hc : c + (b + 1) ≤ 2 ^ 40) : (m + 7919 * ((c + 1 : Nat) : Int) + 104729).natAbs < 2 ^ 64 := by
  omega
theorem base2_small {m : Int} {c b : Nat} (h0 : 0 ≤ m) (h1 : m < 2147483629) (hc : c + (b + 1) ≤ 2 ^ 40) : (m * 48271 + 30011 * ((c + 1 : Nat) : Int) + 29).natAbs < 2 ^ 64 := by
  omega
theorem many_log {M : Int} (h0 : 0 < M) (h1 : M < 1000000) : M.natAbs.log2 < 9000 := by
  have : M.natAbs.log2 < 20 := (Nat.log2_lt (by omega)).mpr (by omega)
  omega
theorem div_small {g M : Int} (h0 : 0 ≤ g) (hM : 0 < M) (h : g.natAbs < 2 ^ 1048576) : (g / M).natAbs < 2 ^ 1048576 := by
  refine Nat.lt_of_le_of_lt ?_ h
  have h1 : g / M ≤ g := Int.ediv_le_self _ h0
  have h2 : 0 ≤ g / M := Int.ediv_nonneg h0 (by omega)
  omega
abbrev sDraw : Stmt := top 22
theorem scDraw : FnScope ["_law_stream", "_law_many", "_law_cell", "_law_digit", "_law_mixed_here"] ["_law_stream", "_law_many"] (defScope sDraw) := ⟨rfl, rfl, rfl, by decide +kernel, rfl, by decide +kernel, by decide +kernel⟩
section
variable {P : Program} {w : World} {K : PySem.W.Frag} {mg : Str → Option Value} {base : Heap} {cs : List ErrC} {G : Gd}
theorem draw_ok {fa : Addr} {params : Arguments} {dV kV doc pm cdv ct oc : Value} {an od : Option Addr} {osl : Array (Option Value)} (lk : K.lookup fa = some ⟨oc, od, .func (PySem.W.fnOf "_law_draw" "_law_draw" params (defBody sDraw) (defScope sDraw) dV kV doc pm an cdv ct), osl⟩) (hcd : PySem.W.codeIn K cdv "_law_draw" = true)
    (mI : mg "int" = none) : FnOk P w K mg base (L2.CX P w) (1 + 1) fa (PySem.W.fnOf "_law_draw" "_law_draw" params (defBody sDraw) (defScope sDraw) dV kV doc pm an cdv ct) ["_law_stream", "_law_many"] (spF cs G 2 drawE) := by
  refine fn_of (k := 1) lk hcd scDraw (fun vs H Q E h => h.1) fun A outer s H vs Q E hr ⟨hl, W, st, b, as, R, r, g⟩ => ?_
  have hu : (A.deeper (envOfC "_law_draw" (defScope sDraw) s.heap.objs.size fa cdv)).units + 64 < cLine := hr.units
  refine ⟨_, pss_cons (ps_asg (pe_op op_add (pe_ix ix_list (pv 0) pe_int (fun _ _ => rfl)) pe_int) (pg_sub (pv 0) pe_int set_list))
    (pss_cons (ps_while (passes_of rfl) (pw_and (pt_cmpR op_eq (pe_ix ix_list (pv 0) pe_int (fun _ _ => rfl)) pe_int (nomark _)) (pw_and1 (pt_cmpR (cD_ne (G := G) hu) (pe_ix ix_list (pv 0) pe_int (fun _ _ => rfl)) (pe_lst pa_nil) (nomark _)))).pt
      (pss_cons (ps_set (i := 2) scDraw.nd rfl (.inl rfl) (pe_bm PySem.F.plainAttrs_list PySem.F.slot_list_pop (by rfl) mt_popAt (pe_ix ix_list (pv 0) pe_int (fun _ _ => rfl)) (pa_cons pe_int pa_nil)))
      (pss_cons (ps_asg (pe_op op_mod (pe_callTy call_int1 (by rfl) mI PyProof.Rows.Boot.«int» (pa_cons (pe_op op_add (pe_op op_add (pe_op op_mul (pe_ix ix_list (pv 0) pe_int (fun _ _ => rfl)) pe_int) (pv 2)) pe_int) pa_nil)) pe_int) (pg_sub (pv 0) pe_int set_list))
      (pss_one (ps_asg (pe_ifExp (pt_cmpR op_ge (pv 2) (pe_op op_pow pe_int pe_int) (nomark _)) (pv 2) pe_int) (pg_sub (pv 0) pe_int set_list))))))
    (pss_cons (ps_if (pt_cmpR op_gt (pe_ix ix_list (pv 0) pe_int (fun _ _ => rfl)) pe_int (nomark _))
      (pss_cons (ps_set (i := 3) scDraw.nd rfl (.inl rfl) (pe_op op_mod (pe_callTy call_int1 (by rfl) mI PyProof.Rows.Boot.«int» (pa_cons (pe_ix ix_list (pv 0) pe_int (fun _ _ => rfl)) pa_nil)) (pv 1)))
      (pss_cons (ps_asg (pe_op op_fdivW (pe_ix ix_list (pv 0) pe_int (fun _ _ => rfl)) (pv 1)) (pg_sub (pv 0) pe_int set_list))
      (pss_one (ps_ret (pv 3))))) pss_nil)
    (pss_cons (ps_set (i := 4) scDraw.nd rfl (.inl rfl) (pe_op op_mod (pe_callTy call_int1 (by rfl) mI PyProof.Rows.Boot.«int» (pa_cons (pe_op op_pow (pe_op op_add (pe_op op_add (pe_ix ix_list (pv 0) pe_int (fun _ _ => rfl)) (pe_op op_mul pe_int (pe_ix ix_list (pv 0) pe_int (fun _ _ => rfl)))) pe_int) pe_int) pa_nil)) pe_int))
    (pss_one (ps_ret (pe_op op_mod (pe_op op_mod (pe_callTy call_int1 (by rfl) mI PyProof.Rows.Boot.«int» (pa_cons (pe_op op_pow (pe_op op_add (pe_op op_add (pe_op op_mul (pv 4) pe_int) (pe_op op_mul pe_int (pe_ix ix_list (pv 0) pe_int (fun _ _ => rfl)))) pe_int) pe_int) pa_nil)) pe_int) (pv 1))))))), ?_⟩
  -- what is handed
  have hh : ∃ M : Int, as = [.d .strm, .d (.int M)] ∧ 0 < M ∧ M < 1000000 ∧ ∃ b', b = b' + 1 ∧ ∀ d, d < M.toNat → KV' G W H Q (.d (.int (d : Nat))) st b' := by
    unfold drawE at g
    split at g
    · rename_i M
      split at g
      · rename_i hM
        obtain ⟨b', e, _, q⟩ := g
        exact ⟨M, rfl, hM.1, hM.2, b', e, fun d hd => q d hd⟩
      · exact g.elim
    · exact g.elim
  obtain ⟨M, rfl, hM0, hM1, b', rfl, hQ⟩ := hh
  obtain ⟨v1, v2, rfl, r1, r2⟩ : ∃ v1 v2, vs = [v1, v2] ∧ VlR G W H (.d .strm) v1 ∧ VlR G W H (.d (.int M)) v2 := by
    cases r with
    | cons r1 t => cases t with
      | cons r2 t => cases t; exact ⟨_, _, rfl, r1, r2⟩
  have e1 : v1 = .ref G.sp := by unfold VlR VR at r1; exact r1
  have e2 : v2 = .int M := by unfold VlR VR at r2; exact r2
  subst e1 e2
  obtain ⟨ns, gg, mm, c, h1, h2, hne, hg0, hgl, hnl, hlen, hm0, hml, hcb⟩ := R.spr
  -- the end, from any state of the spring
  have done : ∀ (H' : Hp) (ns' : List Int) (g' m' : Int) (d : Int), SprTo G H H' → SprAt G H' ns' g' ((c + 1 : Nat) : Int) m' → SprNs ns' g' m' → 0 ≤ d → d < M → Q (.int d) H' := by
    intro H' ns' g' m' d s a n hd0 hd1
    have o : SprOk G H' b' := ⟨ns', g', m', c + 1, a.sp, a.sc, hne, n.g0, n.gl, n.nl, n.len, n.m0, n.ml, by omega⟩
    have e : d = ((d.toNat : Nat) : Int) := by omega
    rw [e]
    exact hQ d.toNat (by omega) W H' _ (spr_ext s a.sp a.sc) (spr_rel R s o) (by unfold VlR VR; rfl)
  -- stream[2] = stream[2] + 1
  refine ⟨_, rfl, G.sp, _, _, _, rfl, rfl, SqL.of h1, rfl, _, _, rfl, rfl, _, rfl, G.sp, _, _, 2, rfl, rfl, h1, rfl, ?_⟩
  have a1 : SprAt G (upd H G.sp (.lst [.ref G.sc, .int gg, .int ((c + 1 : Nat) : Int), .int mm])) ns gg ((c + 1 : Nat) : Int) mm := ⟨upd_same, by rw [upd_ne hne.symm]; exact h2⟩
  -- while stream[1] == 0 and stream[0] != []
  refine ⟨fun k σ H' => ∃ ns' g' m' x2, k = ns'.length ∧ σ = [some (.ref G.sp), some (.int M), x2, none, none] ∧ SprTo G H H' ∧ SprAt G H' ns' g' ((c + 1 : Nat) : Int) m' ∧ SprNs ns' g' m',
    ⟨_, ns, gg, mm, none, rfl, rfl, .sp _, a1, ⟨hg0, hgl, hnl, hlen, hm0, hml⟩⟩, ?_⟩
  rintro k σ H1 ⟨ns', g', m', x2, rfl, rfl, s1, at1, n1⟩
  refine ⟨_, rfl, G.sp, _, _, _, rfl, rfl, SqL.of at1.sp, rfl, rfl, _, rfl, ?_⟩
  refine ite2 (fun hc => ?_) (fun hc => ?_)
  · -- stream[0] != []
    refine ⟨_, rfl, G.sp, _, _, _, rfl, rfl, SqL.of at1.sp, rfl, Nat.zero_le _, fun p hp => ?_⟩
    have psc : G.sc ≠ p := ne_of_none at1.sc hp
    have psp : G.sp ≠ p := ne_of_none at1.sp hp
    have s : SprTo G H (upd H1 p (.lst [])) := s1.trans (.new _ hp)
    have a : SprAt G (upd H1 p (.lst [])) ns' g' ((c + 1 : Nat) : Int) m' := ⟨by rw [upd_ne psp]; exact at1.sp, by rw [upd_ne psc]; exact at1.sc⟩
    refine ⟨fun _ => False, .lst (ns'.map .int), .lst [], !ns'.isEmpty, ⟨G.sc, _, rfl, a.sc, VRs_ints _⟩, ⟨p, [], rfl, upd_same, VRs.nil⟩, ne_nil_D _, _, rfl, ?_⟩
    cases ns' with
    | nil =>
      refine ite_false' rfl ?_

      refine ⟨_, rfl, G.sp, _, _, _, rfl, rfl, SqL.of a.sp, rfl, _, _, rfl, rfl, _, rfl, ?_⟩
      refine ite2 (fun hc => ?_) (fun hc => ?_)
      · -- digit = int(stream[1]) % many
        refine ⟨_, rfl, G.sp, _, _, _, rfl, rfl, SqL.of a.sp, rfl, .inl ⟨_, rfl, _, rfl, _, _, rfl, rfl, hM0, ?_⟩⟩
        refine ⟨_, rfl, G.sp, _, _, _, rfl, rfl, SqL.of a.sp, rfl, _, rfl, _, _, rfl, rfl, ⟨hM0, many_log hM0 hM1⟩, _, rfl, G.sp, _, _, 1, rfl, rfl, a.sp, rfl, ?_⟩
        refine ⟨_, rfl, ?_⟩
        exact done _ [] (g' / M) m' (g' % M) (s.trans (.sp _)) ⟨upd_same, by rw [upd_ne hne.symm]; exact a.sc⟩ ⟨Int.ediv_nonneg n1.g0 (Int.le_of_lt hM0), div_small n1.g0 hM0 n1.gl, n1.nl, n1.len, n1.m0, n1.ml⟩ (Int.emod_nonneg _ (Int.ne_of_gt hM0)) (Int.emod_lt_of_pos _ hM0)
      · -- mixed
        refine ⟨_, rfl, G.sp, _, _, _, rfl, rfl, SqL.of a.sp, rfl, _, rfl, G.sp, _, _, _, rfl, rfl, SqL.of a.sp, rfl, _, _, rfl, rfl, .inl ⟨by decide, by decide⟩, _, _, rfl, rfl, _, _, rfl, rfl, _, _, rfl, rfl, ⟨by decide, by decide, base_small n1.m0 n1.ml hcb⟩, .inl ⟨_, rfl, _, _, rfl, rfl, (show (0 : Int) < 2147483629 by decide), ?_⟩⟩
        have x0 := Int.emod_nonneg ((m' + 7919 * ((c + 1 : Nat) : Int) + 104729) ^ (Int.toNat 5)) (show (2147483629 : Int) ≠ 0 by decide)
        have x1 := Int.emod_lt_of_pos ((m' + 7919 * ((c + 1 : Nat) : Int) + 104729) ^ (Int.toNat 5)) (show (0 : Int) < 2147483629 by decide)
        refine ⟨_, rfl, _, _, rfl, rfl, .inl ⟨Int.lt_of_lt_of_le (by decide) x0, Int.lt_trans x1 (by decide)⟩, _, rfl, G.sp, _, _, _, rfl, rfl, SqL.of a.sp, rfl, _, _, rfl, rfl, .inl ⟨by decide, by decide⟩, _, _, rfl, rfl, _, _, rfl, rfl, _, _, rfl, rfl, ⟨by decide, by decide, ?_⟩, .inl ⟨_, rfl, _, _, rfl, rfl, (show (0 : Int) < 1000000007 by decide), _, rfl, _, _, rfl, rfl, hM0, ?_⟩⟩
        · exact base2_small x0 x1 hcb
        · exact done _ [] g' m' _ s a n1 (Int.emod_nonneg _ (Int.ne_of_gt hM0)) (Int.emod_lt_of_pos _ hM0)

    | cons n0 ns0 =>
      refine ite_true' rfl ?_
      have hb := n1.nl n0 List.mem_cons_self
      refine ⟨fun σ' H' => ∃ g2 m2 x2, σ' = [some (.ref G.sp), some (.int M), x2, none, none] ∧ SprTo G H H' ∧ SprAt G H' ns0 g2 ((c + 1 : Nat) : Int) m2 ∧ SprNs ns0 g2 m2, fun σ' H' ⟨g2, m2, x2, q1, q2, q3, q4⟩ => ⟨ns0.length, Nat.lt_succ_self _, ns0, g2, m2, x2, rfl, q1, q2, q3, q4⟩, ?_⟩
      -- cell = stream[0].pop(0)
      refine ⟨_, rfl, G.sp, _, _, _, rfl, rfl, SqL.of a.sp, rfl, .inl ⟨rfl, _, .inl (.inl a.sc)⟩, G.sc, _, 0, 0, _, rfl, rfl, a.sc, by decide, by decide, by simp [seqIndex?], rfl, ?_⟩
      have s2 := s.trans (.sc (.lst (ns0.map V.int)))
      have a2 : SprAt G (upd (upd H1 p (.lst [])) G.sc (.lst (ns0.map V.int))) ns0 g' ((c + 1 : Nat) : Int) m' := ⟨by rw [upd_ne hne]; exact a.sp, upd_same⟩
      -- stream[3] = int(stream[3] * 8191 + cell + 3) % 2147483647
      refine ⟨_, rfl, G.sp, _, _, _, rfl, rfl, SqL.of a2.sp, rfl, _, _, rfl, rfl, .inl ⟨Int.lt_of_lt_of_le (by decide) n1.m0, Int.lt_trans n1.ml (by decide)⟩, _, rfl, _, _, rfl, rfl, _, _, rfl, rfl, .inl ⟨_, rfl, _, _, rfl, rfl, (show (0 : Int) < 2147483647 by decide), _, rfl, G.sp, _, _, 3, rfl, rfl, a2.sp, rfl, ?_⟩⟩
      have y0 := Int.emod_nonneg (m' * 8191 + n0 + 3) (show (2147483647 : Int) ≠ 0 by decide)
      have y1 := Int.emod_lt_of_pos (m' * 8191 + n0 + 3) (show (0 : Int) < 2147483647 by decide)
      have s3 := s2.trans (.sp (.lst [.ref G.sc, .int g', .int ((c + 1 : Nat) : Int), .int ((m' * 8191 + n0 + 3) % 2147483647)]))
      have a3 : SprAt G (upd (upd (upd H1 p (.lst [])) G.sc (.lst (ns0.map V.int))) G.sp (.lst [.ref G.sc, .int g', .int ((c + 1 : Nat) : Int), .int ((m' * 8191 + n0 + 3) % 2147483647)])) ns0 g' ((c + 1 : Nat) : Int) ((m' * 8191 + n0 + 3) % 2147483647) := ⟨upd_same, by rw [upd_ne hne.symm]; exact a2.sc⟩
      -- stream[1] = cell if cell >= 10 ** 18 else 0
      refine ⟨_, rfl, _, _, rfl, rfl, ⟨by decide, by decide, by decide⟩, _, _, rfl, rfl, _, rfl, ?_⟩
      refine ite2 (fun hc2 => ?_) (fun hc2 => ?_)
      · have hc3 := of_decide_eq_true hc2
        refine ⟨_, rfl, _, rfl, G.sp, _, _, 1, rfl, rfl, a3.sp, rfl, ?_⟩
        refine ⟨n0, ((m' * 8191 + n0 + 3) % 2147483647), _, rfl, s3.trans (.sp _), ⟨upd_same, by rw [upd_ne hne.symm]; exact a3.sc⟩, ⟨Int.le_trans (by decide) hc3, hb, fun n hn => n1.nl n (List.mem_cons_of_mem _ hn), Nat.le_trans (Nat.le_succ _) n1.len, y0, y1⟩⟩
      · refine ⟨_, rfl, G.sp, _, _, 1, rfl, rfl, a3.sp, rfl, ?_⟩
        refine ⟨0, ((m' * 8191 + n0 + 3) % 2147483647), _, rfl, s3.trans (.sp _), ⟨upd_same, by rw [upd_ne hne.symm]; exact a3.sc⟩, ⟨Int.le_refl 0, Nat.two_pow_pos _, fun n hn => n1.nl n (List.mem_cons_of_mem _ hn), Nat.le_trans (Nat.le_succ _) n1.len, y0, y1⟩⟩
  · refine ite_false' rfl ?_
    have s := s1
    have a := at1

    refine ⟨_, rfl, G.sp, _, _, _, rfl, rfl, SqL.of a.sp, rfl, _, _, rfl, rfl, _, rfl, ?_⟩
    refine ite2 (fun hc => ?_) (fun hc => ?_)
    · -- digit = int(stream[1]) % many
      refine ⟨_, rfl, G.sp, _, _, _, rfl, rfl, SqL.of a.sp, rfl, .inl ⟨_, rfl, _, rfl, _, _, rfl, rfl, hM0, ?_⟩⟩
      refine ⟨_, rfl, G.sp, _, _, _, rfl, rfl, SqL.of a.sp, rfl, _, rfl, _, _, rfl, rfl, ⟨hM0, many_log hM0 hM1⟩, _, rfl, G.sp, _, _, 1, rfl, rfl, a.sp, rfl, ?_⟩
      refine ⟨_, rfl, ?_⟩
      exact done _ ns' (g' / M) m' (g' % M) (s.trans (.sp _)) ⟨upd_same, by rw [upd_ne hne.symm]; exact a.sc⟩ ⟨Int.ediv_nonneg n1.g0 (Int.le_of_lt hM0), div_small n1.g0 hM0 n1.gl, n1.nl, n1.len, n1.m0, n1.ml⟩ (Int.emod_nonneg _ (Int.ne_of_gt hM0)) (Int.emod_lt_of_pos _ hM0)
    · -- mixed
      refine ⟨_, rfl, G.sp, _, _, _, rfl, rfl, SqL.of a.sp, rfl, _, rfl, G.sp, _, _, _, rfl, rfl, SqL.of a.sp, rfl, _, _, rfl, rfl, .inl ⟨by decide, by decide⟩, _, _, rfl, rfl, _, _, rfl, rfl, _, _, rfl, rfl, ⟨by decide, by decide, base_small n1.m0 n1.ml hcb⟩, .inl ⟨_, rfl, _, _, rfl, rfl, (show (0 : Int) < 2147483629 by decide), ?_⟩⟩
      have x0 := Int.emod_nonneg ((m' + 7919 * ((c + 1 : Nat) : Int) + 104729) ^ (Int.toNat 5)) (show (2147483629 : Int) ≠ 0 by decide)
      have x1 := Int.emod_lt_of_pos ((m' + 7919 * ((c + 1 : Nat) : Int) + 104729) ^ (Int.toNat 5)) (show (0 : Int) < 2147483629 by decide)
      refine ⟨_, rfl, _, _, rfl, rfl, .inl ⟨Int.lt_of_lt_of_le (by decide) x0, Int.lt_trans x1 (by decide)⟩, _, rfl, G.sp, _, _, _, rfl, rfl, SqL.of a.sp, rfl, _, _, rfl, rfl, .inl ⟨by decide, by decide⟩, _, _, rfl, rfl, _, _, rfl, rfl, _, _, rfl, rfl, ⟨by decide, by decide, ?_⟩, .inl ⟨_, rfl, _, _, rfl, rfl, (show (0 : Int) < 1000000007 by decide), _, rfl, _, _, rfl, rfl, hM0, ?_⟩⟩
      · exact base2_small x0 x1 hcb
      · exact done _ ns' g' m' _ s a n1 (Int.emod_nonneg _ (Int.ne_of_gt hM0)) (Int.emod_lt_of_pos _ hM0)

end
end EV

end
section
set_option Elab.async false
set_option linter.all false
set_option maxRecDepth 1000000
set_option maxHeartbeats 1000000
/-! the end: the law's call from the outermost place, where nothing is being shown -/
namespace EV
open PySem PySem.Spec PyProof.Rows L2
open LamX (Tabs TabS CodeO ExtN TabB)
/-- what is tracked ahead of the law's call: the tables of code, and the script where the top does not know it -/
structure Dawn (H : Hp) (h : Heap) (tabs : List Addr) (a : Addr) (vs : List Value) (ns : List Int) : Prop where
  tab : ∀ t ∈ tabs, H t = some (.tbl #[])
  only : ∀ b u, H b = some u → b ∈ tabs ∨ (b = a ∧ u = .frz { cls := .type "list", data := .seq vs.toArray } (.lst (ns.map V.int)))
section
variable {P : Program} {w : World} {K : PySem.W.Frag} {mg mb : Str → Option Value} {h : Heap} {tabs : List Addr} {a : Addr} {vs : List Value} {zs : List Int} {H : Hp}
/-- an object of no list and no table is not tracked -/
theorem Dawn.none (D : Dawn H h tabs a vs zs) (hT : ∀ t ∈ tabs, h.get? t = some { cls := .none, data := .fields #[] }) (ha : h.get? a = some { cls := .type "list", data := .seq vs.toArray }) {b : Addr} {o : Obj} (e : h.get? b = some o) (n1 : o.data ≠ .seq vs.toArray) (n2 : o.data ≠ .fields #[]) : H b = .none := by
  cases q : H b with
  | none => rfl
  | some u =>
    exfalso
    rcases D.only b u q with m | ⟨rfl, _⟩
    · rw [hT b m] at e; cases e; exact n2 rfl
    · rw [ha] at e; cases e; exact n1 rfl
theorem Dawn.ns (D : Dawn H h tabs a vs zs) (hT : ∀ t ∈ tabs, h.get? t = some { cls := .none, data := .fields #[] }) (ha : h.get? a = some { cls := .type "list", data := .seq vs.toArray }) {b : Addr} {m : Str → Option Value} (q : h.Ns b m) : (hidT h H).Ns b m := by
  obtain ⟨o, es, ep, e, d, r⟩ := q
  refine ⟨o, es, ep, hidT_get e (D.none hT ha e ?_ ?_), d, r⟩ <;> (rw [d]; exact nofun)
theorem Dawn.in (D : Dawn H h tabs a vs zs) (hk : ∀ b, H b ≠ .none → K.lookup b = .none) (KX : K.In h) : K.In (hidT h H) := fun b o e => by
  refine hidT_get (KX b o e) ?_
  cases q : H b with
  | none => rfl
  | some u =>
    have z := hk b (by rw [q]; exact nofun)
    rw [e] at z; cases z
theorem Dawn.code (D : Dawn H h tabs a vs zs) (hT : ∀ t ∈ tabs, h.get? t = some { cls := .none, data := .fields #[] }) (ha : h.get? a = some { cls := .type "list", data := .seq vs.toArray }) (g : h.Ns mainGlobals mg)
    (hbm : ∃ (bm : Addr) (ob : Obj), mg "__builtins__" = some (.ref bm) ∧ bm ≠ builtinsNs ∧ h.get? bm = some ob ∧ ob.cls = .type "module" ∧ ob.dict = some builtinsNs ∧ ob.data = .plain) {c t : Addr} (ht : t ∈ tabs) (C : PySem.W.CodeHd h c t) : TabB (hidT h H) mg c t := by
  constructor
  · obtain ⟨o, us, fl, tf, fg, tg, inF, tx, tt, c1, c2, c3, c4, c5, c6, c7, c8, c9, c10⟩ := C
    refine ⟨o, us, fl, tf, fg, tg, inF, tx, tt, hidT_get c1 (D.none hT ha c1 ?_ ?_), c2, c3, c4, c5, c6, c7, c8, c9, c10⟩
    · rw [c3]; exact nofun
    · rw [c3]; intro z; cases z; simp at c4
  · obtain ⟨bm, ob, b1, b2, b3, b4, b5, b6⟩ := hbm
    refine ⟨bm, ob, b1, b2, fun q => ?_, fun q => ?_, hidT_get b3 (D.none hT ha b3 ?_ ?_), b4, b5, b6⟩
    · obtain ⟨o, es, ep, e, d, _⟩ := g
      rw [← q, b3] at e; cases e; rw [b6] at d; cases d
    · rw [q, hT t ht] at b3; cases b3; cases b6
    · rw [b6]; exact nofun
    · rw [b6]; exact nofun
  · intro q
    obtain ⟨o, es, ep, e, d, _⟩ := g
    rw [q, hT t ht] at e; cases e; cases d
/-- the table's place is in the list of tables -/
theorem law_at {cs : List (Addr × Addr)} {fa : Addr} {s : Shared} (KX : K.In s.heap) (g : s.heap.Ns mainGlobals mg) (gb : s.heap.Ns builtinsNs mb) (bb : ∀ x : Str, x ≠ "__name__" → mb x = bootBuiltins x) (lim : s.heap.NoLimit) (gens : s.gens = #[])
    (hT : ∀ p ∈ cs, s.heap.get? p.2 = some { cls := .none, data := .fields #[] }) (nT : ∀ p ∈ cs, K.lookup p.2 = none) (C : ∀ p ∈ cs, PySem.W.CodeHd s.heap p.1 p.2)
    (hbm : ∃ (bm : Addr) (ob : Obj), mg "__builtins__" = some (.ref bm) ∧ bm ≠ builtinsNs ∧ s.heap.get? bm = some ob ∧ ob.cls = .type "module" ∧ ob.dict = some builtinsNs ∧ ob.data = .plain)
    (ha : s.heap.get? a = some { cls := .type "list", data := .seq vs.toArray }) (hi : IntsAre vs zs) (hl : zs.length ≤ sizeLine)
    (F : ∀ (base : Heap) (H : Hp), Env0 P w K mg base callerA [] s H → K.In base → base.Ns mainGlobals mg → (∀ p ∈ cs, TabB base mg p.1 p.2) → (∀ p ∈ cs, H p.2 = some (.tbl #[])) → SqL K H a (zs.map V.int) →
      codeAny (model P w) callerA (.call (.ref fa) ⟨[.ref a], []⟩) (CR (L2.CX P w) [] P w H s (fun v _ => v = .bl true) fun _ _ _ => False) s) :
    codeAny (model P w) callerA (.call (.ref fa) ⟨[.ref a], []⟩) (fun r s' => r = .ok (.ret (.bool true)) ∧ OldK s.heap s'.heap ∧ s'.os = s.os ∧ AllBare s'.gens) s := by
  have hT' : ∀ t ∈ cs.map (·.2), s.heap.get? t = some { cls := .none, data := .fields #[] } := fun t ht => by
    obtain ⟨p, hp, rfl⟩ := List.mem_map.mp ht
    exact hT p hp
  have nT' : ∀ t ∈ cs.map (·.2), K.lookup t = none := fun t ht => by
    obtain ⟨p, hp, rfl⟩ := List.mem_map.mp ht
    exact nT p hp
  have rv := vals_ints hi
  have lv := hi.length
  have aT : a ∉ cs.map (·.2) := fun z => by
    have q := hT' a z
    rw [ha] at q
    cases q
  -- the heap that is told, by whether the top knows the script
  obtain ⟨H, D, hk, hS, hok⟩ : ∃ H : Hp, Dawn H s.heap (cs.map (·.2)) a vs zs ∧ (∀ b, H b ≠ none → K.lookup b = none) ∧ SqL K H a (zs.map V.int) ∧ HOk P w H s.heap := by
    have tabOk : ∀ (H : Hp) b, b ∈ cs.map (·.2) → ObjOk P w H s.heap b (.tbl #[]) := fun H b hb => hT' b hb
    cases hk : K.lookup a with
    | some o =>
      have e := KX a o hk
      rw [ha] at e
      cases e
      refine ⟨fun b => if b ∈ cs.map (·.2) then some (.tbl #[]) else none, ⟨fun t ht => if_pos ht, fun b u q => .inl ?_⟩, fun b q => ?_, .inr ⟨_, vs.toArray, _, hk, rfl, rfl, rfl, by rw [List.size_toArray, lv]; exact hl, by simpa using rv⟩, fun b u q => ?_⟩
      · exact Classical.byContradiction fun n => by rw [if_neg n] at q; cases q
      · exact nT' b (Classical.byContradiction fun n => q (if_neg n))
      · dsimp only at q
        have hb : b ∈ cs.map (·.2) := Classical.byContradiction fun n => by rw [if_neg n] at q; cases q
        rw [if_pos hb] at q
        cases q
        exact tabOk _ b hb
    | none =>
      have tab : ∀ t ∈ cs.map (·.2), (if t = a then some (HO.frz { cls := .type "list", data := .seq vs.toArray } (.lst (zs.map V.int))) else if t ∈ cs.map (·.2) then some (.tbl #[]) else none) = some (.tbl #[]) := fun t ht => by
        have ne : ¬ t = a := fun z => aT (by rw [← z]; exact ht)
        rw [if_neg ne, if_pos ht]
      refine ⟨fun b => if b = a then some (.frz { cls := .type "list", data := .seq vs.toArray } (.lst (zs.map V.int))) else if b ∈ cs.map (·.2) then some (.tbl #[]) else none, ⟨tab, fun b u q => ?_⟩, fun b q => ?_, .inl (.inr ⟨{ cls := .type "list", data := .seq vs.toArray }, if_pos rfl⟩), fun b u q => ?_⟩
      · by_cases hb : b = a
        · rw [if_pos hb] at q; cases q; exact .inr ⟨hb, rfl⟩
        · rw [if_neg hb] at q
          exact .inl (Classical.byContradiction fun n => by rw [if_neg n] at q; cases q)
      · by_cases hb : b = a
        · rw [hb]; exact hk
        · exact nT' b (Classical.byContradiction fun n => q (by dsimp only; rw [if_neg hb, if_neg n]))
      · dsimp only at q
        by_cases hb : b = a
        · rw [if_pos hb] at q
          cases q
          rw [hb]
          exact ⟨ha, by rw [List.length_map]; exact hl, vs, _, rv, ha⟩
        · rw [if_neg hb] at q
          have hb2 : b ∈ cs.map (·.2) := Classical.byContradiction fun n => by rw [if_neg n] at q; cases q
          rw [if_pos hb2] at q
          cases q
          exact tabOk _ b hb2
  have md : L2.Mod K mg (hidT s.heap H) := ⟨D.in hk KX, D.ns hT' ha g, ⟨mb, D.ns hT' ha gb, bb⟩, let ⟨mc, l1, l2⟩ := lim; ⟨mc, D.ns hT' ha l1, l2⟩⟩
  have e0 : Env0 P w K mg (hidT s.heap H) callerA [] s H :=
    { frames := rfl, mod := md, bs := fun b o e => of_hidT e, bsz := Nat.le_of_eq (hidT_size _ _), funs := trivial, frf := fun b hb => absurd (show b ∈ ([] : List Addr) from hb) List.not_mem_nil, hok := hok, bare := .of_eq gens }
  refine codeAny_mono (F _ H e0 (D.in hk KX) (D.ns hT' ha g) (fun p hp => D.code hT' ha g hbm (List.mem_map.mpr ⟨p, hp, rfl⟩) (C p hp)) (fun p hp => D.tab _ (List.mem_map.mpr ⟨p, hp, rfl⟩)) hS) fun r s' q => ?_
  match r, q with
  | .error e, q =>
    obtain ⟨_, _, _, _, _, _, _, _, _, _, _, _, z⟩ := q
    exact z.elim
  | .ok (.ret u), q =>
    obtain ⟨v, H2, os, bare, un, ok2, ru, rfl⟩ := q
    obtain rfl : u = Value.bool true := ru
    -- what stood there stands there still
    have stay : ∀ b o, b ∉ cs.map (·.2) → s.heap.get? b = some o → s'.heap.get? b = some o := fun b o nb e => by
      cases hb : H b with
      | none => exact un.keep b o e hb (by simp [frs]) (by simp)
      | some u =>
        rcases D.only b u hb with m | ⟨rfl, rfl⟩
        · exact absurd m nb
        · have z1 := (hok b _ hb).1
          have z2 := (ok2 b _ (un.frzs b _ _ hb)).1
          rw [e] at z1
          cases z1
          exact z2
    have more : ∀ b, b ∈ cs.map (·.2) → ∃ l : Array Value, s'.heap.get? b = some { cls := .none, data := .fields l } := fun b hb => by
      obtain ⟨l, hl⟩ := un.tbls b #[] (D.tab b hb)
      exact ⟨_, ok2 b _ hl⟩
    refine ⟨rfl, ⟨fun b o e => ?_, fun b o e => ?_⟩, os, bare⟩
    · by_cases hb : b ∈ cs.map (·.2)
      · obtain ⟨l, hl⟩ := more b hb
        obtain ⟨p, hp, rfl⟩ := List.mem_map.mp hb
        rw [hT p hp] at e
        cases e
        refine .inr (.inl ⟨((C p hp).tab (hT p hp)).isCodeTable, rfl, #[], l, rfl, ?_⟩)
        rw [Array.empty_append]
        exact hl
      · exact .inl (stay b o hb e)
    · by_cases hb : b ∈ cs.map (·.2)
      · obtain ⟨l, hl⟩ := more b hb
        exact ⟨_, hl⟩
      · exact ⟨o, stay b o hb e⟩
end
end EV

end
section
set_option Elab.async false
set_option linter.all false
set_option maxRecDepth 1000000
set_option maxHeartbeats 4000000
/-! what the top has made; the promises of all defs at every fuel -/
namespace EV
open PySem PySem.Spec PyProof.Rows L2
open LamX (Tabs TabS CodeO ExtN TabB)
/-- a def as the top has made it -/
structure DefF (K : PySem.W.Frag) (name : Str) (st : Stmt) (f : Addr) (dV cd : Value) : Prop where
  ns : PySem.W.nsIn K mainGlobals name = some (some (.ref f))
  lk : ∃ (oc kV dc pm ct : Value) (od an : Option Addr) (sl : Array (Option Value)), K.lookup f = some ⟨oc, od, .func (PySem.W.fnOf name name (defArgs st) (defBody st) (defScope st) dV kV dc pm an cd ct), sl⟩
  cd : PySem.W.codeIn K cd name = true
  kp : PySem.W.keepIn K (.ref f) = true
/-- the text of a class whose __init__ keeps one thing -/
structure ErrT (st : Stmt) (fld : Str) : Prop where
  sc : FnScope ["self", fld] ["self", fld] (defScope (inClass st 0))
  hb : chkInit fld (defBody (inClass st 0)) = true
  h1 : (defScope (inClass st 0)).names.lookup ("self" : Str) = some .local
  h2 : (defScope (inClass st 0)).names.lookup fld = some .local
  hd : (fld == ("__debug__" : Str)) = false
  hc : (fld == ("__classdict__" : Str)) = false
  bd : ∀ (q : Str) (kV dc pm cd ct : Value) (an : Option Addr) (us : List Value), us.length = 2 → bindArgs (PySem.W.fnOf "__init__" q (defArgs (inClass st 0)) (defBody (inClass st 0)) (defScope (inClass st 0)) .none kV dc pm an cd ct) ⟨us, []⟩ = pure ((["self", fld] : List Str).zip us)
/-- such a class as the top has made it -/
structure ErrF (K : PySem.W.Frag) (name : Str) (st : Stmt) (fld : Str) (C : Addr) : Prop where
  ns : PySem.W.nsIn K mainGlobals name = some (some (.ref C))
  ox : OexC K C
  xf : XfC K C
  no : PySem.W.findIn K (.ref C) fld = some none
  ini : ∃ (fI : Addr) (q : Str) (oc kV dc pm cd ct : Value) (od an : Option Addr) (sl : Array (Option Value)), PySem.W.findIn K (.ref C) "__init__" = some (some (.ref fI)) ∧ PySem.W.typeIn K (.ref fI) = some (.type "function") ∧
    K.lookup fI = some ⟨oc, od, .func (PySem.W.fnOf "__init__" q (defArgs (inClass st 0)) (defBody (inClass st 0)) (defScope (inClass st 0)) .none kV dc pm an cd ct), sl⟩ ∧ PySem.W.codeIn K cd q = true
  tx : ErrT st fld
theorem ErrF.mk' {Y : Cx} {name : Str} {st : Stmt} {fld : Str} {C : Addr} (E : ErrF Y.K name st fld C) : ErrMk Y 1 ⟨C, [fld], name⟩ := by
  obtain ⟨fI, q, oc, kV, dc, pm, cd, ct, od, an, sl, i1, i2, i3, i4⟩ := E.ini
  exact ⟨fI, _, _, fld, E.ox, i1, i2, init1 (k := 0) E.ox E.no i3 i4 E.tx.sc E.tx.hb E.tx.h1 E.tx.h2 E.tx.hd E.tx.hc, Binds.all fun us hl => E.tx.bd q kV dc pm cd ct an us hl, rfl⟩
def csK (C0 C1 C2 C3 : Addr) : List ErrC := [⟨C0, ["index"], "BadAmong"⟩, ⟨C1, ["index"], "BadPages"⟩, ⟨C2, ["thing"], "BadSpan"⟩, ⟨C3, ["page"], "NotAmong"⟩]
structure AllF (K : PySem.W.Frag) (C0 C1 C2 C3 c__law_refused_right P__law_refused_right : Addr) : Prop where
  d_is_list : ∃ f cd, DefF K "is_list" (top 7) f .none cd
  d_is_integer : ∃ f cd, DefF K "is_integer" (top 8) f .none cd
  d_is_number : ∃ f cd, DefF K "is_number" (top 9) f .none cd
  d_checked_pages : ∃ f cd, DefF K "checked_pages" (top 11) f .none cd
  d_checked_among : ∃ f cd, DefF K "checked_among" (top 13) f .none cd
  d_checked_letters : ∃ f cd, DefF K "checked_letters" (top 14) f .none cd
  d_is_carried : ∃ f cd, DefF K "is_carried" (top 15) f .none cd
  d_letters : ∃ f T cd, DefF K "letters" (top 16) f (.ref T) cd ∧ ∃ (o : Obj) (n : Nat), K.lookup T = some o ∧ o.data = .seq #[.none] n
  d_pages_apart : ∃ f T cd, DefF K "pages_apart" (top 17) f (.ref T) cd ∧ ∃ (o : Obj) (n : Nat), K.lookup T = some o ∧ o.data = .seq #[.none] n
  d_are_letters : ∃ f cd, DefF K "are_letters" (top 18) f .none cd
  d_are_apart : ∃ f cd, DefF K "are_apart" (top 19) f .none cd
  d__law_start : ∃ f cd, DefF K "_law_start" (top 21) f .none cd
  d__law_draw : ∃ f cd, DefF K "_law_draw" (top 22) f .none cd
  d__law_pick : ∃ f cd, DefF K "_law_pick" (top 23) f .none cd
  d__law_mixed : ∃ f cd, DefF K "_law_mixed" (top 24) f .none cd
  d__law_same : ∃ f cd, DefF K "_law_same" (top 25) f .none cd
  d__law_loose : ∃ f cd, DefF K "_law_loose" (top 26) f .none cd
  d__law_met : ∃ f cd, DefF K "_law_met" (top 27) f .none cd
  d__law_is_page : ∃ f cd, DefF K "_law_is_page" (top 28) f .none cd
  d__law_is_one : ∃ f cd, DefF K "_law_is_one" (top 29) f .none cd
  d__law_are_letters : ∃ f cd, DefF K "_law_are_letters" (top 30) f .none cd
  d__law_are_apart : ∃ f cd, DefF K "_law_are_apart" (top 31) f .none cd
  d__law_odd_letters : ∃ f cd, DefF K "_law_odd_letters" (top 32) f .none cd
  d__law_refused_right : ∃ f, DefF K "_law_refused_right" (top 33) f .none (.ref c__law_refused_right)
  d_law : ∃ f cd, DefF K "law" (top 34) f .none cd
  e_BadAmong : ErrF K "BadAmong" (top 2) "index" C0
  e_BadPages : ErrF K "BadPages" (top 3) "index" C1
  e_BadSpan : ErrF K "BadSpan" (top 4) "thing" C2
  e_NotAmong : ErrF K "NotAmong" (top 5) "page" C3
  x_0_0 : PySem.W.subIn K (.ref C0) (.ref C0) = some true
  x_0_1 : PySem.W.subIn K (.ref C0) (.ref C1) = some false
  x_0_2 : PySem.W.subIn K (.ref C0) (.ref C2) = some false
  x_0_3 : PySem.W.subIn K (.ref C0) (.ref C3) = some false
  x_1_0 : PySem.W.subIn K (.ref C1) (.ref C0) = some false
  x_1_1 : PySem.W.subIn K (.ref C1) (.ref C1) = some true
  x_1_2 : PySem.W.subIn K (.ref C1) (.ref C2) = some false
  x_1_3 : PySem.W.subIn K (.ref C1) (.ref C3) = some false
  x_2_0 : PySem.W.subIn K (.ref C2) (.ref C0) = some false
  x_2_1 : PySem.W.subIn K (.ref C2) (.ref C1) = some false
  x_2_2 : PySem.W.subIn K (.ref C2) (.ref C2) = some true
  x_2_3 : PySem.W.subIn K (.ref C2) (.ref C3) = some false
  x_3_0 : PySem.W.subIn K (.ref C3) (.ref C0) = some false
  x_3_1 : PySem.W.subIn K (.ref C3) (.ref C1) = some false
  x_3_2 : PySem.W.subIn K (.ref C3) (.ref C2) = some false
  x_3_3 : PySem.W.subIn K (.ref C3) (.ref C3) = some true
  bt : ∀ x ∈ btab, PySem.W.nsIn K mainGlobals x = some none
section
variable {P : Program} {w : World} {K : PySem.W.Frag} {mg : Str → Option Value} {base h : Heap} {G : Gd} {C0 C1 C2 C3 c__law_refused_right P__law_refused_right : Addr}
theorem cs_mem {ec : ErrC} (m : ec ∈ (csK C0 C1 C2 C3)) : ec = ⟨C0, ["index"], "BadAmong"⟩ ∨ ec = ⟨C1, ["index"], "BadPages"⟩ ∨ ec = ⟨C2, ["thing"], "BadSpan"⟩ ∨ ec = ⟨C3, ["page"], "NotAmong"⟩ := by simpa [csK] using m
theorem errsOk (A : AllF K C0 C1 C2 C3 c__law_refused_right P__law_refused_right) (X : K.In h) (g : h.Ns mainGlobals mg) : ErrsOk K mg (csK C0 C1 C2 C3) where
  xf := fun ec m => by
    rcases cs_mem m with rfl | rfl | rfl | rfl
    · exact (A.e_BadAmong).xf
    · exact (A.e_BadPages).xf
    · exact (A.e_BadSpan).xf
    · exact (A.e_NotAmong).xf
  no := fun ec m f hf => by
    rcases cs_mem m with rfl | rfl | rfl | rfl
    · rw [List.mem_singleton.mp hf]; exact (A.e_BadAmong).no
    · rw [List.mem_singleton.mp hf]; exact (A.e_BadPages).no
    · rw [List.mem_singleton.mp hf]; exact (A.e_BadSpan).no
    · rw [List.mem_singleton.mp hf]; exact (A.e_NotAmong).no
  mg := fun ec m => by
    rcases cs_mem m with rfl | rfl | rfl | rfl
    · exact PySem.W.mg_of X g (A.e_BadAmong).ns
    · exact PySem.W.mg_of X g (A.e_BadPages).ns
    · exact PySem.W.mg_of X g (A.e_BadSpan).ns
    · exact PySem.W.mg_of X g (A.e_NotAmong).ns
  exm := fun i j e1 e2 h1 h2 => by
    have hi : i < 4 := by have := (List.getElem?_eq_some_iff.mp h1).1; simpa [csK] using this
    have hj : j < 4 := by have := (List.getElem?_eq_some_iff.mp h2).1; simpa [csK] using this
    match i, j, hi, hj, h1, h2 with
    | 0, 0, _, _, h1, h2 => cases h1; cases h2; exact PySem.W.exm_ref (A.e_BadAmong).ox.exC (A.e_BadAmong).xf.hdC (A.e_BadAmong).ox.tyC A.x_0_0
    | 0, 1, _, _, h1, h2 => cases h1; cases h2; exact PySem.W.exm_ref (A.e_BadPages).ox.exC (A.e_BadPages).xf.hdC (A.e_BadPages).ox.tyC A.x_0_1
    | 0, 2, _, _, h1, h2 => cases h1; cases h2; exact PySem.W.exm_ref (A.e_BadSpan).ox.exC (A.e_BadSpan).xf.hdC (A.e_BadSpan).ox.tyC A.x_0_2
    | 0, 3, _, _, h1, h2 => cases h1; cases h2; exact PySem.W.exm_ref (A.e_NotAmong).ox.exC (A.e_NotAmong).xf.hdC (A.e_NotAmong).ox.tyC A.x_0_3
    | 1, 0, _, _, h1, h2 => cases h1; cases h2; exact PySem.W.exm_ref (A.e_BadAmong).ox.exC (A.e_BadAmong).xf.hdC (A.e_BadAmong).ox.tyC A.x_1_0
    | 1, 1, _, _, h1, h2 => cases h1; cases h2; exact PySem.W.exm_ref (A.e_BadPages).ox.exC (A.e_BadPages).xf.hdC (A.e_BadPages).ox.tyC A.x_1_1
    | 1, 2, _, _, h1, h2 => cases h1; cases h2; exact PySem.W.exm_ref (A.e_BadSpan).ox.exC (A.e_BadSpan).xf.hdC (A.e_BadSpan).ox.tyC A.x_1_2
    | 1, 3, _, _, h1, h2 => cases h1; cases h2; exact PySem.W.exm_ref (A.e_NotAmong).ox.exC (A.e_NotAmong).xf.hdC (A.e_NotAmong).ox.tyC A.x_1_3
    | 2, 0, _, _, h1, h2 => cases h1; cases h2; exact PySem.W.exm_ref (A.e_BadAmong).ox.exC (A.e_BadAmong).xf.hdC (A.e_BadAmong).ox.tyC A.x_2_0
    | 2, 1, _, _, h1, h2 => cases h1; cases h2; exact PySem.W.exm_ref (A.e_BadPages).ox.exC (A.e_BadPages).xf.hdC (A.e_BadPages).ox.tyC A.x_2_1
    | 2, 2, _, _, h1, h2 => cases h1; cases h2; exact PySem.W.exm_ref (A.e_BadSpan).ox.exC (A.e_BadSpan).xf.hdC (A.e_BadSpan).ox.tyC A.x_2_2
    | 2, 3, _, _, h1, h2 => cases h1; cases h2; exact PySem.W.exm_ref (A.e_NotAmong).ox.exC (A.e_NotAmong).xf.hdC (A.e_NotAmong).ox.tyC A.x_2_3
    | 3, 0, _, _, h1, h2 => cases h1; cases h2; exact PySem.W.exm_ref (A.e_BadAmong).ox.exC (A.e_BadAmong).xf.hdC (A.e_BadAmong).ox.tyC A.x_3_0
    | 3, 1, _, _, h1, h2 => cases h1; cases h2; exact PySem.W.exm_ref (A.e_BadPages).ox.exC (A.e_BadPages).xf.hdC (A.e_BadPages).ox.tyC A.x_3_1
    | 3, 2, _, _, h1, h2 => cases h1; cases h2; exact PySem.W.exm_ref (A.e_BadSpan).ox.exC (A.e_BadSpan).xf.hdC (A.e_BadSpan).ox.tyC A.x_3_2
    | 3, 3, _, _, h1, h2 => cases h1; cases h2; exact PySem.W.exm_ref (A.e_NotAmong).ox.exC (A.e_NotAmong).xf.hdC (A.e_NotAmong).ox.tyC A.x_3_3
  nd := fun ec m => by rcases cs_mem m with rfl | rfl | rfl | rfl <;> exact List.nodup_cons.mpr ⟨List.not_mem_nil, List.nodup_nil⟩
  nm := fun ec m => by
    rcases cs_mem m with rfl | rfl | rfl | rfl
    · show ((("BadAmong" : Str)) == ("__debug__" : Str)) = false; decide +kernel
    · show ((("BadPages" : Str)) == ("__debug__" : Str)) = false; decide +kernel
    · show ((("BadSpan" : Str)) == ("__debug__" : Str)) = false; decide +kernel
    · show ((("NotAmong" : Str)) == ("__debug__" : Str)) = false; decide +kernel
theorem errs_at (A : AllF K C0 C1 C2 C3 c__law_refused_right P__law_refused_right) (X : K.In h) (g : h.Ns mainGlobals mg) : ∀ x c, gtab.lookup x = some (.err c) → ∃ ec, (csK C0 C1 C2 C3)[c]? = some ec ∧ mg x = some (.ref ec.at') ∧ ∀ Y : Cx, Y.prog = P → Y.w = w → Y.K = K → Y.mg = mg → Y.base = base → ErrMk Y 1 ec := by
  intro x c hl
  have m := PySem.mem_of_lookup hl
  simp only [gtab, List.mem_cons, Prod.mk.injEq, reduceCtorEq, and_false, Glob.err.injEq, List.not_mem_nil, or_false, false_or] at m
  rcases m with ⟨rfl, rfl⟩ | ⟨rfl, rfl⟩ | ⟨rfl, rfl⟩ | ⟨rfl, rfl⟩
  · exact ⟨_, rfl, PySem.W.mg_of X g (A.e_BadAmong).ns, fun Y e1 e2 e3 e4 e5 => by subst e1 e2 e3 e4 e5; exact (A.e_BadAmong).mk'⟩
  · exact ⟨_, rfl, PySem.W.mg_of X g (A.e_BadPages).ns, fun Y e1 e2 e3 e4 e5 => by subst e1 e2 e3 e4 e5; exact (A.e_BadPages).mk'⟩
  · exact ⟨_, rfl, PySem.W.mg_of X g (A.e_BadSpan).ns, fun Y e1 e2 e3 e4 e5 => by subst e1 e2 e3 e4 e5; exact (A.e_BadSpan).mk'⟩
  · exact ⟨_, rfl, PySem.W.mg_of X g (A.e_NotAmong).ns, fun Y e1 e2 e3 e4 e5 => by subst e1 e2 e3 e4 e5; exact (A.e_NotAmong).mk'⟩
theorem sc_is_list : FnScope cc_is_list.N ["thing"] (defScope (top 7)) := ⟨rfl, rfl, rfl, by decide +kernel, rfl, by decide +kernel, by decide +kernel⟩
theorem sc_is_integer : FnScope cc_is_integer.N ["thing"] (defScope (top 8)) := ⟨rfl, rfl, rfl, by decide +kernel, rfl, by decide +kernel, by decide +kernel⟩
theorem sc_is_number : FnScope cc_is_number.N ["thing"] (defScope (top 9)) := ⟨rfl, rfl, rfl, by decide +kernel, rfl, by decide +kernel, by decide +kernel⟩
theorem sc_checked_pages : FnScope cc_checked_pages.N ["pages"] (defScope (top 11)) := ⟨rfl, rfl, rfl, by decide +kernel, rfl, by decide +kernel, by decide +kernel⟩
theorem sc_checked_among : FnScope cc_checked_among.N ["among"] (defScope (top 13)) := ⟨rfl, rfl, rfl, by decide +kernel, rfl, by decide +kernel, by decide +kernel⟩
theorem sc_checked_letters : FnScope cc_checked_letters.N ["pages", "span", "among"] (defScope (top 14)) := ⟨rfl, rfl, rfl, by decide +kernel, rfl, by decide +kernel, by decide +kernel⟩
theorem sc_is_carried : FnScope cc_is_carried.N ["first", "last", "span", "known"] (defScope (top 15)) := ⟨rfl, rfl, rfl, by decide +kernel, rfl, by decide +kernel, by decide +kernel⟩
theorem sc_letters : FnScope cc_letters.N ["pages", "span", "among"] (defScope (top 16)) := ⟨rfl, rfl, rfl, by decide +kernel, rfl, by decide +kernel, by decide +kernel⟩
theorem sc_pages_apart : FnScope cc_pages_apart.N ["pages", "span", "among"] (defScope (top 17)) := ⟨rfl, rfl, rfl, by decide +kernel, rfl, by decide +kernel, by decide +kernel⟩
theorem sc_are_letters : FnScope cc_are_letters.N ["pages", "span", "among", "thing"] (defScope (top 18)) := ⟨rfl, rfl, rfl, by decide +kernel, rfl, by decide +kernel, by decide +kernel⟩
theorem sc_are_apart : FnScope cc_are_apart.N ["pages", "span", "among", "thing"] (defScope (top 19)) := ⟨rfl, rfl, rfl, by decide +kernel, rfl, by decide +kernel, by decide +kernel⟩
theorem sc__law_pick : FnScope cc__law_pick.N ["_law_stream", "_law_some"] (defScope (top 23)) := ⟨rfl, rfl, rfl, by decide +kernel, rfl, by decide +kernel, by decide +kernel⟩
theorem sc__law_mixed : FnScope cc__law_mixed.N ["_law_stream", "_law_some"] (defScope (top 24)) := ⟨rfl, rfl, rfl, by decide +kernel, rfl, by decide +kernel, by decide +kernel⟩
theorem sc__law_same : FnScope cc__law_same.N ["_law_found", "_law_due"] (defScope (top 25)) := ⟨rfl, rfl, rfl, by decide +kernel, rfl, by decide +kernel, by decide +kernel⟩
theorem sc__law_loose : FnScope cc__law_loose.N ["_law_stream", "_law_thing"] (defScope (top 26)) := ⟨rfl, rfl, rfl, by decide +kernel, rfl, by decide +kernel, by decide +kernel⟩
theorem sc__law_is_page : FnScope cc__law_is_page.N ["_law_thing"] (defScope (top 28)) := ⟨rfl, rfl, rfl, by decide +kernel, rfl, by decide +kernel, by decide +kernel⟩
theorem sc__law_is_one : FnScope cc__law_is_one.N ["_law_first", "_law_last", "_law_span", "_law_among"] (defScope (top 29)) := ⟨rfl, rfl, rfl, by decide +kernel, rfl, by decide +kernel, by decide +kernel⟩
theorem sc__law_are_letters : FnScope cc__law_are_letters.N ["_law_pages", "_law_span", "_law_among", "_law_thing"] (defScope (top 30)) := ⟨rfl, rfl, rfl, by decide +kernel, rfl, by decide +kernel, by decide +kernel⟩
theorem sc__law_are_apart : FnScope cc__law_are_apart.N ["_law_pages", "_law_span", "_law_among", "_law_thing"] (defScope (top 31)) := ⟨rfl, rfl, rfl, by decide +kernel, rfl, by decide +kernel, by decide +kernel⟩
theorem sc__law_odd_letters : FnScope cc__law_odd_letters.N ["_law_stream", "_law_told", "_law_apart"] (defScope (top 32)) := ⟨rfl, rfl, rfl, by decide +kernel, rfl, by decide +kernel, by decide +kernel⟩
theorem sc__law_refused_right : FnScope cc__law_refused_right.N ["_law_stream", "_law_pages", "_law_span", "_law_among"] (defScope (top 33)) := ⟨rfl, rfl, rfl, by decide +kernel, rfl, by decide +kernel, by decide +kernel⟩
theorem fn_ok_is_list (A : AllF K C0 C1 C2 C3 c__law_refused_right P__law_refused_right) (X : K.In h) (g : h.Ns mainGlobals mg) {f : Addr} {cd : Value} (D : DefF K "is_list" (top 7) f .none cd) (n : Nat) (gl : GloOk (csK C0 C1 C2 C3) G ⟨callN fns 1000 n, fun _ => .err, 1000⟩ (lev n) P w K mg base gtab btab ktab) :
    ∃ fd, (∃ (oc kV dc pm ct : Value) (od an : Option Addr) (sl : Array (Option Value)), fd = PySem.W.fnOf "is_list" "is_list" (defArgs (top 7)) (defBody (top 7)) (defScope (top 7)) .none kV dc pm an cd ct) ∧ FnOk P w K mg base (L2.CX P w) (lev (n + 1)) f fd ["thing"] (spF (csK C0 C1 C2 C3) G 1 (callN fns 1000 (n + 1) 0)) := by
  obtain ⟨oc, kV, dc, pm, ct, od, an, sl, lk⟩ := D.lk
  exact ⟨_, ⟨oc, kV, dc, pm, ct, od, an, sl, rfl⟩, def_ok (fn := fd_is_list) (cc := cc_is_list) lk D.cd sc_is_list rfl rfl rfl rfl rfl ck_is_list gl rfl (fun x hs h => by cases h) (errs_at A X g)⟩
theorem fn_ok_is_integer (A : AllF K C0 C1 C2 C3 c__law_refused_right P__law_refused_right) (X : K.In h) (g : h.Ns mainGlobals mg) {f : Addr} {cd : Value} (D : DefF K "is_integer" (top 8) f .none cd) (n : Nat) (gl : GloOk (csK C0 C1 C2 C3) G ⟨callN fns 1000 n, fun _ => .err, 1000⟩ (lev n) P w K mg base gtab btab ktab) :
    ∃ fd, (∃ (oc kV dc pm ct : Value) (od an : Option Addr) (sl : Array (Option Value)), fd = PySem.W.fnOf "is_integer" "is_integer" (defArgs (top 8)) (defBody (top 8)) (defScope (top 8)) .none kV dc pm an cd ct) ∧ FnOk P w K mg base (L2.CX P w) (lev (n + 1)) f fd ["thing"] (spF (csK C0 C1 C2 C3) G 1 (callN fns 1000 (n + 1) 1)) := by
  obtain ⟨oc, kV, dc, pm, ct, od, an, sl, lk⟩ := D.lk
  exact ⟨_, ⟨oc, kV, dc, pm, ct, od, an, sl, rfl⟩, def_ok (fn := fd_is_integer) (cc := cc_is_integer) lk D.cd sc_is_integer rfl rfl rfl rfl rfl ck_is_integer gl rfl (fun x hs h => by cases h) (errs_at A X g)⟩
theorem fn_ok_is_number (A : AllF K C0 C1 C2 C3 c__law_refused_right P__law_refused_right) (X : K.In h) (g : h.Ns mainGlobals mg) {f : Addr} {cd : Value} (D : DefF K "is_number" (top 9) f .none cd) (n : Nat) (gl : GloOk (csK C0 C1 C2 C3) G ⟨callN fns 1000 n, fun _ => .err, 1000⟩ (lev n) P w K mg base gtab btab ktab) :
    ∃ fd, (∃ (oc kV dc pm ct : Value) (od an : Option Addr) (sl : Array (Option Value)), fd = PySem.W.fnOf "is_number" "is_number" (defArgs (top 9)) (defBody (top 9)) (defScope (top 9)) .none kV dc pm an cd ct) ∧ FnOk P w K mg base (L2.CX P w) (lev (n + 1)) f fd ["thing"] (spF (csK C0 C1 C2 C3) G 1 (callN fns 1000 (n + 1) 2)) := by
  obtain ⟨oc, kV, dc, pm, ct, od, an, sl, lk⟩ := D.lk
  exact ⟨_, ⟨oc, kV, dc, pm, ct, od, an, sl, rfl⟩, def_ok (fn := fd_is_number) (cc := cc_is_number) lk D.cd sc_is_number rfl rfl rfl rfl rfl ck_is_number gl rfl (fun x hs h => by cases h) (errs_at A X g)⟩
theorem fn_ok_checked_pages (A : AllF K C0 C1 C2 C3 c__law_refused_right P__law_refused_right) (X : K.In h) (g : h.Ns mainGlobals mg) {f : Addr} {cd : Value} (D : DefF K "checked_pages" (top 11) f .none cd) (n : Nat) (gl : GloOk (csK C0 C1 C2 C3) G ⟨callN fns 1000 n, fun _ => .err, 1000⟩ (lev n) P w K mg base gtab btab ktab) :
    ∃ fd, (∃ (oc kV dc pm ct : Value) (od an : Option Addr) (sl : Array (Option Value)), fd = PySem.W.fnOf "checked_pages" "checked_pages" (defArgs (top 11)) (defBody (top 11)) (defScope (top 11)) .none kV dc pm an cd ct) ∧ FnOk P w K mg base (L2.CX P w) (lev (n + 1)) f fd ["pages"] (spF (csK C0 C1 C2 C3) G 1 (callN fns 1000 (n + 1) 3)) := by
  obtain ⟨oc, kV, dc, pm, ct, od, an, sl, lk⟩ := D.lk
  exact ⟨_, ⟨oc, kV, dc, pm, ct, od, an, sl, rfl⟩, def_ok (fn := fd_checked_pages) (cc := cc_checked_pages) lk D.cd sc_checked_pages rfl rfl rfl rfl rfl ck_checked_pages gl rfl (fun x hs h => by cases h) (errs_at A X g)⟩
theorem fn_ok_checked_among (A : AllF K C0 C1 C2 C3 c__law_refused_right P__law_refused_right) (X : K.In h) (g : h.Ns mainGlobals mg) {f : Addr} {cd : Value} (D : DefF K "checked_among" (top 13) f .none cd) (n : Nat) (gl : GloOk (csK C0 C1 C2 C3) G ⟨callN fns 1000 n, fun _ => .err, 1000⟩ (lev n) P w K mg base gtab btab ktab) :
    ∃ fd, (∃ (oc kV dc pm ct : Value) (od an : Option Addr) (sl : Array (Option Value)), fd = PySem.W.fnOf "checked_among" "checked_among" (defArgs (top 13)) (defBody (top 13)) (defScope (top 13)) .none kV dc pm an cd ct) ∧ FnOk P w K mg base (L2.CX P w) (lev (n + 1)) f fd ["among"] (spF (csK C0 C1 C2 C3) G 1 (callN fns 1000 (n + 1) 4)) := by
  obtain ⟨oc, kV, dc, pm, ct, od, an, sl, lk⟩ := D.lk
  exact ⟨_, ⟨oc, kV, dc, pm, ct, od, an, sl, rfl⟩, def_ok (fn := fd_checked_among) (cc := cc_checked_among) lk D.cd sc_checked_among rfl rfl rfl rfl rfl ck_checked_among gl rfl (fun x hs h => by cases h) (errs_at A X g)⟩
theorem fn_ok_checked_letters (A : AllF K C0 C1 C2 C3 c__law_refused_right P__law_refused_right) (X : K.In h) (g : h.Ns mainGlobals mg) {f : Addr} {cd : Value} (D : DefF K "checked_letters" (top 14) f .none cd) (n : Nat) (gl : GloOk (csK C0 C1 C2 C3) G ⟨callN fns 1000 n, fun _ => .err, 1000⟩ (lev n) P w K mg base gtab btab ktab) :
    ∃ fd, (∃ (oc kV dc pm ct : Value) (od an : Option Addr) (sl : Array (Option Value)), fd = PySem.W.fnOf "checked_letters" "checked_letters" (defArgs (top 14)) (defBody (top 14)) (defScope (top 14)) .none kV dc pm an cd ct) ∧ FnOk P w K mg base (L2.CX P w) (lev (n + 1)) f fd ["pages", "span", "among"] (spF (csK C0 C1 C2 C3) G 3 (callN fns 1000 (n + 1) 5)) := by
  obtain ⟨oc, kV, dc, pm, ct, od, an, sl, lk⟩ := D.lk
  exact ⟨_, ⟨oc, kV, dc, pm, ct, od, an, sl, rfl⟩, def_ok (fn := fd_checked_letters) (cc := cc_checked_letters) lk D.cd sc_checked_letters rfl rfl rfl rfl rfl ck_checked_letters gl rfl (fun x hs h => by cases h) (errs_at A X g)⟩
theorem fn_ok_is_carried (A : AllF K C0 C1 C2 C3 c__law_refused_right P__law_refused_right) (X : K.In h) (g : h.Ns mainGlobals mg) {f : Addr} {cd : Value} (D : DefF K "is_carried" (top 15) f .none cd) (n : Nat) (gl : GloOk (csK C0 C1 C2 C3) G ⟨callN fns 1000 n, fun _ => .err, 1000⟩ (lev n) P w K mg base gtab btab ktab) :
    ∃ fd, (∃ (oc kV dc pm ct : Value) (od an : Option Addr) (sl : Array (Option Value)), fd = PySem.W.fnOf "is_carried" "is_carried" (defArgs (top 15)) (defBody (top 15)) (defScope (top 15)) .none kV dc pm an cd ct) ∧ FnOk P w K mg base (L2.CX P w) (lev (n + 1)) f fd ["first", "last", "span", "known"] (spF (csK C0 C1 C2 C3) G 4 (callN fns 1000 (n + 1) 6)) := by
  obtain ⟨oc, kV, dc, pm, ct, od, an, sl, lk⟩ := D.lk
  exact ⟨_, ⟨oc, kV, dc, pm, ct, od, an, sl, rfl⟩, def_ok (fn := fd_is_carried) (cc := cc_is_carried) lk D.cd sc_is_carried rfl rfl rfl rfl rfl ck_is_carried gl rfl (fun x hs h => by cases h) (errs_at A X g)⟩
theorem fn_ok_letters (A : AllF K C0 C1 C2 C3 c__law_refused_right P__law_refused_right) (X : K.In h) (g : h.Ns mainGlobals mg) {f T : Addr} {cd : Value} (D : DefF K "letters" (top 16) f (.ref T) cd) (n : Nat) (gl : GloOk (csK C0 C1 C2 C3) G ⟨callN fns 1000 n, fun _ => .err, 1000⟩ (lev n) P w K mg base gtab btab ktab) :
    ∃ fd, (∃ (oc kV dc pm ct : Value) (od an : Option Addr) (sl : Array (Option Value)), fd = PySem.W.fnOf "letters" "letters" (defArgs (top 16)) (defBody (top 16)) (defScope (top 16)) (.ref T) kV dc pm an cd ct) ∧ FnOk P w K mg base (L2.CX P w) (lev (n + 1)) f fd ["pages", "span", "among"] (spF (csK C0 C1 C2 C3) G 3 (callN fns 1000 (n + 1) 7)) := by
  obtain ⟨oc, kV, dc, pm, ct, od, an, sl, lk⟩ := D.lk
  exact ⟨_, ⟨oc, kV, dc, pm, ct, od, an, sl, rfl⟩, def_ok (fn := fd_letters) (cc := cc_letters) lk D.cd sc_letters rfl rfl rfl rfl rfl ck_letters gl rfl (fun x hs h => by cases h) (errs_at A X g)⟩
theorem fn_ok_pages_apart (A : AllF K C0 C1 C2 C3 c__law_refused_right P__law_refused_right) (X : K.In h) (g : h.Ns mainGlobals mg) {f T : Addr} {cd : Value} (D : DefF K "pages_apart" (top 17) f (.ref T) cd) (n : Nat) (gl : GloOk (csK C0 C1 C2 C3) G ⟨callN fns 1000 n, fun _ => .err, 1000⟩ (lev n) P w K mg base gtab btab ktab) :
    ∃ fd, (∃ (oc kV dc pm ct : Value) (od an : Option Addr) (sl : Array (Option Value)), fd = PySem.W.fnOf "pages_apart" "pages_apart" (defArgs (top 17)) (defBody (top 17)) (defScope (top 17)) (.ref T) kV dc pm an cd ct) ∧ FnOk P w K mg base (L2.CX P w) (lev (n + 1)) f fd ["pages", "span", "among"] (spF (csK C0 C1 C2 C3) G 3 (callN fns 1000 (n + 1) 8)) := by
  obtain ⟨oc, kV, dc, pm, ct, od, an, sl, lk⟩ := D.lk
  exact ⟨_, ⟨oc, kV, dc, pm, ct, od, an, sl, rfl⟩, def_ok (fn := fd_pages_apart) (cc := cc_pages_apart) lk D.cd sc_pages_apart rfl rfl rfl rfl rfl ck_pages_apart gl rfl (fun x hs h => by cases h) (errs_at A X g)⟩
theorem fn_ok_are_letters (A : AllF K C0 C1 C2 C3 c__law_refused_right P__law_refused_right) (X : K.In h) (g : h.Ns mainGlobals mg) {f : Addr} {cd : Value} (D : DefF K "are_letters" (top 18) f .none cd) (n : Nat) (gl : GloOk (csK C0 C1 C2 C3) G ⟨callN fns 1000 n, fun _ => .err, 1000⟩ (lev n) P w K mg base gtab btab ktab) :
    ∃ fd, (∃ (oc kV dc pm ct : Value) (od an : Option Addr) (sl : Array (Option Value)), fd = PySem.W.fnOf "are_letters" "are_letters" (defArgs (top 18)) (defBody (top 18)) (defScope (top 18)) .none kV dc pm an cd ct) ∧ FnOk P w K mg base (L2.CX P w) (lev (n + 1)) f fd ["pages", "span", "among", "thing"] (spF (csK C0 C1 C2 C3) G 4 (callN fns 1000 (n + 1) 9)) := by
  obtain ⟨oc, kV, dc, pm, ct, od, an, sl, lk⟩ := D.lk
  exact ⟨_, ⟨oc, kV, dc, pm, ct, od, an, sl, rfl⟩, def_ok (fn := fd_are_letters) (cc := cc_are_letters) lk D.cd sc_are_letters rfl rfl rfl rfl rfl ck_are_letters gl rfl (fun x hs h => by cases h) (errs_at A X g)⟩
theorem fn_ok_are_apart (A : AllF K C0 C1 C2 C3 c__law_refused_right P__law_refused_right) (X : K.In h) (g : h.Ns mainGlobals mg) {f : Addr} {cd : Value} (D : DefF K "are_apart" (top 19) f .none cd) (n : Nat) (gl : GloOk (csK C0 C1 C2 C3) G ⟨callN fns 1000 n, fun _ => .err, 1000⟩ (lev n) P w K mg base gtab btab ktab) :
    ∃ fd, (∃ (oc kV dc pm ct : Value) (od an : Option Addr) (sl : Array (Option Value)), fd = PySem.W.fnOf "are_apart" "are_apart" (defArgs (top 19)) (defBody (top 19)) (defScope (top 19)) .none kV dc pm an cd ct) ∧ FnOk P w K mg base (L2.CX P w) (lev (n + 1)) f fd ["pages", "span", "among", "thing"] (spF (csK C0 C1 C2 C3) G 4 (callN fns 1000 (n + 1) 10)) := by
  obtain ⟨oc, kV, dc, pm, ct, od, an, sl, lk⟩ := D.lk
  exact ⟨_, ⟨oc, kV, dc, pm, ct, od, an, sl, rfl⟩, def_ok (fn := fd_are_apart) (cc := cc_are_apart) lk D.cd sc_are_apart rfl rfl rfl rfl rfl ck_are_apart gl rfl (fun x hs h => by cases h) (errs_at A X g)⟩
theorem fn_ok__law_pick (A : AllF K C0 C1 C2 C3 c__law_refused_right P__law_refused_right) (X : K.In h) (g : h.Ns mainGlobals mg) {f : Addr} {cd : Value} (D : DefF K "_law_pick" (top 23) f .none cd) (n : Nat) (gl : GloOk (csK C0 C1 C2 C3) G ⟨callN fns 1000 n, fun _ => .err, 1000⟩ (lev n) P w K mg base gtab btab ktab) :
    ∃ fd, (∃ (oc kV dc pm ct : Value) (od an : Option Addr) (sl : Array (Option Value)), fd = PySem.W.fnOf "_law_pick" "_law_pick" (defArgs (top 23)) (defBody (top 23)) (defScope (top 23)) .none kV dc pm an cd ct) ∧ FnOk P w K mg base (L2.CX P w) (lev (n + 1)) f fd ["_law_stream", "_law_some"] (spF (csK C0 C1 C2 C3) G 2 (callN fns 1000 (n + 1) 13)) := by
  obtain ⟨oc, kV, dc, pm, ct, od, an, sl, lk⟩ := D.lk
  exact ⟨_, ⟨oc, kV, dc, pm, ct, od, an, sl, rfl⟩, def_ok (fn := fd__law_pick) (cc := cc__law_pick) lk D.cd sc__law_pick rfl rfl rfl rfl rfl ck__law_pick gl rfl (fun x hs h => by cases h) (errs_at A X g)⟩
theorem fn_ok__law_mixed (A : AllF K C0 C1 C2 C3 c__law_refused_right P__law_refused_right) (X : K.In h) (g : h.Ns mainGlobals mg) {f : Addr} {cd : Value} (D : DefF K "_law_mixed" (top 24) f .none cd) (n : Nat) (gl : GloOk (csK C0 C1 C2 C3) G ⟨callN fns 1000 n, fun _ => .err, 1000⟩ (lev n) P w K mg base gtab btab ktab) :
    ∃ fd, (∃ (oc kV dc pm ct : Value) (od an : Option Addr) (sl : Array (Option Value)), fd = PySem.W.fnOf "_law_mixed" "_law_mixed" (defArgs (top 24)) (defBody (top 24)) (defScope (top 24)) .none kV dc pm an cd ct) ∧ FnOk P w K mg base (L2.CX P w) (lev (n + 1)) f fd ["_law_stream", "_law_some"] (spF (csK C0 C1 C2 C3) G 2 (callN fns 1000 (n + 1) 14)) := by
  obtain ⟨oc, kV, dc, pm, ct, od, an, sl, lk⟩ := D.lk
  exact ⟨_, ⟨oc, kV, dc, pm, ct, od, an, sl, rfl⟩, def_ok (fn := fd__law_mixed) (cc := cc__law_mixed) lk D.cd sc__law_mixed rfl rfl rfl rfl rfl ck__law_mixed gl rfl (fun x hs h => by cases h) (errs_at A X g)⟩
theorem fn_ok__law_same (A : AllF K C0 C1 C2 C3 c__law_refused_right P__law_refused_right) (X : K.In h) (g : h.Ns mainGlobals mg) {f : Addr} {cd : Value} (D : DefF K "_law_same" (top 25) f .none cd) (n : Nat) (gl : GloOk (csK C0 C1 C2 C3) G ⟨callN fns 1000 n, fun _ => .err, 1000⟩ (lev n) P w K mg base gtab btab ktab) :
    ∃ fd, (∃ (oc kV dc pm ct : Value) (od an : Option Addr) (sl : Array (Option Value)), fd = PySem.W.fnOf "_law_same" "_law_same" (defArgs (top 25)) (defBody (top 25)) (defScope (top 25)) .none kV dc pm an cd ct) ∧ FnOk P w K mg base (L2.CX P w) (lev (n + 1)) f fd ["_law_found", "_law_due"] (spF (csK C0 C1 C2 C3) G 2 (callN fns 1000 (n + 1) 15)) := by
  obtain ⟨oc, kV, dc, pm, ct, od, an, sl, lk⟩ := D.lk
  exact ⟨_, ⟨oc, kV, dc, pm, ct, od, an, sl, rfl⟩, def_ok (fn := fd__law_same) (cc := cc__law_same) lk D.cd sc__law_same rfl rfl rfl rfl rfl ck__law_same gl rfl (fun x hs h => by cases h) (errs_at A X g)⟩
theorem fn_ok__law_loose (A : AllF K C0 C1 C2 C3 c__law_refused_right P__law_refused_right) (X : K.In h) (g : h.Ns mainGlobals mg) {f : Addr} {cd : Value} (D : DefF K "_law_loose" (top 26) f .none cd) (n : Nat) (gl : GloOk (csK C0 C1 C2 C3) G ⟨callN fns 1000 n, fun _ => .err, 1000⟩ (lev n) P w K mg base gtab btab ktab) :
    ∃ fd, (∃ (oc kV dc pm ct : Value) (od an : Option Addr) (sl : Array (Option Value)), fd = PySem.W.fnOf "_law_loose" "_law_loose" (defArgs (top 26)) (defBody (top 26)) (defScope (top 26)) .none kV dc pm an cd ct) ∧ FnOk P w K mg base (L2.CX P w) (lev (n + 1)) f fd ["_law_stream", "_law_thing"] (spF (csK C0 C1 C2 C3) G 2 (callN fns 1000 (n + 1) 16)) := by
  obtain ⟨oc, kV, dc, pm, ct, od, an, sl, lk⟩ := D.lk
  exact ⟨_, ⟨oc, kV, dc, pm, ct, od, an, sl, rfl⟩, def_ok (fn := fd__law_loose) (cc := cc__law_loose) lk D.cd sc__law_loose rfl rfl rfl rfl rfl ck__law_loose gl rfl (fun x hs h => by cases h) (errs_at A X g)⟩
theorem fn_ok__law_is_page (A : AllF K C0 C1 C2 C3 c__law_refused_right P__law_refused_right) (X : K.In h) (g : h.Ns mainGlobals mg) {f : Addr} {cd : Value} (D : DefF K "_law_is_page" (top 28) f .none cd) (n : Nat) (gl : GloOk (csK C0 C1 C2 C3) G ⟨callN fns 1000 n, fun _ => .err, 1000⟩ (lev n) P w K mg base gtab btab ktab) :
    ∃ fd, (∃ (oc kV dc pm ct : Value) (od an : Option Addr) (sl : Array (Option Value)), fd = PySem.W.fnOf "_law_is_page" "_law_is_page" (defArgs (top 28)) (defBody (top 28)) (defScope (top 28)) .none kV dc pm an cd ct) ∧ FnOk P w K mg base (L2.CX P w) (lev (n + 1)) f fd ["_law_thing"] (spF (csK C0 C1 C2 C3) G 1 (callN fns 1000 (n + 1) 18)) := by
  obtain ⟨oc, kV, dc, pm, ct, od, an, sl, lk⟩ := D.lk
  exact ⟨_, ⟨oc, kV, dc, pm, ct, od, an, sl, rfl⟩, def_ok (fn := fd__law_is_page) (cc := cc__law_is_page) lk D.cd sc__law_is_page rfl rfl rfl rfl rfl ck__law_is_page gl rfl (fun x hs h => by cases h) (errs_at A X g)⟩
theorem fn_ok__law_is_one (A : AllF K C0 C1 C2 C3 c__law_refused_right P__law_refused_right) (X : K.In h) (g : h.Ns mainGlobals mg) {f : Addr} {cd : Value} (D : DefF K "_law_is_one" (top 29) f .none cd) (n : Nat) (gl : GloOk (csK C0 C1 C2 C3) G ⟨callN fns 1000 n, fun _ => .err, 1000⟩ (lev n) P w K mg base gtab btab ktab) :
    ∃ fd, (∃ (oc kV dc pm ct : Value) (od an : Option Addr) (sl : Array (Option Value)), fd = PySem.W.fnOf "_law_is_one" "_law_is_one" (defArgs (top 29)) (defBody (top 29)) (defScope (top 29)) .none kV dc pm an cd ct) ∧ FnOk P w K mg base (L2.CX P w) (lev (n + 1)) f fd ["_law_first", "_law_last", "_law_span", "_law_among"] (spF (csK C0 C1 C2 C3) G 4 (callN fns 1000 (n + 1) 19)) := by
  obtain ⟨oc, kV, dc, pm, ct, od, an, sl, lk⟩ := D.lk
  exact ⟨_, ⟨oc, kV, dc, pm, ct, od, an, sl, rfl⟩, def_ok (fn := fd__law_is_one) (cc := cc__law_is_one) lk D.cd sc__law_is_one rfl rfl rfl rfl rfl ck__law_is_one gl rfl (fun x hs h => by cases h) (errs_at A X g)⟩
theorem fn_ok__law_are_letters (A : AllF K C0 C1 C2 C3 c__law_refused_right P__law_refused_right) (X : K.In h) (g : h.Ns mainGlobals mg) {f : Addr} {cd : Value} (D : DefF K "_law_are_letters" (top 30) f .none cd) (n : Nat) (gl : GloOk (csK C0 C1 C2 C3) G ⟨callN fns 1000 n, fun _ => .err, 1000⟩ (lev n) P w K mg base gtab btab ktab) :
    ∃ fd, (∃ (oc kV dc pm ct : Value) (od an : Option Addr) (sl : Array (Option Value)), fd = PySem.W.fnOf "_law_are_letters" "_law_are_letters" (defArgs (top 30)) (defBody (top 30)) (defScope (top 30)) .none kV dc pm an cd ct) ∧ FnOk P w K mg base (L2.CX P w) (lev (n + 1)) f fd ["_law_pages", "_law_span", "_law_among", "_law_thing"] (spF (csK C0 C1 C2 C3) G 4 (callN fns 1000 (n + 1) 20)) := by
  obtain ⟨oc, kV, dc, pm, ct, od, an, sl, lk⟩ := D.lk
  exact ⟨_, ⟨oc, kV, dc, pm, ct, od, an, sl, rfl⟩, def_ok (fn := fd__law_are_letters) (cc := cc__law_are_letters) lk D.cd sc__law_are_letters rfl rfl rfl rfl rfl ck__law_are_letters gl rfl (fun x hs h => by cases h) (errs_at A X g)⟩
theorem fn_ok__law_are_apart (A : AllF K C0 C1 C2 C3 c__law_refused_right P__law_refused_right) (X : K.In h) (g : h.Ns mainGlobals mg) {f : Addr} {cd : Value} (D : DefF K "_law_are_apart" (top 31) f .none cd) (n : Nat) (gl : GloOk (csK C0 C1 C2 C3) G ⟨callN fns 1000 n, fun _ => .err, 1000⟩ (lev n) P w K mg base gtab btab ktab) :
    ∃ fd, (∃ (oc kV dc pm ct : Value) (od an : Option Addr) (sl : Array (Option Value)), fd = PySem.W.fnOf "_law_are_apart" "_law_are_apart" (defArgs (top 31)) (defBody (top 31)) (defScope (top 31)) .none kV dc pm an cd ct) ∧ FnOk P w K mg base (L2.CX P w) (lev (n + 1)) f fd ["_law_pages", "_law_span", "_law_among", "_law_thing"] (spF (csK C0 C1 C2 C3) G 4 (callN fns 1000 (n + 1) 21)) := by
  obtain ⟨oc, kV, dc, pm, ct, od, an, sl, lk⟩ := D.lk
  exact ⟨_, ⟨oc, kV, dc, pm, ct, od, an, sl, rfl⟩, def_ok (fn := fd__law_are_apart) (cc := cc__law_are_apart) lk D.cd sc__law_are_apart rfl rfl rfl rfl rfl ck__law_are_apart gl rfl (fun x hs h => by cases h) (errs_at A X g)⟩
theorem fn_ok__law_odd_letters (A : AllF K C0 C1 C2 C3 c__law_refused_right P__law_refused_right) (X : K.In h) (g : h.Ns mainGlobals mg) {f : Addr} {cd : Value} (D : DefF K "_law_odd_letters" (top 32) f .none cd) (n : Nat) (gl : GloOk (csK C0 C1 C2 C3) G ⟨callN fns 1000 n, fun _ => .err, 1000⟩ (lev n) P w K mg base gtab btab ktab) :
    ∃ fd, (∃ (oc kV dc pm ct : Value) (od an : Option Addr) (sl : Array (Option Value)), fd = PySem.W.fnOf "_law_odd_letters" "_law_odd_letters" (defArgs (top 32)) (defBody (top 32)) (defScope (top 32)) .none kV dc pm an cd ct) ∧ FnOk P w K mg base (L2.CX P w) (lev (n + 1)) f fd ["_law_stream", "_law_told", "_law_apart"] (spF (csK C0 C1 C2 C3) G 3 (callN fns 1000 (n + 1) 22)) := by
  obtain ⟨oc, kV, dc, pm, ct, od, an, sl, lk⟩ := D.lk
  exact ⟨_, ⟨oc, kV, dc, pm, ct, od, an, sl, rfl⟩, def_ok (fn := fd__law_odd_letters) (cc := cc__law_odd_letters) lk D.cd sc__law_odd_letters rfl rfl rfl rfl rfl ck__law_odd_letters gl rfl (fun x hs h => by cases h) (errs_at A X g)⟩
theorem met__law_refused_right (A : AllF K C0 C1 C2 C3 c__law_refused_right P__law_refused_right) (X : K.In h) (g : h.Ns mainGlobals mg) (TB : LamX.TabB base mg c__law_refused_right P__law_refused_right) (hT : G.T = [(P__law_refused_right, ("_law_refused_right" : Str) ++ ".<locals>." ++ "<lambda>")]) {x : Str} {hs : List (Nat × List Nat × List Nat)} (hm : cc__law_refused_right.mt = some (x, hs)) :
    MetOk (csK C0 C1 C2 C3) G K mg base (.ref c__law_refused_right) (("_law_refused_right" : Str) ++ ".<locals>.") x hs := by
  have e : (("_law_met" : Str), metHs) = (x, hs) := Option.some.inj hm
  cases e
  obtain ⟨f, cd, D⟩ := A.d__law_met
  obtain ⟨oc, kV, dc, pm, ct, od, an, sl, lk⟩ := D.lk
  refine ⟨f, c__law_refused_right, P__law_refused_right, _, _, _, _, _, _, _, _, _, _, _, _, _, ["_law_ask", "e"], "_law_ask", "e", PySem.W.mg_of X g D.ns, D.kp, lk, D.cd, Binds.all fun us hl => match us, hl with | [_], _ => rfl, ⟨rfl, rfl, rfl, by decide +kernel, rfl, by decide +kernel, by decide +kernel⟩, ⟨rfl, rfl, rfl⟩, .inl (by decide +kernel), by decide +kernel, errsOk A X g, by kernel_rfl, by kernel_rfl, TB, rfl, ⟨by rw [hT]; exact List.mem_singleton.mpr rfl, fun p hp _ => by rw [hT] at hp; rw [List.mem_singleton.mp hp]⟩, by decide +kernel, by decide +kernel, by decide +kernel, by decide +kernel, by decide +kernel⟩
theorem fn_ok__law_refused_right (A : AllF K C0 C1 C2 C3 c__law_refused_right P__law_refused_right) (X : K.In h) (g : h.Ns mainGlobals mg) {f : Addr} (D : DefF K "_law_refused_right" (top 33) f .none (.ref c__law_refused_right)) (TB : LamX.TabB base mg c__law_refused_right P__law_refused_right) (hT : G.T = [(P__law_refused_right, ("_law_refused_right" : Str) ++ ".<locals>." ++ "<lambda>")]) (n : Nat) (gl : GloOk (csK C0 C1 C2 C3) G ⟨callN fns 1000 n, fun _ => .err, 1000⟩ (lev n) P w K mg base gtab btab ktab) :
    ∃ fd, (∃ (oc kV dc pm ct : Value) (od an : Option Addr) (sl : Array (Option Value)), fd = PySem.W.fnOf "_law_refused_right" "_law_refused_right" (defArgs (top 33)) (defBody (top 33)) (defScope (top 33)) .none kV dc pm an (.ref c__law_refused_right) ct) ∧ FnOk P w K mg base (L2.CX P w) (lev (n + 1)) f fd ["_law_stream", "_law_pages", "_law_span", "_law_among"] (spF (csK C0 C1 C2 C3) G 4 (callN fns 1000 (n + 1) 23)) := by
  obtain ⟨oc, kV, dc, pm, ct, od, an, sl, lk⟩ := D.lk
  exact ⟨_, ⟨oc, kV, dc, pm, ct, od, an, sl, rfl⟩, def_ok (fn := fd__law_refused_right) (cc := cc__law_refused_right) lk D.cd sc__law_refused_right rfl rfl rfl rfl rfl ck__law_refused_right gl rfl (fun x hs h => met__law_refused_right A X g TB hT h) (errs_at A X g)⟩
theorem bts (A : AllF K C0 C1 C2 C3 c__law_refused_right P__law_refused_right) (X : K.In h) (g : h.Ns mainGlobals mg) : ∀ x ∈ btab, mg x = none := fun x m => PySem.W.mg_none_of X g (A.bt x m)
theorem glo_ok (A : AllF K C0 C1 C2 C3 c__law_refused_right P__law_refused_right) (X : K.In h) (g : h.Ns mainGlobals mg) (TB__law_refused_right : LamX.TabB base mg c__law_refused_right P__law_refused_right) (hT : G.T = [(P__law_refused_right, ("_law_refused_right" : Str) ++ ".<locals>." ++ "<lambda>")]) : ∀ n, GloOk (csK C0 C1 C2 C3) G ⟨callN fns 1000 n, fun _ => .err, 1000⟩ (lev n) P w K mg base gtab btab ktab
  | n => by
    have prev : ∀ m, n = m + 1 → GloOk (csK C0 C1 C2 C3) G ⟨callN fns 1000 m, fun _ => .err, 1000⟩ (lev m) P w K mg base gtab btab ktab := fun m e => by
      subst e
      exact glo_ok A X g TB__law_refused_right hT m
    have F_is_list : ∃ f fd cd, mg "is_list" = some (.ref f) ∧ PySem.W.keepIn K (.ref f) = true ∧ (∃ (oc kV dc pm ct : Value) (od an : Option Addr) (sl : Array (Option Value)), fd = PySem.W.fnOf "is_list" "is_list" (defArgs (top 7)) (defBody (top 7)) (defScope (top 7)) .none kV dc pm an cd ct) ∧ FnOk P w K mg base (L2.CX P w) (lev n) f fd ["thing"] (spF (csK C0 C1 C2 C3) G 1 (callN fns 1000 n 0)) := by
      obtain ⟨f, cd, D⟩ := A.d_is_list
      obtain ⟨oc, kV, dc, pm, ct, od, an, sl, lk⟩ := D.lk
      have q : ∃ fd, (∃ (oc kV dc pm ct : Value) (od an : Option Addr) (sl : Array (Option Value)), fd = PySem.W.fnOf "is_list" "is_list" (defArgs (top 7)) (defBody (top 7)) (defScope (top 7)) .none kV dc pm an cd ct) ∧ FnOk P w K mg base (L2.CX P w) (lev n) f fd ["thing"] (spF (csK C0 C1 C2 C3) G 1 (callN fns 1000 n 0)) := by
        obtain hz | ⟨m, hz⟩ : n = 0 ∨ ∃ m, n = m + 1 := by cases n <;> simp
        · subst hz; exact ⟨_, ⟨oc, kV, dc, pm, ct, od, an, sl, rfl⟩, def_zero rfl⟩
        · subst hz; exact fn_ok_is_list A X g D m (prev m rfl)
      obtain ⟨fd, e, q⟩ := q
      exact ⟨f, fd, cd, PySem.W.mg_of X g D.ns, D.kp, e, q⟩
    have F_is_integer : ∃ f fd cd, mg "is_integer" = some (.ref f) ∧ PySem.W.keepIn K (.ref f) = true ∧ (∃ (oc kV dc pm ct : Value) (od an : Option Addr) (sl : Array (Option Value)), fd = PySem.W.fnOf "is_integer" "is_integer" (defArgs (top 8)) (defBody (top 8)) (defScope (top 8)) .none kV dc pm an cd ct) ∧ FnOk P w K mg base (L2.CX P w) (lev n) f fd ["thing"] (spF (csK C0 C1 C2 C3) G 1 (callN fns 1000 n 1)) := by
      obtain ⟨f, cd, D⟩ := A.d_is_integer
      obtain ⟨oc, kV, dc, pm, ct, od, an, sl, lk⟩ := D.lk
      have q : ∃ fd, (∃ (oc kV dc pm ct : Value) (od an : Option Addr) (sl : Array (Option Value)), fd = PySem.W.fnOf "is_integer" "is_integer" (defArgs (top 8)) (defBody (top 8)) (defScope (top 8)) .none kV dc pm an cd ct) ∧ FnOk P w K mg base (L2.CX P w) (lev n) f fd ["thing"] (spF (csK C0 C1 C2 C3) G 1 (callN fns 1000 n 1)) := by
        obtain hz | ⟨m, hz⟩ : n = 0 ∨ ∃ m, n = m + 1 := by cases n <;> simp
        · subst hz; exact ⟨_, ⟨oc, kV, dc, pm, ct, od, an, sl, rfl⟩, def_zero rfl⟩
        · subst hz; exact fn_ok_is_integer A X g D m (prev m rfl)
      obtain ⟨fd, e, q⟩ := q
      exact ⟨f, fd, cd, PySem.W.mg_of X g D.ns, D.kp, e, q⟩
    have F_is_number : ∃ f fd cd, mg "is_number" = some (.ref f) ∧ PySem.W.keepIn K (.ref f) = true ∧ (∃ (oc kV dc pm ct : Value) (od an : Option Addr) (sl : Array (Option Value)), fd = PySem.W.fnOf "is_number" "is_number" (defArgs (top 9)) (defBody (top 9)) (defScope (top 9)) .none kV dc pm an cd ct) ∧ FnOk P w K mg base (L2.CX P w) (lev n) f fd ["thing"] (spF (csK C0 C1 C2 C3) G 1 (callN fns 1000 n 2)) := by
      obtain ⟨f, cd, D⟩ := A.d_is_number
      obtain ⟨oc, kV, dc, pm, ct, od, an, sl, lk⟩ := D.lk
      have q : ∃ fd, (∃ (oc kV dc pm ct : Value) (od an : Option Addr) (sl : Array (Option Value)), fd = PySem.W.fnOf "is_number" "is_number" (defArgs (top 9)) (defBody (top 9)) (defScope (top 9)) .none kV dc pm an cd ct) ∧ FnOk P w K mg base (L2.CX P w) (lev n) f fd ["thing"] (spF (csK C0 C1 C2 C3) G 1 (callN fns 1000 n 2)) := by
        obtain hz | ⟨m, hz⟩ : n = 0 ∨ ∃ m, n = m + 1 := by cases n <;> simp
        · subst hz; exact ⟨_, ⟨oc, kV, dc, pm, ct, od, an, sl, rfl⟩, def_zero rfl⟩
        · subst hz; exact fn_ok_is_number A X g D m (prev m rfl)
      obtain ⟨fd, e, q⟩ := q
      exact ⟨f, fd, cd, PySem.W.mg_of X g D.ns, D.kp, e, q⟩
    have F_checked_pages : ∃ f fd cd, mg "checked_pages" = some (.ref f) ∧ PySem.W.keepIn K (.ref f) = true ∧ (∃ (oc kV dc pm ct : Value) (od an : Option Addr) (sl : Array (Option Value)), fd = PySem.W.fnOf "checked_pages" "checked_pages" (defArgs (top 11)) (defBody (top 11)) (defScope (top 11)) .none kV dc pm an cd ct) ∧ FnOk P w K mg base (L2.CX P w) (lev n) f fd ["pages"] (spF (csK C0 C1 C2 C3) G 1 (callN fns 1000 n 3)) := by
      obtain ⟨f, cd, D⟩ := A.d_checked_pages
      obtain ⟨oc, kV, dc, pm, ct, od, an, sl, lk⟩ := D.lk
      have q : ∃ fd, (∃ (oc kV dc pm ct : Value) (od an : Option Addr) (sl : Array (Option Value)), fd = PySem.W.fnOf "checked_pages" "checked_pages" (defArgs (top 11)) (defBody (top 11)) (defScope (top 11)) .none kV dc pm an cd ct) ∧ FnOk P w K mg base (L2.CX P w) (lev n) f fd ["pages"] (spF (csK C0 C1 C2 C3) G 1 (callN fns 1000 n 3)) := by
        obtain hz | ⟨m, hz⟩ : n = 0 ∨ ∃ m, n = m + 1 := by cases n <;> simp
        · subst hz; exact ⟨_, ⟨oc, kV, dc, pm, ct, od, an, sl, rfl⟩, def_zero rfl⟩
        · subst hz; exact fn_ok_checked_pages A X g D m (prev m rfl)
      obtain ⟨fd, e, q⟩ := q
      exact ⟨f, fd, cd, PySem.W.mg_of X g D.ns, D.kp, e, q⟩
    have F_checked_among : ∃ f fd cd, mg "checked_among" = some (.ref f) ∧ PySem.W.keepIn K (.ref f) = true ∧ (∃ (oc kV dc pm ct : Value) (od an : Option Addr) (sl : Array (Option Value)), fd = PySem.W.fnOf "checked_among" "checked_among" (defArgs (top 13)) (defBody (top 13)) (defScope (top 13)) .none kV dc pm an cd ct) ∧ FnOk P w K mg base (L2.CX P w) (lev n) f fd ["among"] (spF (csK C0 C1 C2 C3) G 1 (callN fns 1000 n 4)) := by
      obtain ⟨f, cd, D⟩ := A.d_checked_among
      obtain ⟨oc, kV, dc, pm, ct, od, an, sl, lk⟩ := D.lk
      have q : ∃ fd, (∃ (oc kV dc pm ct : Value) (od an : Option Addr) (sl : Array (Option Value)), fd = PySem.W.fnOf "checked_among" "checked_among" (defArgs (top 13)) (defBody (top 13)) (defScope (top 13)) .none kV dc pm an cd ct) ∧ FnOk P w K mg base (L2.CX P w) (lev n) f fd ["among"] (spF (csK C0 C1 C2 C3) G 1 (callN fns 1000 n 4)) := by
        obtain hz | ⟨m, hz⟩ : n = 0 ∨ ∃ m, n = m + 1 := by cases n <;> simp
        · subst hz; exact ⟨_, ⟨oc, kV, dc, pm, ct, od, an, sl, rfl⟩, def_zero rfl⟩
        · subst hz; exact fn_ok_checked_among A X g D m (prev m rfl)
      obtain ⟨fd, e, q⟩ := q
      exact ⟨f, fd, cd, PySem.W.mg_of X g D.ns, D.kp, e, q⟩
    have F_checked_letters : ∃ f fd cd, mg "checked_letters" = some (.ref f) ∧ PySem.W.keepIn K (.ref f) = true ∧ (∃ (oc kV dc pm ct : Value) (od an : Option Addr) (sl : Array (Option Value)), fd = PySem.W.fnOf "checked_letters" "checked_letters" (defArgs (top 14)) (defBody (top 14)) (defScope (top 14)) .none kV dc pm an cd ct) ∧ FnOk P w K mg base (L2.CX P w) (lev n) f fd ["pages", "span", "among"] (spF (csK C0 C1 C2 C3) G 3 (callN fns 1000 n 5)) := by
      obtain ⟨f, cd, D⟩ := A.d_checked_letters
      obtain ⟨oc, kV, dc, pm, ct, od, an, sl, lk⟩ := D.lk
      have q : ∃ fd, (∃ (oc kV dc pm ct : Value) (od an : Option Addr) (sl : Array (Option Value)), fd = PySem.W.fnOf "checked_letters" "checked_letters" (defArgs (top 14)) (defBody (top 14)) (defScope (top 14)) .none kV dc pm an cd ct) ∧ FnOk P w K mg base (L2.CX P w) (lev n) f fd ["pages", "span", "among"] (spF (csK C0 C1 C2 C3) G 3 (callN fns 1000 n 5)) := by
        obtain hz | ⟨m, hz⟩ : n = 0 ∨ ∃ m, n = m + 1 := by cases n <;> simp
        · subst hz; exact ⟨_, ⟨oc, kV, dc, pm, ct, od, an, sl, rfl⟩, def_zero rfl⟩
        · subst hz; exact fn_ok_checked_letters A X g D m (prev m rfl)
      obtain ⟨fd, e, q⟩ := q
      exact ⟨f, fd, cd, PySem.W.mg_of X g D.ns, D.kp, e, q⟩
    have F_is_carried : ∃ f fd cd, mg "is_carried" = some (.ref f) ∧ PySem.W.keepIn K (.ref f) = true ∧ (∃ (oc kV dc pm ct : Value) (od an : Option Addr) (sl : Array (Option Value)), fd = PySem.W.fnOf "is_carried" "is_carried" (defArgs (top 15)) (defBody (top 15)) (defScope (top 15)) .none kV dc pm an cd ct) ∧ FnOk P w K mg base (L2.CX P w) (lev n) f fd ["first", "last", "span", "known"] (spF (csK C0 C1 C2 C3) G 4 (callN fns 1000 n 6)) := by
      obtain ⟨f, cd, D⟩ := A.d_is_carried
      obtain ⟨oc, kV, dc, pm, ct, od, an, sl, lk⟩ := D.lk
      have q : ∃ fd, (∃ (oc kV dc pm ct : Value) (od an : Option Addr) (sl : Array (Option Value)), fd = PySem.W.fnOf "is_carried" "is_carried" (defArgs (top 15)) (defBody (top 15)) (defScope (top 15)) .none kV dc pm an cd ct) ∧ FnOk P w K mg base (L2.CX P w) (lev n) f fd ["first", "last", "span", "known"] (spF (csK C0 C1 C2 C3) G 4 (callN fns 1000 n 6)) := by
        obtain hz | ⟨m, hz⟩ : n = 0 ∨ ∃ m, n = m + 1 := by cases n <;> simp
        · subst hz; exact ⟨_, ⟨oc, kV, dc, pm, ct, od, an, sl, rfl⟩, def_zero rfl⟩
        · subst hz; exact fn_ok_is_carried A X g D m (prev m rfl)
      obtain ⟨fd, e, q⟩ := q
      exact ⟨f, fd, cd, PySem.W.mg_of X g D.ns, D.kp, e, q⟩
    have F_letters : ∃ f fd T cd, mg "letters" = some (.ref f) ∧ PySem.W.keepIn K (.ref f) = true ∧ (∃ (oc kV dc pm ct : Value) (od an : Option Addr) (sl : Array (Option Value)), fd = PySem.W.fnOf "letters" "letters" (defArgs (top 16)) (defBody (top 16)) (defScope (top 16)) (.ref T) kV dc pm an cd ct) ∧ FnOk P w K mg base (L2.CX P w) (lev n) f fd ["pages", "span", "among"] (spF (csK C0 C1 C2 C3) G 3 (callN fns 1000 n 7)) ∧ ∃ (o : Obj) (n : Nat), K.lookup T = some o ∧ o.data = .seq #[.none] n := by
      obtain ⟨f, T, cd, D, hD⟩ := A.d_letters
      obtain ⟨oc, kV, dc, pm, ct, od, an, sl, lk⟩ := D.lk
      have q : ∃ fd, (∃ (oc kV dc pm ct : Value) (od an : Option Addr) (sl : Array (Option Value)), fd = PySem.W.fnOf "letters" "letters" (defArgs (top 16)) (defBody (top 16)) (defScope (top 16)) (.ref T) kV dc pm an cd ct) ∧ FnOk P w K mg base (L2.CX P w) (lev n) f fd ["pages", "span", "among"] (spF (csK C0 C1 C2 C3) G 3 (callN fns 1000 n 7)) := by
        obtain hz | ⟨m, hz⟩ : n = 0 ∨ ∃ m, n = m + 1 := by cases n <;> simp
        · subst hz; exact ⟨_, ⟨oc, kV, dc, pm, ct, od, an, sl, rfl⟩, def_zero rfl⟩
        · subst hz; exact fn_ok_letters A X g D m (prev m rfl)
      obtain ⟨fd, e, q⟩ := q
      exact ⟨f, fd, T, cd, PySem.W.mg_of X g D.ns, D.kp, e, q, hD⟩
    have F_pages_apart : ∃ f fd T cd, mg "pages_apart" = some (.ref f) ∧ PySem.W.keepIn K (.ref f) = true ∧ (∃ (oc kV dc pm ct : Value) (od an : Option Addr) (sl : Array (Option Value)), fd = PySem.W.fnOf "pages_apart" "pages_apart" (defArgs (top 17)) (defBody (top 17)) (defScope (top 17)) (.ref T) kV dc pm an cd ct) ∧ FnOk P w K mg base (L2.CX P w) (lev n) f fd ["pages", "span", "among"] (spF (csK C0 C1 C2 C3) G 3 (callN fns 1000 n 8)) ∧ ∃ (o : Obj) (n : Nat), K.lookup T = some o ∧ o.data = .seq #[.none] n := by
      obtain ⟨f, T, cd, D, hD⟩ := A.d_pages_apart
      obtain ⟨oc, kV, dc, pm, ct, od, an, sl, lk⟩ := D.lk
      have q : ∃ fd, (∃ (oc kV dc pm ct : Value) (od an : Option Addr) (sl : Array (Option Value)), fd = PySem.W.fnOf "pages_apart" "pages_apart" (defArgs (top 17)) (defBody (top 17)) (defScope (top 17)) (.ref T) kV dc pm an cd ct) ∧ FnOk P w K mg base (L2.CX P w) (lev n) f fd ["pages", "span", "among"] (spF (csK C0 C1 C2 C3) G 3 (callN fns 1000 n 8)) := by
        obtain hz | ⟨m, hz⟩ : n = 0 ∨ ∃ m, n = m + 1 := by cases n <;> simp
        · subst hz; exact ⟨_, ⟨oc, kV, dc, pm, ct, od, an, sl, rfl⟩, def_zero rfl⟩
        · subst hz; exact fn_ok_pages_apart A X g D m (prev m rfl)
      obtain ⟨fd, e, q⟩ := q
      exact ⟨f, fd, T, cd, PySem.W.mg_of X g D.ns, D.kp, e, q, hD⟩
    have F_are_letters : ∃ f fd cd, mg "are_letters" = some (.ref f) ∧ PySem.W.keepIn K (.ref f) = true ∧ (∃ (oc kV dc pm ct : Value) (od an : Option Addr) (sl : Array (Option Value)), fd = PySem.W.fnOf "are_letters" "are_letters" (defArgs (top 18)) (defBody (top 18)) (defScope (top 18)) .none kV dc pm an cd ct) ∧ FnOk P w K mg base (L2.CX P w) (lev n) f fd ["pages", "span", "among", "thing"] (spF (csK C0 C1 C2 C3) G 4 (callN fns 1000 n 9)) := by
      obtain ⟨f, cd, D⟩ := A.d_are_letters
      obtain ⟨oc, kV, dc, pm, ct, od, an, sl, lk⟩ := D.lk
      have q : ∃ fd, (∃ (oc kV dc pm ct : Value) (od an : Option Addr) (sl : Array (Option Value)), fd = PySem.W.fnOf "are_letters" "are_letters" (defArgs (top 18)) (defBody (top 18)) (defScope (top 18)) .none kV dc pm an cd ct) ∧ FnOk P w K mg base (L2.CX P w) (lev n) f fd ["pages", "span", "among", "thing"] (spF (csK C0 C1 C2 C3) G 4 (callN fns 1000 n 9)) := by
        obtain hz | ⟨m, hz⟩ : n = 0 ∨ ∃ m, n = m + 1 := by cases n <;> simp
        · subst hz; exact ⟨_, ⟨oc, kV, dc, pm, ct, od, an, sl, rfl⟩, def_zero rfl⟩
        · subst hz; exact fn_ok_are_letters A X g D m (prev m rfl)
      obtain ⟨fd, e, q⟩ := q
      exact ⟨f, fd, cd, PySem.W.mg_of X g D.ns, D.kp, e, q⟩
    have F_are_apart : ∃ f fd cd, mg "are_apart" = some (.ref f) ∧ PySem.W.keepIn K (.ref f) = true ∧ (∃ (oc kV dc pm ct : Value) (od an : Option Addr) (sl : Array (Option Value)), fd = PySem.W.fnOf "are_apart" "are_apart" (defArgs (top 19)) (defBody (top 19)) (defScope (top 19)) .none kV dc pm an cd ct) ∧ FnOk P w K mg base (L2.CX P w) (lev n) f fd ["pages", "span", "among", "thing"] (spF (csK C0 C1 C2 C3) G 4 (callN fns 1000 n 10)) := by
      obtain ⟨f, cd, D⟩ := A.d_are_apart
      obtain ⟨oc, kV, dc, pm, ct, od, an, sl, lk⟩ := D.lk
      have q : ∃ fd, (∃ (oc kV dc pm ct : Value) (od an : Option Addr) (sl : Array (Option Value)), fd = PySem.W.fnOf "are_apart" "are_apart" (defArgs (top 19)) (defBody (top 19)) (defScope (top 19)) .none kV dc pm an cd ct) ∧ FnOk P w K mg base (L2.CX P w) (lev n) f fd ["pages", "span", "among", "thing"] (spF (csK C0 C1 C2 C3) G 4 (callN fns 1000 n 10)) := by
        obtain hz | ⟨m, hz⟩ : n = 0 ∨ ∃ m, n = m + 1 := by cases n <;> simp
        · subst hz; exact ⟨_, ⟨oc, kV, dc, pm, ct, od, an, sl, rfl⟩, def_zero rfl⟩
        · subst hz; exact fn_ok_are_apart A X g D m (prev m rfl)
      obtain ⟨fd, e, q⟩ := q
      exact ⟨f, fd, cd, PySem.W.mg_of X g D.ns, D.kp, e, q⟩
    have F__law_draw : ∃ f fd cd, mg "_law_draw" = some (.ref f) ∧ PySem.W.keepIn K (.ref f) = true ∧ (∃ (oc kV dc pm ct : Value) (od an : Option Addr) (sl : Array (Option Value)), fd = PySem.W.fnOf "_law_draw" "_law_draw" (defArgs (top 22)) (defBody (top 22)) (defScope (top 22)) .none kV dc pm an cd ct) ∧ FnOk P w K mg base (L2.CX P w) (lev n) f fd ["_law_stream", "_law_many"] (spF (csK C0 C1 C2 C3) G 2 (callN fns 1000 n 12)) := by
      obtain ⟨f, cd, D⟩ := A.d__law_draw
      obtain ⟨oc, kV, dc, pm, ct, od, an, sl, lk⟩ := D.lk
      have q : ∃ fd, (∃ (oc kV dc pm ct : Value) (od an : Option Addr) (sl : Array (Option Value)), fd = PySem.W.fnOf "_law_draw" "_law_draw" (defArgs (top 22)) (defBody (top 22)) (defScope (top 22)) .none kV dc pm an cd ct) ∧ FnOk P w K mg base (L2.CX P w) (lev n) f fd ["_law_stream", "_law_many"] (spF (csK C0 C1 C2 C3) G 2 (callN fns 1000 n 12)) := by
        obtain hz | ⟨m, hz⟩ : n = 0 ∨ ∃ m, n = m + 1 := by cases n <;> simp
        · subst hz; exact ⟨_, ⟨oc, kV, dc, pm, ct, od, an, sl, rfl⟩, def_zero rfl⟩
        · subst hz; exact ⟨_, ⟨oc, kV, dc, pm, ct, od, an, sl, rfl⟩, (draw_ok lk D.cd (bts A X g "int" (by decide +kernel))).mono (by unfold lev; omega)⟩
      obtain ⟨fd, e, q⟩ := q
      exact ⟨f, fd, cd, PySem.W.mg_of X g D.ns, D.kp, e, q⟩
    have F__law_pick : ∃ f fd cd, mg "_law_pick" = some (.ref f) ∧ PySem.W.keepIn K (.ref f) = true ∧ (∃ (oc kV dc pm ct : Value) (od an : Option Addr) (sl : Array (Option Value)), fd = PySem.W.fnOf "_law_pick" "_law_pick" (defArgs (top 23)) (defBody (top 23)) (defScope (top 23)) .none kV dc pm an cd ct) ∧ FnOk P w K mg base (L2.CX P w) (lev n) f fd ["_law_stream", "_law_some"] (spF (csK C0 C1 C2 C3) G 2 (callN fns 1000 n 13)) := by
      obtain ⟨f, cd, D⟩ := A.d__law_pick
      obtain ⟨oc, kV, dc, pm, ct, od, an, sl, lk⟩ := D.lk
      have q : ∃ fd, (∃ (oc kV dc pm ct : Value) (od an : Option Addr) (sl : Array (Option Value)), fd = PySem.W.fnOf "_law_pick" "_law_pick" (defArgs (top 23)) (defBody (top 23)) (defScope (top 23)) .none kV dc pm an cd ct) ∧ FnOk P w K mg base (L2.CX P w) (lev n) f fd ["_law_stream", "_law_some"] (spF (csK C0 C1 C2 C3) G 2 (callN fns 1000 n 13)) := by
        obtain hz | ⟨m, hz⟩ : n = 0 ∨ ∃ m, n = m + 1 := by cases n <;> simp
        · subst hz; exact ⟨_, ⟨oc, kV, dc, pm, ct, od, an, sl, rfl⟩, def_zero rfl⟩
        · subst hz; exact fn_ok__law_pick A X g D m (prev m rfl)
      obtain ⟨fd, e, q⟩ := q
      exact ⟨f, fd, cd, PySem.W.mg_of X g D.ns, D.kp, e, q⟩
    have F__law_mixed : ∃ f fd cd, mg "_law_mixed" = some (.ref f) ∧ PySem.W.keepIn K (.ref f) = true ∧ (∃ (oc kV dc pm ct : Value) (od an : Option Addr) (sl : Array (Option Value)), fd = PySem.W.fnOf "_law_mixed" "_law_mixed" (defArgs (top 24)) (defBody (top 24)) (defScope (top 24)) .none kV dc pm an cd ct) ∧ FnOk P w K mg base (L2.CX P w) (lev n) f fd ["_law_stream", "_law_some"] (spF (csK C0 C1 C2 C3) G 2 (callN fns 1000 n 14)) := by
      obtain ⟨f, cd, D⟩ := A.d__law_mixed
      obtain ⟨oc, kV, dc, pm, ct, od, an, sl, lk⟩ := D.lk
      have q : ∃ fd, (∃ (oc kV dc pm ct : Value) (od an : Option Addr) (sl : Array (Option Value)), fd = PySem.W.fnOf "_law_mixed" "_law_mixed" (defArgs (top 24)) (defBody (top 24)) (defScope (top 24)) .none kV dc pm an cd ct) ∧ FnOk P w K mg base (L2.CX P w) (lev n) f fd ["_law_stream", "_law_some"] (spF (csK C0 C1 C2 C3) G 2 (callN fns 1000 n 14)) := by
        obtain hz | ⟨m, hz⟩ : n = 0 ∨ ∃ m, n = m + 1 := by cases n <;> simp
        · subst hz; exact ⟨_, ⟨oc, kV, dc, pm, ct, od, an, sl, rfl⟩, def_zero rfl⟩
        · subst hz; exact fn_ok__law_mixed A X g D m (prev m rfl)
      obtain ⟨fd, e, q⟩ := q
      exact ⟨f, fd, cd, PySem.W.mg_of X g D.ns, D.kp, e, q⟩
    have F__law_same : ∃ f fd cd, mg "_law_same" = some (.ref f) ∧ PySem.W.keepIn K (.ref f) = true ∧ (∃ (oc kV dc pm ct : Value) (od an : Option Addr) (sl : Array (Option Value)), fd = PySem.W.fnOf "_law_same" "_law_same" (defArgs (top 25)) (defBody (top 25)) (defScope (top 25)) .none kV dc pm an cd ct) ∧ FnOk P w K mg base (L2.CX P w) (lev n) f fd ["_law_found", "_law_due"] (spF (csK C0 C1 C2 C3) G 2 (callN fns 1000 n 15)) := by
      obtain ⟨f, cd, D⟩ := A.d__law_same
      obtain ⟨oc, kV, dc, pm, ct, od, an, sl, lk⟩ := D.lk
      have q : ∃ fd, (∃ (oc kV dc pm ct : Value) (od an : Option Addr) (sl : Array (Option Value)), fd = PySem.W.fnOf "_law_same" "_law_same" (defArgs (top 25)) (defBody (top 25)) (defScope (top 25)) .none kV dc pm an cd ct) ∧ FnOk P w K mg base (L2.CX P w) (lev n) f fd ["_law_found", "_law_due"] (spF (csK C0 C1 C2 C3) G 2 (callN fns 1000 n 15)) := by
        obtain hz | ⟨m, hz⟩ : n = 0 ∨ ∃ m, n = m + 1 := by cases n <;> simp
        · subst hz; exact ⟨_, ⟨oc, kV, dc, pm, ct, od, an, sl, rfl⟩, def_zero rfl⟩
        · subst hz; exact fn_ok__law_same A X g D m (prev m rfl)
      obtain ⟨fd, e, q⟩ := q
      exact ⟨f, fd, cd, PySem.W.mg_of X g D.ns, D.kp, e, q⟩
    have F__law_loose : ∃ f fd cd, mg "_law_loose" = some (.ref f) ∧ PySem.W.keepIn K (.ref f) = true ∧ (∃ (oc kV dc pm ct : Value) (od an : Option Addr) (sl : Array (Option Value)), fd = PySem.W.fnOf "_law_loose" "_law_loose" (defArgs (top 26)) (defBody (top 26)) (defScope (top 26)) .none kV dc pm an cd ct) ∧ FnOk P w K mg base (L2.CX P w) (lev n) f fd ["_law_stream", "_law_thing"] (spF (csK C0 C1 C2 C3) G 2 (callN fns 1000 n 16)) := by
      obtain ⟨f, cd, D⟩ := A.d__law_loose
      obtain ⟨oc, kV, dc, pm, ct, od, an, sl, lk⟩ := D.lk
      have q : ∃ fd, (∃ (oc kV dc pm ct : Value) (od an : Option Addr) (sl : Array (Option Value)), fd = PySem.W.fnOf "_law_loose" "_law_loose" (defArgs (top 26)) (defBody (top 26)) (defScope (top 26)) .none kV dc pm an cd ct) ∧ FnOk P w K mg base (L2.CX P w) (lev n) f fd ["_law_stream", "_law_thing"] (spF (csK C0 C1 C2 C3) G 2 (callN fns 1000 n 16)) := by
        obtain hz | ⟨m, hz⟩ : n = 0 ∨ ∃ m, n = m + 1 := by cases n <;> simp
        · subst hz; exact ⟨_, ⟨oc, kV, dc, pm, ct, od, an, sl, rfl⟩, def_zero rfl⟩
        · subst hz; exact fn_ok__law_loose A X g D m (prev m rfl)
      obtain ⟨fd, e, q⟩ := q
      exact ⟨f, fd, cd, PySem.W.mg_of X g D.ns, D.kp, e, q⟩
    have F__law_is_page : ∃ f fd cd, mg "_law_is_page" = some (.ref f) ∧ PySem.W.keepIn K (.ref f) = true ∧ (∃ (oc kV dc pm ct : Value) (od an : Option Addr) (sl : Array (Option Value)), fd = PySem.W.fnOf "_law_is_page" "_law_is_page" (defArgs (top 28)) (defBody (top 28)) (defScope (top 28)) .none kV dc pm an cd ct) ∧ FnOk P w K mg base (L2.CX P w) (lev n) f fd ["_law_thing"] (spF (csK C0 C1 C2 C3) G 1 (callN fns 1000 n 18)) := by
      obtain ⟨f, cd, D⟩ := A.d__law_is_page
      obtain ⟨oc, kV, dc, pm, ct, od, an, sl, lk⟩ := D.lk
      have q : ∃ fd, (∃ (oc kV dc pm ct : Value) (od an : Option Addr) (sl : Array (Option Value)), fd = PySem.W.fnOf "_law_is_page" "_law_is_page" (defArgs (top 28)) (defBody (top 28)) (defScope (top 28)) .none kV dc pm an cd ct) ∧ FnOk P w K mg base (L2.CX P w) (lev n) f fd ["_law_thing"] (spF (csK C0 C1 C2 C3) G 1 (callN fns 1000 n 18)) := by
        obtain hz | ⟨m, hz⟩ : n = 0 ∨ ∃ m, n = m + 1 := by cases n <;> simp
        · subst hz; exact ⟨_, ⟨oc, kV, dc, pm, ct, od, an, sl, rfl⟩, def_zero rfl⟩
        · subst hz; exact fn_ok__law_is_page A X g D m (prev m rfl)
      obtain ⟨fd, e, q⟩ := q
      exact ⟨f, fd, cd, PySem.W.mg_of X g D.ns, D.kp, e, q⟩
    have F__law_is_one : ∃ f fd cd, mg "_law_is_one" = some (.ref f) ∧ PySem.W.keepIn K (.ref f) = true ∧ (∃ (oc kV dc pm ct : Value) (od an : Option Addr) (sl : Array (Option Value)), fd = PySem.W.fnOf "_law_is_one" "_law_is_one" (defArgs (top 29)) (defBody (top 29)) (defScope (top 29)) .none kV dc pm an cd ct) ∧ FnOk P w K mg base (L2.CX P w) (lev n) f fd ["_law_first", "_law_last", "_law_span", "_law_among"] (spF (csK C0 C1 C2 C3) G 4 (callN fns 1000 n 19)) := by
      obtain ⟨f, cd, D⟩ := A.d__law_is_one
      obtain ⟨oc, kV, dc, pm, ct, od, an, sl, lk⟩ := D.lk
      have q : ∃ fd, (∃ (oc kV dc pm ct : Value) (od an : Option Addr) (sl : Array (Option Value)), fd = PySem.W.fnOf "_law_is_one" "_law_is_one" (defArgs (top 29)) (defBody (top 29)) (defScope (top 29)) .none kV dc pm an cd ct) ∧ FnOk P w K mg base (L2.CX P w) (lev n) f fd ["_law_first", "_law_last", "_law_span", "_law_among"] (spF (csK C0 C1 C2 C3) G 4 (callN fns 1000 n 19)) := by
        obtain hz | ⟨m, hz⟩ : n = 0 ∨ ∃ m, n = m + 1 := by cases n <;> simp
        · subst hz; exact ⟨_, ⟨oc, kV, dc, pm, ct, od, an, sl, rfl⟩, def_zero rfl⟩
        · subst hz; exact fn_ok__law_is_one A X g D m (prev m rfl)
      obtain ⟨fd, e, q⟩ := q
      exact ⟨f, fd, cd, PySem.W.mg_of X g D.ns, D.kp, e, q⟩
    have F__law_are_letters : ∃ f fd cd, mg "_law_are_letters" = some (.ref f) ∧ PySem.W.keepIn K (.ref f) = true ∧ (∃ (oc kV dc pm ct : Value) (od an : Option Addr) (sl : Array (Option Value)), fd = PySem.W.fnOf "_law_are_letters" "_law_are_letters" (defArgs (top 30)) (defBody (top 30)) (defScope (top 30)) .none kV dc pm an cd ct) ∧ FnOk P w K mg base (L2.CX P w) (lev n) f fd ["_law_pages", "_law_span", "_law_among", "_law_thing"] (spF (csK C0 C1 C2 C3) G 4 (callN fns 1000 n 20)) := by
      obtain ⟨f, cd, D⟩ := A.d__law_are_letters
      obtain ⟨oc, kV, dc, pm, ct, od, an, sl, lk⟩ := D.lk
      have q : ∃ fd, (∃ (oc kV dc pm ct : Value) (od an : Option Addr) (sl : Array (Option Value)), fd = PySem.W.fnOf "_law_are_letters" "_law_are_letters" (defArgs (top 30)) (defBody (top 30)) (defScope (top 30)) .none kV dc pm an cd ct) ∧ FnOk P w K mg base (L2.CX P w) (lev n) f fd ["_law_pages", "_law_span", "_law_among", "_law_thing"] (spF (csK C0 C1 C2 C3) G 4 (callN fns 1000 n 20)) := by
        obtain hz | ⟨m, hz⟩ : n = 0 ∨ ∃ m, n = m + 1 := by cases n <;> simp
        · subst hz; exact ⟨_, ⟨oc, kV, dc, pm, ct, od, an, sl, rfl⟩, def_zero rfl⟩
        · subst hz; exact fn_ok__law_are_letters A X g D m (prev m rfl)
      obtain ⟨fd, e, q⟩ := q
      exact ⟨f, fd, cd, PySem.W.mg_of X g D.ns, D.kp, e, q⟩
    have F__law_are_apart : ∃ f fd cd, mg "_law_are_apart" = some (.ref f) ∧ PySem.W.keepIn K (.ref f) = true ∧ (∃ (oc kV dc pm ct : Value) (od an : Option Addr) (sl : Array (Option Value)), fd = PySem.W.fnOf "_law_are_apart" "_law_are_apart" (defArgs (top 31)) (defBody (top 31)) (defScope (top 31)) .none kV dc pm an cd ct) ∧ FnOk P w K mg base (L2.CX P w) (lev n) f fd ["_law_pages", "_law_span", "_law_among", "_law_thing"] (spF (csK C0 C1 C2 C3) G 4 (callN fns 1000 n 21)) := by
      obtain ⟨f, cd, D⟩ := A.d__law_are_apart
      obtain ⟨oc, kV, dc, pm, ct, od, an, sl, lk⟩ := D.lk
      have q : ∃ fd, (∃ (oc kV dc pm ct : Value) (od an : Option Addr) (sl : Array (Option Value)), fd = PySem.W.fnOf "_law_are_apart" "_law_are_apart" (defArgs (top 31)) (defBody (top 31)) (defScope (top 31)) .none kV dc pm an cd ct) ∧ FnOk P w K mg base (L2.CX P w) (lev n) f fd ["_law_pages", "_law_span", "_law_among", "_law_thing"] (spF (csK C0 C1 C2 C3) G 4 (callN fns 1000 n 21)) := by
        obtain hz | ⟨m, hz⟩ : n = 0 ∨ ∃ m, n = m + 1 := by cases n <;> simp
        · subst hz; exact ⟨_, ⟨oc, kV, dc, pm, ct, od, an, sl, rfl⟩, def_zero rfl⟩
        · subst hz; exact fn_ok__law_are_apart A X g D m (prev m rfl)
      obtain ⟨fd, e, q⟩ := q
      exact ⟨f, fd, cd, PySem.W.mg_of X g D.ns, D.kp, e, q⟩
    have F__law_odd_letters : ∃ f fd cd, mg "_law_odd_letters" = some (.ref f) ∧ PySem.W.keepIn K (.ref f) = true ∧ (∃ (oc kV dc pm ct : Value) (od an : Option Addr) (sl : Array (Option Value)), fd = PySem.W.fnOf "_law_odd_letters" "_law_odd_letters" (defArgs (top 32)) (defBody (top 32)) (defScope (top 32)) .none kV dc pm an cd ct) ∧ FnOk P w K mg base (L2.CX P w) (lev n) f fd ["_law_stream", "_law_told", "_law_apart"] (spF (csK C0 C1 C2 C3) G 3 (callN fns 1000 n 22)) := by
      obtain ⟨f, cd, D⟩ := A.d__law_odd_letters
      obtain ⟨oc, kV, dc, pm, ct, od, an, sl, lk⟩ := D.lk
      have q : ∃ fd, (∃ (oc kV dc pm ct : Value) (od an : Option Addr) (sl : Array (Option Value)), fd = PySem.W.fnOf "_law_odd_letters" "_law_odd_letters" (defArgs (top 32)) (defBody (top 32)) (defScope (top 32)) .none kV dc pm an cd ct) ∧ FnOk P w K mg base (L2.CX P w) (lev n) f fd ["_law_stream", "_law_told", "_law_apart"] (spF (csK C0 C1 C2 C3) G 3 (callN fns 1000 n 22)) := by
        obtain hz | ⟨m, hz⟩ : n = 0 ∨ ∃ m, n = m + 1 := by cases n <;> simp
        · subst hz; exact ⟨_, ⟨oc, kV, dc, pm, ct, od, an, sl, rfl⟩, def_zero rfl⟩
        · subst hz; exact fn_ok__law_odd_letters A X g D m (prev m rfl)
      obtain ⟨fd, e, q⟩ := q
      exact ⟨f, fd, cd, PySem.W.mg_of X g D.ns, D.kp, e, q⟩
    have F__law_refused_right : ∃ f fd, mg "_law_refused_right" = some (.ref f) ∧ PySem.W.keepIn K (.ref f) = true ∧ (∃ (oc kV dc pm ct : Value) (od an : Option Addr) (sl : Array (Option Value)), fd = PySem.W.fnOf "_law_refused_right" "_law_refused_right" (defArgs (top 33)) (defBody (top 33)) (defScope (top 33)) .none kV dc pm an (.ref c__law_refused_right) ct) ∧ FnOk P w K mg base (L2.CX P w) (lev n) f fd ["_law_stream", "_law_pages", "_law_span", "_law_among"] (spF (csK C0 C1 C2 C3) G 4 (callN fns 1000 n 23)) := by
      obtain ⟨f, D⟩ := A.d__law_refused_right
      obtain ⟨oc, kV, dc, pm, ct, od, an, sl, lk⟩ := D.lk
      have q : ∃ fd, (∃ (oc kV dc pm ct : Value) (od an : Option Addr) (sl : Array (Option Value)), fd = PySem.W.fnOf "_law_refused_right" "_law_refused_right" (defArgs (top 33)) (defBody (top 33)) (defScope (top 33)) .none kV dc pm an (.ref c__law_refused_right) ct) ∧ FnOk P w K mg base (L2.CX P w) (lev n) f fd ["_law_stream", "_law_pages", "_law_span", "_law_among"] (spF (csK C0 C1 C2 C3) G 4 (callN fns 1000 n 23)) := by
        obtain hz | ⟨m, hz⟩ : n = 0 ∨ ∃ m, n = m + 1 := by cases n <;> simp
        · subst hz; exact ⟨_, ⟨oc, kV, dc, pm, ct, od, an, sl, rfl⟩, def_zero rfl⟩
        · subst hz; exact fn_ok__law_refused_right A X g D TB__law_refused_right hT m (prev m rfl)
      obtain ⟨fd, e, q⟩ := q
      exact ⟨f, fd, PySem.W.mg_of X g D.ns, D.kp, e, q⟩
    have fns' : ∀ x i np dd, gtab.lookup x = some (.fn i np dd) → ∃ fa fd ps, mg x = some (.ref fa) ∧ PySem.W.keepIn K (.ref fa) = true ∧ FnOk P w K mg base (L2.CX P w) (lev n) fa fd ps (spF (csK C0 C1 C2 C3) G np (callN fns 1000 n i)) ∧
        ∀ k, k ≤ np → np ≤ k + dd.length → ∃ dvs ds, L2.Binds K fd ps ds ∧ Vals dvs ds ∧ Fills (csK C0 C1 C2 C3) G ⟨callN fns 1000 n, fun _ => .err, 1000⟩ i k np (dd.drop (k + dd.length - np)) dvs := by
      intro x i np dd hl
      have m := PySem.mem_of_lookup hl
      simp only [gtab, List.mem_cons, Prod.mk.injEq, reduceCtorEq, and_false, Glob.fn.injEq, List.not_mem_nil, or_false] at m
      rcases m with ⟨rfl, rfl, rfl, rfl⟩ | ⟨rfl, rfl, rfl, rfl⟩ | ⟨rfl, rfl, rfl, rfl⟩ | ⟨rfl, rfl, rfl, rfl⟩ | ⟨rfl, rfl, rfl, rfl⟩ | ⟨rfl, rfl, rfl, rfl⟩ | ⟨rfl, rfl, rfl, rfl⟩ | ⟨rfl, rfl, rfl, rfl⟩ | ⟨rfl, rfl, rfl, rfl⟩ | ⟨rfl, rfl, rfl, rfl⟩ | ⟨rfl, rfl, rfl, rfl⟩ | ⟨rfl, rfl, rfl, rfl⟩ | ⟨rfl, rfl, rfl, rfl⟩ | ⟨rfl, rfl, rfl, rfl⟩ | ⟨rfl, rfl, rfl, rfl⟩ | ⟨rfl, rfl, rfl, rfl⟩ | ⟨rfl, rfl, rfl, rfl⟩ | ⟨rfl, rfl, rfl, rfl⟩ | ⟨rfl, rfl, rfl, rfl⟩ | ⟨rfl, rfl, rfl, rfl⟩ | ⟨rfl, rfl, rfl, rfl⟩ | ⟨rfl, rfl, rfl, rfl⟩
      · obtain ⟨f, fd, cd, m1, m2, ⟨oc, kV, dc, pm, ct, od, an, sl, rfl⟩, q⟩ := F_is_list
        refine ⟨f, _, _, m1, m2, q, fun k h1 h2 => ?_⟩
        refine ⟨[], [], Binds.all fun us hl => match us, hl with | [_], _ => rfl, .nil, ?_⟩
        have e : k = 1 := by simp at h2; omega
        subst e
        exact fills_of (fn := fd_is_list) rfl (Nat.le_refl _) (Nat.le_refl _) fun W H => .nil
      · obtain ⟨f, fd, cd, m1, m2, ⟨oc, kV, dc, pm, ct, od, an, sl, rfl⟩, q⟩ := F_is_integer
        refine ⟨f, _, _, m1, m2, q, fun k h1 h2 => ?_⟩
        refine ⟨[], [], Binds.all fun us hl => match us, hl with | [_], _ => rfl, .nil, ?_⟩
        have e : k = 1 := by simp at h2; omega
        subst e
        exact fills_of (fn := fd_is_integer) rfl (Nat.le_refl _) (Nat.le_refl _) fun W H => .nil
      · obtain ⟨f, fd, cd, m1, m2, ⟨oc, kV, dc, pm, ct, od, an, sl, rfl⟩, q⟩ := F_is_number
        refine ⟨f, _, _, m1, m2, q, fun k h1 h2 => ?_⟩
        refine ⟨[], [], Binds.all fun us hl => match us, hl with | [_], _ => rfl, .nil, ?_⟩
        have e : k = 1 := by simp at h2; omega
        subst e
        exact fills_of (fn := fd_is_number) rfl (Nat.le_refl _) (Nat.le_refl _) fun W H => .nil
      · obtain ⟨f, fd, cd, m1, m2, ⟨oc, kV, dc, pm, ct, od, an, sl, rfl⟩, q⟩ := F_checked_pages
        refine ⟨f, _, _, m1, m2, q, fun k h1 h2 => ?_⟩
        refine ⟨[], [], Binds.all fun us hl => match us, hl with | [_], _ => rfl, .nil, ?_⟩
        have e : k = 1 := by simp at h2; omega
        subst e
        exact fills_of (fn := fd_checked_pages) rfl (Nat.le_refl _) (Nat.le_refl _) fun W H => .nil
      · obtain ⟨f, fd, cd, m1, m2, ⟨oc, kV, dc, pm, ct, od, an, sl, rfl⟩, q⟩ := F_checked_among
        refine ⟨f, _, _, m1, m2, q, fun k h1 h2 => ?_⟩
        refine ⟨[], [], Binds.all fun us hl => match us, hl with | [_], _ => rfl, .nil, ?_⟩
        have e : k = 1 := by simp at h2; omega
        subst e
        exact fills_of (fn := fd_checked_among) rfl (Nat.le_refl _) (Nat.le_refl _) fun W H => .nil
      · obtain ⟨f, fd, cd, m1, m2, ⟨oc, kV, dc, pm, ct, od, an, sl, rfl⟩, q⟩ := F_checked_letters
        refine ⟨f, _, _, m1, m2, q, fun k h1 h2 => ?_⟩
        refine ⟨[], [], Binds.all fun us hl => match us, hl with | [_, _, _], _ => rfl, .nil, ?_⟩
        have e : k = 3 := by simp at h2; omega
        subst e
        exact fills_of (fn := fd_checked_letters) rfl (Nat.le_refl _) (Nat.le_refl _) fun W H => .nil
      · obtain ⟨f, fd, cd, m1, m2, ⟨oc, kV, dc, pm, ct, od, an, sl, rfl⟩, q⟩ := F_is_carried
        refine ⟨f, _, _, m1, m2, q, fun k h1 h2 => ?_⟩
        refine ⟨[], [], Binds.all fun us hl => match us, hl with | [_, _, _, _], _ => rfl, .nil, ?_⟩
        have e : k = 4 := by simp at h2; omega
        subst e
        exact fills_of (fn := fd_is_carried) rfl (Nat.le_refl _) (Nat.le_refl _) fun W H => .nil
      · obtain ⟨f, fd, T, cd, m1, m2, ⟨oc, kV, dc, pm, ct, od, an, sl, rfl⟩, q, oT, nT, lT, dT⟩ := F_letters
        refine ⟨f, _, _, m1, m2, q, fun k h1 h2 => ?_⟩
        have bd : ∀ (s : Shared) (us : List Value), K.In s.heap → us.length = 2 ∨ us.length = 3 → BindsTo s (PySem.W.fnOf "letters" "letters" (defArgs (top 16)) (defBody (top 16)) (defScope (top 16)) (.ref T) kV dc pm an cd ct) ⟨us, []⟩ ((["pages", "span", "among"] : List Str).zip (us ++ if us.length = 3 then [] else [.none])) := fun s us Xs hl => by
          rcases hl with hl | hl
          · match us, hl with
            | [_, _], _ => exact PySem.W.binds_K Xs rfl lT dT rfl rfl
          · match us, hl with
            | [_, _, _], _ => exact PySem.W.binds_K Xs rfl lT dT rfl rfl
        by_cases hk : k = 3
        · subst hk
          exact ⟨[], [], fun s us Xs hl => by have hl' : us.length = 3 := by simpa using hl
                                              have := bd s us Xs (.inr hl'); rw [if_pos hl'] at this; exact this, .nil, fills_of (fn := fd_letters) rfl (by decide) (by decide) fun W H => .nil⟩
        · have e : k = 2 := by simp at h2; omega
          subst e
          exact ⟨[.non], [.none], fun s us Xs hl => by have hl' : us.length = 2 := by simpa using hl
                                                       have := bd s us Xs (.inl hl'); rw [if_neg (by omega)] at this; exact this, .cons rfl .nil, fills_of (fn := fd_letters) rfl (by decide) (by decide) fun W H => .cons VlR_non .nil⟩
      · obtain ⟨f, fd, T, cd, m1, m2, ⟨oc, kV, dc, pm, ct, od, an, sl, rfl⟩, q, oT, nT, lT, dT⟩ := F_pages_apart
        refine ⟨f, _, _, m1, m2, q, fun k h1 h2 => ?_⟩
        have bd : ∀ (s : Shared) (us : List Value), K.In s.heap → us.length = 2 ∨ us.length = 3 → BindsTo s (PySem.W.fnOf "pages_apart" "pages_apart" (defArgs (top 17)) (defBody (top 17)) (defScope (top 17)) (.ref T) kV dc pm an cd ct) ⟨us, []⟩ ((["pages", "span", "among"] : List Str).zip (us ++ if us.length = 3 then [] else [.none])) := fun s us Xs hl => by
          rcases hl with hl | hl
          · match us, hl with
            | [_, _], _ => exact PySem.W.binds_K Xs rfl lT dT rfl rfl
          · match us, hl with
            | [_, _, _], _ => exact PySem.W.binds_K Xs rfl lT dT rfl rfl
        by_cases hk : k = 3
        · subst hk
          exact ⟨[], [], fun s us Xs hl => by have hl' : us.length = 3 := by simpa using hl
                                              have := bd s us Xs (.inr hl'); rw [if_pos hl'] at this; exact this, .nil, fills_of (fn := fd_pages_apart) rfl (by decide) (by decide) fun W H => .nil⟩
        · have e : k = 2 := by simp at h2; omega
          subst e
          exact ⟨[.non], [.none], fun s us Xs hl => by have hl' : us.length = 2 := by simpa using hl
                                                       have := bd s us Xs (.inl hl'); rw [if_neg (by omega)] at this; exact this, .cons rfl .nil, fills_of (fn := fd_pages_apart) rfl (by decide) (by decide) fun W H => .cons VlR_non .nil⟩
      · obtain ⟨f, fd, cd, m1, m2, ⟨oc, kV, dc, pm, ct, od, an, sl, rfl⟩, q⟩ := F_are_letters
        refine ⟨f, _, _, m1, m2, q, fun k h1 h2 => ?_⟩
        refine ⟨[], [], Binds.all fun us hl => match us, hl with | [_, _, _, _], _ => rfl, .nil, ?_⟩
        have e : k = 4 := by simp at h2; omega
        subst e
        exact fills_of (fn := fd_are_letters) rfl (Nat.le_refl _) (Nat.le_refl _) fun W H => .nil
      · obtain ⟨f, fd, cd, m1, m2, ⟨oc, kV, dc, pm, ct, od, an, sl, rfl⟩, q⟩ := F_are_apart
        refine ⟨f, _, _, m1, m2, q, fun k h1 h2 => ?_⟩
        refine ⟨[], [], Binds.all fun us hl => match us, hl with | [_, _, _, _], _ => rfl, .nil, ?_⟩
        have e : k = 4 := by simp at h2; omega
        subst e
        exact fills_of (fn := fd_are_apart) rfl (Nat.le_refl _) (Nat.le_refl _) fun W H => .nil
      · obtain ⟨f, fd, cd, m1, m2, ⟨oc, kV, dc, pm, ct, od, an, sl, rfl⟩, q⟩ := F__law_draw
        refine ⟨f, _, _, m1, m2, q, fun k h1 h2 => ?_⟩
        refine ⟨[], [], Binds.all fun us hl => match us, hl with | [_, _], _ => rfl, .nil, ?_⟩
        have e : k = 2 := by simp at h2; omega
        subst e
        exact ⟨rfl, fun W H => .nil, fun as st _ => by simp⟩
      · obtain ⟨f, fd, cd, m1, m2, ⟨oc, kV, dc, pm, ct, od, an, sl, rfl⟩, q⟩ := F__law_pick
        refine ⟨f, _, _, m1, m2, q, fun k h1 h2 => ?_⟩
        refine ⟨[], [], Binds.all fun us hl => match us, hl with | [_, _], _ => rfl, .nil, ?_⟩
        have e : k = 2 := by simp at h2; omega
        subst e
        exact fills_of (fn := fd__law_pick) rfl (Nat.le_refl _) (Nat.le_refl _) fun W H => .nil
      · obtain ⟨f, fd, cd, m1, m2, ⟨oc, kV, dc, pm, ct, od, an, sl, rfl⟩, q⟩ := F__law_mixed
        refine ⟨f, _, _, m1, m2, q, fun k h1 h2 => ?_⟩
        refine ⟨[], [], Binds.all fun us hl => match us, hl with | [_, _], _ => rfl, .nil, ?_⟩
        have e : k = 2 := by simp at h2; omega
        subst e
        exact fills_of (fn := fd__law_mixed) rfl (Nat.le_refl _) (Nat.le_refl _) fun W H => .nil
      · obtain ⟨f, fd, cd, m1, m2, ⟨oc, kV, dc, pm, ct, od, an, sl, rfl⟩, q⟩ := F__law_same
        refine ⟨f, _, _, m1, m2, q, fun k h1 h2 => ?_⟩
        refine ⟨[], [], Binds.all fun us hl => match us, hl with | [_, _], _ => rfl, .nil, ?_⟩
        have e : k = 2 := by simp at h2; omega
        subst e
        exact fills_of (fn := fd__law_same) rfl (Nat.le_refl _) (Nat.le_refl _) fun W H => .nil
      · obtain ⟨f, fd, cd, m1, m2, ⟨oc, kV, dc, pm, ct, od, an, sl, rfl⟩, q⟩ := F__law_loose
        refine ⟨f, _, _, m1, m2, q, fun k h1 h2 => ?_⟩
        refine ⟨[], [], Binds.all fun us hl => match us, hl with | [_, _], _ => rfl, .nil, ?_⟩
        have e : k = 2 := by simp at h2; omega
        subst e
        exact fills_of (fn := fd__law_loose) rfl (Nat.le_refl _) (Nat.le_refl _) fun W H => .nil
      · obtain ⟨f, fd, cd, m1, m2, ⟨oc, kV, dc, pm, ct, od, an, sl, rfl⟩, q⟩ := F__law_is_page
        refine ⟨f, _, _, m1, m2, q, fun k h1 h2 => ?_⟩
        refine ⟨[], [], Binds.all fun us hl => match us, hl with | [_], _ => rfl, .nil, ?_⟩
        have e : k = 1 := by simp at h2; omega
        subst e
        exact fills_of (fn := fd__law_is_page) rfl (Nat.le_refl _) (Nat.le_refl _) fun W H => .nil
      · obtain ⟨f, fd, cd, m1, m2, ⟨oc, kV, dc, pm, ct, od, an, sl, rfl⟩, q⟩ := F__law_is_one
        refine ⟨f, _, _, m1, m2, q, fun k h1 h2 => ?_⟩
        refine ⟨[], [], Binds.all fun us hl => match us, hl with | [_, _, _, _], _ => rfl, .nil, ?_⟩
        have e : k = 4 := by simp at h2; omega
        subst e
        exact fills_of (fn := fd__law_is_one) rfl (Nat.le_refl _) (Nat.le_refl _) fun W H => .nil
      · obtain ⟨f, fd, cd, m1, m2, ⟨oc, kV, dc, pm, ct, od, an, sl, rfl⟩, q⟩ := F__law_are_letters
        refine ⟨f, _, _, m1, m2, q, fun k h1 h2 => ?_⟩
        refine ⟨[], [], Binds.all fun us hl => match us, hl with | [_, _, _, _], _ => rfl, .nil, ?_⟩
        have e : k = 4 := by simp at h2; omega
        subst e
        exact fills_of (fn := fd__law_are_letters) rfl (Nat.le_refl _) (Nat.le_refl _) fun W H => .nil
      · obtain ⟨f, fd, cd, m1, m2, ⟨oc, kV, dc, pm, ct, od, an, sl, rfl⟩, q⟩ := F__law_are_apart
        refine ⟨f, _, _, m1, m2, q, fun k h1 h2 => ?_⟩
        refine ⟨[], [], Binds.all fun us hl => match us, hl with | [_, _, _, _], _ => rfl, .nil, ?_⟩
        have e : k = 4 := by simp at h2; omega
        subst e
        exact fills_of (fn := fd__law_are_apart) rfl (Nat.le_refl _) (Nat.le_refl _) fun W H => .nil
      · obtain ⟨f, fd, cd, m1, m2, ⟨oc, kV, dc, pm, ct, od, an, sl, rfl⟩, q⟩ := F__law_odd_letters
        refine ⟨f, _, _, m1, m2, q, fun k h1 h2 => ?_⟩
        refine ⟨[], [], Binds.all fun us hl => match us, hl with | [_, _, _], _ => rfl, .nil, ?_⟩
        have e : k = 3 := by simp at h2; omega
        subst e
        exact fills_of (fn := fd__law_odd_letters) rfl (Nat.le_refl _) (Nat.le_refl _) fun W H => .nil
      · obtain ⟨f, fd, m1, m2, ⟨oc, kV, dc, pm, ct, od, an, sl, rfl⟩, q⟩ := F__law_refused_right
        refine ⟨f, _, _, m1, m2, q, fun k h1 h2 => ?_⟩
        refine ⟨[], [], Binds.all fun us hl => match us, hl with | [_, _, _, _], _ => rfl, .nil, ?_⟩
        have e : k = 4 := by simp at h2; omega
        subst e
        exact fills_of (fn := fd__law_refused_right) rfl (Nat.le_refl _) (Nat.le_refl _) fun W H => .nil
    refine ⟨bts A X g, fun t ht => ?_, fns', fun x ks perm hm i np dd hl => ?_⟩
    · have hb : tyStr t ∈ btab := by
        cases t <;> first | (decide +kernel) | (cases ht)
      exact bts A X g _ hb
    · simp only [ktab, List.mem_cons, Prod.mk.injEq, List.not_mem_nil, or_false] at hm
      rcases hm with ⟨rfl, rfl, rfl⟩
      · obtain ⟨f, fd, T, cd, m1, m2, ⟨oc, kV, dc, pm, ct, od, an, sl, rfl⟩, q, oT, nT, lT, dT⟩ := F_letters
        have e : some (Glob.fn i np dd) = some (.fn 7 3 [.non]) := by rw [← hl]; kernel_rfl
        cases e
        refine ⟨f, _, _, m1, m2, q, fun s ws Xs hw _ => ?_⟩
        match ws, hw with
        | [_, _, _], _ => exact PySem.W.binds_K Xs rfl lT dT rfl rfl
termination_by n => n
decreasing_by omega
end
end EV

end
section
set_option Elab.async false
set_option linter.all false
set_option maxRecDepth 1000000
set_option maxHeartbeats 4000000
/-! the law's own call -/
namespace EV
open PySem PySem.Spec PyProof.Rows L2
open LamX (Tabs TabS CodeO ExtN TabB)
abbrev sStart : Stmt := top 21
abbrev sLaw : Stmt := top 34
theorem scStart : FnScope ["_law_script"] ["_law_script"] (defScope sStart) := ⟨rfl, rfl, rfl, by decide +kernel, rfl, by decide +kernel, by decide +kernel⟩
theorem scLaw : FnScope cc_law.N ["_law_script"] (defScope sLaw) := ⟨rfl, rfl, rfl, by decide +kernel, rfl, by decide +kernel, by decide +kernel⟩
/-- the spring is made -/
def spStart (K : PySem.W.Frag) : Sp := fun vs H Q _ => ∃ (a : Addr) (ns : List Int), vs = [.ref a] ∧ SqL K H a (ns.map V.int) ∧
  ∀ (c p : Addr), H c = none → p ≠ c → H p = none → Q (.ref p) (upd (upd H c (.lst (ns.map V.int))) p (.lst [.ref c, .int 0, .int 0, .int 11]))
section
variable {P : Program} {w : World} {K : PySem.W.Frag} {mg : Str → Option Value} {base : Heap}
theorem start_ok {CX : CXT} {fa : Addr} {params : Arguments} {dV kV doc pm cdv ct oc : Value} {an od : Option Addr} {osl : Array (Option Value)} (lk : K.lookup fa = some ⟨oc, od, .func (PySem.W.fnOf "_law_start" "_law_start" params (defBody sStart) (defScope sStart) dV kV doc pm an cdv ct), osl⟩) (hcd : PySem.W.codeIn K cdv "_law_start" = true)
    (mL : mg "list" = none) : FnOk P w K mg base CX (1 + 1) fa (PySem.W.fnOf "_law_start" "_law_start" params (defBody sStart) (defScope sStart) dV kV doc pm an cdv ct) ["_law_script"] (spStart K) := by
  refine fn_of (k := 1) lk hcd scStart (fun vs H Q E ⟨a, ns, e, _⟩ => by rw [e]; rfl) fun A outer s H vs Q E hr ⟨a, ns, e, hS, q⟩ => ?_
  subst e
  refine ⟨_, pss_one (ps_ret (pe_lst (pa_cons (pe_callTy call_list_of (by rfl) mL PyProof.Rows.Boot.«list» (pa_cons (pv 0) pa_nil)) (pa_cons pe_int (pa_cons pe_int (pa_cons pe_int pa_nil)))))), ?_⟩
  refine ⟨_, rfl, a, _, rfl, .inl hS, fun c hc => ⟨by show 4 ≤ sizeLine; rw [sizeLine_eq]; decide, fun p hp => ?_⟩⟩
  have hpc : p ≠ c := fun z => by rw [z, upd_same] at hp; cases hp
  exact q c p hc hpc (by rw [upd_ne hpc] at hp; exact hp)
theorem bits_lt {z : Int} (h : Builtin.Int.intBits z ≤ 1048576) : z.natAbs < 2 ^ 1048576 := by
  by_cases h0 : z.natAbs = 0
  · rw [h0]; exact Nat.two_pow_pos _
  · refine (Nat.log2_lt h0).mp ?_
    unfold Builtin.Int.intBits at h
    have hz : (z == 0) = false := by
      rw [beq_eq_false_iff_ne]
      intro e
      rw [e] at h0
      exact h0 rfl
    rw [hz] at h
    exact h
end
/-- the frame of the law behind its first statement -/
def env0 : Env := [none, some (.d .strm)] ++ List.replicate 19 none
section
variable {P : Program} {w : World} {K : PySem.W.Frag} {mg : Str → Option Value} {h : Heap} {C0 C1 C2 C3 c_rr P_rr : Addr}
theorem law_run (A : AllF K C0 C1 C2 C3 c_rr P_rr) (X : K.In h) (g : h.Ns mainGlobals mg) {fa a : Addr} (hfa : mg "law" = some (.ref fa)) {s : Shared} {zs : List Int} (hl : zs.length ≤ 63) (hz : ∀ z ∈ zs, Builtin.Int.intBits z ≤ 1048576)
    (plain : good (fun o _ => ∃ st, o = Out.rt (.d (.bl true)) st) (evS ⟨callN fns 1000 20, fun _ => .err, 1000⟩ ir_law env0 []) 1000000) (base : Heap) (H : Hp) (e0 : Env0 P w K mg base callerA [] s H) (Xb : K.In base) (gb : base.Ns mainGlobals mg) (TB : TabB base mg c_rr P_rr)
    (hT : H P_rr = some (.tbl #[])) (hS : SqL K H a (zs.map V.int)) : codeAny (model P w) callerA (.call (.ref fa) ⟨[.ref a], []⟩) (CR (L2.CX P w) [] P w H s (fun v _ => v = .bl true) fun _ _ _ => False) s := by
  obtain ⟨f, cd, D⟩ := A.d_law
  obtain ⟨oc, kV, dc, pm, ct, od, an, sl, lk⟩ := D.lk
  have ef := PySem.W.mg_of X g D.ns
  rw [hfa] at ef
  cases ef
  obtain ⟨fs, cds, Ds⟩ := A.d__law_start
  obtain ⟨ocs, kVs, dcs, pms, cts, ods, ans, sls, lks⟩ := Ds.lk
  have hr : Room (lev 20 + 3 + 1) callerA := ⟨rfl, by decide, by decide⟩
  refine LamX.run_ofS (k := lev 20 + 3) (N := cc_law.N) (ps := ["_law_script"]) (us := [.ref a]) (vs := [.ref a]) lk D.cd scLaw hr e0 (.of_eq rfl) (.cons rfl .nil) rfl fun hr' => ?_
  -- the spring's promise
  have S1 : FnOk P w K mg base L2.CX0 (1 + 1) fs _ ["_law_script"] (spStart K) := start_ok lks Ds.cd (bts A X g "list" (by decide +kernel))
  have key : ∀ (G : Gd), G.T = [(P_rr, ("_law_refused_right" : Str) ++ ".<locals>." ++ "<lambda>")] → PSs (cxOf (L2.CX P w) P w K mg base cc_law.N "law" (defScope sLaw) fa cd callerA [] s H fun _ _ _ => False) (defBody sLaw).tail
      (tS (csK C0 C1 C2 C3) G (fun _ _ _ _ => False) (evS ⟨callN fns 1000 20, fun _ => .err, 1000⟩ ir_law)) := by
    intro G hG
    have gl := glo_ok (P := P) (w := w) (base := base) (G := G) A X g TB hG 20
    have ok : SOk (csK C0 C1 C2 C3) G ⟨callN fns 1000 20, fun _ => .err, 1000⟩ cc_law (cxOf (L2.CX P w) P w K mg base cc_law.N "law" (defScope sLaw) fa cd callerA [] s H fun _ _ _ => False) (fun _ _ _ _ => False) :=
      { N := rfl, nd := scLaw.nd, calm := rfl, sc := rfl, fn := fun x => rfl, tk := takes_of rfl rfl rfl rfl, room := ⟨lev 20, hr'.mono (by omega), gl⟩, rep := fun _ => rfl, met := fun x hs h => (by cases h), hp := passes_of rfl, kind := scLaw.kind,
        errs := fun x c h => by
          obtain ⟨ec, e1, e2, e3⟩ := errs_at (P := P) (w := w) (base := base) A X g x c h
          exact ⟨ec, 1, e1, e2, e3 _ rfl rfl rfl rfl rfl, hr'.mono (by unfold lev; omega)⟩ }
    have p := (soundS ir_law).b ok ck_law pss_nil
    rw [List.append_nil] at p
    exact PSs.imp p fun Dn σ H q => q
  -- what the spring is behind the first statement is not known ahead: the rest's reading is told for each
  have rest : PSs (cxOf (L2.CX P w) P w K mg base cc_law.N "law" (defScope sLaw) fa cd callerA [] s H fun _ _ _ => False) (defBody sLaw).tail
      (fun Dn σ H' => ∃ G : Gd, G.T = [(P_rr, ("_law_refused_right" : Str) ++ ".<locals>." ++ "<lambda>")] ∧ tS (csK C0 C1 C2 C3) G (fun _ _ _ _ => False) (evS ⟨callN fns 1000 20, fun _ => .err, 1000⟩ ir_law) Dn σ H') :=
    ⟨fun pins s' σ H' Dn I ⟨G, hG, q⟩ => (key G hG).run pins s' σ H' Dn I q⟩
  refine ⟨_, pss_cons (ps_set (i := 1) scLaw.nd rfl (.inr rfl) (pe_call S1 (hr'.mono (by decide)) rfl (PySem.W.mg_of X g Ds.ns) Ds.kp (Binds.all fun us hl => match us, hl with | [_], _ => rfl) .nil pass0 (pa_cons (pv 0) pa_nil))) rest, ?_⟩
  refine ⟨_, rfl, a, zs, rfl, hS, fun c p hc hpc hp => ?_⟩
  refine ⟨⟨p, c, [(P_rr, ("_law_refused_right" : Str) ++ ".<locals>." ++ "<lambda>")]⟩, rfl, ⟨[], fun _ => False, fun _ => none⟩, env0, [], 1000000, ?_, ?_, good_mono (fun o b q => ?_) plain⟩
  · have hsp : upd (upd H c (.lst (zs.map V.int))) p (.lst [.ref c, .int 0, .int 0, .int 11]) c = some (.lst (zs.map V.int)) := by rw [upd_ne hpc.symm, upd_same]
    refine ⟨rfl, fun i j b q => (by cases q), fun i c' q => (by cases q), fun i q => (by cases q), ⟨zs, 0, 11, 0, upd_same, hsp, hpc, Int.le_refl 0, Nat.two_pow_pos _, fun n hn => bits_lt (hz n hn), hl, by decide, by decide, by decide⟩, ⟨fun ⟨i, q⟩ => (by cases q), fun ⟨i, q⟩ => (by cases q)⟩, fun b q => False.elim q, fun b q => (by obtain ⟨i, q⟩ := q; cases q), fun t ht => ?_⟩
    rw [List.mem_singleton.mp ht]
    exact TabS.nil (by rw [upd_ne (ne_of_none hT hp), upd_ne (ne_of_none hT hc)]; exact hT)
  · refine ⟨rfl, fun i v q => ?_⟩
    match i, q with
    | 1, q => cases q; exact ⟨.ref p, rfl, by unfold VlR VR; rfl⟩
    | 0, q => cases q
    | i + 2, q =>
      have q' : (List.replicate 19 (none : Option Vl))[i]? = some (some v) := q
      rw [List.getElem?_replicate] at q'
      split at q' <;> cases q'
  · obtain ⟨st, rfl⟩ := q
    intro W' H' u x R r
    unfold VlR VR at r
    exact r
end
end EV

end
section
set_option maxRecDepth 1000000
set_option linter.all false
namespace EV
section
variable {F : Cfg} {e : Env} {st : Store} {s : Store}
@[simp] theorem R_bind_ok {α β : Type} (a : α) (f : α → R β) : (R.ok a).bind f = f a := rfl
@[simp] theorem R_bind_err {α β : Type} (f : α → R β) : (R.err : R α).bind f = .err := rfl
@[simp] theorem R_bind_draw {α β : Type} (m : Nat) (k : Nat → R α) (f : α → R β) : (R.draw m k).bind f = .draw m fun d => (k d).bind f := rfl
@[simp] theorem R_bind_ret {α β : Type} (a : α) (s : Store) (f : EO α → R β) : (ret a s).bind f = f (.v a s) := rfl
@[simp] theorem bnd_ret {α β : Type} (a : α) (f : α → Store → E β) : bnd (ret a s) f = f a s := rfl
@[simp] theorem bnd_err {α β : Type} (f : α → Store → E β) : bnd (R.err) f = .err := rfl
@[simp] theorem bnd_x {α β : Type} (c : Nat) (fs : List D) (f : α → Store → E β) : bnd (.ok (.x c fs s)) f = .ok (.x c fs s) := rfl
@[simp] theorem bnd_draw {α β : Type} (m : Nat) (k : Nat → E α) (f : α → Store → E β) : bnd (R.draw m k) f = .draw m fun d => bnd (k d) f := rfl
@[simp] theorem sBnd_ret {α : Type} (a : α) (f : α → Store → R Out) : sBnd (ret a s) e f = f a s := rfl
@[simp] theorem sBnd_err {α : Type} (f : α → Store → R Out) : sBnd (R.err) e f = .err := rfl
@[simp] theorem sBnd_x {α : Type} (c : Nat) (fs : List D) (f : α → Store → R Out) : sBnd (.ok (.x c fs s)) e f = .ok (.x c fs e s) := rfl
@[simp] theorem sBnd_draw {α : Type} (m : Nat) (k : Nat → E α) (f : α → Store → R Out) : sBnd (R.draw m k) e f = .draw m fun d => sBnd (k d) e f := rfl
@[simp] theorem lift_some {α : Type} (a : α) : lift (some a) s = ret a s := rfl
@[simp] theorem lift_none {α : Type} : lift (none : Option α) s = .err := rfl
theorem lift_map {α : Type} {o : Option D} {a : α} : True := trivial
@[simp] theorem rdV_d (x : D) : rdV (.d x) = .d x := rfl
@[simp] theorem rdV_ref (x : Nat) : rdV (.ref x) = .ref x := rfl
@[simp] theorem rdV_h (x : D) : rdV (.h x) = .d x := rfl
@[simp] theorem rdV_hr (i : Nat) (x : D) : rdV (.hr i x) = .d x := rfl
@[simp] theorem envGet_0 (v : Option Vl) (e : Env) : envGet (v :: e) 0 = v.map rdV := by cases v <;> rfl
@[simp] theorem envGet_s (v : Option Vl) (e : Env) (i : Nat) : envGet (v :: e) (i + 1) = envGet e i := rfl
@[simp] theorem ev_c (d : D) : evE F (.c d) e st = ret (.d d) st := rfl
@[simp] theorem ev_v (i : Nat) : evE F (.v i) e st = lift (envGet e i) st := rfl
@[simp] theorem ev_nope : evE F .nope e st = .err := rfl
@[simp] theorem ev_met (hs : List (Nat × List Nat × List Nat)) (f : Nat) (b : Ex) : evE F (.met hs f b) e st = R.bind (evE F b e st) (metE hs) := rfl
/-- two data -/
def two (f : D → D → Option Vl) (x y : Vl) (st : Store) : E Vl := match snap st x, snap st y with
  | some x, some y => lift (f x y) st
  | _, _ => .err
@[simp] theorem two_d (f : D → D → Option Vl) (x y : D) : two f (.d x) (.d y) st = lift (f x y) st := rfl
@[simp] theorem ev_bin (o : BOp) (a b : Ex) : evE F (.bin o a b) e st = bnd (evE F a e st) fun x st => bnd (evE F b e st) fun y st => two (fun x y => (binD o x y).map .d) x y st := rfl
@[simp] theorem ev_cmp (o : COp) (a b : Ex) : evE F (.cmp o a b) e st = bnd (evE F a e st) fun x st => bnd (evE F b e st) fun y st => two (fun x y => (cmpD o x y).map fun t => .d (.bl t)) x y st := rfl
def neg1 (x : Vl) (st : Store) : E Vl := match x with
      | .d (.int i) => ret (.d (.int (-i))) st
      | _ => .err
@[simp] theorem neg1_i (i : Int) : neg1 (.d (.int i)) st = ret (.d (.int (-i))) st := rfl
@[simp] theorem ev_neg (a : Ex) : evE F (.neg a) e st = bnd (evE F a e st) fun x st => neg1 x st := rfl
/-- by truth -/
def byT {α : Type} (x : Vl) (a b : R α) : R α := match truth x with
  | some true => a
  | some false => b
  | none => .err
@[simp] theorem byT_bl {α : Type} (t : Bool) (a b : R α) : byT (.d (.bl t)) a b = if t then a else b := by cases t <;> rfl
@[simp] theorem ev_and (a b : Ex) : evE F (.bo true a b) e st = bnd (evE F a e st) fun x st => byT x (evE F b e st) (ret x st) := by
  show bnd _ _ = bnd _ _
  congr 1; funext x st; unfold byT; cases truth x with
  | none => rfl
  | some t => cases t <;> rfl
@[simp] theorem ev_or (a b : Ex) : evE F (.bo false a b) e st = bnd (evE F a e st) fun x st => byT x (ret x st) (evE F b e st) := by
  show bnd _ _ = bnd _ _
  congr 1; funext x st; unfold byT; cases truth x with
  | none => rfl
  | some t => cases t <;> rfl
def not1 (x : Vl) (st : Store) : E Vl := lift ((truth x).map fun t => .d (.bl (!t))) st
@[simp] theorem not1_bl (t : Bool) : not1 (.d (.bl t)) st = ret (.d (.bl (!t))) st := rfl
@[simp] theorem ev_not (a : Ex) : evE F (.not a) e st = bnd (evE F a e st) fun x st => not1 x st := rfl
def cmp2f (o p : COp) (c : Store → E Vl) (x y : Vl) (st : Store) : E Vl := match snap st x, snap st y with
      | some x, some y' => match cmpD o x y' with
        | some true => bnd (c st) fun z st => match snap st y, snap st z with
          | some y, some z => lift ((cmpD p y z).map fun t => .d (.bl t)) st
          | _, _ => .err
        | some false => ret (.d (.bl false)) st
        | none => .err
      | _, _ => .err
@[simp] theorem ev_cmp2 (o p : COp) (a b c : Ex) : evE F (.cmp2 o p a b c) e st = bnd (evE F a e st) fun x st => bnd (evE F b e st) fun y st => cmp2f o p (fun st => evE F c e st) x y st := rfl
@[simp] theorem ev_ite (t a b : Ex) : evE F (.ite t a b) e st = bnd (evE F t e st) fun x st => byT x (evE F a e st) (evE F b e st) := rfl
def tupf (vs : Vl) (st : Store) : E Vl := match vs with
      | .its vs => lift ((dats vs).bind fun l => if l.length ≤ 1000000 then some (.d (.tup l)) else none) st
      | _ => .err
@[simp] theorem ev_tup (es : Ex) : evE F (.tup es) e st = bnd (evE F es e st) tupf := rfl
def lstf (vs : Vl) (st : Store) : E Vl := match vs with
      | .its vs => lift ((dats vs).bind fun l => if l.length ≤ 1000000 then some (.d (.lst l)) else none) st
      | _ => .err
def lstmf (vs : Vl) (st : Store) : E Vl := match vs with
      | .its vs => if vs.length ≤ 1000000 then ret (.ref st.length) (st ++ [some (.lst vs)]) else .err
      | _ => .err
@[simp] theorem ev_lstf (es : Ex) : evE F (.lst false es) e st = bnd (evE F es e st) lstf := rfl
@[simp] theorem ev_lstt (es : Ex) : evE F (.lst true es) e st = bnd (evE F es e st) lstmf := rfl
@[simp] theorem ev_dctt : evE F (.dct true) e st = ret (.ref st.length) (st ++ [some (.dct [] [])]) := rfl
@[simp] theorem ev_dctf : evE F (.dct false) e st = ret (.d (.dct [] [])) st := rfl
def ixf (x y : Vl) (st : Store) : E Vl := match y with
      | .d y => lift (ixD st x y) st
      | _ => .err
@[simp] theorem ixf_d (x : Vl) (y : D) : ixf x (.d y) st = lift (ixD st x y) st := rfl
@[simp] theorem ev_ix (a b : Ex) : evE F (.ix a b) e st = bnd (evE F a e st) fun x st => bnd (evE F b e st) fun y st => ixf x y st := rfl
def slf (x l : Vl) (hi : Store → E Vl) (st : Store) : E Vl := match partOf l with
      | none => .err
      | some l => bnd (hi st) fun h st => match snap st x, partOf h with
        | some x, some h => lift ((slD x l h).map .d) st
        | _, _ => .err
@[simp] theorem ev_sl (a lo hi : Ex) : evE F (.sl a lo hi) e st = bnd (evE F a e st) fun x st => bnd (evE F lo e st) fun l st => slf x l (fun st => evE F hi e st) st := rfl
def revf (x : Vl) (st : Store) : E Vl := match snap st x with
      | some (.lst xs) => ret (.d (.lst xs.reverse)) st
      | _ => .err
@[simp] theorem revf_d (xs : List D) : revf (.d (.lst xs)) st = ret (.d (.lst xs.reverse)) st := rfl
@[simp] theorem ev_rev (a : Ex) : evE F (.rev a) e st = bnd (evE F a e st) revf := rfl
def isif (ts : List Ty) (x : Vl) (st : Store) : E Vl := match snap st x with
      | some x => if isStrm x then .err else ret (.d (.bl (ts.any (isTy x)))) st
      | none => .err
@[simp] theorem isif_d (ts : List Ty) (x : D) : isif ts (.d x) st = if isStrm x then .err else ret (.d (.bl (ts.any (isTy x)))) st := rfl
@[simp] theorem ev_isi (a : Ex) (ts : List Ty) : evE F (.isi a ts) e st = bnd (evE F a e st) (isif ts) := rfl
def calf (F : Cfg) (m : Md) (f n : Nat) (vs : Vl) (st : Store) : E Vl := match vs with
      | .its vs => if vs.length = n then callE F m f vs st else .err
      | _ => .err
@[simp] theorem calf_its (m : Md) (f n : Nat) (vs : List Vl) : calf F m f n (.its vs) st = if vs.length = n then callE F m f vs st else .err := rfl
@[simp] theorem ev_call (m : Md) (f : Nat) (es : Ex) : evE F (.call m f es) e st = bnd (evE F es e st) (calf F m f (exLen es)) := rfl
def calkf (F : Cfg) (m : Md) (f : Nat) (perm : List Nat) (n : Nat) (vs : Vl) (st : Store) : E Vl := match vs with
      | .its vs => if vs.length = n then match perm.mapM fun j => vs[j]? with
          | some us => callE F m f us st
          | none => .err
        else .err
      | _ => .err
@[simp] theorem ev_callk (m : Md) (f : Nat) (perm : List Nat) (es : Ex) : evE F (.callk m f perm es) e st = bnd (evE F es e st) (calkf F m f perm (exLen es)) := rfl
def biq (b : Bi) (vs : Vl) (st : Store) : E Vl := match vs with
      | .its vs => biE b vs st
      | _ => .err
@[simp] theorem biq_its (b : Bi) (vs : List Vl) : biq b (.its vs) st = biE b vs st := rfl
@[simp] theorem ev_bi (b : Bi) (es : Ex) : evE F (.bi b es) e st = bnd (evE F es e st) (biq b) := rfl
def wkf (b : Bi) (vs : Vl) (st : Store) : E Vl := match vs with
      | .its vs => wkE b vs st
      | _ => .err
@[simp] theorem wkf_its (b : Bi) (vs : List Vl) : wkf b (.its vs) st = wkE b vs st := rfl
@[simp] theorem ev_wk (b : Bi) (es : Ex) : evE F (.wk b es) e st = bnd (evE F es e st) (wkf b) := rfl
def mtf (m : Mt) (x : Vl) (es : Store → E Vl) (st : Store) : E Vl := if isLstV st x then bnd (es st) fun vs st => match vs with
      | .its vs => mtE m x vs st
      | _ => .err
    else .err
@[simp] theorem ev_mt (m : Mt) (o es : Ex) : evE F (.mt m o es) e st = bnd (evE F o e st) fun x st => mtf m x (fun st => evE F es e st) st := rfl
/-- a comprehension's step -/
def lcStep (F : Cfg) (own : List Nat) (tg : Tg) (cond x : Ex) (e : Env) (v : Vl) (st : Store) : E (Option Vl) := match setTg tg v (wipeE e own) with
          | some e' => bnd (evE F cond e' st) fun t st => byT t (bnd (evE F x e' st) fun y st => ret (some y) st) (ret none st)
          | none => .err
def lcEnd (m : Bool) (ys : List Vl) (st : Store) : E Vl := if m then ret (.ref st.length) (st ++ [some (.lst ys)]) else lift ((dats ys).map fun l => .d (.lst l)) st
def lcRun (F : Cfg) (m : Bool) (own : List Nat) (tg : Tg) (cond x : Ex) (e : Env) (w : Vl) (st : Store) : E Vl := match itsOf w with
      | none => .err
      | some vs => bnd (compL (lcStep F own tg cond x e) vs [] st) (lcEnd m)
theorem ev_lc (m : Bool) (own : List Nat) (tg : Tg) (it cond x : Ex) : evE F (.lc m own tg it cond x) e st = bnd (evE F it e st) (lcRun F m own tg cond x e) := rfl
def frzf (x : Vl) (st : Store) : E Vl := match frzV st x with
      | some (x, st) => ret (.d x) st
      | none => .err
@[simp] theorem ev_frz (a : Ex) : evE F (.frz a) e st = bnd (evE F a e st) frzf := rfl
def lrgf (m : Bool) (x : Vl) (st : Store) : E Vl := match x with
      | .d (.int i) => if -1000000 < i ∧ i < 1000000 then (if m then ret (.ref st.length) (st ++ [some (.lst (((List.range i.toNat).map fun k => D.int (k : Nat)).map .d))]) else ret (.d (.lst ((List.range i.toNat).map fun k => D.int (k : Nat)))) st) else .err
      | _ => .err
@[simp] theorem ev_lrg (m : Bool) (a : Ex) : evE F (.lrg m a) e st = bnd (evE F a e st) (lrgf m) := rfl
@[simp] theorem ev_nil : evE F .nil e st = ret (.its []) st := rfl
def consf (x y : Vl) (st : Store) : E Vl := match y with
      | .its ys => ret (.its (x :: ys)) st
      | _ => .err
@[simp] theorem consf_its (x : Vl) (ys : List Vl) : consf x (.its ys) st = ret (.its (x :: ys)) st := rfl
@[simp] theorem ev_cons (a b : Ex) : evE F (.cons a b) e st = bnd (evE F a e st) fun x st => bnd (evE F b e st) fun y st => consf x y st := rfl
/-! statements -/
def thn (F : Cfg) (b : St) : Out → R Out
    | .nx e st => evS F b e st
    | o => .ok o
@[simp] theorem thn_nx (b : St) : thn F b (.nx e st) = evS F b e st := rfl
@[simp] theorem thn_rt (b : St) (v : Vl) : thn F b (.rt v st) = .ok (.rt v st) := rfl
@[simp] theorem thn_x (b : St) (c : Nat) (fs : List D) : thn F b (.x c fs e st) = .ok (.x c fs e st) := rfl
@[simp] theorem thn_bk (b : St) : thn F b (.bk e st) = .ok (.bk e st) := rfl
@[simp] theorem thn_ct (b : St) : thn F b (.ct e st) = .ok (.ct e st) := rfl
@[simp] theorem es_skip : evS F .skip e st = .ok (.nx e st) := rfl
@[simp] theorem es_seq (a b : St) : evS F (.seq a b) e st = R.bind (evS F a e st) (thn F b) := rfl
@[simp] theorem es_ex (x : Ex) : evS F (.ex x) e st = sBnd (evE F x e st) e fun _ st => .ok (.nx e st) := rfl
@[simp] theorem es_ret (x : Ex) : evS F (.ret x) e st = sBnd (evE F x e st) e fun v st => .ok (.rt v st) := rfl
def setf (t : Tg) (e : Env) (v : Vl) (st : Store) : R Out := match setTg t v e with
    | some e => .ok (.nx e st)
    | none => .err
@[simp] theorem es_set (t : Tg) (x : Ex) : evS F (.set t x) e st = sBnd (evE F x e st) e (setf t e) := rfl
@[simp] theorem setf_nm (i : Nat) (v : Vl) : setf (.nm i) e v st = .ok (.nx (e.set i (some v)) st) := rfl
def parf (is : List Nat) (e : Env) (v : Vl) (st : Store) : R Out := match v with
    | .its vs => match setPar is vs e with
      | some e => .ok (.nx e st)
      | none => .err
    | _ => .err
@[simp] theorem es_par (is : List Nat) (x : Ex) : evS F (.par is x) e st = sBnd (evE F x e st) e (parf is e) := rfl
def setixf (e : Env) (o i v : Vl) (st : Store) : R Out := match setIx st o i v with
    | some st => .ok (.nx e st)
    | none => .err
@[simp] theorem es_setix (o i x : Ex) : evS F (.setix o i x) e st = sBnd (evE F x e st) e fun v st => sBnd (evE F o e st) e fun o st => sBnd (evE F i e st) e fun i st => setixf e o i v st := rfl
@[simp] theorem es_iff (t : Ex) (a b : St) : evS F (.iff t a b) e st = sBnd (evE F t e st) e fun v st => byT v (evS F a e st) (evS F b e st) := rfl
def forR (F : Cfg) (t : Tg) (b : St) (e : Env) (w : Vl) (st : Store) : R Out := match itsOf w with
    | some vs => forL t (evS F b) vs e st
    | none => .err
@[simp] theorem es_for (t : Tg) (it : Ex) (b : St) : evS F (.for t it b) e st = sBnd (evE F it e st) e (forR F t b e) := rfl
def raisef (c n : Nat) (e : Env) (v : Vl) (st : Store) : R Out := match v with
    | .its vs => match dats vs with
      | some fs => if fs.length = n then .ok (.x c fs e st) else .err
      | none => .err
    | _ => .err
@[simp] theorem es_raise (c : Nat) (es : Ex) : evS F (.raise c es) e st = sBnd (evE F es e st) e (raisef c (exLen es) e) := rfl
@[simp] theorem es_bor (n : Nat) (b : St) : evS F (.bor n b) e st = R.bind (evS F b (e.map (borE st)) (st.map fun _ => none)) (borO st) := rfl
end
/-! ### loops without stores -/
theorem compL_pure {f : Vl → Store → E (Option Vl)} {s : Store} (h : Vl → Option Vl) : ∀ (xs acc : List Vl), (∀ x ∈ xs, f x s = ret (h x) s) → acc.length + xs.length ≤ 1000000 → compL f xs acc s = ret (acc ++ xs.filterMap h) s
  | [], acc, _, _ => by simp [compL]
  | x :: xs, acc, hf, hl => by
    have h1 := hf x List.mem_cons_self
    have h2 := fun a => compL_pure h xs a fun y hy => hf y (List.mem_cons_of_mem _ hy)
    simp only [List.length_cons] at hl
    unfold compL
    rw [h1]
    cases e : h x with
    | none => simp only [R_bind_ret]; rw [h2 acc (by omega), List.filterMap_cons, e]
    | some v =>
      simp only [R_bind_ret]
      rw [if_pos (by omega), h2 _ (by simp; omega), List.filterMap_cons, e]
      simp
end EV

end
section
set_option maxRecDepth 1000000
set_option linter.all false
namespace EV
abbrev F (n : Nat) : Cfg := ⟨callN fns 1000 n, fun _ => .err, 1000⟩
def finF (st : Store) : Out → E Vl
  | .rt v s => lift ((snap s v).map .d) st
  | .nx _ _ => ret (.d .non) st
  | .x c fs _ _ => .ok (.x c fs st)
  | _ => .err
@[simp] theorem finF_d {st s : Store} (x : D) : finF st (.rt (.d x) s) = ret (.d x) st := rfl
@[simp] theorem finF_x {st s : Store} (c : Nat) (fs : List D) (e : Env) : finF st (.x c fs e s) = .ok (.x c fs st) := rfl
theorem bind_bind {α β γ : Type} (r : R α) (f : α → R β) (g : β → R γ) : (r.bind f).bind g = r.bind fun a => (f a).bind g := by
  induction r with
  | ok a => rfl
  | err => rfl
  | draw m k ih => simp only [R.bind]; congr 1; funext d; exact ih d
theorem dats_map : ∀ ds : List D, dats (ds.map .d) = some ds
  | [] => rfl
  | d :: ds => by simp [dats, dats_map ds]
theorem callE_frz {fn : Fn} {f n : Nat} {st : Store} (ds : List D) (hf : fns[f]? = some (.plain fn)) (hl : ds.length = fn.ps) :
    callE (F (n + 1)) .frz f (ds.map .d) st = R.bind (evS (F n) fn.body (ds.map (fun d => some (Vl.d d)) ++ List.replicate (fn.slots - fn.ps) none) []) (finF st) := by
  have hfill : fill fn (ds.map Vl.d) = ds.map Vl.d := by
    unfold fill
    rw [List.length_map, hl, Nat.add_sub_cancel, List.drop_length]
    simp
  unfold callE
  simp only [dats_map, callN, hf, runFn, hfill, List.length_map, hl, if_true, List.map_map, bind_bind]
  congr 1
  funext o
  cases o <;> rfl
/-- arguments one by one -/
theorem call1 {fn : Fn} {f n : Nat} {st : Store} {a : D} (hf : fns[f]? = some (.plain fn)) (hl : 1 = fn.ps) :
    callE (F (n + 1)) .frz f [.d a] st = R.bind (evS (F n) fn.body ([some (.d a)] ++ List.replicate (fn.slots - fn.ps) none) []) (finF st) := callE_frz [a] hf hl
theorem call2 {fn : Fn} {f n : Nat} {st : Store} {a b : D} (hf : fns[f]? = some (.plain fn)) (hl : 2 = fn.ps) :
    callE (F (n + 1)) .frz f [.d a, .d b] st = R.bind (evS (F n) fn.body ([some (.d a), some (.d b)] ++ List.replicate (fn.slots - fn.ps) none) []) (finF st) := callE_frz [a, b] hf hl
theorem call3 {fn : Fn} {f n : Nat} {st : Store} {a b c : D} (hf : fns[f]? = some (.plain fn)) (hl : 3 = fn.ps) :
    callE (F (n + 1)) .frz f [.d a, .d b, .d c] st = R.bind (evS (F n) fn.body ([some (.d a), some (.d b), some (.d c)] ++ List.replicate (fn.slots - fn.ps) none) []) (finF st) := callE_frz [a, b, c] hf hl
theorem call4 {fn : Fn} {f n : Nat} {st : Store} {a b c d : D} (hf : fns[f]? = some (.plain fn)) (hl : 4 = fn.ps) :
    callE (F (n + 1)) .frz f [.d a, .d b, .d c, .d d] st = R.bind (evS (F n) fn.body ([some (.d a), some (.d b), some (.d c), some (.d d)] ++ List.replicate (fn.slots - fn.ps) none) []) (finF st) := callE_frz [a, b, c, d] hf hl
def noStrm (d : D) : Prop := isStrm d = false
def isInt : D → Bool
  | .int _ => true
  | _ => false
def isNum : D → Bool
  | .int i => decide (0 ≤ i)
  | _ => false

theorem isTy_list (d : D) : (isTy d .list || isTy d .tuple) = isSeq d := by cases d <;> rfl
theorem isTy_int (d : D) : (isTy d .int && !isTy d .bool) = isInt d := by cases d <;> rfl
@[simp] theorem if_false_err {α : Type} {c : Bool} {a b : α} (h : c = false) : (if c = true then a else b) = b := by rw [h]; rfl
theorem pred {n : Nat} (h : 1 ≤ n) : ∃ m, n = m + 1 := ⟨n - 1, by omega⟩
theorem c_list {n : Nat} {st : Store} {d : D} (hs : isStrm d = false) (hn : 1 ≤ n) : callE (F n) .frz 0 [.d d] st = ret (.d (.bl (isSeq d))) st := by
  obtain ⟨m, rfl⟩ := pred hn
  rw [call1 (fn := fd_is_list) rfl rfl]
  simp [fd_is_list, ir_is_list, hs, isTy_list, finF, snap]
theorem c_int {n : Nat} {st : Store} {d : D} (hs : isStrm d = false) (hn : 1 ≤ n) : callE (F n) .frz 1 [.d d] st = ret (.d (.bl (isInt d))) st := by
  obtain ⟨m, rfl⟩ := pred hn
  rw [call1 (fn := fd_is_integer) rfl rfl]
  simp [fd_is_integer, ir_is_integer, hs, finF, snap]
  cases d <;> rfl
theorem cmp_ge0 (i : Int) : cmpD .ge (.int i) (.int 0) = some (decide (0 ≤ i)) := rfl
theorem c_num {n : Nat} {st : Store} {d : D} (hs : isStrm d = false) (hn : 2 ≤ n) : callE (F n) .frz 2 [.d d] st = ret (.d (.bl (isNum d))) st := by
  obtain ⟨m, rfl⟩ := pred (n := n) (by omega)
  rw [call1 (fn := fd_is_number) rfl rfl]
  simp [fd_is_number, ir_is_number, finF, snap, exLen, c_int hs (n := m) (by omega)]
  cases d <;> simp [isInt, isNum, snap, cmp_ge0]
theorem c_page {n : Nat} {st : Store} {d : D} (hs : isStrm d = false) (hn : 1 ≤ n) : callE (F n) .frz 18 [.d d] st = ret (.d (.bl (isNum d))) st := by
  obtain ⟨m, rfl⟩ := pred hn
  rw [call1 (fn := fd__law_is_page) rfl rfl]
  simp [fd__law_is_page, ir__law_is_page, hs, finF, snap]
  cases d <;> simp [isTy, tyOf, isNum, cmp_ge0, snap] <;> first | rfl | decide
end EV

end
section
set_option maxRecDepth 1000000
set_option linter.all false
namespace EV
abbrev I (l : List Int) : D := .lst (l.map .int)
def cellI (l : List Int) : Option Cell := some (.lst ((l.map D.int).map .d))
def itemsD : D → List D
  | .lst l => l
  | .tup l => l
  | _ => []
def enumK : Nat → List D → List Vl
  | _, [] => []
  | k, d :: ds => .d (.tup [.int (k : Int), d]) :: enumK (k + 1) ds
theorem enum_eq (ds : List D) : enum ds = enumK 0 ds := by
  unfold enum
  have key : ∀ (ds : List D) (k : Nat), List.zipWith (fun (i : Nat) x => Vl.d (.tup [.int (i : Int), x])) (List.range' k ds.length) ds = enumK k ds := by
    intro ds
    induction ds with
    | nil => intro k; rfl
    | cons d ds ih => intro k; simp only [List.length_cons, List.range'_succ, List.zipWith_cons_cons, enumK, ih (k + 1)]
  rw [List.range_eq_range', key]
def scanE : List D → List Int → Nat → Nat ⊕ List Int
  | [], acc, _ => .inr acc
  | .int i :: ds, acc, k => if 0 ≤ i ∧ i ∉ acc then scanE ds (acc ++ [i]) (k + 1) else .inl k
  | _ :: _, _, k => .inl k
theorem okBs_I (l : List Int) (n : Nat) : okBs (l.map .int) n = true := by
  induction l with
  | nil => rfl
  | cons a l ih => simp [okBs, okB, ih]
theorem any_I (l : List Int) (i : Int) : ((l.map D.int).any fun y => eqB y (.int i)) = decide (i ∈ l) := by
  induction l with
  | nil => rfl
  | cons a l ih =>
    rw [List.map_cons, List.any_cons, ih]
    simp only [eqB, List.mem_cons]
    by_cases h : a = i
    · subst h; simp
    · have : ¬ i = a := fun z => h z.symm
      simp [h, this]
theorem in_I (l : List Int) (i : Int) : cmpD .isin (.int i) (I l) = some (decide (i ∈ l)) := by
  show anyEq _ _ = _
  unfold anyEq
  rw [okBs_I]
  simp only [okB, Bool.and_self, if_true]
  rw [any_I]
theorem nin_I (l : List Int) (i : Int) : cmpD .notin (.int i) (I l) = some (!decide (i ∈ l)) := by
  have := in_I l i
  show (inD _ _).map not = _
  have h : inD (.int i) (I l) = some (decide (i ∈ l)) := this
  rw [h]; rfl
section
variable {l : List Int} {r : List (Option Cell)}
@[simp] theorem geti_cell : geti (cellI l :: r) 0 = some (.lst ((l.map D.int).map .d)) := rfl
@[simp] theorem snap_cell : snap (cellI l :: r) (.ref 0) = some (I l) := by
  show (dats ((l.map D.int).map .d)).map D.lst = _
  rw [dats_map]; rfl
@[simp] theorem snap_d {st : Store} {x : D} : snap st (.d x) = some x := rfl
@[simp] theorem lstOf_cell : lstOf (cellI l :: r) (.ref 0) = some ((l.map D.int).map .d) := rfl
@[simp] theorem isLst_cell : isLstV (cellI l :: r) (.ref 0) = true := rfl
theorem app_cell {i : Int} (h : l.length < 1000000) : mtE .append (.ref 0) [.d (.int i)] (cellI l :: r) = ret (.d .non) (cellI (l ++ [i]) :: r) := by
  show (if _ then _ else _) = _
  rw [if_pos (by simpa using h)]
  simp [cellI]
@[simp] theorem two_dr (f : D → D → Option Vl) (x : D) (i : Nat) (st : Store) : two f (.d x) (.ref i) st = match snap st (.ref i) with
  | some y => lift (f x y) st
  | none => .err := by
  show (match snap st (.d x), snap st (.ref i) with | some x, some y => _ | _, _ => _) = _
  cases snap st (.ref i) <;> rfl
@[simp] theorem two_rd (f : D → D → Option Vl) (x : D) (i : Nat) (st : Store) : two f (.ref i) (.d x) st = match snap st (.ref i) with
  | some y => lift (f y x) st
  | none => .err := by
  show (match snap st (.ref i), snap st (.d x) with | some x, some y => _ | _, _ => _) = _
  cases snap st (.ref i) <;> rfl
def mtk (m : Mt) (x : Vl) (vs : Vl) (st : Store) : E Vl := match vs with
      | .its vs => mtE m x vs st
      | _ => .err
@[simp] theorem mtk_its (m : Mt) (x : Vl) (vs : List Vl) (st : Store) : mtk m x (.its vs) st = mtE m x vs st := rfl
theorem mtf_lst {m : Mt} {x : Vl} {es : Store → E Vl} {st : Store} (h : isLstV st x = true) : mtf m x es st = bnd (es st) (mtk m x) := if_pos h
@[simp] theorem mtf_cell {m : Mt} {es : Store → E Vl} : mtf m (.ref 0) es (cellI l :: r) = bnd (es (cellI l :: r)) (mtk m (.ref 0)) := mtf_lst rfl
end
theorem forL_nil {t : Tg} {b : Env → Store → R Out} {e : Env} {st : Store} : forL t b [] e st = .ok (.nx e st) := rfl
def forK (t : Tg) (b : Env → Store → R Out) (xs : List Vl) : Out → R Out
      | .nx e st => forL t b xs e st
      | .ct e st => forL t b xs e st
      | .bk e st => .ok (.nx e st)
      | o => .ok o
@[simp] theorem forK_nx {t : Tg} {b : Env → Store → R Out} {e : Env} {st : Store} {xs : List Vl} : forK t b xs (.nx e st) = forL t b xs e st := rfl
@[simp] theorem forK_rt {t : Tg} {b : Env → Store → R Out} {st : Store} {xs : List Vl} {v : Vl} : forK t b xs (.rt v st) = .ok (.rt v st) := rfl
@[simp] theorem forK_x {t : Tg} {b : Env → Store → R Out} {e : Env} {st : Store} {xs : List Vl} {c : Nat} {fs : List D} : forK t b xs (.x c fs e st) = .ok (.x c fs e st) := rfl
theorem forL_cons {t : Tg} {b : Env → Store → R Out} {e e' : Env} {st : Store} {x : Vl} {xs : List Vl} (h : setTg t x e = some e') : forL t b (x :: xs) e st = R.bind (b e' st) (forK t b xs) := by
  show (match setTg t x e with | none => _ | some e => _) = _
  rw [h]; rfl
/-- the pages' loop -/
theorem pages_loop {n : Nat} (hn : 2 ≤ n) (p : Option Vl) (T : Tg) (hT : T = .tp (.cons (.nm 2) (.cons (.nm 3) .nil))) (B : St) (hB : B = (.seq (.iff (.bo false (.not (.call .frz 2 (.cons (.v 3) .nil))) (.cmp .isin (.v 3) (.v 1))) (.seq (.raise 1 (.cons (.v 2) .nil)) .skip) .skip) (.seq (.ex (.mt .append (.v 1) (.cons (.v 3) .nil))) .skip))) :
    ∀ (ds : List D) (acc : List Int) (k : Nat) (a b : Option Vl), (∀ d ∈ ds, isStrm d = false) → acc.length + ds.length < 1000 →
      ∃ a' b' s', forL T (evS (F n) B) (enumK k ds) [p, some (.ref 0), a, b] [cellI acc] = match scanE ds acc k with
        | .inl j => .ok (.x 1 [.int (j : Int)] [p, some (.ref 0), a', b'] s')
        | .inr l => .ok (.nx [p, some (.ref 0), a', b'] [cellI l]) := by
  subst hT hB
  intro ds
  induction ds with
  | nil => intro acc k a b _ _; exact ⟨a, b, [], rfl⟩
  | cons d ds ih =>
    intro acc k a b hs hl
    simp only [List.length_cons] at hl
    have h1 := hs d List.mem_cons_self
    have step : ∀ e', setTg (.tp (.cons (.nm 2) (.cons (.nm 3) .nil))) (.d (.tup [.int (k : Int), d])) [p, some (.ref 0), a, b] = some e' → e' = [p, some (.ref 0), some (.d (.int k)), some (.d d)] := fun e' h => by
      cases h; rfl
    unfold enumK
    rw [forL_cons (e' := [p, some (.ref 0), some (.d (.int k)), some (.d d)]) rfl]
    by_cases c : ∃ i : Int, d = .int i ∧ 0 ≤ i ∧ i ∉ acc
    · obtain ⟨i, rfl, c1, c2⟩ := c
      obtain ⟨a', b', s', h⟩ := ih (acc ++ [i]) (k + 1) (some (.d (.int k))) (some (.d (.int i))) (fun d hd => hs d (List.mem_cons_of_mem _ hd)) (by simp; omega)
      have e : scanE (.int i :: ds) acc k = scanE ds (acc ++ [i]) (k + 1) := by show (if _ then _ else _) = _; rw [if_pos ⟨c1, c2⟩]
      rw [e]
      refine ⟨a', b', s', ?_⟩
      rw [← h]
      simp [exLen, c_num h1 hn, isNum, c1, in_I, c2, app_cell (r := []) (show acc.length < 1000000 by omega)]
    · have e : scanE (d :: ds) acc k = .inl k := by
        cases d <;> try rfl
        show (if _ then _ else _) = _
        rw [if_neg fun z => c ⟨_, rfl, z.1, z.2⟩]
      rw [e]
      refine ⟨some (.d (.int k)), some (.d d), [cellI acc], ?_⟩
      cases hd : isNum d with
      | false => simp [exLen, c_num h1 hn, hd, raisef, dats]
      | true =>
        cases d <;> simp only [isNum, reduceCtorEq, decide_eq_true_eq] at hd
        rename_i i
        have c2 : i ∈ acc := Classical.byContradiction fun z => c ⟨i, rfl, hd, z⟩
        simp [exLen, c_num h1 hn, isNum, hd, in_I, c2, raisef, dats]
theorem intsOf_I (l : List Int) : intsOf (l.map .int) = some l := by
  induction l with
  | nil => rfl
  | cons a l ih => simp [intsOf, ih]
theorem c_pages {n : Nat} {st : Store} {p : D} (hp : isSeq p = true) (hs : ∀ d ∈ itemsD p, isStrm d = false) (hl : (itemsD p).length < 64) (hn : 3 ≤ n) : callE (F n) .frz 3 [.d p] st = match scanE (itemsD p) [] 0 with
    | .inl j => .ok (.x 1 [.int (j : Int)] st)
    | .inr l => if l.length < 64 then ret (.d (I (sortI l))) st else .err := by
  obtain ⟨m, rfl⟩ := pred (n := n) (by omega)
  have hps : isStrm p = false := by cases p <;> first | rfl | cases hp
  rw [call1 (fn := fd_checked_pages) rfl rfl]
  have hw : wkE .enumr [.d p] [cellI []] = ret (Vl.its (enumK 0 (itemsD p))) [cellI []] := by
    cases p <;> simp only [isSeq, reduceCtorEq] at hp
    all_goals (show ret (Vl.its (enum _)) _ = _; rw [enum_eq]; rfl)
  simp [fd_checked_pages, ir_checked_pages, exLen, c_list hps (n := m) (by omega), hp, lstmf]
  rw [show (Option.some (Cell.lst [])) = cellI [] from rfl, hw]
  simp only [sBnd_ret, forR, itsOf]
  obtain ⟨a', b', s', h⟩ := pages_loop (n := m) (by omega) (some (.d p)) _ rfl _ rfl (itemsD p) [] 0 none none hs (by simp; omega)
  rw [h]
  cases scanE (itemsD p) [] 0 with
  | inl j => simp
  | inr l =>
    simp only [R_bind_ok, thn_nx, es_seq, es_ret, ev_bi, ev_cons, ev_v, envGet_s, envGet_0, Option.map_some, rdV_ref, lift_some, bnd_ret, ev_nil, consf_its, biq_its]
    have hb : biE .sorted [.ref 0] [cellI l] = lift ((sortD (l.map .int)).map fun l => .d (.lst l)) [cellI l] := by
      show lift ((((lstOf [cellI l] (.ref 0)).bind dats).bind sortD).map _) _ = _
      rw [lstOf_cell, Option.bind_some, dats_map]; rfl
    rw [hb]
    unfold sortD
    rw [intsOf_I]
    dsimp only
    split <;> simp
theorem c_pages_no {n : Nat} {st : Store} {p : D} (hp : isSeq p = false) (hs : isStrm p = false) (hn : 3 ≤ n) : callE (F n) .frz 3 [.d p] st = .ok (.x 1 [.int 0] st) := by
  obtain ⟨m, rfl⟩ := pred (n := n) (by omega)
  rw [call1 (fn := fd_checked_pages) rfl rfl]
  simp [fd_checked_pages, ir_checked_pages, exLen, c_list hs (n := m) (by omega), hp, raisef, dats]
end EV

end
section
set_option maxRecDepth 1000000
set_option linter.all false
namespace EV
/-! ### the dict of pages -/
abbrev knD (xs : List Int) : D := .dct (xs.map .int) (xs.map fun _ => .bl true)
def cellK (l : List Int) : Option Cell := some (.dct (l.map .int) (l.map fun _ => .d (.bl true)))
theorem has_I (i : Int) : ∀ l : List Int, hasD (.int i) (l.map .int) = decide (i ∈ l)
  | [] => rfl
  | a :: l => by
    simp only [List.map_cons, hasD, keyEq, has_I i l, List.mem_cons]
    by_cases h : a = i
    · subst h; simp
    · have : ¬ i = a := fun z => h z.symm
      simp [h, this]
theorem in_K (l : List Int) (i : Int) : cmpD .isin (.int i) (knD l) = some (decide (i ∈ l)) := by
  have h : cmpD .isin (.int i) (knD l) = some (hasD (.int i) (l.map .int)) := rfl
  rw [h, has_I]
theorem nin_K (l : List Int) (i : Int) : cmpD .notin (.int i) (knD l) = some (!decide (i ∈ l)) := by
  have h : cmpD .notin (.int i) (knD l) = some (!hasD (.int i) (l.map .int)) := rfl
  rw [h, has_I]
section
variable {l : List Int} {r : List (Option Cell)}
theorem dats_bl (l : List Int) : dats (l.map fun _ => Vl.d (.bl true)) = some (l.map fun _ => .bl true) := by
  induction l with
  | nil => rfl
  | cons a l ih => simp [dats, ih]
@[simp] theorem geti_cellK : geti (cellK l :: r) 0 = some (.dct (l.map .int) (l.map fun _ => .d (.bl true))) := rfl
@[simp] theorem snap_cellK : snap (cellK l :: r) (.ref 0) = some (knD l) := by
  show (dats (l.map fun _ => Vl.d (.bl true))).map (D.dct _) = _
  rw [dats_bl]; rfl
theorem put_cellK {i : Int} (h : l.length < 1000000) (hn : i ∉ l) : setIx (cellK l :: r) (.ref 0) (.d (.int i)) (.d (.bl true)) = some (cellK (l ++ [i]) :: r) := by
  show (if isKey _ = true ∧ _ then _ else _) = _
  rw [if_pos ⟨rfl, by simpa using h⟩]
  have : hasD (.int i) (l.map .int) = false := by rw [has_I]; simpa using hn
  simp [putD, this, cellK]
end
theorem setixf_of {e : Env} {o i v : Vl} {st st' : Store} (h : setIx st o i v = some st') : setixf e o i v st = .ok (.nx e st') := by
  unfold setixf; rw [h]
theorem among_loop {n : Nat} (hn : 2 ≤ n) (p : Option Vl) (T : Tg) (hT : T = .tp (.cons (.nm 2) (.cons (.nm 3) .nil))) (B : St) (hB : B = (.seq (.iff (.bo false (.not (.call .frz 2 (.cons (.v 3) .nil))) (.cmp .isin (.v 3) (.v 1))) (.seq (.raise 0 (.cons (.v 2) .nil)) .skip) .skip) (.seq (.setix (.v 1) (.v 3) (.c (.bl true))) .skip))) :
    ∀ (ds : List D) (acc : List Int) (k : Nat) (a b : Option Vl), (∀ d ∈ ds, isStrm d = false) → acc.length + ds.length < 1000 →
      ∃ a' b' s', forL T (evS (F n) B) (enumK k ds) [p, some (.ref 0), a, b] [cellK acc] = match scanE ds acc k with
        | .inl j => .ok (.x 0 [.int (j : Int)] [p, some (.ref 0), a', b'] s')
        | .inr l => .ok (.nx [p, some (.ref 0), a', b'] [cellK l]) := by
  subst hT hB
  intro ds
  induction ds with
  | nil => intro acc k a b _ _; exact ⟨a, b, [], rfl⟩
  | cons d ds ih =>
    intro acc k a b hs hl
    simp only [List.length_cons] at hl
    have h1 := hs d List.mem_cons_self
    unfold enumK
    rw [forL_cons (e' := [p, some (.ref 0), some (.d (.int k)), some (.d d)]) rfl]
    by_cases c : ∃ i : Int, d = .int i ∧ 0 ≤ i ∧ i ∉ acc
    · obtain ⟨i, rfl, c1, c2⟩ := c
      obtain ⟨a', b', s', h⟩ := ih (acc ++ [i]) (k + 1) (some (.d (.int k))) (some (.d (.int i))) (fun d hd => hs d (List.mem_cons_of_mem _ hd)) (by simp; omega)
      have e : scanE (.int i :: ds) acc k = scanE ds (acc ++ [i]) (k + 1) := by show (if _ then _ else _) = _; rw [if_pos ⟨c1, c2⟩]
      rw [e]
      refine ⟨a', b', s', ?_⟩
      rw [← h]
      simp [exLen, c_num h1 hn, isNum, c1, in_K, c2, setixf_of (put_cellK (r := []) (show acc.length < 1000000 by omega) c2)]
    · have e : scanE (d :: ds) acc k = .inl k := by
        cases d <;> try rfl
        show (if _ then _ else _) = _
        rw [if_neg fun z => c ⟨_, rfl, z.1, z.2⟩]
      rw [e]
      refine ⟨some (.d (.int k)), some (.d d), [cellK acc], ?_⟩
      cases hd : isNum d with
      | false => simp [exLen, c_num h1 hn, hd, raisef, dats]
      | true =>
        cases d <;> simp only [isNum, reduceCtorEq, decide_eq_true_eq] at hd
        rename_i i
        have c2 : i ∈ acc := Classical.byContradiction fun z => c ⟨i, rfl, hd, z⟩
        simp [exLen, c_num h1 hn, isNum, hd, in_K, c2, raisef, dats]
theorem isN_non (d : D) : cmpD .isN d .non = some (isNon d) := rfl
theorem notN_non (d : D) : cmpD .notN d .non = some (!isNon d) := rfl
theorem c_among {n : Nat} {st : Store} {p : D} (hp : isSeq p = true) (hs : ∀ d ∈ itemsD p, isStrm d = false) (hl : (itemsD p).length < 64) (hn : 3 ≤ n) : callE (F n) .frz 4 [.d p] st = match scanE (itemsD p) [] 0 with
    | .inl j => .ok (.x 0 [.int (j : Int)] st)
    | .inr l => ret (.d (knD l)) st := by
  obtain ⟨m, rfl⟩ := pred (n := n) (by omega)
  have hps : isStrm p = false := by cases p <;> first | rfl | cases hp
  have hnon : isNon p = false := by cases p <;> first | rfl | cases hp
  rw [call1 (fn := fd_checked_among) rfl rfl]
  have hw : wkE .enumr [.d p] [cellK []] = ret (Vl.its (enumK 0 (itemsD p))) [cellK []] := by
    cases p <;> simp only [isSeq, reduceCtorEq] at hp
    all_goals (show ret (Vl.its (enum _)) _ = _; rw [enum_eq]; rfl)
  simp [fd_checked_among, ir_checked_among, exLen, c_list hps (n := m) (by omega), hp, isN_non, hnon]
  rw [show (Option.some (Cell.dct [] [])) = cellK [] from rfl, hw]
  simp only [sBnd_ret, forR, itsOf]
  obtain ⟨a', b', s', h⟩ := among_loop (n := m) (by omega) (some (.d p)) _ rfl _ rfl (itemsD p) [] 0 none none hs (by simp; omega)
  rw [h]
  cases scanE (itemsD p) [] 0 with
  | inl j => simp
  | inr l =>
    simp
    show lift ((snap [cellK l] (.ref 0)).map Vl.d) st = _
    rw [snap_cellK]; rfl
theorem c_among_non {n : Nat} {st : Store} (hn : 3 ≤ n) : callE (F n) .frz 4 [.d .non] st = ret (.d .non) st := by
  obtain ⟨m, rfl⟩ := pred (n := n) (by omega)
  rw [call1 (fn := fd_checked_among) rfl rfl]
  simp [fd_checked_among, ir_checked_among, exLen, isN_non, isNon]
theorem c_among_no {n : Nat} {st : Store} {p : D} (hp : isSeq p = false) (hn0 : isNon p = false) (hs : isStrm p = false) (hn : 3 ≤ n) : callE (F n) .frz 4 [.d p] st = .ok (.x 0 [.int 0] st) := by
  obtain ⟨m, rfl⟩ := pred (n := n) (by omega)
  rw [call1 (fn := fd_checked_among) rfl rfl]
  simp [fd_checked_among, ir_checked_among, exLen, c_list hs (n := m) (by omega), hp, isN_non, hn0, raisef, dats]
end EV

end
section
set_option maxRecDepth 1000000
set_option linter.all false
namespace EV
def spanOk (s : D) : Bool := match s with
  | .int k => decide (1 ≤ k)
  | _ => false
theorem lt_1 (k : Int) : cmpD .lt (.int k) (.int 1) = some (decide (k < 1)) := rfl
theorem c_cl_p {n : Nat} {st : Store} {p s a e : D} (h : callE (F n) .frz 3 [.d p] [] = .ok (.x 1 [e] [])) : callE (F (n + 1)) .frz 5 [.d p, .d s, .d a] st = .ok (.x 1 [e] st) := by
  rw [call3 (fn := fd_checked_letters) rfl rfl]
  simp [fd_checked_letters, ir_checked_letters, exLen, h]
theorem c_cl_s {n : Nat} {st : Store} {p s a : D} {l : List Int} (h : callE (F n) .frz 3 [.d p] [] = ret (.d (I l)) []) (hs : spanOk s = false) (hst : isStrm s = false) (hn : 1 ≤ n) : callE (F (n + 1)) .frz 5 [.d p, .d s, .d a] st = .ok (.x 2 [s] st) := by
  rw [call3 (fn := fd_checked_letters) rfl rfl]
  simp [fd_checked_letters, ir_checked_letters, exLen, h, c_int hst hn]
  cases hi : isInt s with
  | false => simp [raisef, dats]
  | true =>
    cases s <;> simp only [isInt, reduceCtorEq] at hi
    rename_i k
    have hk : k < 1 := by simpa [spanOk] using hs
    simp [lt_1, hk, raisef, dats]
theorem c_cl_a {n : Nat} {st : Store} {p a e : D} {l : List Int} {k : Int} (h : callE (F n) .frz 3 [.d p] [] = ret (.d (I l)) []) (hk : 1 ≤ k) (ha : callE (F n) .frz 4 [.d a] [] = .ok (.x 0 [e] [])) (hn : 1 ≤ n) : callE (F (n + 1)) .frz 5 [.d p, .d (.int k), .d a] st = .ok (.x 0 [e] st) := by
  rw [call3 (fn := fd_checked_letters) rfl rfl]
  simp [fd_checked_letters, ir_checked_letters, exLen, h, c_int (d := .int k) rfl hn, isInt, lt_1, show ¬ k < 1 by omega, ha]
theorem c_cl_non {n : Nat} {st : Store} {p a : D} {l : List Int} {k : Int} (h : callE (F n) .frz 3 [.d p] [] = ret (.d (I l)) []) (hk : 1 ≤ k) (ha : callE (F n) .frz 4 [.d a] [] = ret (.d .non) []) (hn : 1 ≤ n) : callE (F (n + 1)) .frz 5 [.d p, .d (.int k), .d a] st = ret (.d (.tup [I l, .non])) st := by
  rw [call3 (fn := fd_checked_letters) rfl rfl]
  simp [fd_checked_letters, ir_checked_letters, exLen, h, c_int (d := .int k) rfl hn, isInt, lt_1, show ¬ k < 1 by omega, ha, notN_non, isNon, lstf, dats, forR, itsOf, forL, tupf]
theorem kn_loop {n : Nat} (B : St) (hB : B = (.seq (.iff (.cmp .notin (.v 5) (.v 4)) (.seq (.raise 3 (.cons (.v 5) .nil)) .skip) .skip) .skip)) (p s a l : Option Vl) (xs : List Int) :
    ∀ (ps : List Int) (c : Option Vl), ∃ c', forL (.nm 5) (evS (F n) B) ((ps.map D.int).map .d) [p, s, a, l, some (.d (knD xs)), c] [] = match ps.find? (fun i => !decide (i ∈ xs)) with
      | some i => .ok (.x 3 [.int i] [p, s, a, l, some (.d (knD xs)), c'] [])
      | none => .ok (.nx [p, s, a, l, some (.d (knD xs)), c'] []) := by
  subst hB
  intro ps
  induction ps with
  | nil => intro c; exact ⟨c, rfl⟩
  | cons i ps ih =>
    intro c
    rw [List.map_cons, List.map_cons, forL_cons (e' := [p, s, a, l, some (.d (knD xs)), some (.d (.int i))]) rfl]
    by_cases h : i ∈ xs
    · obtain ⟨c', e⟩ := ih (some (.d (.int i)))
      refine ⟨c', ?_⟩
      rw [List.find?_cons_of_neg (by simpa using h), ← e]
      simp [nin_K, h]
    · refine ⟨some (.d (.int i)), ?_⟩
      rw [List.find?_cons_of_pos (by simpa using h)]
      simp [nin_K, h, raisef, dats, exLen]
theorem c_cl_kn {n : Nat} {st : Store} {p a : D} {l ps xs : List Int} {k : Int} (hp : isSeq p = true) (hi : itemsD p = ps.map .int) (h : callE (F n) .frz 3 [.d p] [] = ret (.d (I l)) []) (hk : 1 ≤ k) (ha : callE (F n) .frz 4 [.d a] [] = ret (.d (knD xs)) []) (hn : 1 ≤ n) :
    callE (F (n + 1)) .frz 5 [.d p, .d (.int k), .d a] st = match ps.find? (fun i => !decide (i ∈ xs)) with
      | some i => .ok (.x 3 [.int i] st)
      | none => ret (.d (.tup [I l, knD xs])) st := by
  rw [call3 (fn := fd_checked_letters) rfl rfl]
  have hits : itsOf (.d p) = some ((ps.map D.int).map .d) := by
    cases p <;> simp only [isSeq, reduceCtorEq] at hp
    all_goals (simp only [itemsD] at hi; subst hi; rfl)
  simp [fd_checked_letters, ir_checked_letters, exLen, h, c_int (d := .int k) rfl hn, isInt, lt_1, show ¬ k < 1 by omega, ha, notN_non, isNon, forR]
  rw [hits]
  dsimp only
  obtain ⟨c', e⟩ := kn_loop (n := n) _ rfl (some (.d p)) (some (.d (.int k))) (some (.d a)) (some (.d (I l))) xs ps none
  rw [e]
  cases ps.find? (fun i => !decide (i ∈ xs)) with
  | some i => simp
  | none => simp [tupf, dats]
/-! ### carried -/
def rng (lo hi : Int) : List Int := (List.range (hi - lo).toNat).map fun (k : Nat) => lo + (k : Int)
theorem range_rng (lo hi : Int) : range lo hi = ((rng lo hi).map D.int).map .d := by
  unfold range rng
  rw [List.map_map, List.map_map]
  rfl
theorem mem_rng {lo hi x : Int} : x ∈ rng lo hi ↔ lo ≤ x ∧ x < hi := by
  unfold rng
  rw [List.mem_map]
  constructor
  · rintro ⟨k, hk, rfl⟩
    rw [List.mem_range] at hk
    omega
  · rintro ⟨h1, h2⟩
    exact ⟨(x - lo).toNat, by rw [List.mem_range]; omega, by omega⟩
theorem len_rng (lo hi : Int) : (rng lo hi).length = (hi - lo).toNat := by simp [rng]
/-- one letter carries f to l -/
def carried (f l s : Int) (kn : Option (List Int)) : Bool := !(decide (l < f) || decide (s ≤ l - f)) && (match kn with
  | none => true
  | some xs => (rng f (l + 1)).all fun x => decide (x ∈ xs))
theorem allB_map (bs : List Bool) : allB (bs.map fun b => Vl.d (.bl b)) = some (bs.all id) := by
  induction bs with
  | nil => rfl
  | cons b bs ih => simp [allB, ih]
theorem anyB_map (bs : List Bool) : anyB (bs.map fun b => Vl.d (.bl b)) = some (bs.any id) := by
  induction bs with
  | nil => rfl
  | cons b bs ih => simp [anyB, ih]
theorem bi_all {st : Store} (bs : List Bool) : biE .all [.d (.lst (bs.map .bl))] st = ret (.d (.bl (bs.all id))) st := by
  show lift (((some ((bs.map D.bl).map Vl.d)).bind allB).map _) st = _
  rw [List.map_map, Option.bind_some]
  have := allB_map bs
  rw [show (List.map (Vl.d ∘ D.bl) bs) = bs.map fun b => Vl.d (.bl b) from rfl, this]
  rfl
theorem bi_any {st : Store} (bs : List Bool) : biE .any [.d (.lst (bs.map .bl))] st = ret (.d (.bl (bs.any id))) st := by
  show lift (((some ((bs.map D.bl).map Vl.d)).bind anyB).map _) st = _
  rw [List.map_map, Option.bind_some]
  have := anyB_map bs
  rw [show (List.map (Vl.d ∘ D.bl) bs) = bs.map fun b => Vl.d (.bl b) from rfl, this]
  rfl
/-- a comprehension over data whose step keeps all and stores nothing -/
theorem lc_map {F : Cfg} {own : List Nat} {tg : Tg} {it x : Ex} {e : Env} {st : Store} {α : Type} (xs : List α) (v : α → Vl) (g : α → D) {w : Vl} (hit : evE F it e st = ret w st) (hw : itsOf w = some (xs.map v))
    (hx : ∀ a ∈ xs, ∃ e', setTg tg (v a) (wipeE e own) = some e' ∧ evE F x e' st = ret (.d (g a)) st) (hl : xs.length ≤ 1000000) :
    evE F (.lc false own tg it (.c (.bl true)) x) e st = ret (.d (.lst (xs.map g))) st := by
  rw [ev_lc, hit, bnd_ret]
  unfold lcRun
  rw [hw]
  dsimp only
  have key : ∀ (ys : List α) (acc : List Vl), (∀ a ∈ ys, a ∈ xs) → acc.length + ys.length ≤ 1000000 → compL (lcStep F own tg (.c (.bl true)) x e) (ys.map v) acc st = ret (acc ++ ys.map fun a => Vl.d (g a)) st := by
    intro ys
    induction ys with
    | nil => intro acc _ _; simp [compL]
    | cons a ys ih =>
      intro acc hm hl
      simp only [List.length_cons] at hl
      obtain ⟨e', h1, h2⟩ := hx a (hm a List.mem_cons_self)
      rw [List.map_cons]
      unfold compL
      have hs : lcStep F own tg (.c (.bl true)) x e (v a) st = ret (some (.d (g a))) st := by
        unfold lcStep
        rw [h1]
        simp [h2]
      rw [hs, R_bind_ret]
      dsimp only
      rw [if_pos (by omega), ih _ (fun b hb => hm b (List.mem_cons_of_mem _ hb)) (by simp; omega)]
      simp
  rw [key xs [] (fun a h => h) (by simpa using hl)]
  rw [bnd_ret]
  unfold lcEnd
  have hd : dats ([] ++ xs.map fun a => Vl.d (g a)) = some (xs.map g) := by
    rw [List.nil_append, show (xs.map fun a => Vl.d (g a)) = (xs.map g).map Vl.d by simp, dats_map]
  rw [hd]
  rfl
end EV

end
section
set_option maxRecDepth 1000000
set_option linter.all false
namespace EV
def Sm (i : Int) : Prop := -1000 < i ∧ i < 1000
def knV : Option (List Int) → D
  | none => .non
  | some xs => knD xs
def amV : Option (List Int) → D
  | none => .non
  | some xs => I xs
theorem cmp_lt (i j : Int) : cmpD .lt (.int i) (.int j) = some (decide (i < j)) := rfl
theorem cmp_le (i j : Int) : cmpD .le (.int i) (.int j) = some (decide (i ≤ j)) := rfl
theorem cmp_gt (i j : Int) : cmpD .gt (.int i) (.int j) = some (decide (j < i)) := rfl
theorem cmp_ge (i j : Int) : cmpD .ge (.int i) (.int j) = some (decide (j ≤ i)) := rfl
theorem bin_sub (i j : Int) : binD .sub (.int i) (.int j) = some (.int (i - j)) := rfl
theorem bin_add (i j : Int) : binD .add (.int i) (.int j) = some (.int (i + j)) := rfl
theorem wk_range2 {st : Store} {i j : Int} (h1 : -1000000 < i) (h2 : i < 1000000) (h3 : -1000000 < j) (h4 : j < 1000000) : wkE .range2 [.d (.int i), .d (.int j)] st = ret (.its (((rng i j).map D.int).map .d)) st := by
  show (if _ then _ else _) = _
  rw [if_pos ⟨h1, h2, h3, h4⟩, range_rng]
theorem all_id {α : Type} (xs : List α) (f : α → Bool) : (xs.map f).all id = xs.all f := by
  rw [List.all_map]; rfl
theorem any_id {α : Type} (xs : List α) (f : α → Bool) : (xs.map f).any id = xs.any f := by
  rw [List.any_map]; rfl
theorem c_carried {n : Nat} {st : Store} {f l s : Int} (kn : Option (List Int)) (h1 : Sm f) (h2 : Sm l) : callE (F (n + 1)) .frz 6 [.d (.int f), .d (.int l), .d (.int s), .d (knV kn)] st = ret (.d (.bl (carried f l s kn))) st := by
  obtain ⟨a1, a2⟩ := h1
  obtain ⟨b1, b2⟩ := h2
  rw [call4 (fn := fd_is_carried) rfl rfl]
  have hc : ∀ (e : Env) (xs : List Int), e = [some (.d (.int f)), some (.d (.int l)), some (.d (.int s)), some (.d (knD xs)), none] → evE (F n) (.lc false [4] (.nm 4) (.wk .range2 (.cons (.v 0) (.cons (.bin .add (.v 1) (.c (.int 1))) .nil))) (.c (.bl true)) (.cmp .isin (.v 4) (.v 3))) e [] = ret (.d (.lst ((rng f (l + 1)).map fun x => .bl (decide (x ∈ xs))))) [] := by
    intro e xs he
    subst he
    refine lc_map (rng f (l + 1)) (fun x => .d (.int x)) (fun x => .bl (decide (x ∈ xs))) (w := .its (((rng f (l + 1)).map D.int).map .d)) ?_ ?_ ?_ ?_
    · simp [bin_add, wk_range2 (st := []) (i := f) (j := l + 1) (by omega) (by omega) (by omega) (by omega)]
    · simp [itsOf]
    · intro x _
      exact ⟨[some (.d (.int f)), some (.d (.int l)), some (.d (.int s)), some (.d (knD xs)), some (.d (.int x))], rfl, by simp [in_K]⟩
    · rw [len_rng]; omega
  cases kn with
  | none =>
    by_cases c1 : l < f <;> by_cases c2 : s ≤ l - f <;> simp [c1, c2, fd_is_carried, ir_is_carried, cmp_lt, cmp_ge, bin_sub, knV, isN_non, isNon, carried]
  | some xs =>
    have hq := hc _ xs rfl
    have hq2 : biE .all [.d (.lst ((rng f (l + 1)).map fun x => .bl (decide (x ∈ xs))))] [] = ret (.d (.bl ((rng f (l + 1)).all fun x => decide (x ∈ xs)))) [] := by
      rw [show (List.map (fun x => D.bl (decide (x ∈ xs))) (rng f (l + 1))) = ((rng f (l + 1)).map fun x => decide (x ∈ xs)).map D.bl by simp, bi_all, all_id]
    by_cases c1 : l < f <;> by_cases c2 : s ≤ l - f <;> simp [c1, c2, fd_is_carried, ir_is_carried, cmp_lt, cmp_ge, bin_sub, knV, isN_non, isNon, carried, hq, hq2]
theorem c_one {n : Nat} {st : Store} {f l s : Int} (kn : Option (List Int)) (h1 : Sm f) (h2 : Sm l) : callE (F (n + 1)) .frz 19 [.d (.int f), .d (.int l), .d (.int s), .d (amV kn)] st = ret (.d (.bl (carried f l s kn))) st := by
  obtain ⟨a1, a2⟩ := h1
  obtain ⟨b1, b2⟩ := h2
  rw [call4 (fn := fd__law_is_one) rfl rfl]
  have hc : ∀ (e : Env) (xs : List Int), e = [some (.d (.int f)), some (.d (.int l)), some (.d (.int s)), some (.d (I xs)), none] → evE (F n) (.lc false [4] (.nm 4) (.wk .range2 (.cons (.v 0) (.cons (.bin .add (.v 1) (.c (.int 1))) .nil))) (.c (.bl true)) (.cmp .isin (.v 4) (.v 3))) e [] = ret (.d (.lst ((rng f (l + 1)).map fun x => .bl (decide (x ∈ xs))))) [] := by
    intro e xs he
    subst he
    refine lc_map (rng f (l + 1)) (fun x => .d (.int x)) (fun x => .bl (decide (x ∈ xs))) (w := .its (((rng f (l + 1)).map D.int).map .d)) ?_ ?_ ?_ ?_
    · simp [bin_add, wk_range2 (st := []) (i := f) (j := l + 1) (by omega) (by omega) (by omega) (by omega)]
    · simp [itsOf]
    · intro x _
      exact ⟨[some (.d (.int f)), some (.d (.int l)), some (.d (.int s)), some (.d (I xs)), some (.d (.int x))], rfl, by simp [in_I]⟩
    · rw [len_rng]; omega
  have e2 : ∀ k : Int, (s < k + 1) ↔ (s ≤ k) := fun k => by omega
  cases kn with
  | none =>
    by_cases c1 : l < f <;> by_cases c2 : s ≤ l - f <;> simp [c1, c2, fd__law_is_one, ir__law_is_one, cmp_lt, cmp_gt, bin_sub, bin_add, amV, isN_non, isNon, carried, e2]
  | some xs =>
    have hq := hc _ xs rfl
    have hq2 : biE .all [.d (.lst ((rng f (l + 1)).map fun x => .bl (decide (x ∈ xs))))] [] = ret (.d (.bl ((rng f (l + 1)).all fun x => decide (x ∈ xs)))) [] := by
      rw [show (List.map (fun x => D.bl (decide (x ∈ xs))) (rng f (l + 1))) = ((rng f (l + 1)).map fun x => decide (x ∈ xs)).map D.bl by simp, bi_all, all_id]
    by_cases c1 : l < f <;> by_cases c2 : s ≤ l - f <;> simp [c1, c2, fd__law_is_one, ir__law_is_one, cmp_lt, cmp_gt, bin_sub, bin_add, amV, isN_non, isNon, carried, e2, hq, hq2]
/-! ### letters -/
def P2 (l : List (Int × Int)) : List D := l.map fun q => .tup [.int q.1, .int q.2]
def cellP (l : List (Int × Int)) : Option Cell := some (.lst ((P2 l).map .d))
def gr (s : Int) (kn : Option (List Int)) : List Int → List (Int × Int) → List (Int × Int)
  | [], acc => acc
  | p :: ps, acc => match acc.getLast? with
    | none => gr s kn ps (acc ++ [(p, p)])
    | some (a, b) => if carried a p s kn then gr s kn ps (acc.dropLast ++ [(a, p)]) else gr s kn ps (acc ++ [(p, p)])
theorem okBs_P2 (l : List (Int × Int)) : okBs (P2 l) 63 = true := by
  induction l with
  | nil => rfl
  | cons a l ih => simp [P2, okBs, okB] at ih ⊢; exact ih
theorem ne_P2 (l : List (Int × Int)) : cmpD .ne (.lst (P2 l)) (.lst []) = some (!l.isEmpty) := by
  show (if _ then _ else _ : Option Bool).map not = _
  simp only [okB, okBs_P2, okBs, Bool.and_self, if_true, Option.map_some]
  cases l <;> rfl
section
variable {l : List (Int × Int)} {r : List (Option Cell)} {a b : Int}
@[simp] theorem geti_cellP : geti (cellP l :: r) 0 = some (.lst ((P2 l).map .d)) := rfl
@[simp] theorem snap_cellP : snap (cellP l :: r) (.ref 0) = some (.lst (P2 l)) := by
  show (dats ((P2 l).map .d)).map D.lst = _
  rw [dats_map]; rfl
@[simp] theorem mtf_cellP {m : Mt} {es : Store → E Vl} : mtf m (.ref 0) es (cellP l :: r) = bnd (es (cellP l :: r)) (mtk m (.ref 0)) := mtf_lst rfl
theorem app_cellP (h : l.length < 1000000) : mtE .append (.ref 0) [.d (.tup [.int a, .int b])] (cellP l :: r) = ret (.d .non) (cellP (l ++ [(a, b)]) :: r) := by
  show (if _ then _ else _) = _
  rw [if_pos (by simpa [P2] using h)]
  simp [cellP, P2]
theorem ixN_last (n : Nat) : ixN (n + 1) (-1) = some n := by
  unfold ixN
  rw [if_neg (by decide), if_pos (by omega)]
  congr 1; omega
theorem ix_last : ixD (cellP (l ++ [(a, b)]) :: r) (.ref 0) (.int (-1)) = some (.d (.tup [.int a, .int b])) := by
  show (ixN ((P2 (l ++ [(a, b)])).map Vl.d).length (-1)).bind _ = _
  have : ((P2 (l ++ [(a, b)])).map Vl.d).length = l.length + 1 := by simp [P2]
  rw [this, ixN_last]
  simp [P2]
theorem set_last {c : Int} : setIx (cellP (l ++ [(a, b)]) :: r) (.ref 0) (.d (.int (-1))) (.d (.tup [.int a, .int c])) = some (cellP (l ++ [(a, c)]) :: r) := by
  show (ixN ((P2 (l ++ [(a, b)])).map Vl.d).length (-1)).map _ = _
  have : ((P2 (l ++ [(a, b)])).map Vl.d).length = l.length + 1 := by simp [P2]
  rw [this, ixN_last]
  simp [P2, cellP]
end
theorem ix_tup0 {st : Store} (a b : Int) : ixD st (.d (.tup [.int a, .int b])) (.int 0) = some (.d (.int a)) := rfl
theorem ix_tup1 {st : Store} (a b : Int) : ixD st (.d (.tup [.int a, .int b])) (.int 1) = some (.d (.int b)) := rfl
theorem letters_loop {n : Nat} (B : St) (hB : B = (.seq (.iff (.bo true (.cmp .ne (.v 3) (.lst false .nil)) (.call .frz 6 (.cons (.ix (.ix (.v 3) (.neg (.c (.int 1)))) (.c (.int 0))) (.cons (.v 4) (.cons (.v 1) (.cons (.v 6) .nil)))))) (.seq (.setix (.v 3) (.neg (.c (.int 1))) (.tup (.cons (.ix (.ix (.v 3) (.neg (.c (.int 1)))) (.c (.int 0))) (.cons (.v 4) .nil)))) .skip) (.seq (.ex (.mt .append (.v 3) (.cons (.tup (.cons (.v 4) (.cons (.v 4) .nil))) .nil))) .skip)) .skip))
    (p a l : Option Vl) (s : Int) (kn : Option (List Int)) : ∀ (ps : List Int) (acc : List (Int × Int)) (c : Option Vl), (∀ i ∈ ps, Sm i) → (∀ q ∈ acc, Sm q.1) → acc.length + ps.length < 1000 →
      ∃ c', forL (.nm 4) (evS (F (n + 1)) B) ((ps.map D.int).map .d) [p, some (.d (.int s)), a, some (.ref 0), c, l, some (.d (knV kn))] [cellP acc] = .ok (.nx [p, some (.d (.int s)), a, some (.ref 0), c', l, some (.d (knV kn))] [cellP (gr s kn ps acc)]) := by
  subst hB
  intro ps
  induction ps with
  | nil => intro acc c _ _ _; exact ⟨c, rfl⟩
  | cons i ps ih =>
    intro acc c hs ha hl
    simp only [List.length_cons] at hl
    have hi := hs i List.mem_cons_self
    have hs' := fun j hj => hs j (List.mem_cons_of_mem _ hj)
    rw [List.map_cons, List.map_cons, forL_cons (e' := [p, some (.d (.int s)), a, some (.ref 0), some (.d (.int i)), l, some (.d (knV kn))]) rfl]
    rcases List.eq_nil_or_concat acc with rfl | ⟨pre, ⟨f, b⟩, rfl⟩
    · obtain ⟨c', h⟩ := ih [(i, i)] (some (.d (.int i))) hs' (fun q hq => by rw [List.mem_singleton.mp hq]; exact hi) (by simp; omega)
      refine ⟨c', ?_⟩
      have e : gr s kn (i :: ps) [] = gr s kn ps [(i, i)] := rfl
      rw [e, ← h]
      simp [lstf, dats, ne_P2, tupf, app_cellP (l := []) (r := []) (a := i) (b := i) (by decide)]
    · rw [List.concat_eq_append] at ha hl ⊢
      have hf : Sm f := ha (f, b) (by simp)
      have ne : cmpD .ne (.lst (P2 (pre ++ [(f, b)]))) (.lst []) = some true := by rw [ne_P2]; simp
      have e : gr s kn (i :: ps) (pre ++ [(f, b)]) = if carried f i s kn then gr s kn ps (pre ++ [(f, i)]) else gr s kn ps (pre ++ [(f, b)] ++ [(i, i)]) := by
        show (match (pre ++ [(f, b)]).getLast? with | none => _ | some (a, b) => _) = _
        simp
      rw [e]
      simp only [List.length_append, List.length_cons, List.length_nil] at hl
      cases hc : carried f i s kn with
      | true =>
        obtain ⟨c', h⟩ := ih (pre ++ [(f, i)]) (some (.d (.int i))) hs' (fun q hq => by
          rcases List.mem_append.mp hq with hq | hq
          · exact ha q (List.mem_append_left _ hq)
          · rw [List.mem_singleton.mp hq]; exact hf) (by simp; omega)
        refine ⟨c', ?_⟩
        rw [if_pos rfl, ← h]
        simp [lstf, dats, ne, tupf, ix_last, ix_tup0, exLen, c_carried kn hf hi, hc, setixf_of set_last]
      | false =>
        obtain ⟨c', h⟩ := ih (pre ++ [(f, b)] ++ [(i, i)]) (some (.d (.int i))) hs' (fun q hq => by
          rcases List.mem_append.mp hq with hq | hq
          · exact ha q hq
          · rw [List.mem_singleton.mp hq]; exact hi) (by simp; omega)
        refine ⟨c', ?_⟩
        rw [if_neg (by decide), ← h]
        simp [lstf, dats, ne, tupf, ix_last, ix_tup0, exLen, c_carried kn hf hi, hc, app_cellP (l := pre ++ [(f, b)]) (r := []) (a := i) (b := i) (by simp; omega)]
end EV

end
section
set_option maxRecDepth 1000000
set_option linter.all false
namespace EV
theorem callN_plain {fn : Fn} {f n : Nat} {vs : List Vl} {st : Store} (hf : fns[f]? = some (.plain fn)) : callN fns 1000 (n + 1) f vs st = runFn (F n) fn vs st := by
  show (match fns[f]? with | some (.plain fn) => _ | some .draw => _ | some .spring => _ | none => _) = _
  rw [hf]
def finN : Out → E Vl
    | .rt v s => .ok (.v v s)
    | .nx _ s => .ok (.v (.d .non) s)
    | .x c fs _ s => .ok (.x c fs s)
    | _ => .err
theorem runFn_full {G : Cfg} {fn : Fn} {vs : List Vl} {st : Store} (h : vs.length = fn.ps) : runFn G fn vs st = R.bind (evS G fn.body (vs.map some ++ List.replicate (fn.slots - fn.ps) none) st) finN := by
  have hfill : fill fn vs = vs := by
    unfold fill
    rw [h, Nat.add_sub_cancel, List.drop_length]
    simp
  unfold runFn
  rw [hfill, if_pos h]
  rfl
@[simp] theorem finN_rt (v : Vl) (s : Store) : finN (.rt v s) = .ok (.v v s) := rfl
@[simp] theorem finN_x (c : Nat) (fs : List D) (e : Env) (s : Store) : finN (.x c fs e s) = .ok (.x c fs s) := rfl
theorem ret_ok {α : Type} (a : α) (s : Store) : (ret a s : E α) = .ok (.v a s) := rfl
section
variable {n : Nat} {p a e : D} {s : Int} {l : List Int} {kn : Option (List Int)}
theorem letters_ok (h : callE (F (n + 1)) .frz 5 [.d p, .d (.int s), .d a] [] = ret (.d (.tup [I l, knV kn])) []) (hl : ∀ i ∈ l, Sm i) (hn : l.length < 1000) :
    callN fns 1000 (n + 2) 7 [.d p, .d (.int s), .d a] [] = .ok (.v (.ref 0) [cellP (gr s kn l [])]) := by
  rw [callN_plain (fn := fd_letters) rfl, runFn_full rfl]
  obtain ⟨c', hq⟩ := letters_loop (n := n) _ rfl (some (.d p)) (some (.d a)) (some (.d (I l))) s kn l [] none hl (fun q hq => by cases hq) (by simpa using hn)
  have hset : setf (.tp (.cons (.nm 5) (.cons (.nm 6) .nil))) [some (.d p), some (.d (.int s)), some (.d a), none, none, none, none] (.d (.tup [I l, knV kn])) [] = .ok (.nx [some (.d p), some (.d (.int s)), some (.d a), none, none, some (.d (I l)), some (.d (knV kn))] []) := rfl
  simp [fd_letters, ir_letters, exLen, h, hset, lstmf, forR, itsOf]
  rw [show (Option.some (Cell.lst [])) = cellP [] from rfl]
  simp only [List.map_map] at hq ⊢
  rw [hq]
  simp
theorem letters_x {c : Nat} {fs : List D} {s : D} (h : callE (F (n + 1)) .frz 5 [.d p, .d s, .d a] [] = .ok (.x c fs [])) : callN fns 1000 (n + 2) 7 [.d p, .d s, .d a] [] = .ok (.x c fs []) := by
  rw [callN_plain (fn := fd_letters) rfl, runFn_full rfl]
  simp [fd_letters, ir_letters, exLen, h]
theorem letters_2 {s : D} {m : Nat} : callN fns 1000 m 7 [.d p, .d s] [] = callN fns 1000 m 7 [.d p, .d s, .d .non] [] := by
  cases m with
  | zero => rfl
  | succ m => rw [callN_plain (fn := fd_letters) rfl, callN_plain (fn := fd_letters) rfl]; rfl
end
/-! calls from what callN says -/
theorem frz_of {n f : Nat} {ds : List D} {st s' : Store} {v : Vl} {x : D} (h : callN fns 1000 n f (ds.map .d) [] = .ok (.v v s')) (hs : snap s' v = some x) : callE (F n) .frz f (ds.map .d) st = ret (.d x) st := by
  unfold callE
  dsimp only
  rw [dats_map]
  dsimp only
  rw [h, R_bind_ok]
  dsimp only
  rw [hs]; rfl
theorem frz_x {n f c : Nat} {ds fs : List D} {st s' : Store} (h : callN fns 1000 n f (ds.map .d) [] = .ok (.x c fs s')) : callE (F n) .frz f (ds.map .d) st = .ok (.x c fs st) := by
  unfold callE
  dsimp only
  rw [dats_map]
  dsimp only
  rw [h, R_bind_ok]
theorem adopt_of {n f r : Nat} {ds xs : List D} {st s' : Store} (h : callN fns 1000 n f (ds.map .d) [] = .ok (.v (.ref r) s')) (hs : snap s' (.ref r) = some (.lst xs)) : callE (F n) .adopt f (ds.map .d) st = ret (.ref st.length) (st ++ [some (.lst (xs.map .d))]) := by
  unfold callE
  dsimp only
  rw [dats_map]
  dsimp only
  rw [h, R_bind_ok]
  dsimp only
  rw [hs]
/-- a comprehension whose list is a mutable thing -/
theorem lc_mapT {F : Cfg} {own : List Nat} {tg : Tg} {it x : Ex} {e : Env} {st : Store} {α : Type} (xs : List α) (v : α → Vl) (g : α → D) {w : Vl} (hit : evE F it e st = ret w st) (hw : itsOf w = some (xs.map v))
    (hx : ∀ a ∈ xs, ∃ e', setTg tg (v a) (wipeE e own) = some e' ∧ evE F x e' st = ret (.d (g a)) st) (hl : xs.length ≤ 1000000) :
    evE F (.lc true own tg it (.c (.bl true)) x) e st = ret (.ref st.length) (st ++ [some (.lst ((xs.map g).map .d))]) := by
  have h := lc_map (F := F) (own := own) (tg := tg) (it := it) (x := x) (e := e) (st := st) xs v g hit hw hx hl
  rw [ev_lc, hit, bnd_ret] at h ⊢
  unfold lcRun at h ⊢
  rw [hw] at h ⊢
  dsimp only at h ⊢
  cases hc : compL (lcStep F own tg (.c (.bl true)) x e) (xs.map v) [] st with
  | ok o =>
    cases o with
    | v ys s' =>
      rw [hc] at h
      have h' : lcEnd false ys s' = ret (.d (.lst (xs.map g))) st := h
      have hb : bnd (R.ok (EO.v ys s')) (lcEnd true) = lcEnd true ys s' := rfl
      rw [hb]
      unfold lcEnd at h' ⊢
      cases hd : dats ys with
      | none => rw [hd] at h'; cases h'
      | some l =>
        rw [hd] at h'
        have h2 : (ret (Vl.d (.lst l)) s' : E Vl) = ret (.d (.lst (xs.map g))) st := h'
        injection h2 with h2
        injection h2 with h3 h4
        injection h3 with h3
        injection h3 with h3
        subst h3 h4
        have : ys = (xs.map g).map Vl.d := by
          have key : ∀ (ys : List Vl) (l : List D), dats ys = some l → ys = l.map .d := by
            intro ys
            induction ys with
            | nil => intro l h; cases h; rfl
            | cons y ys ih =>
              intro l h
              cases y <;> simp only [dats, reduceCtorEq] at h
              obtain ⟨l', e, rfl⟩ := Option.map_eq_some_iff.mp h
              rw [ih l' e]; rfl
          exact key ys _ hd
        subst this
        rfl
    | x c fs s' => rw [hc] at h; cases h
  | err => rw [hc] at h; cases h
  | draw m k => rw [hc] at h; cases h
section
variable {n : Nat} {p a e : D} {s : Int} {l : List (Int × Int)}
theorem apart_ok (h : callE (F (n + 1)) .frz 7 [.d p, .d (.int s), .d a] [] = ret (.d (.lst (P2 l))) []) (hn : l.length < 1000) :
    callN fns 1000 (n + 2) 8 [.d p, .d (.int s), .d a] [] = .ok (.v (.ref 0) [cellI (l.map (·.1))]) := by
  rw [callN_plain (fn := fd_pages_apart) rfl, runFn_full rfl]
  have hlc := lc_mapT (F := F (n + 1)) (own := [3, 4]) (tg := .tp (.cons (.nm 3) (.cons (.nm 4) .nil))) (it := .call .frz 7 (.cons (.v 0) (.cons (.v 1) (.cons (.v 2) .nil)))) (x := .v 3) (e := [some (.d p), some (.d (.int s)), some (.d a), none, none]) (st := []) l
    (fun q => .d (.tup [.int q.1, .int q.2])) (fun q => .int q.1) (w := .d (.lst (P2 l))) (by simp [exLen, h]) (by simp [itsOf, P2]) (fun q _ => ⟨[some (.d p), some (.d (.int s)), some (.d a), some (.d (.int q.1)), some (.d (.int q.2))], rfl, by simp⟩) (by omega)
  simp [fd_pages_apart, ir_pages_apart, hlc]
  simp [cellI]
theorem apart_x {c : Nat} {fs : List D} {s : D} (h : callE (F (n + 1)) .frz 7 [.d p, .d s, .d a] [] = .ok (.x c fs [])) : callN fns 1000 (n + 2) 8 [.d p, .d s, .d a] [] = .ok (.x c fs []) := by
  rw [callN_plain (fn := fd_pages_apart) rfl, runFn_full rfl]
  simp [fd_pages_apart, ir_pages_apart, ev_lc, exLen, h]
theorem apart_2 {s : D} {m : Nat} : callN fns 1000 m 8 [.d p, .d s] [] = callN fns 1000 m 8 [.d p, .d s, .d .non] [] := by
  cases m with
  | zero => rfl
  | succ m => rw [callN_plain (fn := fd_pages_apart) rfl, callN_plain (fn := fd_pages_apart) rfl]; rfl
end
end EV

end
section
set_option maxRecDepth 1000000
set_option linter.all false
namespace EV
def smB (i : Int) : Bool := decide (-1000 < i) && decide (i < 1000)
theorem smB_of {i : Int} (h : smB i = true) : Sm i := by simpa [smB, Sm] using h
def yOk : D → Bool
  | .int i => smB i
  | .strm => false
  | _ => true
def xOk : D → Bool
  | .int i => smB i
  | .strm => false
  | .lst l => decide (l.length < 1000) && l.all yOk
  | .tup l => decide (l.length < 1000) && l.all yOk
  | _ => true
def tOk : D → Bool
  | .strm => false
  | .lst l => decide (l.length < 1000) && l.all xOk
  | .tup l => decide (l.length < 1000) && l.all xOk
  | _ => true
theorem yOk_strm {d : D} (h : yOk d = true) : isStrm d = false := by cases d <;> first | rfl | cases h
theorem xOk_strm {d : D} (h : xOk d = true) : isStrm d = false := by cases d <;> first | rfl | cases h
theorem tOk_strm {d : D} (h : tOk d = true) : isStrm d = false := by cases d <;> first | rfl | cases h
theorem tOk_items {d : D} (h : tOk d = true) : (itemsD d).length < 1000 ∧ ∀ x ∈ itemsD d, xOk x = true := by
  cases d <;> first
    | (exact ⟨(show (0 : Nat) < 1000 by decide), fun x hx => absurd hx List.not_mem_nil⟩)
    | (simp only [tOk, Bool.and_eq_true, decide_eq_true_eq, List.all_eq_true] at h; exact h)
theorem xOk_items {d : D} (h : xOk d = true) : (itemsD d).length < 1000 ∧ ∀ x ∈ itemsD d, yOk x = true := by
  cases d <;> first
    | (exact ⟨(show (0 : Nat) < 1000 by decide), fun x hx => absurd hx List.not_mem_nil⟩)
    | (simp only [xOk, Bool.and_eq_true, decide_eq_true_eq, List.all_eq_true] at h; exact h)
theorem its_seq {d : D} (h : isSeq d = true) : itsOf (.d d) = some ((itemsD d).map .d) := by
  cases d <;> first | rfl | cases h
theorem len_seq {d : D} {st : Store} (h : isSeq d = true) : biE .len [.d d] st = ret (.d (.int ((itemsD d).length : Int))) st := by
  have hh : lenOf st (.d d) = some (itemsD d).length := by
    cases d <;> first
      | (simp [lenOf, itemsOf, itemsD]; done)
      | cases h
  show lift ((lenOf st (.d d)).map _) st = _
  rw [hh]; rfl
theorem eq_int (i j : Int) : cmpD .eq (.int i) (.int j) = some (decide (i = j)) := by
  have h : cmpD .eq (.int i) (.int j) = some (i == j) := rfl
  rw [h]; rfl
theorem ne_int (i j : Int) : cmpD .ne (.int i) (.int j) = some (!decide (i = j)) := by
  have h : cmpD .ne (.int i) (.int j) = some (!(i == j)) := rfl
  rw [h]; rfl
/-! two sources -/
def lc2Step (F : Cfg) (own own1 : List Nat) (tg : Tg) (cond : Ex) (tg1 : Tg) (it1 cond1 x : Ex) (e : Env) (v : Vl) (acc : List Vl) (st : Store) : E (List Vl) := match setTg tg v (wipeE e own) with
          | none => .err
          | some e2 => bnd (evE F cond e2 st) fun t st => match truth t with
            | none => .err
            | some false => ret acc st
            | some true => bnd (evE F it1 e2 st) fun w1 st => match itsOf w1 with
              | none => .err
              | some vs1 => compL (lcStep F own1 tg1 cond1 x e2) vs1 acc st
def lc2Run (F : Cfg) (m : Bool) (own own1 : List Nat) (tg : Tg) (cond : Ex) (tg1 : Tg) (it1 cond1 x : Ex) (e : Env) (w : Vl) (st : Store) : E Vl := match itsOf w with
      | none => .err
      | some vs => bnd (outL (lc2Step F own own1 tg cond tg1 it1 cond1 x e) vs [] st) (lcEnd m)
theorem ev_lc2_eq {F : Cfg} {e : Env} {st : Store} (m : Bool) (own own1 : List Nat) (tg : Tg) (it cond : Ex) (tg1 : Tg) (it1 cond1 x : Ex) : evE F (.lc2 m own own1 tg it cond tg1 it1 cond1 x) e st = bnd (evE F it e st) (lc2Run F m own own1 tg cond tg1 it1 cond1 x e) := rfl
theorem ev_lc2 {F : Cfg} {e : Env} {st : Store} {own own1 : List Nat} {tg tg1 : Tg} {it it1 x : Ex} {α β : Type} (xs : List α) (v : α → Vl) (inn : α → List β) (u : α → β → Vl) (g : α → β → D) {w : Vl} (hit : evE F it e st = ret w st) (hw : itsOf w = some (xs.map v))
    (hx : ∀ a ∈ xs, ∃ e2 w1, setTg tg (v a) (wipeE e own) = some e2 ∧ evE F it1 e2 st = ret w1 st ∧ itsOf w1 = some ((inn a).map (u a)) ∧ (inn a).length < 1000 ∧ ∀ c ∈ inn a, ∃ e', setTg tg1 (u a c) (wipeE e2 own1) = some e' ∧ evE F x e' st = ret (.d (g a c)) st) (hl : xs.length < 1000) :
    evE F (.lc2 false own own1 tg it (.c (.bl true)) tg1 it1 (.c (.bl true)) x) e st = ret (.d (.lst (xs.flatMap fun a => (inn a).map (g a)))) st := by
  rw [ev_lc2_eq, hit, bnd_ret]
  unfold lc2Run
  rw [hw]
  dsimp only
  have inner : ∀ (e2 : Env) (a : α) (cs : List β) (acc : List Vl), (∀ c ∈ cs, ∃ e', setTg tg1 (u a c) (wipeE e2 own1) = some e' ∧ evE F x e' st = ret (.d (g a c)) st) → acc.length + cs.length < 1000000 →
      compL (lcStep F own1 tg1 (.c (.bl true)) x e2) (cs.map (u a)) acc st = ret (acc ++ cs.map fun c => Vl.d (g a c)) st := by
    intro e2 a cs
    induction cs with
    | nil => intro acc _ _; simp [compL]
    | cons c cs ih =>
      intro acc hc hl
      simp only [List.length_cons] at hl
      obtain ⟨e', h1, h2⟩ := hc c List.mem_cons_self
      rw [List.map_cons]
      unfold compL
      have hs : lcStep F own1 tg1 (.c (.bl true)) x e2 (u a c) st = ret (some (.d (g a c))) st := by
        unfold lcStep; rw [h1]; simp [h2]
      rw [hs, R_bind_ret]
      dsimp only
      rw [if_pos (by omega), ih _ (fun b hb => hc b (List.mem_cons_of_mem _ hb)) (by simp; omega)]
      simp
  have outer : ∀ (ys : List α) (acc : List Vl), (∀ a ∈ ys, a ∈ xs) → acc.length + 1000 * ys.length < 1000000 →
      outL (lc2Step F own own1 tg (.c (.bl true)) tg1 it1 (.c (.bl true)) x e) (ys.map v) acc st = ret (acc ++ ys.flatMap fun a => (inn a).map fun c => Vl.d (g a c)) st := by
    intro ys
    induction ys with
    | nil => intro acc _ _; simp [outL]
    | cons a ys ih =>
      intro acc hm hl
      simp only [List.length_cons] at hl
      obtain ⟨e2, w1, h1, h2, h3, h4, h5⟩ := hx a (hm a List.mem_cons_self)
      rw [List.map_cons]
      unfold outL
      have hin := inner e2 a (inn a) acc h5 (by omega)
      have hs : lc2Step F own own1 tg (.c (.bl true)) tg1 it1 (.c (.bl true)) x e (v a) acc st = ret (acc ++ (inn a).map fun c => Vl.d (g a c)) st := by
        unfold lc2Step
        rw [h1]
        dsimp only
        rw [ev_c, bnd_ret]
        dsimp only [truth]
        rw [h2, bnd_ret, h3]
        exact hin
      rw [hs, R_bind_ret]
      dsimp only
      rw [ih _ (fun b hb => hm b (List.mem_cons_of_mem _ hb)) (by simp; omega)]
      simp
  rw [outer xs [] (fun a h => h) (by simp; omega), bnd_ret]
  unfold lcEnd
  have hd : dats ([] ++ xs.flatMap fun a => (inn a).map fun c => Vl.d (g a c)) = some (xs.flatMap fun a => (inn a).map (g a)) := by
    rw [List.nil_append, show (xs.flatMap fun a => (inn a).map fun c => Vl.d (g a c)) = (xs.flatMap fun a => (inn a).map (g a)).map Vl.d by simp [List.map_flatMap]; rfl, dats_map]
  rw [hd]; rfl
end EV

end
section
set_option maxRecDepth 1000000
set_option linter.all false
namespace EV
/-! ### are_letters -/
def p2 (x : D) : Bool := isSeq x && decide ((itemsD x).length = 2)
def pn (x : D) : Bool := (itemsD x).all isNum
def pc (s : Int) (kn : Option (List Int)) (x : D) : Bool := match itemsD x with
  | [.int a, .int b] => carried a b s kn
  | _ => false
def cov (p : Int) (x : D) : Bool := match itemsD x with
  | [.int a, .int b] => decide (a ≤ p) && decide (p ≤ b)
  | _ => false
def AL (ps : List Int) (s : Int) (kn : Option (List Int)) (T : D) : Bool := isSeq T && (itemsD T).all (fun x => p2 x && pn x && pc s kn x) && ps.all fun p => (itemsD T).any (cov p)
theorem two_items {x : D} (h : xOk x = true) (h1 : p2 x = true) (h2 : pn x = true) : ∃ a b, itemsD x = [.int a, .int b] ∧ Sm a ∧ Sm b ∧ isSeq x = true := by
  simp only [p2, Bool.and_eq_true, decide_eq_true_eq] at h1
  obtain ⟨h3, h4⟩ := h1
  obtain ⟨_, h5⟩ := xOk_items h
  unfold pn at h2
  match e : itemsD x, h4 with
  | [y, z], _ =>
    rw [e] at h2 h5
    simp only [List.all_cons, List.all_nil, Bool.and_true, Bool.and_eq_true] at h2
    have y5 := h5 y (by simp)
    have z5 := h5 z (by simp)
    cases y <;> simp only [isNum, Bool.false_eq_true, false_and, reduceCtorEq] at h2
    cases z <;> simp only [isNum, Bool.false_eq_true, and_false, reduceCtorEq] at h2
    exact ⟨_, _, rfl, smB_of y5, smB_of z5, h3⟩
theorem dec2 (k : Nat) : decide ((k : Int) = 2) = decide (k = 2) := by
  by_cases h : k = 2
  · subst h; rfl
  · have : ¬ (k : Int) = 2 := by omega
    rw [decide_eq_false h, decide_eq_false this]
theorem map_bl {α : Type} (xs : List α) (f : α → Bool) : xs.map (fun x => D.bl (f x)) = (xs.map f).map D.bl := by simp
theorem all_lc {st : Store} {α : Type} (xs : List α) (f : α → Bool) : biE .all [.d (.lst (xs.map fun x => .bl (f x)))] st = ret (.d (.bl (xs.all f))) st := by
  rw [map_bl, bi_all, all_id]
theorem any_lc {st : Store} {α : Type} (xs : List α) (f : α → Bool) : biE .any [.d (.lst (xs.map fun x => .bl (f x)))] st = ret (.d (.bl (xs.any f))) st := by
  rw [map_bl, bi_any, any_id]
theorem all_lc2 {st : Store} {α β : Type} (xs : List α) (inn : α → List β) (f : α → β → Bool) : biE .all [.d (.lst (xs.flatMap fun a => (inn a).map fun b => .bl (f a b)))] st = ret (.d (.bl (xs.all fun a => (inn a).all (f a)))) st := by
  rw [show (xs.flatMap fun a => (inn a).map fun b => D.bl (f a b)) = (xs.flatMap fun a => (inn a).map (f a)).map D.bl by simp [List.map_flatMap]; rfl, bi_all]
  congr 3
  induction xs with
  | nil => rfl
  | cons a xs ih => simp [ih]
theorem cmp2_le {c : Store → E Vl} {st : Store} (a b d : Int) (h : c st = ret (.d (.int d)) st) : cmp2f .le .le c (.d (.int a)) (.d (.int b)) st = ret (.d (.bl (decide (a ≤ b) && decide (b ≤ d)))) st := by
  unfold cmp2f
  simp only [snap_d, cmp_le]
  by_cases h1 : a ≤ b
  · simp [h1, h, cmp_le]
  · simp [h1]
theorem setTg_2 {i j : Nat} {x : D} {a b : Int} {e : Env} (h : itemsD x = [.int a, .int b]) (hs : isSeq x = true) : setTg (.tp (.cons (.nm i) (.cons (.nm j) .nil))) (.d x) e = some ((e.set i (some (.d (.int a)))).set j (some (.d (.int b)))) := by
  cases x <;> simp only [isSeq, Bool.false_eq_true] at hs
  all_goals (simp only [itemsD] at h; subst h; rfl)
section
variable {n : Nat} {st : Store} {p a T : D} {s : Int} {l : List Int} {kn : Option (List Int)}
theorem c_are_letters (h : callE (F (n + 2)) .frz 5 [.d p, .d (.int s), .d a] [] = ret (.d (.tup [I l, knV kn])) []) (hl : l.length < 1000) (hT : tOk T = true) :
    callE (F (n + 3)) .frz 9 [.d p, .d (.int s), .d a, .d T] st = ret (.d (.bl (isSeq T && (itemsD T).all p2 && (itemsD T).all pn && (itemsD T).all (pc s kn) && l.all fun p => (itemsD T).any (cov p)))) st := by
  rw [call4 (fn := fd_are_letters) rfl rfl]
  have hset : setf (.tp (.cons (.nm 4) (.cons (.nm 5) .nil))) [some (.d p), some (.d (.int s)), some (.d a), some (.d T), none, none, none, none, none, none] (.d (.tup [I l, knV kn])) [] = .ok (.nx [some (.d p), some (.d (.int s)), some (.d a), some (.d T), some (.d (I l)), some (.d (knV kn)), none, none, none, none] []) := rfl
  have hTs := tOk_strm hT
  obtain ⟨tl, ti⟩ := tOk_items hT
  cases hq : isSeq T with
  | false => simp [fd_are_letters, ir_are_letters, exLen, h, hset, c_list hTs (n := n + 2) (by omega), hq]
  | true =>
    have s2 := lc_map (F := F (n + 2)) (own := [7]) (tg := .nm 7) (it := .v 3) (x := .bo true (.call .frz 0 (.cons (.v 7) .nil)) (.cmp .eq (.bi .len (.cons (.v 7) .nil)) (.c (.int 2)))) (e := [some (.d p), some (.d (.int s)), some (.d a), some (.d T), some (.d (I l)), some (.d (knV kn)), none, none, none, none]) (st := [])
      (itemsD T) (fun x => .d x) (fun x => .bl (p2 x)) (w := .d T) (by simp) (its_seq hq) (fun x hx => ⟨_, rfl, by
        have h1 := xOk_strm (ti x hx)
        simp [wipeE, exLen, c_list h1 (n := n + 2) (by omega), p2]
        cases hx2 : isSeq x with
        | false => simp
        | true => simp [len_seq hx2, eq_int, dec2]⟩) (by omega)
    cases h2 : (itemsD T).all p2 with
    | false => simp [fd_are_letters, ir_are_letters, exLen, h, hset, c_list hTs (n := n + 2) (by omega), hq, s2, all_lc, h2]
    | true =>
      rw [List.all_eq_true] at h2
      have h2' : (itemsD T).all p2 = true := List.all_eq_true.mpr h2
      have s3 := ev_lc2 (F := F (n + 2)) (own := [7, 6]) (own1 := [6]) (tg := .nm 7) (it := .v 3) (tg1 := .nm 6) (it1 := .v 7) (x := .call .frz 2 (.cons (.v 6) .nil)) (e := [some (.d p), some (.d (.int s)), some (.d a), some (.d T), some (.d (I l)), some (.d (knV kn)), none, none, none, none]) (st := [])
        (itemsD T) (fun x => .d x) (fun x => itemsD x) (fun x y => .d y) (fun x y => .bl (isNum y)) (w := .d T) (by simp) (its_seq hq) (fun x hx => by
          have hs2 := h2 x hx
          simp only [p2, Bool.and_eq_true, decide_eq_true_eq] at hs2
          obtain ⟨x1, x2⟩ := xOk_items (ti x hx)
          refine ⟨_, .d x, rfl, by simp [wipeE], its_seq hs2.1, by omega, fun y hy => ⟨_, rfl, ?_⟩⟩
          simp [wipeE, exLen, c_num (yOk_strm (x2 y hy)) (n := n + 2) (by omega)]) (by omega)
      have a3 : biE .all [.d (.lst ((itemsD T).flatMap fun a => (itemsD a).map fun y => .bl (isNum y)))] [] = ret (.d (.bl ((itemsD T).all pn))) [] := all_lc2 (itemsD T) itemsD fun _ y => isNum y
      cases h3 : (itemsD T).all pn with
      | false =>
        rw [h3] at a3
        simp [fd_are_letters, ir_are_letters, exLen, h, hset, c_list hTs (n := n + 2) (by omega), hq, s2, all_lc, h2', s3, a3, h3]
      | true =>
        rw [h3] at a3
        rw [List.all_eq_true] at h3
        have h3' : (itemsD T).all pn = true := List.all_eq_true.mpr h3
        have s4 := lc_map (F := F (n + 2)) (own := [8, 9]) (tg := .tp (.cons (.nm 8) (.cons (.nm 9) .nil))) (it := .v 3) (x := .call .frz 6 (.cons (.v 8) (.cons (.v 9) (.cons (.v 1) (.cons (.v 5) .nil))))) (e := [some (.d p), some (.d (.int s)), some (.d a), some (.d T), some (.d (I l)), some (.d (knV kn)), none, none, none, none]) (st := [])
          (itemsD T) (fun x => .d x) (fun x => .bl (pc s kn x)) (w := .d T) (by simp) (its_seq hq) (fun x hx => by
            obtain ⟨a, b, e1, e2, e3, e4⟩ := two_items (ti x hx) (h2 x hx) (h3 x hx)
            refine ⟨_, setTg_2 e1 e4, ?_⟩
            simp [wipeE, exLen, c_carried kn e2 e3, pc, e1]) (by omega)
        cases h4 : (itemsD T).all (pc s kn) with
        | false => simp [fd_are_letters, ir_are_letters, exLen, h, hset, c_list hTs (n := n + 2) (by omega), hq, s2, all_lc, h2', s3, a3, h3', s4, h4]
        | true =>
          have s5 : ∀ (i : Int), evE (F (n + 2)) (.lc false [8, 9] (.tp (.cons (.nm 8) (.cons (.nm 9) .nil))) (.v 3) (.c (.bl true)) (.cmp2 .le .le (.v 8) (.v 6) (.v 9))) [some (.d p), some (.d (.int s)), some (.d a), some (.d T), some (.d (I l)), some (.d (knV kn)), some (.d (.int i)), none, none, none] [] = ret (.d (.lst ((itemsD T).map fun x => .bl (cov i x)))) [] := fun i =>
            lc_map (itemsD T) (fun x => .d x) (fun x => .bl (cov i x)) (w := .d T) (by simp) (its_seq hq) (fun x hx => by
              obtain ⟨a, b, e1, e2, e3, e4⟩ := two_items (ti x hx) (h2 x hx) (h3 x hx)
              refine ⟨_, setTg_2 e1 e4, ?_⟩
              simp [wipeE, cov, e1]
              exact cmp2_le _ _ _ rfl) (by omega)
          have s6 := lc_map (F := F (n + 2)) (own := [6]) (tg := .nm 6) (it := .v 4) (x := .bi .any (.cons (.lc false [8, 9] (.tp (.cons (.nm 8) (.cons (.nm 9) .nil))) (.v 3) (.c (.bl true)) (.cmp2 .le .le (.v 8) (.v 6) (.v 9))) .nil)) (e := [some (.d p), some (.d (.int s)), some (.d a), some (.d T), some (.d (I l)), some (.d (knV kn)), none, none, none, none]) (st := [])
            l (fun i => .d (.int i)) (fun i => .bl ((itemsD T).any (cov i))) (w := .d (I l)) (by simp) (by simp [itsOf]) (fun i _ => ⟨_, rfl, by simp [wipeE, s5, any_lc]⟩) (by omega)
          simp [fd_are_letters, ir_are_letters, exLen, h, hset, c_list hTs (n := n + 2) (by omega), hq, s2, all_lc, h2', s3, a3, h3', s4, h4, s6]
end
end EV

end
section
set_option maxRecDepth 1000000
set_option linter.all false
namespace EV
def pgIn (l : List Int) (x : D) : Bool := match x with
  | .int i => decide (0 ≤ i) && decide (i ∈ l)
  | _ => false
def intsD (xs : List D) : List Int := xs.filterMap fun
  | .int i => some i
  | _ => none
def adj (s : Int) (kn : Option (List Int)) (qs : List Int) : Bool := (qs.zip qs.tail).all fun q => decide (q.1 < q.2) && !carried q.1 q.2 s kn
def pairw (s : Int) (kn : Option (List Int)) : List Int → Bool
  | [] => true
  | q :: qs => qs.all (fun o => !(decide (o ≤ q) || carried q o s kn)) && pairw s kn qs
theorem carried_mono {a b c s : Int} {kn : Option (List Int)} (h1 : a ≤ b) (h2 : b ≤ c) (h : carried a c s kn = true) : carried a b s kn = true := by
  unfold carried at h ⊢
  simp only [Bool.and_eq_true, Bool.not_eq_true', Bool.or_eq_false_iff, decide_eq_false_iff_not] at h ⊢
  obtain ⟨⟨h3, h4⟩, h5⟩ := h
  refine ⟨⟨by omega, by omega⟩, ?_⟩
  cases kn with
  | none => rfl
  | some xs =>
    simp only [List.all_eq_true, decide_eq_true_eq] at h5 ⊢
    intro x hx
    rw [mem_rng] at hx
    exact h5 x (mem_rng.mpr ⟨by omega, by omega⟩)
theorem adj_pairw (s : Int) (kn : Option (List Int)) : ∀ qs : List Int, adj s kn qs = pairw s kn qs
  | [] => rfl
  | [q] => rfl
  | q :: r :: qs => by
    have ih := adj_pairw s kn (r :: qs)
    have e : adj s kn (q :: r :: qs) = ((decide (q < r) && !carried q r s kn) && adj s kn (r :: qs)) := by
      simp [adj]
    rw [e, ih]
    have e2 : pairw s kn (q :: r :: qs) = ((r :: qs).all (fun o => !(decide (o ≤ q) || carried q o s kn)) && pairw s kn (r :: qs)) := rfl
    rw [e2]
    cases hp : pairw s kn (r :: qs) with
    | false => simp
    | true =>
      rw [Bool.and_true, Bool.and_true, List.all_cons]
      have hp2 : qs.all (fun o => !(decide (o ≤ r) || carried r o s kn)) = true := by
        have : (qs.all (fun o => !(decide (o ≤ r) || carried r o s kn)) && pairw s kn qs) = true := hp
        rw [Bool.and_eq_true] at this
        exact this.1
      rw [List.all_eq_true] at hp2
      by_cases h1 : q < r
      · cases h2 : carried q r s kn with
        | true => simp [h1]
        | false =>
          have h3 : ¬ r ≤ q := by omega
          have h4 : qs.all (fun o => !(decide (o ≤ q) || carried q o s kn)) = true := by
            rw [List.all_eq_true]
            intro o ho
            have h5 := hp2 o ho
            simp only [Bool.not_eq_true', Bool.or_eq_false_iff, decide_eq_false_iff_not] at h5 ⊢
            refine ⟨by omega, ?_⟩
            cases h6 : carried q o s kn with
            | false => rfl
            | true => rw [carried_mono (by omega) (by omega) h6] at h2; cases h2
          rw [h4, decide_eq_true h1, decide_eq_false h3]; rfl
      · have h3 : r ≤ q := by omega
        simp [h1, h3]
theorem ints_of_in {l : List Int} : ∀ {xs : List D}, xs.all (pgIn l) = true → xs = (intsD xs).map .int ∧ ∀ i ∈ intsD xs, i ∈ l
  | [], _ => ⟨rfl, fun i hi => by cases hi⟩
  | x :: xs, h => by
    rw [List.all_cons, Bool.and_eq_true] at h
    obtain ⟨e, hi⟩ := ints_of_in h.2
    have h1 := h.1
    cases x <;> simp only [pgIn, Bool.false_eq_true] at h1
    rename_i i
    rw [Bool.and_eq_true, decide_eq_true_eq, decide_eq_true_eq] at h1
    have ei : intsD (.int i :: xs) = i :: intsD xs := rfl
    rw [ei]
    exact ⟨congrArg (D.int i :: ·) e, fun j hj => by
      rcases List.mem_cons.mp hj with rfl | hj
      · exact h1.2
      · exact hi j hj⟩
def reS (T : D) (xs : List D) : D := match T with
  | .lst _ => .lst xs
  | .tup _ => .tup xs
  | d => d
theorem cut_from {α : Type} (xs : List α) (k : Nat) : cut xs (some (k : Int)) none = xs.drop k := by
  unfold cut sIx
  simp only [show ¬ (k : Int) < 0 by omega, if_false, Int.toNat_natCast]
  rw [List.take_of_length_le]
  · by_cases h : k ≤ xs.length
    · rw [Nat.min_eq_left h]
    · rw [Nat.min_eq_right (by omega), List.drop_length, List.drop_eq_nil_of_le (by omega)]
  · rw [List.length_drop]; exact Nat.le_refl _
theorem sl_from {T : D} (h : isSeq T = true) (k : Nat) {st : Store} : slf (.d T) (.d (.int (k : Int))) (fun st => ret (.its []) st) st = ret (.d (reS T ((itemsD T).drop k))) st := by
  cases T <;> simp only [isSeq, Bool.false_eq_true] at h
  all_goals
    unfold slf
    simp only [partOf, bnd_ret, snap_d, slD, cut_from, Option.map_some, lift_some]
    rfl
theorem reS_its {T : D} (h : isSeq T = true) (xs : List D) : itsOf (.d (reS T xs)) = some (xs.map .d) := by
  cases T <;> simp only [isSeq, Bool.false_eq_true] at h <;> rfl
theorem wk_zip {T : D} (h : isSeq T = true) (xs : List D) {st : Store} : wkE .zip [.d T, .d (reS T xs)] st = ret (.its (zip2 (itemsD T) xs)) st := by
  cases T <;> simp only [isSeq, Bool.false_eq_true] at h <;> rfl
theorem zip2_map (a b : List Int) : zip2 (a.map .int) (b.map .int) = (a.zip b).map fun q => Vl.d (.tup [.int q.1, .int q.2]) := by
  unfold zip2
  induction a generalizing b with
  | nil => rfl
  | cons x a ih =>
    cases b with
    | nil => rfl
    | cons y b => simp [ih]
theorem setTg_tup {i j : Nat} {a b : D} {e : Env} : setTg (.tp (.cons (.nm i) (.cons (.nm j) .nil))) (.d (.tup [a, b])) e = some ((e.set i (some (.d a))).set j (some (.d b))) := rfl
section
variable {n : Nat} {st : Store} {p a T : D} {s : Int} {l : List Int} {kn : Option (List Int)}
theorem c_are_apart (h : callE (F (n + 2)) .frz 5 [.d p, .d (.int s), .d a] [] = ret (.d (.tup [I l, knV kn])) []) (hT : tOk T = true) (hls : ∀ i ∈ l, Sm i) :
    callE (F (n + 3)) .frz 10 [.d p, .d (.int s), .d a, .d T] st = ret (.d (.bl (isSeq T && (itemsD T).all (pgIn l) && adj s kn (intsD (itemsD T))))) st := by
  rw [call4 (fn := fd_are_apart) rfl rfl]
  have hset : setf (.tp (.cons (.nm 4) (.cons (.nm 5) .nil))) [some (.d p), some (.d (.int s)), some (.d a), some (.d T), none, none, none, none, none] (.d (.tup [I l, knV kn])) [] = .ok (.nx [some (.d p), some (.d (.int s)), some (.d a), some (.d T), some (.d (I l)), some (.d (knV kn)), none, none, none] []) := rfl
  have hTs := tOk_strm hT
  obtain ⟨tl, ti⟩ := tOk_items hT
  cases hq : isSeq T with
  | false => simp [fd_are_apart, ir_are_apart, exLen, h, hset, c_list hTs (n := n + 2) (by omega), hq]
  | true =>
    have s2 := lc_map (F := F (n + 2)) (own := [8]) (tg := .nm 8) (it := .v 3) (x := .bo true (.call .frz 2 (.cons (.v 8) .nil)) (.cmp .isin (.v 8) (.v 4))) (e := [some (.d p), some (.d (.int s)), some (.d a), some (.d T), some (.d (I l)), some (.d (knV kn)), none, none, none]) (st := [])
      (itemsD T) (fun x => .d x) (fun x => .bl (pgIn l x)) (w := .d T) (by simp) (its_seq hq) (fun x hx => ⟨_, rfl, by
        have h1 := xOk_strm (ti x hx)
        simp [wipeE, exLen, c_num h1 (n := n + 2) (by omega)]
        cases x <;> simp [isNum, pgIn, in_I]
        rename_i i
        by_cases h0 : 0 ≤ i <;> simp [h0]⟩) (by omega)
    cases h2 : (itemsD T).all (pgIn l) with
    | false => simp [fd_are_apart, ir_are_apart, exLen, h, hset, c_list hTs (n := n + 2) (by omega), hq, s2, all_lc, h2]
    | true =>
      obtain ⟨e1, e2⟩ := ints_of_in h2
      have hz : zip2 (itemsD T) ((itemsD T).drop 1) = ((intsD (itemsD T)).zip (intsD (itemsD T)).tail).map fun q => Vl.d (.tup [.int q.1, .int q.2]) := by
        rw [← zip2_map]
        congr 1
        rw [List.drop_one]
        conv => lhs; rw [e1]
        rw [List.map_tail]
      have s3 := lc_map (F := F (n + 2)) (own := [6, 7]) (tg := .tp (.cons (.nm 6) (.cons (.nm 7) .nil))) (it := .wk .zip (.cons (.v 3) (.cons (.sl (.v 3) (.c (.int 1)) .nil) .nil))) (x := .bo true (.cmp .lt (.v 6) (.v 7)) (.not (.call .frz 6 (.cons (.v 6) (.cons (.v 7) (.cons (.v 1) (.cons (.v 5) .nil))))))) (e := [some (.d p), some (.d (.int s)), some (.d a), some (.d T), some (.d (I l)), some (.d (knV kn)), none, none, none]) (st := [])
        ((intsD (itemsD T)).zip (intsD (itemsD T)).tail) (fun q => Vl.d (.tup [.int q.1, .int q.2])) (fun q => .bl (decide (q.1 < q.2) && !carried q.1 q.2 s kn)) (w := .its (zip2 (itemsD T) ((itemsD T).drop 1)))
        (by
          have this : slf (.d T) (.d (.int 1)) (fun st => ret (.its []) st) [] = ret (.d (reS T ((itemsD T).drop 1))) [] := sl_from hq 1
          simp only [ev_wk, ev_cons, ev_v, envGet_s, envGet_0, Option.map_some, rdV_d, lift_some, bnd_ret, ev_sl, ev_c, ev_nil, this, consf_its, wkf_its, wk_zip hq])
        (by rw [hz]; rfl) (fun q hqm => by
          have m1 := List.of_mem_zip hqm
          have q1 := hls _ (e2 _ m1.1)
          have q2 := hls _ (e2 _ (List.mem_of_mem_tail m1.2))
          refine ⟨_, setTg_tup, ?_⟩
          simp [wipeE, exLen, cmp_lt, c_carried kn q1 q2]
          by_cases hlt : q.1 < q.2 <;> simp [hlt]) (by
            have : (intsD (itemsD T)).length ≤ (itemsD T).length := List.length_filterMap_le _ _
            simp [List.length_zip]; omega)
      simp [fd_are_apart, ir_are_apart, exLen, h, hset, c_list hTs (n := n + 2) (by omega), hq, s2, all_lc, h2, s3]
      rfl
end
end EV

end
section
set_option maxRecDepth 1000000
set_option linter.all false
namespace EV
def xok (s : Int) (kn : Option (List Int)) (x : D) : Bool := p2 x && pn x && pc s kn x
theorem ix_0 {x : D} {a b : Int} {st : Store} (h : itemsD x = [.int a, .int b]) (hs : isSeq x = true) : ixD st (.d x) (.int 0) = some (.d (.int a)) := by
  cases x <;> simp only [isSeq, Bool.false_eq_true] at hs
  all_goals (simp only [itemsD] at h; subst h; rfl)
theorem ix_1 {x : D} {a b : Int} {st : Store} (h : itemsD x = [.int a, .int b]) (hs : isSeq x = true) : ixD st (.d x) (.int 1) = some (.d (.int b)) := by
  cases x <;> simp only [isSeq, Bool.false_eq_true] at hs
  all_goals (simp only [itemsD] at h; subst h; rfl)
theorem dec2n (k : Nat) : (!decide ((k : Int) = 2)) = !decide (k = 2) := by rw [dec2]
section
variable {n : Nat} {st : Store} {T : D} {s : Int} {ps : List Int} {am : Option (List Int)}
theorem lal_loop (B : St) (hB : B = (.seq (.iff (.bo false (.not (.isi (.v 4) [.list, .tuple])) (.bo false (.cmp .ne (.bi .len (.cons (.v 4) .nil)) (.c (.int 2))) (.not (.bi .all (.cons (.lc false [5] (.nm 5) (.v 4) (.c (.bl true)) (.call .frz 18 (.cons (.v 5) .nil))) .nil))))) (.seq (.ret (.c (.bl false))) .skip) .skip) (.seq (.iff (.not (.call .frz 19 (.cons (.ix (.v 4) (.c (.int 0))) (.cons (.ix (.v 4) (.c (.int 1))) (.cons (.v 1) (.cons (.v 2) .nil)))))) (.seq (.ret (.c (.bl false))) .skip) .skip) .skip)))
    (p t : Option Vl) : ∀ (xs : List D) (c : Option Vl), (∀ x ∈ xs, xOk x = true) →
      ∃ c', forL (.nm 4) (evS (F (n + 1)) B) (xs.map .d) [p, some (.d (.int s)), some (.d (amV am)), t, c, none] [] = if xs.all (xok s am) then .ok (.nx [p, some (.d (.int s)), some (.d (amV am)), t, c', none] []) else .ok (.rt (.d (.bl false)) []) := by
  subst hB
  intro xs
  induction xs with
  | nil => intro c _; exact ⟨c, rfl⟩
  | cons x xs ih =>
    intro c hx
    have x1 := hx x List.mem_cons_self
    have xs1 := xOk_strm x1
    obtain ⟨xl, xi⟩ := xOk_items x1
    rw [List.map_cons, forL_cons (e' := [p, some (.d (.int s)), some (.d (amV am)), t, some (.d x), none]) rfl]
    obtain ⟨c', h⟩ := ih (some (.d x)) (fun y hy => hx y (List.mem_cons_of_mem _ hy))
    cases hq : isSeq x with
    | false =>
      refine ⟨none, ?_⟩
      have : xok s am x = false := by simp [xok, p2, hq]
      simp [xs1, isTy_list, hq, this]
    | true =>
      by_cases h2 : (itemsD x).length = 2
      · have s3 := lc_map (F := F (n + 1)) (own := [5]) (tg := .nm 5) (it := .v 4) (x := .call .frz 18 (.cons (.v 5) .nil)) (e := [p, some (.d (.int s)), some (.d (amV am)), t, some (.d x), none]) (st := [])
          (itemsD x) (fun x => .d x) (fun x => .bl (isNum x)) (w := .d x) (by simp) (its_seq hq) (fun y hy => ⟨_, rfl, by
            simp [wipeE, exLen, c_page (yOk_strm (xi y hy)) (n := n + 1) (by omega)]⟩) (by omega)
        have a3 := all_lc (st := []) (itemsD x) isNum
        cases h3 : pn x with
        | false =>
          refine ⟨none, ?_⟩
          have : xok s am x = false := by simp [xok, h3]
          have h3' : (itemsD x).all isNum = false := h3
          rw [h3'] at a3
          simp [xs1, isTy_list, hq, len_seq hq, ne_int, h2, s3, a3, this]
        | true =>
          have h3' : (itemsD x).all isNum = true := h3
          rw [h3'] at a3
          have hp2 : p2 x = true := by simp [p2, hq, h2]
          obtain ⟨a, b, e1, e2, e3, e4⟩ := two_items x1 hp2 h3
          have hxok : xok s am x = carried a b s am := by simp [xok, hp2, h3, pc, e1]
          cases hc : carried a b s am with
          | false =>
            refine ⟨none, ?_⟩
            rw [hc] at hxok
            simp [xs1, isTy_list, hq, len_seq hq, ne_int, h2, s3, a3, ix_0 e1 e4, ix_1 e1 e4, exLen, c_one am e2 e3, hc, hxok]
          | true =>
            refine ⟨c', ?_⟩
            rw [hc] at hxok
            rw [List.all_cons, hxok, Bool.true_and, ← h]
            simp [xs1, isTy_list, hq, len_seq hq, ne_int, h2, s3, a3, ix_0 e1 e4, ix_1 e1 e4, exLen, c_one am e2 e3, hc]
      · refine ⟨none, ?_⟩
        have : xok s am x = false := by simp [xok, p2, h2]
        have h2' : ¬ ((itemsD x).length : Int) = 2 := by omega
        simp [xs1, isTy_list, hq, len_seq hq, ne_int, h2', this]
theorem c_law_letters (hl : ps.length < 1000) (hT : tOk T = true) :
    callE (F (n + 2)) .frz 20 [.d (I ps), .d (.int s), .d (amV am), .d T] st = ret (.d (.bl (isSeq T && (itemsD T).all (xok s am) && ps.all fun p => (itemsD T).any (cov p)))) st := by
  rw [call4 (fn := fd__law_are_letters) rfl rfl]
  have hTs := tOk_strm hT
  obtain ⟨tl, ti⟩ := tOk_items hT
  cases hq : isSeq T with
  | false => simp [fd__law_are_letters, ir__law_are_letters, hTs, isTy_list, hq]
  | true =>
    obtain ⟨c', h⟩ := lal_loop (n := n) (s := s) (am := am) _ rfl (some (.d (I ps))) (some (.d T)) (itemsD T) none ti
    simp [fd__law_are_letters, ir__law_are_letters, hTs, isTy_list, hq, forR, its_seq hq]
    rw [h]
    cases hx : (itemsD T).all (xok s am) with
    | false => simp
    | true =>
      have hx' := hx
      rw [List.all_eq_true] at hx'
      have two : ∀ x ∈ itemsD T, ∃ a b, itemsD x = [.int a, .int b] ∧ isSeq x = true := fun x hm => by
        have h1 := hx' x hm
        simp only [xok, Bool.and_eq_true] at h1
        obtain ⟨a, b, e1, _, _, e4⟩ := two_items (ti x hm) h1.1.1 h1.1.2
        exact ⟨a, b, e1, e4⟩
      have s5 : ∀ (i : Int), evE (F (n + 1)) (.lc false [4] (.nm 4) (.v 3) (.c (.bl true)) (.cmp2 .le .le (.ix (.v 4) (.c (.int 0))) (.v 5) (.ix (.v 4) (.c (.int 1))))) [some (.d (I ps)), some (.d (.int s)), some (.d (amV am)), some (.d T), c', some (.d (.int i))] [] = ret (.d (.lst ((itemsD T).map fun x => .bl (cov i x)))) [] := fun i =>
        lc_map (itemsD T) (fun x => .d x) (fun x => .bl (cov i x)) (w := .d T) (by simp) (its_seq hq) (fun x hm => by
          obtain ⟨a, b, e1, e4⟩ := two x hm
          refine ⟨_, rfl, ?_⟩
          simp [wipeE, cov, e1, ix_0 e1 e4]
          exact cmp2_le _ _ _ (by simp [ix_1 e1 e4])) (by omega)
      have s6 := lc_map (F := F (n + 1)) (own := [5]) (tg := .nm 5) (it := .v 0) (x := .bi .any (.cons (.lc false [4] (.nm 4) (.v 3) (.c (.bl true)) (.cmp2 .le .le (.ix (.v 4) (.c (.int 0))) (.v 5) (.ix (.v 4) (.c (.int 1))))) .nil)) (e := [some (.d (I ps)), some (.d (.int s)), some (.d (amV am)), some (.d T), c', none]) (st := [])
        ps (fun i => .d (.int i)) (fun i => .bl ((itemsD T).any (cov i))) (w := .d (I ps)) (by simp) (by simp [itsOf]) (fun i _ => ⟨_, rfl, by simp [wipeE, s5, any_lc]⟩) (by omega)
      simp [s6, all_lc]
theorem lap_loop (hq : isSeq T = true) (full : List Int) (hf : itemsD T = full.map .int) (hsm : ∀ i ∈ full, Sm i) (hlen : full.length < 1000) (B : St) (hB : B = (.seq (.iff (.bi .any (.cons (.lc false [6] (.nm 6) (.sl (.v 3) (.bin .add (.v 4) (.c (.int 1))) .nil) (.c (.bl true)) (.bo false (.cmp .le (.v 6) (.v 5)) (.call .frz 19 (.cons (.v 5) (.cons (.v 6) (.cons (.v 1) (.cons (.v 2) .nil))))))) .nil)) (.seq (.ret (.c (.bl false))) .skip) .skip) .skip))
    (p : Option Vl) : ∀ (qs pre : List Int) (c d : Option Vl), full = pre ++ qs →
      ∃ c' d', forL (.tp (.cons (.nm 4) (.cons (.nm 5) .nil))) (evS (F (n + 1)) B) (enumK pre.length (qs.map .int)) [p, some (.d (.int s)), some (.d (amV am)), some (.d T), c, d, none] [] = if pairw s am qs then .ok (.nx [p, some (.d (.int s)), some (.d (amV am)), some (.d T), c', d', none] []) else .ok (.rt (.d (.bl false)) []) := by
  subst hB
  intro qs
  induction qs with
  | nil => intro pre c d _; exact ⟨c, d, rfl⟩
  | cons q qs ih =>
    intro pre c d hpre
    obtain ⟨c', d', h⟩ := ih (pre ++ [q]) (some (.d (.int (pre.length : Int)))) (some (.d (.int q))) (by rw [hpre]; simp)
    have hq1 : Sm q := hsm q (by rw [hpre]; simp)
    have hdrop : (itemsD T).drop (pre.length + 1) = qs.map .int := by
      rw [hf, hpre]
      simp [List.drop_append]
    have s3 := lc_map (F := F (n + 1)) (own := [6]) (tg := .nm 6) (it := .sl (.v 3) (.bin .add (.v 4) (.c (.int 1))) .nil) (x := .bo false (.cmp .le (.v 6) (.v 5)) (.call .frz 19 (.cons (.v 5) (.cons (.v 6) (.cons (.v 1) (.cons (.v 2) .nil)))))) (e := [p, some (.d (.int s)), some (.d (amV am)), some (.d T), some (.d (.int (pre.length : Int))), some (.d (.int q)), none]) (st := [])
      qs (fun o => .d (.int o)) (fun o => .bl (decide (o ≤ q) || carried q o s am)) (w := .d (reS T (qs.map .int)))
      (by
        have this : slf (.d T) (.d (.int ((pre.length : Int) + 1))) (fun st => ret (.its []) st) [] = ret (.d (reS T (qs.map .int))) [] := by
          have := sl_from (T := T) hq (pre.length + 1) (st := [])
          rw [hdrop] at this
          exact this
        simp [bin_add, this])
      (by rw [reS_its hq]; simp) (fun o ho => by
        have o1 : Sm o := hsm o (by rw [hpre]; simp [ho])
        refine ⟨_, rfl, ?_⟩
        simp [wipeE, exLen, cmp_le, c_one am hq1 o1]
        by_cases hle : o ≤ q <;> simp [hle]) (by
          have : qs.length ≤ full.length := by rw [hpre]; simp; omega
          omega)
    rw [List.map_cons]
    unfold enumK
    rw [forL_cons (e' := [p, some (.d (.int s)), some (.d (amV am)), some (.d T), some (.d (.int (pre.length : Int))), some (.d (.int q)), none]) rfl]
    have e : pairw s am (q :: qs) = (!(qs.any fun o => decide (o ≤ q) || carried q o s am) && pairw s am qs) := by
      show (qs.all _ && _) = _
      rw [List.not_any_eq_all_not]
    rw [e]
    cases ha : qs.any fun o => decide (o ≤ q) || carried q o s am with
    | true =>
      refine ⟨none, none, ?_⟩
      simp [s3, any_lc, ha]
    | false =>
      refine ⟨c', d', ?_⟩
      rw [Bool.not_false, Bool.true_and, ← h]
      simp [s3, any_lc, ha]
theorem c_law_apart (hl : ps.length < 1000) (hps : ∀ i ∈ ps, Sm i) (hT : tOk T = true) :
    callE (F (n + 2)) .frz 21 [.d (I ps), .d (.int s), .d (amV am), .d T] st = ret (.d (.bl (isSeq T && (itemsD T).all (pgIn ps) && pairw s am (intsD (itemsD T))))) st := by
  rw [call4 (fn := fd__law_are_apart) rfl rfl]
  have hTs := tOk_strm hT
  obtain ⟨tl, ti⟩ := tOk_items hT
  cases hq : isSeq T with
  | false => simp [fd__law_are_apart, ir__law_are_apart, hTs, isTy_list, hq]
  | true =>
    have s2 := lc_map (F := F (n + 1)) (own := [5]) (tg := .nm 5) (it := .v 3) (x := .bo true (.call .frz 18 (.cons (.v 5) .nil)) (.cmp .isin (.v 5) (.v 0))) (e := [some (.d (I ps)), some (.d (.int s)), some (.d (amV am)), some (.d T), none, none, none]) (st := [])
      (itemsD T) (fun x => .d x) (fun x => .bl (pgIn ps x)) (w := .d T) (by simp) (its_seq hq) (fun x hx => ⟨_, rfl, by
        have h1 := xOk_strm (ti x hx)
        simp [wipeE, exLen, c_page h1 (n := n + 1) (by omega)]
        cases x <;> simp [isNum, pgIn, in_I]
        rename_i i
        by_cases h0 : 0 ≤ i <;> simp [h0]⟩) (by omega)
    cases h2 : (itemsD T).all (pgIn ps) with
    | false => simp [fd__law_are_apart, ir__law_are_apart, hTs, isTy_list, hq, s2, all_lc, h2]
    | true =>
      obtain ⟨e1, e2⟩ := ints_of_in h2
      have hle : (intsD (itemsD T)).length ≤ (itemsD T).length := List.length_filterMap_le _ _
      obtain ⟨c', d', h⟩ := lap_loop (n := n) (s := s) (am := am) hq (intsD (itemsD T)) e1 (fun i hi => hps i (e2 i hi)) (by omega) _ rfl (some (.d (I ps))) (intsD (itemsD T)) [] none none rfl
      have hw : wkE .enumr [.d T] [] = ret (Vl.its (enumK 0 (itemsD T))) [] := by
        cases T <;> simp only [isSeq, reduceCtorEq] at hq
        all_goals (show ret (Vl.its (enum _)) _ = _; rw [enum_eq]; rfl)
      rw [← e1] at h
      simp [fd__law_are_apart, ir__law_are_apart, hTs, isTy_list, hq, s2, all_lc, h2, hw, forR, itsOf]
      rw [List.length_nil] at h
      rw [h]
      cases pairw s am (intsD (itemsD T)) <;> simp
end
end EV

end
section
set_option maxRecDepth 1000000
set_option linter.all false
namespace EV
/-! ### same -/
mutual
def samB : D → Nat → Bool
  | .non, _ => true
  | .bl _, _ => true
  | .int _, _ => true
  | .str s, _ => s.all fun c => decide (c < 128)
  | .lst xs, n => match n with
    | 0 => false
    | m + 1 => decide (xs.length < 1000) && samBs xs m
  | .tup xs, n => match n with
    | 0 => false
    | m + 1 => decide (xs.length < 1000) && samBs xs m
  | _, _ => false
def samBs : List D → Nat → Bool
  | [], _ => true
  | x :: xs, n => samB x n && samBs xs n
end
theorem samBs_mem : ∀ {xs : List D} {n : Nat}, samBs xs n = true → ∀ x ∈ xs, samB x n = true
  | [], _, _, x, h => by cases h
  | y :: ys, n, h, x, hx => by
    simp only [samBs, Bool.and_eq_true] at h
    rcases List.mem_cons.mp hx with rfl | hx
    · exact h.1
    · exact samBs_mem h.2 x hx
theorem zip2_self : ∀ xs : List D, zip2 xs xs = xs.map fun x => Vl.d (.tup [x, x])
  | [] => rfl
  | x :: xs => by
    have := zip2_self xs
    unfold zip2 at this ⊢
    rw [List.zipWith_cons_cons, this, List.map_cons]
theorem ne_bl (a : Bool) : cmpD .ne (.bl a) (.bl a) = some false := by cases a <;> rfl
theorem eq_bl (a : Bool) : cmpD .eq (.bl a) (.bl a) = some true := by cases a <;> rfl
theorem eq_str {s : List Nat} (h : (s.all fun c => decide (c < 128)) = true) : cmpD .eq (.str s) (.str s) = some true := by
  show (if _ then some (eqB _ _) else _) = _
  simp only [okB, h, Bool.and_self, if_true, eqB, beq_self_eq_true]
theorem c_same : ∀ (k : Nat) (d : D) (n : Nat) (st : Store), samB d k = true → k + 1 ≤ n → callE (F n) .frz 15 [.d d, .d d] st = ret (.d (.bl true)) st := by
  intro k
  induction k with
  | zero =>
    intro d n st hd hn
    obtain ⟨m, rfl⟩ := pred (n := n) (by omega)
    rw [call2 (fn := fd__law_same) rfl rfl]
    cases d <;> simp only [samB, Bool.false_eq_true] at hd
    case non => simp [fd__law_same, ir__law_same, isTy, tyOf, isStrm]; rfl
    case bl b => simp [fd__law_same, ir__law_same, isTy, tyOf, isStrm, eq_bl]
    case int i => simp [fd__law_same, ir__law_same, isTy, tyOf, isStrm, eq_bl, eq_int]
    case str s => simp [fd__law_same, ir__law_same, isTy, tyOf, isStrm, eq_str hd]
  | succ k ih =>
    intro d n st hd hn
    obtain ⟨m, rfl⟩ := pred (n := n) (by omega)
    rw [call2 (fn := fd__law_same) rfl rfl]
    have seq : ∀ (xs : List D) (T : D), isSeq T = true → itemsD T = xs → xs.length < 1000 → samBs xs k = true →
        evE (F m) (.lc false [2, 3] (.tp (.cons (.nm 2) (.cons (.nm 3) .nil))) (.wk .zip (.cons (.v 0) (.cons (.v 1) .nil))) (.c (.bl true)) (.call .frz 15 (.cons (.v 2) (.cons (.v 3) .nil)))) [some (.d T), some (.d T), none, none] [] = ret (.d (.lst (xs.map fun _ => .bl true))) [] := by
      intro xs T hT hx hl hs
      refine lc_map xs (fun x => Vl.d (.tup [x, x])) (fun _ => .bl true) (w := .its (zip2 xs xs)) ?_ (by rw [zip2_self]; rfl) (fun x hm => ⟨_, setTg_tup, ?_⟩) (by omega)
      · subst hx
        cases T <;> simp only [isSeq, Bool.false_eq_true] at hT
        all_goals (simp; rfl)
      · simp [wipeE, exLen, ih x m [] (samBs_mem hs x hm) (by omega)]
    have allT : ∀ xs : List D, biE .all [.d (.lst (xs.map fun _ => .bl true))] [] = ret (.d (.bl true)) [] := fun xs => by
      have := all_lc (st := []) xs (fun _ => true)
      rw [this]
      congr 3
      simp
    cases d <;> simp only [samB, Bool.false_eq_true] at hd
    case non => simp [fd__law_same, ir__law_same, isTy, tyOf, isStrm]; rfl
    case bl b => simp [fd__law_same, ir__law_same, isTy, tyOf, isStrm, eq_bl]
    case int i => simp [fd__law_same, ir__law_same, isTy, tyOf, isStrm, eq_bl, eq_int]
    case str s => simp [fd__law_same, ir__law_same, isTy, tyOf, isStrm, eq_str hd]
    case lst xs =>
      rw [Bool.and_eq_true, decide_eq_true_eq] at hd
      have h1 := seq xs (.lst xs) rfl rfl hd.1 hd.2
      simp only [fd__law_same, ir__law_same, es_seq, es_iff, ev_isi, ev_v, envGet_s, envGet_0, Option.map_some, rdV_d, lift_some, bnd_ret, isif_d]
      simp [isTy, tyOf, isStrm, ne_bl, len_seq (d := .lst xs) rfl, eq_int, h1, allT]
    case tup xs =>
      rw [Bool.and_eq_true, decide_eq_true_eq] at hd
      have h1 := seq xs (.tup xs) rfl rfl hd.1 hd.2
      simp only [fd__law_same, ir__law_same, es_seq, es_iff, ev_isi, ev_v, envGet_s, envGet_0, Option.map_some, rdV_d, lift_some, bnd_ret, isif_d]
      simp [isTy, tyOf, isStrm, ne_bl, len_seq (d := .tup xs) rfl, eq_int, h1, allT]
end EV

end
section
set_option maxRecDepth 1000000
set_option linter.all false
namespace EV
/-! ### runs with draws: at most n of them -/
structure gd {α : Type} (P : α → Prop) (n : Nat) (r : R α) : Prop where
  out : ∀ b, n ≤ b → good (fun a b' => P a ∧ b ≤ b' + n) r b
theorem gd_ok {α : Type} {P : α → Prop} {n : Nat} {a : α} (h : P a) : gd P n (.ok a) := ⟨fun b hb => ⟨h, Nat.le_add_right b n⟩⟩
theorem gd_ret {α : Type} {P : EO α → Prop} {n : Nat} {a : α} {s : Store} (h : P (.v a s)) : gd P n (ret a s) := gd_ok h
theorem gd_mono {α : Type} {P Q : α → Prop} {n m : Nat} {r : R α} (h : gd P n r) (hn : n ≤ m) (i : ∀ a, P a → Q a) : gd Q m r := ⟨fun b hb =>
  good_mono (fun a b' q => ⟨i a q.1, by omega⟩) (h.out b (Nat.le_trans hn hb))⟩
theorem gd_draw {α : Type} {P : α → Prop} {n m : Nat} {k : Nat → R α} (hm : 0 < m) (h : ∀ d, d < m → gd P n (k d)) : gd P (n + 1) (.draw m k) := ⟨fun b hb =>
  ⟨b - 1, by omega, hm, fun d hd => good_mono (fun a b' q => ⟨q.1, by omega⟩) ((h d hd).out (b - 1) (by omega))⟩⟩
theorem gd_bind {α β : Type} {P : α → Prop} {Q : β → Prop} {n m : Nat} {r : R α} {f : α → R β} (h : gd P n r) (hf : ∀ a, P a → gd Q m (f a)) : gd Q (n + m) (r.bind f) := ⟨fun b hb => by
  rw [good_bind]
  refine good_mono (fun a b' q => ?_) (h.out b (by omega))
  exact good_mono (fun c b2 q2 => ⟨q2.1, by omega⟩) ((hf a q.1).out b' (by omega))⟩
theorem gd_bnd {α β : Type} {P : α → Store → Prop} {Q : EO β → Prop} {n m : Nat} {r : E α} {f : α → Store → E β} (h : gd (fun o => ∃ a s, o = .v a s ∧ P a s) n r) (hf : ∀ a s, P a s → gd Q m (f a s)) : gd Q (n + m) (bnd r f) := by
  refine gd_bind h fun o ⟨a, s, e, q⟩ => ?_
  subst e
  exact hf a s q
theorem gd_sBnd {α : Type} {P : α → Store → Prop} {Q : Out → Prop} {n m : Nat} {r : E α} {e : Env} {f : α → Store → R Out} (h : gd (fun o => ∃ a s, o = .v a s ∧ P a s) n r) (hf : ∀ a s, P a s → gd Q m (f a s)) : gd Q (n + m) (sBnd r e f) := by
  refine gd_bind h fun o ⟨a, s, e, q⟩ => ?_
  subst e
  exact hf a s q
/-! ### draws -/
theorem c_draw {n : Nat} {st : Store} {m : Int} (hn : 1 ≤ n) (h0 : 0 < m) (h1 : m < 1000000) : callE (F n) .frz 12 [.d .strm, .d (.int m)] st = .draw m.toNat fun d => ret (.d (.int (d : Nat))) st := by
  obtain ⟨k, rfl⟩ := pred hn
  show R.bind (if 0 < m ∧ m < 1000000 then _ else _) _ = _
  rw [if_pos ⟨h0, h1⟩]
  rfl
theorem ix_nat {xs : List D} {d : Nat} {st : Store} : ixD st (.d (.lst xs)) (.int (d : Nat)) = (xs[d]?).map .d := by
  show ((ixN xs.length (d : Int)).bind fun j => xs[j]?).map Vl.d = _
  unfold ixN
  rw [if_pos (by omega)]
  by_cases h : d < xs.length
  · rw [if_pos (by omega)]; simp
  · rw [if_neg (by omega), List.getElem?_eq_none (by omega)]; rfl
theorem c_pick {n : Nat} {st : Store} {xs : List D} (hn : 2 ≤ n) (h0 : xs ≠ []) (h1 : xs.length < 1000000) : callE (F n) .frz 13 [.d .strm, .d (.lst xs)] st = .draw xs.length fun d => lift ((xs[d]?).map .d) st := by
  obtain ⟨m, rfl⟩ := pred (n := n) (by omega)
  have hl : 0 < xs.length := List.length_pos_iff.mpr h0
  rw [call2 (fn := fd__law_pick) rfl rfl]
  have hd := fun (st : Store) => c_draw (n := m) (st := st) (m := (xs.length : Int)) (by omega) (by omega) (by omega)
  simp [fd__law_pick, ir__law_pick, exLen, len_seq (d := .lst xs) rfl, itemsD, hd, ix_nat]
  funext d
  cases xs[d]? with
  | none => rfl
  | some x => simp
theorem g_pick {n : Nat} {st : Store} {xs : List D} (hn : 2 ≤ n) (h0 : xs ≠ []) (h1 : xs.length < 1000000) : gd (fun o => ∃ a s, o = .v a s ∧ ∃ x ∈ xs, a = .d x ∧ s = st) 1 (callE (F n) .frz 13 [.d .strm, .d (.lst xs)] st) := by
  rw [c_pick hn h0 h1]
  refine gd_draw (n := 0) (List.length_pos_iff.mpr h0) fun d hd => ?_
  rw [List.getElem?_eq_getElem hd]
  exact gd_ret ⟨_, _, rfl, _, List.getElem_mem hd, rfl, rfl⟩
theorem wk_range {st : Store} {i : Int} (h1 : -1000000 < i) (h2 : i < 1000000) : wkE .range [.d (.int i)] st = ret (.its (range 0 i)) st := by
  have e : wkE .range [.d (.int i)] st = if -1000000 < i ∧ i < 1000000 then ret (.its (range 0 i)) st else .err := rfl
  rw [e, if_pos ⟨h1, h2⟩]
theorem lcRun_its {F : Cfg} {m : Bool} {own : List Nat} {tg : Tg} {cond x : Ex} {e : Env} {xs : List Vl} {st : Store} : lcRun F m own tg cond x e (.its xs) st = bnd (compL (lcStep F own tg cond x e) xs [] st) (lcEnd m) := rfl
/-! mixed -/
def cellD (l : List D) : Option Cell := some (.lst (l.map .d))
@[simp] theorem geti_cellD {l : List D} {r : List (Option Cell)} : geti (cellD l :: r) 0 = some (.lst (l.map .d)) := rfl
@[simp] theorem snap_cellD {l : List D} {r : List (Option Cell)} : snap (cellD l :: r) (.ref 0) = some (.lst l) := by
  show (dats (l.map .d)).map D.lst = _
  rw [dats_map]; rfl
@[simp] theorem mtf_cellD {m : Mt} {es : Store → E Vl} {l : List D} {r : List (Option Cell)} : mtf m (.ref 0) es (cellD l :: r) = bnd (es (cellD l :: r)) (mtk m (.ref 0)) := mtf_lst rfl
theorem len_cellD {l : List D} {r : List (Option Cell)} : biE .len [.ref 0] (cellD l :: r) = ret (.d (.int (l.length : Int))) (cellD l :: r) := by
  have h : lenOf (cellD l :: r) (.ref 0) = some l.length := by simp [lenOf, itemsOf]
  have h2 : biE .len [.ref 0] (cellD l :: r) = lift ((lenOf (cellD l :: r) (.ref 0)).map fun (n : Nat) => Vl.d (.int (n : Int))) (cellD l :: r) := rfl
  rw [h2, h]; rfl
theorem map_erase : ∀ (l : List D) (d : Nat), (l.map Vl.d).eraseIdx d = (l.eraseIdx d).map Vl.d
  | [], _ => rfl
  | _ :: _, 0 => rfl
  | a :: l, d + 1 => by simp [map_erase l d]
theorem perm_erase : ∀ (l : List D) (d : Nat) (h : d < l.length), (l[d]'h :: l.eraseIdx d).Perm l
  | a :: l, 0, _ => List.Perm.refl _
  | a :: l, d + 1, h => by
    have hd : d < l.length := by simpa using h
    have := perm_erase l d hd
    simp only [List.getElem_cons_succ, List.eraseIdx_cons_succ]
    exact (List.Perm.swap a (l[d]'hd) _).trans (this.cons a)
theorem pop_cellD {l : List D} {d : Nat} {x : D} (h : l[d]? = some x) : mtE .pop (.ref 0) [.d (.int (d : Nat))] [cellD l] = ret (.d x) [cellD (l.eraseIdx d)] := by
  have hd : d < l.length := (List.getElem?_eq_some_iff.mp h).1
  show (match (ixN (l.map Vl.d).length (d : Int)).bind fun j => ((l.map Vl.d)[j]?).map fun v => (j, v) with
      | some (j, v) => ret v ([cellD l].set 0 (some (.lst ((l.map Vl.d).eraseIdx j))))
      | none => .err) = _
  unfold ixN
  rw [if_pos (by omega), if_pos (by simp; omega)]
  simp [h, cellD, map_erase]
def mixX : Ex := .mt .pop (.v 2) (.cons (.call .frz 12 (.cons (.v 0) (.cons (.bi .len (.cons (.v 2) .nil)) .nil))) .nil)
theorem mix_loop {n : Nat} (hn : 1 ≤ n) (v : Option Vl) : ∀ (ks : List Vl) (l : List D) (acc : List Vl), ks.length = l.length → l.length < 1000 → acc.length + l.length < 1000 →
    gd (fun o => ∃ a s, o = .v a s ∧ ∃ es : List D, es.Perm l ∧ a = acc ++ es.map .d) l.length (compL (lcStep (F n) [3] (.nm 3) (.c (.bl true)) mixX [some (.d .strm), v, some (.ref 0), none]) ks acc [cellD l]) := by
  intro ks
  induction ks with
  | nil =>
    intro l acc hk _ _
    have : l = [] := List.length_eq_zero_iff.mp (by simpa using hk.symm)
    subst this
    exact gd_ret ⟨_, _, rfl, [], List.Perm.refl _, by simp⟩
  | cons k ks ih =>
    intro l acc hk hl ha
    simp only [List.length_cons] at hk
    have hpos : 0 < l.length := by omega
    have hs : lcStep (F n) [3] (.nm 3) (.c (.bl true)) mixX [some (.d .strm), v, some (.ref 0), none] k [cellD l] = .draw l.length fun d => bnd (mtE .pop (.ref 0) [.d (.int (d : Nat))] [cellD l]) fun y st => ret (some y) st := by
      have hst : setTg (.nm 3) k (wipeE [some (.d .strm), v, some (.ref 0), none] [3]) = some [some (.d .strm), v, some (.ref 0), some k] := rfl
      unfold lcStep
      rw [hst]
      have hd := c_draw (n := n) (st := [cellD l]) (m := (l.length : Int)) hn (by omega) (by omega)
      simp [mixX, exLen, len_cellD, hd]
    unfold compL
    rw [hs]
    rw [R_bind_draw]
    have el : l.length = (l.length - 1) + 1 := by omega
    rw [show gd _ l.length = gd _ ((l.length - 1) + 1) from by rw [← el]]
    refine gd_draw hpos fun d hd => ?_
    have hx : l[d]? = some l[d] := List.getElem?_eq_getElem hd
    rw [pop_cellD hx, bnd_ret, R_bind_ret]
    dsimp only
    rw [if_pos (by omega)]
    have hlen : (l.eraseIdx d).length = l.length - 1 := by rw [List.length_eraseIdx, if_pos hd]
    have := ih (l.eraseIdx d) (acc ++ [.d l[d]]) (by rw [hlen]; omega) (by omega) (by simp; omega)
    rw [hlen] at this
    refine gd_mono this (Nat.le_refl _) fun o ⟨a, s, e, es, hp, ea⟩ => ⟨a, s, e, l[d] :: es, ?_, by rw [ea]; simp⟩
    exact (List.Perm.cons _ hp).trans (perm_erase l d hd)
theorem mx_list (l : List D) : biE .listm [.d (.lst l)] [] = ret (.ref 0) [cellD l] := by
    show listmE _ _ = _
    unfold listmE
    simp [itemsOf, dats_map, cellD]
theorem mx_range (l : List D) (hl : l.length < 1000) : wkE .range [.d (.int (l.length : Int))] [cellD l] = ret (.its (range 0 (l.length : Int))) [cellD l] := by
    exact wk_range (by omega) (by omega)
theorem mx_len (l : List D) : (range 0 (l.length : Int)).length = l.length := by simp [range]
theorem mx_1 (m : Nat) (l : List D) : evS (F m) (.set (.nm 2) (.bi .listm (.cons (.v 1) .nil))) [some (.d .strm), some (.d (.lst l)), none, none] [] = .ok (.nx [some (.d .strm), some (.d (.lst l)), some (.ref 0), none] [cellD l]) := by simp [mx_list]
theorem mx_2 (m : Nat) (l : List D) (hl : l.length < 1000) : evE (F m) (.wk .range (.cons (.bi .len (.cons (.v 2) .nil)) .nil)) [some (.d .strm), some (.d (.lst l)), some (.ref 0), none] [cellD l] = ret (.its (range 0 (l.length : Int))) [cellD l] := by
    have a1 : evE (F m) (.cons (.v 2) .nil) [some (.d .strm), some (.d (.lst l)), some (.ref 0), none] [cellD l] = ret (.its [.ref 0]) [cellD l] := rfl
    have a2 : evE (F m) (.bi .len (.cons (.v 2) .nil)) [some (.d .strm), some (.d (.lst l)), some (.ref 0), none] [cellD l] = ret (.d (.int (l.length : Int))) [cellD l] := by
      rw [ev_bi, a1, bnd_ret, biq_its, len_cellD]
    have a3 : evE (F m) (.cons (.bi .len (.cons (.v 2) .nil)) .nil) [some (.d .strm), some (.d (.lst l)), some (.ref 0), none] [cellD l] = ret (.its [.d (.int (l.length : Int))]) [cellD l] := by
      rw [ev_cons, a2, bnd_ret, ev_nil, bnd_ret, consf_its]
    rw [ev_wk, a3, bnd_ret, wkf_its]
    exact mx_range l hl
theorem mx_body (m : Nat) (l : List D) (hl : l.length < 1000) : evS (F m) fd__law_mixed.body ([some (.d .strm), some (.d (.lst l))] ++ List.replicate (fd__law_mixed.slots - fd__law_mixed.ps) none) [] =
      R.bind (sBnd (bnd (compL (lcStep (F m) [3] (.nm 3) (.c (.bl true)) mixX [some (.d .strm), some (.d (.lst l)), some (.ref 0), none]) (range 0 (l.length : Int)) [] [cellD l]) (lcEnd false)) [some (.d .strm), some (.d (.lst l)), some (.ref 0), none] fun v st => .ok (.rt v st)) (thn (F m) .skip) := by
    have e1 : ([some (Vl.d .strm), some (.d (.lst l))] ++ List.replicate (fd__law_mixed.slots - fd__law_mixed.ps) none) = [some (.d .strm), some (.d (.lst l)), none, none] := rfl
    rw [e1]
    show evS (F m) ir__law_mixed _ [] = _
    unfold ir__law_mixed
    unfold mixX
    rw [es_seq, mx_1, R_bind_ok, thn_nx, es_seq, es_ret, ev_lc, mx_2 m l hl, bnd_ret, lcRun_its]
theorem g_mixed {n : Nat} {st : Store} {l : List D} (hn : 2 ≤ n) (hl : l.length < 1000) : gd (fun o => ∃ a s, o = .v a s ∧ s = st ∧ ∃ es : List D, es.Perm l ∧ a = .d (.lst es)) l.length (callE (F n) .frz 14 [.d .strm, .d (.lst l)] st) := by
  obtain ⟨m, rfl⟩ := pred (n := n) (by omega)
  rw [call2 (fn := fd__law_mixed) rfl rfl, mx_body m l hl]
  have hloop := mix_loop (n := m) (by omega) (some (.d (.lst l))) (range 0 (l.length : Int)) l [] (mx_len l) hl (by simpa using hl)
  have g1 : gd (fun o => ∃ a s, o = .v a s ∧ ∃ es : List D, es.Perm l ∧ a = .d (.lst es)) (l.length + 0) (bnd (compL (lcStep (F m) [3] (.nm 3) (.c (.bl true)) mixX [some (.d .strm), some (.d (.lst l)), some (.ref 0), none]) (range 0 (l.length : Int)) [] [cellD l]) (lcEnd false)) := by
    refine gd_bnd (P := fun a s => ∃ es : List D, es.Perm l ∧ a = [] ++ es.map .d) hloop fun a s ⟨es, hp, ea⟩ => ?_
    subst ea
    unfold lcEnd
    rw [List.nil_append, dats_map]
    exact gd_ret ⟨_, _, rfl, es, hp, rfl⟩
  have g2 := gd_sBnd (Q := fun o => ∃ (s : Store) (es : List D), o = Out.rt (.d (.lst es)) s ∧ es.Perm l) (m := 0) (e := [some (.d .strm), some (.d (.lst l)), some (.ref 0), none]) (f := fun v st => .ok (.rt v st)) (P := fun a s => ∃ es : List D, es.Perm l ∧ a = .d (.lst es)) g1 fun a s ⟨es, hp, ea⟩ => gd_ok ⟨s, es, by rw [ea], hp⟩
  have g3 := gd_bind (Q := fun o => ∃ (s : Store) (es : List D), o = Out.rt (.d (.lst es)) s ∧ es.Perm l) (m := 0) (f := thn (F m) .skip) g2 fun o ⟨s, es, e, hp⟩ => by subst e; exact gd_ok ⟨s, es, rfl, hp⟩
  exact gd_bind (Q := fun o => ∃ a s, o = EO.v a s ∧ s = st ∧ ∃ es : List D, es.Perm l ∧ a = .d (.lst es)) (m := 0) (f := finF st) g3 fun o ⟨s, es, e, hp⟩ => by subst e; exact gd_ret ⟨_, _, rfl, rfl, es, hp, rfl⟩
/-! loose -/
theorem c_loose {n : Nat} {st : Store} {xs : List Int} (hn : 3 ≤ n) (hl : xs.length < 1000) : callE (F n) .frz 16 [.d .strm, .d (I xs)] st = .draw 3 fun d => ret (.d (if (d : Int) = 0 then I xs else .tup (xs.map .int))) st := by
  obtain ⟨m, rfl⟩ := pred (n := n) (by omega)
  rw [call2 (fn := fd__law_loose) rfl rfl]
  have hi : ∀ (i : Int) (st : Store), callE (F m) .frz 16 [.d .strm, .d (.int i)] st = ret (.d (.int i)) st := by
    intro i st
    obtain ⟨k, rfl⟩ := pred (n := m) (by omega)
    rw [call2 (fn := fd__law_loose) rfl rfl]
    simp [fd__law_loose, ir__law_loose, isTy_list, isStrm, isSeq]
  have s1 := lc_map (F := F m) (own := [3]) (tg := .nm 3) (it := .v 1) (x := .call .frz 16 (.cons (.v 0) (.cons (.v 3) .nil))) (e := [some (.d .strm), some (.d (I xs)), none, none]) (st := []) xs (fun i => .d (.int i)) (fun i => .int i) (w := .d (I xs)) (by simp) (by simp [itsOf]) (fun i _ => ⟨_, rfl, by simp [wipeE, exLen, hi]⟩) (by omega)
  have hd := c_draw (n := m) (st := []) (m := 3) (by omega) (by decide) (by decide)
  have ht : biE .tuple [.d (I xs)] [] = ret (.d (.tup (xs.map .int))) [] := by
    show lift (((seqOf [] (.d (I xs))).bind dats).map _) _ = _
    simp only [seqOf, lstOf, Option.bind_some, dats_map]
    rfl
  simp [fd__law_loose, ir__law_loose, isTy_list, isStrm, isSeq, s1, exLen, hd, eq_int]
  funext d
  by_cases h0 : d = 0
  · subst h0; simp
  · have : ¬ (d : Int) = 0 := by omega
    simp [h0, ht]
end EV

end
section
set_option maxRecDepth 1000000
set_option linter.all false
namespace EV
theorem bin_lst {a b : List D} (h : a.length + b.length ≤ 1000000) : binD .add (.lst a) (.lst b) = some (.lst (a ++ b)) := by
  have e : binD .add (.lst a) (.lst b) = if BOp.add = .add ∧ a.length + b.length ≤ 1000000 then some (.lst (a ++ b)) else none := rfl
  rw [e, if_pos ⟨rfl, h⟩]
theorem sl_1 {xs : List D} {st : Store} : slf (.d (.lst xs)) (.d (.int 1)) (fun st => ret (.its []) st) st = ret (.d (.lst (xs.drop 1))) st := sl_from (T := .lst xs) rfl 1
theorem sl_to {xs : List D} {k : Nat} {st : Store} : slf (.d (.lst xs)) (.its []) (fun st => ret (.d (.int (k : Int))) st) st = ret (.d (.lst (xs.take k))) st := by
  unfold slf
  simp only [partOf, bnd_ret, snap_d, slD, Option.map_some, lift_some]
  congr 3
  unfold cut sIx
  simp only [show ¬ (k : Int) < 0 by omega, if_false, Int.toNat_natCast, List.drop_zero, Nat.sub_zero]
  by_cases h : k ≤ xs.length
  · rw [Nat.min_eq_left h]
  · rw [Nat.min_eq_right (by omega), List.take_of_length_le (Nat.le_refl _), List.take_of_length_le (by omega)]
theorem sl_to1 {xs : List D} {st : Store} : slf (.d (.lst xs)) (.its []) (fun st => ret (.d (.int 1)) st) st = ret (.d (.lst (xs.take 1))) st := sl_to (k := 1)
theorem bi_tup {xs : List D} {st : Store} : biE .tuple [.d (.lst xs)] st = ret (.d (.tup xs)) st := by
  have e : biE .tuple [.d (.lst xs)] st = lift (((seqOf st (.d (.lst xs))).bind dats).map fun l => Vl.d (.tup l)) st := rfl
  rw [e]
  simp only [seqOf, lstOf, Option.bind_some, dats_map]
  rfl
theorem bi_list_t {xs : List D} {st : Store} : biE .list [.d (.tup xs)] st = ret (.d (.lst xs)) st := by
  have e : biE .list [.d (.tup xs)] st = lift (((itemsOf st (.d (.tup xs))).bind dats).map fun l => Vl.d (.lst l)) st := rfl
  rw [e]
  simp only [itemsOf, Option.bind_some, dats_map]
  rfl
theorem bi_list_l {xs : List D} {st : Store} : biE .list [.d (.lst xs)] st = ret (.d (.lst xs)) st := by
  have e : biE .list [.d (.lst xs)] st = lift (((itemsOf st (.d (.lst xs))).bind dats).map fun l => Vl.d (.lst l)) st := rfl
  rw [e]
  simp only [itemsOf, Option.bind_some, dats_map]
  rfl
theorem ext_cellD {xs ys : List D} (h : xs.length + ys.length ≤ 1000000) : mtE .extend (.ref 0) [.d (.lst ys)] [cellD xs] = ret (.d .non) [cellD (xs ++ ys)] := by
  have e : mtE .extend (.ref 0) [.d (.lst ys)] [cellD xs] = if (xs.map Vl.d).length + (ys.map Vl.d).length ≤ 1000000 then ret (.d .non) ([cellD xs].set 0 (some (.lst (xs.map .d ++ ys.map .d)))) else .err := rfl
  rw [e, if_pos (by simpa using h)]
  simp [cellD]
def oddA (l : List (Int × Int)) : List D := [.non, .int 5, .str [97, 98], .lst [], .dct [] [], .lst [.non], .lst [.tup [.int 1]], .lst [.tup [.bl true, .int 1]], .lst [.tup [.int 0, .int 39]], .lst (P2 l).reverse, .lst ((P2 l).drop 1), .tup (P2 l)]
def oddB (l : List (Int × Int)) : List D := [.lst (P2 l ++ (P2 l).take 1), .lst (l.map fun q => .lst [.int q.1, .int q.2]), .lst (l.map fun q => .tup [.int q.1, .int (q.2 + 1)])]
def oddC (l : List (Int × Int)) (qs : List Int) : List D := [.lst (l.map fun q => .tup [.int q.2, .int q.1]), I qs, .lst (qs.map .int).reverse, .lst ((qs.map .int).drop 1), .tup (qs.map .int)]
def oddD (l : List (Int × Int)) (qs : List Int) : List D := [.lst (qs.map .int ++ (qs.map .int).take 1), .lst (qs.map .int ++ [.int (-1)]), .lst [.str [49]], .lst [.bl true], .lst [.int 1, .int 0], .lst (P2 l ++ [.tup [.int (-1), .int 0]]), .lst [.tup [.int 0, .int 3, .int 5]]]
def odds (l : List (Int × Int)) (qs : List Int) : List D := oddA l ++ oddB l ++ oddC l qs ++ oddD l qs
theorem tOk_all {xs : List D} (hl : xs.length < 1000) (h : ∀ x ∈ xs, xOk x = true) : tOk (.lst xs) = true ∧ tOk (.tup xs) = true := by
  have h2 : xs.all xOk = true := List.all_eq_true.mpr h
  simp [tOk, hl, h2]
theorem xOk_P2 {l : List (Int × Int)} (h : ∀ q ∈ l, smB q.1 = true ∧ smB q.2 = true) : ∀ x ∈ P2 l, xOk x = true := by
  intro x hx
  obtain ⟨q, hq, rfl⟩ := List.mem_map.mp hx
  obtain ⟨h1, h2⟩ := h q hq
  simp [xOk, yOk, h1, h2]
theorem xOk_I {qs : List Int} (h : ∀ q ∈ qs, smB q = true) : ∀ x ∈ qs.map D.int, xOk x = true := by
  intro x hx
  obtain ⟨q, hq, rfl⟩ := List.mem_map.mp hx
  exact h q hq
theorem odds_ok {l : List (Int × Int)} {qs : List Int} (hl : l.length < 900) (hq : qs.length < 900) (h1 : ∀ q ∈ l, smB q.1 = true ∧ smB q.2 = true ∧ smB (q.2 + 1) = true) (h2 : ∀ q ∈ qs, smB q = true) : ∀ x ∈ odds l qs, tOk x = true := by
  have hP := xOk_P2 (l := l) fun q hq => ⟨(h1 q hq).1, (h1 q hq).2.1⟩
  have hI := xOk_I h2
  have lP : (P2 l).length = l.length := by simp [P2]
  intro x hx
  simp only [odds, List.mem_append] at hx
  rcases hx with ((hx | hx) | hx) | hx
  · simp only [oddA, List.mem_cons, List.not_mem_nil, or_false] at hx
    rcases hx with rfl | rfl | rfl | rfl | rfl | rfl | rfl | rfl | rfl | rfl | rfl | rfl <;> try decide
    · exact (tOk_all (by simp; omega) fun x hx => hP x (List.mem_reverse.mp hx)).1
    · exact (tOk_all (by simp; omega) fun x hx => hP x (List.mem_of_mem_drop hx)).1
    · exact (tOk_all (by omega) hP).2
  · simp only [oddB, List.mem_cons, List.not_mem_nil, or_false] at hx
    rcases hx with rfl | rfl | rfl
    · refine (tOk_all (by simp; omega) fun x hx => ?_).1
      rcases List.mem_append.mp hx with hx | hx
      · exact hP x hx
      · exact hP x (List.mem_of_mem_take hx)
    · refine (tOk_all (by simp; omega) fun x hx => ?_).1
      obtain ⟨q, hq, rfl⟩ := List.mem_map.mp hx
      simp [xOk, yOk, (h1 q hq).1, (h1 q hq).2.1]
    · refine (tOk_all (by simp; omega) fun x hx => ?_).1
      obtain ⟨q, hq, rfl⟩ := List.mem_map.mp hx
      simp [xOk, yOk, (h1 q hq).1, (h1 q hq).2.2]
  · simp only [oddC, List.mem_cons, List.not_mem_nil, or_false] at hx
    rcases hx with rfl | rfl | rfl | rfl | rfl
    · refine (tOk_all (by simp; omega) fun x hx => ?_).1
      obtain ⟨q, hq, rfl⟩ := List.mem_map.mp hx
      simp [xOk, yOk, (h1 q hq).1, (h1 q hq).2.1]
    · exact (tOk_all (by simp; omega) hI).1
    · exact (tOk_all (by simp; omega) fun x hx => hI x (List.mem_reverse.mp hx)).1
    · exact (tOk_all (by simp; omega) fun x hx => hI x (List.mem_of_mem_drop hx)).1
    · exact (tOk_all (by simp; omega) hI).2
  · simp only [oddD, List.mem_cons, List.not_mem_nil, or_false] at hx
    rcases hx with rfl | rfl | rfl | rfl | rfl | rfl | rfl <;> try decide
    · refine (tOk_all (by simp; omega) fun x hx => ?_).1
      rcases List.mem_append.mp hx with hx | hx
      · exact hI x hx
      · exact hI x (List.mem_of_mem_take hx)
    · refine (tOk_all (by simp; omega) fun x hx => ?_).1
      rcases List.mem_append.mp hx with hx | hx
      · exact hI x hx
      · rw [List.mem_singleton.mp hx]; decide
    · refine (tOk_all (by simp; omega) fun x hx => ?_).1
      rcases List.mem_append.mp hx with hx | hx
      · exact hP x hx
      · rw [List.mem_singleton.mp hx]; decide
theorem frz_cellD {xs : List D} : frzf (.ref 0) [cellD xs] = ret (.d (.lst xs)) [none] := by
  have e : frzV [cellD xs] (.ref 0) = some (.lst xs, [none]) := by
    show (snap [cellD xs] (.ref 0)).map _ = _
    rw [snap_cellD]; rfl
  unfold frzf
  rw [e]
theorem P2_lc {F : Cfg} {x : Ex} {e : Env} {st : Store} {l : List (Int × Int)} (g : Int × Int → D) (hv : evE F (.v 1) e st = ret (.d (.lst (P2 l))) st) (hl : l.length ≤ 1000000)
    (hx : ∀ q ∈ l, evE F x (e.set 4 (some (.d (.tup [.int q.1, .int q.2])))) st = ret (.d (g q)) st) (he : ∀ v, (wipeE e [4]).set 4 (some v) = e.set 4 (some v)) : evE F (.lc false [4] (.nm 4) (.v 1) (.c (.bl true)) x) e st = ret (.d (.lst (l.map g))) st :=
  lc_map l (fun q => .d (.tup [.int q.1, .int q.2])) g hv (by simp [itsOf, P2]) (fun q hq => ⟨_, rfl, by rw [he]; exact hx q hq⟩) hl
def nthS : Nat → St → St
  | 0, .seq a _ => a
  | n + 1, .seq _ b => nthS n b
  | _, s => s
theorem g_odd {n : Nat} {st : Store} {l : List (Int × Int)} {qs : List Int} (hn : 3 ≤ n) (hl : l.length < 900) (hq : qs.length < 900) :
    gd (fun o => ∃ a s, o = .v a s ∧ s = st ∧ ∃ es : List D, (∀ x ∈ es, x ∈ odds l qs) ∧ es.length ≤ 9 ∧ a = .d (.lst es)) 27 (callE (F n) .frz 22 [.d .strm, .d (.lst (P2 l)), .d (I qs)] st) := by
  obtain ⟨m, rfl⟩ := pred (n := n) (by omega)
  have lP : (P2 l).length = l.length := by simp [P2]
  have lI : (qs.map D.int).length = qs.length := by simp
  rw [call3 (fn := fd__law_odd_letters) rfl rfl]
  have envd : ([some (Vl.d .strm), some (.d (.lst (P2 l))), some (.d (I qs))] ++ List.replicate (fd__law_odd_letters.slots - fd__law_odd_letters.ps) none) = [some (.d .strm), some (.d (.lst (P2 l))), some (.d (I qs)), none, none] := rfl
  rw [envd]
  let e3 : Env := [some (.d .strm), some (.d (.lst (P2 l))), some (.d (I qs)), some (.ref 0), none]
  have b1 : ∀ st : Store, evE (F m) (.lc false [4] (.nm 4) (.v 1) (.c (.bl true)) (.bi .list (.cons (.v 4) .nil))) e3 st = ret (.d (.lst (l.map fun q => .lst [.int q.1, .int q.2]))) st := fun st =>
    P2_lc _ (by simp [e3]) (by omega) (fun q _ => by simp [e3, bi_list_t]) fun v => rfl
  have b2 : ∀ st : Store, evE (F m) (.lc false [4] (.nm 4) (.v 1) (.c (.bl true)) (.tup (.cons (.ix (.v 4) (.c (.int 0))) (.cons (.bin .add (.ix (.v 4) (.c (.int 1))) (.c (.int 1))) .nil)))) e3 st = ret (.d (.lst (l.map fun q => .tup [.int q.1, .int (q.2 + 1)]))) st := fun st =>
    P2_lc _ (by simp [e3]) (by omega) (fun q _ => by simp [e3, ix_tup0, ix_tup1, bin_add, tupf, dats]) fun v => rfl
  have b3 : ∀ st : Store, evE (F m) (.lc false [4] (.nm 4) (.v 1) (.c (.bl true)) (.tup (.cons (.ix (.v 4) (.c (.int 1))) (.cons (.ix (.v 4) (.c (.int 0))) .nil)))) e3 st = ret (.d (.lst (l.map fun q => .tup [.int q.2, .int q.1]))) st := fun st =>
    P2_lc _ (by simp [e3]) (by omega) (fun q _ => by simp [e3, ix_tup0, ix_tup1, tupf, dats]) fun v => rfl
  have mx := g_mixed (n := m) (st := [none]) (l := odds l qs) (by omega) (by simp [odds, oddA, oddB, oddC, oddD])
  have hol : (odds l qs).length = 27 := by simp [odds, oddA, oddB, oddC, oddD]
  have h1 : evS (F m) (nthS 0 ir__law_odd_letters) [some (.d .strm), some (.d (.lst (P2 l))), some (.d (I qs)), none, none] [] = .ok (.nx e3 [cellD (oddA l)]) := by
    simp [nthS, ir__law_odd_letters, lstf, lstmf, dats, tupf, sl_1, bi_tup, oddA, cellD, e3]
  have h2 : evS (F m) (nthS 1 ir__law_odd_letters) e3 [cellD (oddA l)] = .ok (.nx e3 [cellD (oddA l ++ oddB l)]) := by
    have hv1 : ∀ st : Store, evE (F m) (.v 1) e3 st = ret (.d (.lst (P2 l))) st := fun st => by simp [e3]
    have hv3 : ∀ st : Store, evE (F m) (.v 3) e3 st = ret (.ref 0) st := fun st => by simp [e3]
    have hb : binD .add (.lst (P2 l)) (.lst ((P2 l).take 1)) = some (.lst (P2 l ++ (P2 l).take 1)) := bin_lst (by simp; omega)
    simp only [nthS, ir__law_odd_letters, es_ex, ev_mt, hv3, bnd_ret, mtf_cellD, ev_cons, ev_lstf, ev_bin, hv1, ev_sl, ev_nil, ev_c, sl_to1, two_d, hb, Option.map_some, lift_some, b1, b2, consf_its]
    simp only [lstf, dats, Option.map_some, Option.bind_some]
    rw [if_pos (by simp)]
    simp only [lift_some, bnd_ret, consf_its, mtk_its]
    rw [ext_cellD (by simp [oddA])]
    rfl
  have h3 : evS (F m) (nthS 2 ir__law_odd_letters) e3 [cellD (oddA l ++ oddB l)] = .ok (.nx e3 [cellD (oddA l ++ oddB l ++ oddC l qs)]) := by
    have hv1 : ∀ st : Store, evE (F m) (.v 1) e3 st = ret (.d (.lst (P2 l))) st := fun st => by simp [e3]
    have hv2 : ∀ st : Store, evE (F m) (.v 2) e3 st = ret (.d (I qs)) st := fun st => by simp [e3]
    have hv3 : ∀ st : Store, evE (F m) (.v 3) e3 st = ret (.ref 0) st := fun st => by simp [e3]
    simp only [nthS, ir__law_odd_letters, es_ex, ev_mt, hv3, bnd_ret, mtf_cellD, ev_cons, ev_lstf, hv2, ev_rev, revf_d, ev_sl, ev_nil, ev_c, sl_1, ev_bi, biq_its, bi_tup, b3, consf_its]
    simp only [lstf, dats, Option.map_some, Option.bind_some]
    rw [if_pos (by simp)]
    simp only [lift_some, bnd_ret, consf_its, mtk_its]
    rw [ext_cellD (by simp [oddA, oddB])]
    rfl
  have h4 : evS (F m) (nthS 3 ir__law_odd_letters) e3 [cellD (oddA l ++ oddB l ++ oddC l qs)] = .ok (.nx e3 [cellD (odds l qs)]) := by
    have hv1 : ∀ st : Store, evE (F m) (.v 1) e3 st = ret (.d (.lst (P2 l))) st := fun st => by simp [e3]
    have hv2 : ∀ st : Store, evE (F m) (.v 2) e3 st = ret (.d (I qs)) st := fun st => by simp [e3]
    have hv3 : ∀ st : Store, evE (F m) (.v 3) e3 st = ret (.ref 0) st := fun st => by simp [e3]
    have k1 : binD .add (I qs) (.lst ((qs.map .int).take 1)) = some (.lst (qs.map .int ++ (qs.map .int).take 1)) := bin_lst (by simp; omega)
    have k2 : binD .add (I qs) (.lst [.int (-1)]) = some (.lst (qs.map .int ++ [.int (-1)])) := bin_lst (by simp; omega)
    have k3 : binD .add (.lst (P2 l)) (.lst [.tup [.int (-1), .int 0]]) = some (.lst (P2 l ++ [.tup [.int (-1), .int 0]])) := bin_lst (by simp; omega)
    have t1 : ∀ (d : D) (st : Store), lstf (.its [.d d]) st = ret (.d (.lst [d])) st := fun d st => by simp [lstf, dats]
    have t2 : ∀ (d e : D) (st : Store), lstf (.its [.d d, .d e]) st = ret (.d (.lst [d, e])) st := fun d e st => by simp [lstf, dats]
    have t3 : ∀ (d e : D) (st : Store), tupf (.its [.d d, .d e]) st = ret (.d (.tup [d, e])) st := fun d e st => by simp [tupf, dats]
    have t4 : ∀ (d e f : D) (st : Store), tupf (.its [.d d, .d e, .d f]) st = ret (.d (.tup [d, e, f])) st := fun d e f st => by simp [tupf, dats]
    simp only [nthS, ir__law_odd_letters, es_ex, ev_mt, hv3, bnd_ret, mtf_cellD, ev_cons, ev_lstf, ev_tup, ev_bin, hv1, hv2, ev_sl, ev_nil, ev_c, ev_neg, neg1_i, sl_to1, two_d, Option.map_some, lift_some, consf_its, t1, t2, t3, t4, k1, k2, k3]
    simp only [lstf, dats, Option.map_some, Option.bind_some]
    rw [if_pos (by simp)]
    simp only [lift_some, bnd_ret, consf_its, mtk_its]
    rw [ext_cellD (by simp [oddA, oddB, oddC])]
    rfl
  have h5 : evS (F m) (nthS 4 ir__law_odd_letters) e3 [cellD (odds l qs)] = sBnd (bnd (callE (F m) .frz 14 [.d .strm, .d (.lst (odds l qs))] [none]) fun x st => slf x (.its []) (fun st => ret (.d (.int 9)) st) st) e3 fun v st => .ok (.rt v st) := by
    simp [nthS, ir__law_odd_letters, e3, frz_cellD, exLen]
  have hbody : evS (F m) fd__law_odd_letters.body [some (.d .strm), some (.d (.lst (P2 l))), some (.d (I qs)), none, none] [] = R.bind (sBnd (bnd (callE (F m) .frz 14 [.d .strm, .d (.lst (odds l qs))] [none]) fun x st => slf x (.its []) (fun st => ret (.d (.int 9)) st) st) e3 fun v st => .ok (.rt v st)) (thn (F m) .skip) := by
    have e : fd__law_odd_letters.body = .seq (nthS 0 ir__law_odd_letters) (.seq (nthS 1 ir__law_odd_letters) (.seq (nthS 2 ir__law_odd_letters) (.seq (nthS 3 ir__law_odd_letters) (.seq (nthS 4 ir__law_odd_letters) .skip)))) := rfl
    rw [e, es_seq, h1, R_bind_ok, thn_nx, es_seq, h2, R_bind_ok, thn_nx, es_seq, h3, R_bind_ok, thn_nx, es_seq, h4, R_bind_ok, thn_nx, es_seq, h5]
  rw [hbody]
  rw [hol] at mx
  have g1 := gd_bnd (m := 0) (Q := fun o => ∃ a s, o = EO.v a s ∧ ∃ es : List D, (∀ x ∈ es, x ∈ odds l qs) ∧ es.length ≤ 9 ∧ a = .d (.lst es)) (f := fun x st => slf x (.its []) (fun st => ret (.d (.int 9)) st) st) (P := fun a s => s = [none] ∧ ∃ es : List D, es.Perm (odds l qs) ∧ a = .d (.lst es)) mx fun a s ⟨hs, es, hp, ea⟩ => by
    subst ea
    have := sl_to (xs := es) (k := 9) (st := s)
    have h9 : slf (.d (.lst es)) (.its []) (fun st => ret (.d (.int 9)) st) s = ret (.d (.lst (es.take 9))) s := this
    rw [h9]
    exact gd_ret ⟨_, _, rfl, es.take 9, fun x hx => hp.mem_iff.mp (List.mem_of_mem_take hx), by simp; omega, rfl⟩
  have g2 := gd_sBnd (m := 0) (e := e3) (Q := fun o => ∃ (s : Store) (es : List D), o = Out.rt (.d (.lst es)) s ∧ (∀ x ∈ es, x ∈ odds l qs) ∧ es.length ≤ 9) (f := fun v st => .ok (.rt v st)) (P := fun a s => ∃ es : List D, (∀ x ∈ es, x ∈ odds l qs) ∧ es.length ≤ 9 ∧ a = .d (.lst es)) g1 fun a s ⟨es, hm, h9, ea⟩ => gd_ok ⟨s, es, by rw [ea], hm, h9⟩
  have g3 := gd_bind (m := 0) (f := thn (F m) .skip) (Q := fun o => ∃ (s : Store) (es : List D), o = Out.rt (.d (.lst es)) s ∧ (∀ x ∈ es, x ∈ odds l qs) ∧ es.length ≤ 9) g2 fun o ⟨s, es, e, hm⟩ => by subst e; exact gd_ok ⟨s, es, rfl, hm⟩
  exact gd_bind (m := 0) (f := finF st) (Q := fun o => ∃ a s, o = EO.v a s ∧ s = st ∧ ∃ es : List D, (∀ x ∈ es, x ∈ odds l qs) ∧ es.length ≤ 9 ∧ a = .d (.lst es)) g3 fun o ⟨s, es, e, hm, h9⟩ => by subst e; exact gd_ret ⟨_, _, rfl, rfl, es, hm, h9, rfl⟩
end EV

end
section
set_option maxRecDepth 1000000
set_option linter.all false
namespace EV
def X5 (p s a : D) (c : Nat) (fs : List D) : Prop := ∀ j, 4 ≤ j → callE (F j) .frz 5 [.d p, .d s, .d a] [] = .ok (.x c fs [])
section
variable {p s a t : D} {c : Nat} {fs : List D} {st : Store} {m : Nat}
theorem l7x (h : X5 p s a c fs) (hm : 5 ≤ m) : callE (F m) .frz 7 [.d p, .d s, .d a] st = .ok (.x c fs st) := by
  obtain ⟨k, rfl⟩ : ∃ k, m = k + 2 := ⟨m - 2, by omega⟩
  exact frz_x (ds := [p, s, a]) (letters_x (n := k) (h (k + 1) (by omega)))
theorem l8x (h : X5 p s a c fs) (hm : 6 ≤ m) : callE (F m) .frz 8 [.d p, .d s, .d a] st = .ok (.x c fs st) := by
  obtain ⟨k, rfl⟩ : ∃ k, m = k + 2 := ⟨m - 2, by omega⟩
  exact frz_x (ds := [p, s, a]) (apart_x (n := k) (l7x h (by omega)))
theorem l9x (h : X5 p s a c fs) (hm : 5 ≤ m) : callE (F m) .frz 9 [.d p, .d s, .d a, .d t] st = .ok (.x c fs st) := by
  obtain ⟨k, rfl⟩ : ∃ k, m = k + 1 := ⟨m - 1, by omega⟩
  rw [call4 (fn := fd_are_letters) rfl rfl]
  simp [fd_are_letters, ir_are_letters, exLen, h k (by omega)]
theorem l10x (h : X5 p s a c fs) (hm : 5 ≤ m) : callE (F m) .frz 10 [.d p, .d s, .d a, .d t] st = .ok (.x c fs st) := by
  obtain ⟨k, rfl⟩ : ∃ k, m = k + 1 := ⟨m - 1, by omega⟩
  rw [call4 (fn := fd_are_apart) rfl rfl]
  simp [fd_are_apart, ir_are_apart, exLen, h k (by omega)]
end
/-- pages that are fine: distinct, from 0 on, below 40 -/
structure Pg (ps : List Int) : Prop where
  nd : ps.Nodup
  lo : ∀ p ∈ ps, 0 ≤ p
  hi : ∀ p ∈ ps, p < 40
  len : ps.length ≤ 40
theorem Pg.sm {ps : List Int} (h : Pg ps) : ∀ p ∈ ps, Sm p := fun p hp => ⟨by have := h.lo p hp; omega, by have := h.hi p hp; omega⟩
theorem scan_ok : ∀ (ps acc : List Int) (k : Nat), (acc ++ ps).Nodup → (∀ p ∈ ps, 0 ≤ p) → scanE (ps.map .int) acc k = .inr (acc ++ ps)
  | [], acc, k, _, _ => by simp [scanE]
  | p :: ps, acc, k, hn, h0 => by
    have h1 : p ∉ acc := fun hm => (List.nodup_append.mp hn).2.2 p hm p List.mem_cons_self rfl
    rw [List.map_cons]
    show (if _ then _ else _) = _
    rw [if_pos ⟨h0 p List.mem_cons_self, h1⟩, scan_ok ps (acc ++ [p]) (k + 1) (by simpa using hn) (fun q hq => h0 q (List.mem_cons_of_mem _ hq))]
    simp
theorem scan_bad : ∀ (ps acc : List Int) (k : Nat) (w : D) (r : List D), (acc ++ ps).Nodup → (∀ p ∈ ps, 0 ≤ p) → (∀ i, w = .int i → i < 0 ∨ i ∈ acc ++ ps) → scanE (ps.map .int ++ w :: r) acc k = .inl (k + ps.length)
  | [], acc, k, w, r, _, _, hw => by
    cases w <;> try rfl
    rename_i i
    show (if _ then _ else _) = _
    rw [if_neg]
    · rfl
    · rintro ⟨h1, h2⟩
      rcases hw i rfl with h | h
      · omega
      · exact h2 (by simpa using h)
  | p :: ps, acc, k, w, r, hn, h0, hw => by
    have h1 : p ∉ acc := fun hm => (List.nodup_append.mp hn).2.2 p hm p List.mem_cons_self rfl
    rw [List.map_cons, List.cons_append]
    show (if _ then _ else _) = _
    rw [if_pos ⟨h0 p List.mem_cons_self, h1⟩, scan_bad ps (acc ++ [p]) (k + 1) w r (by simpa using hn) (fun q hq => h0 q (List.mem_cons_of_mem _ hq)) (fun i e => by simpa using hw i e)]
    simp only [List.length_cons]; congr 1; omega
theorem strm_I (ps : List Int) : ∀ d ∈ ps.map D.int, isStrm d = false := fun d hd => by
  obtain ⟨i, _, rfl⟩ := List.mem_map.mp hd; rfl
theorem pg_3 {ps : List Int} (h : Pg ps) {p : D} (hp : isSeq p = true) (hi : itemsD p = ps.map .int) {n : Nat} {st : Store} (hn : 3 ≤ n) : callE (F n) .frz 3 [.d p] st = ret (.d (I (sortI ps))) st := by
  have hl := h.len
  rw [c_pages hp (by rw [hi]; exact strm_I ps) (by rw [hi]; simp; omega) hn, hi, scan_ok ps [] 0 (by simpa using h.nd) h.lo]
  dsimp only
  rw [List.nil_append, if_pos (by omega)]
theorem x5_p {p s a e : D} (h : ∀ j, 3 ≤ j → callE (F j) .frz 3 [.d p] [] = .ok (.x 1 [e] [])) : X5 p s a 1 [e] := fun j hj => by
  obtain ⟨k, rfl⟩ : ∃ k, j = k + 1 := ⟨j - 1, by omega⟩
  exact c_cl_p (h k (by omega))
theorem x5_s {ps : List Int} (hp : Pg ps) {s a : D} (hs : spanOk s = false) (hst : isStrm s = false) : X5 (I ps) s a 2 [s] := fun j hj => by
  obtain ⟨k, rfl⟩ : ∃ k, j = k + 1 := ⟨j - 1, by omega⟩
  exact c_cl_s (pg_3 hp rfl rfl (by omega)) hs hst (by omega)
theorem x5_a {ps : List Int} (hp : Pg ps) {s : Int} {a e : D} (hs : 1 ≤ s) (h : ∀ j, 3 ≤ j → callE (F j) .frz 4 [.d a] [] = .ok (.x 0 [e] [])) : X5 (I ps) (.int s) a 0 [e] := fun j hj => by
  obtain ⟨k, rfl⟩ : ∃ k, j = k + 1 := ⟨j - 1, by omega⟩
  exact c_cl_a (pg_3 hp rfl rfl (by omega)) hs (h k (by omega)) (by omega)
theorem am_4 {xs : List Int} (hx : xs.Nodup) (h0 : ∀ x ∈ xs, 0 ≤ x) (hl : xs.length < 64) {a : D} (ha : isSeq a = true) (hi : itemsD a = xs.map .int) {n : Nat} {st : Store} (hn : 3 ≤ n) : callE (F n) .frz 4 [.d a] st = ret (.d (knD xs)) st := by
  rw [c_among ha (by rw [hi]; exact strm_I xs) (by rw [hi]; simp; omega) hn, hi, scan_ok xs [] 0 (by simpa using hx) h0]
  rfl
theorem x5_k {ps xs : List Int} (hp : ∀ j, 3 ≤ j → callE (F j) .frz 3 [.d (I ps)] [] = ret (.d (I (sortI ps))) []) {s : Int} {a : D} {i : Int} (hs : 1 ≤ s) (h : ∀ j, 3 ≤ j → callE (F j) .frz 4 [.d a] [] = ret (.d (knD xs)) []) (hf : ps.find? (fun i => !decide (i ∈ xs)) = some i) : X5 (I ps) (.int s) a 3 [.int i] := fun j hj => by
  obtain ⟨k, rfl⟩ : ∃ k, j = k + 1 := ⟨j - 1, by omega⟩
  rw [c_cl_kn (p := I ps) rfl rfl (hp k (by omega)) hs (h k (by omega)) (by omega), hf]
end EV

end
section
set_option maxRecDepth 1000000
set_option linter.all false
namespace EV
theorem gd_seq {F : Cfg} {a b : St} {e : Env} {st : Store} {P : Env → Store → Prop} {Q : Out → Prop} {n m : Nat} (h : gd (fun o => ∃ e' s', o = Out.nx e' s' ∧ P e' s') n (evS F a e st)) (hf : ∀ e' s', P e' s' → gd Q m (evS F b e' s')) : gd Q (n + m) (evS F (.seq a b) e st) := by
  rw [es_seq]
  refine gd_bind h fun o ⟨e', s', eo, hp⟩ => ?_
  subst eo
  exact hf e' s' hp
theorem bnd_assoc {α β γ : Type} (r : E α) (f : α → Store → E β) (g : β → Store → E γ) : bnd (bnd r f) g = bnd r fun a s => bnd (f a s) g := by
  unfold bnd
  rw [bind_bind]
  congr 1
  funext o
  cases o <;> rfl
theorem lc_filt {F : Cfg} {m : Bool} {own : List Nat} {tg : Tg} {it cond x : Ex} {e : Env} {st : Store} {α : Type} (xs : List α) (v : α → Vl) (p : α → Bool) (g : α → D) {w : Vl} (hit : evE F it e st = ret w st) (hw : itsOf w = some (xs.map v))
    (hx : ∀ a ∈ xs, ∃ e', setTg tg (v a) (wipeE e own) = some e' ∧ evE F cond e' st = ret (.d (.bl (p a))) st ∧ evE F x e' st = ret (.d (g a)) st) (hl : xs.length ≤ 1000000) :
    evE F (.lc false own tg it cond x) e st = ret (.d (.lst ((xs.filter p).map g))) st := by
  rw [ev_lc, hit, bnd_ret]
  unfold lcRun
  rw [hw]
  dsimp only
  have key : ∀ (ys : List α) (acc : List Vl), (∀ a ∈ ys, a ∈ xs) → acc.length + ys.length ≤ 1000000 → compL (lcStep F own tg cond x e) (ys.map v) acc st = ret (acc ++ (ys.filter p).map fun a => Vl.d (g a)) st := by
    intro ys
    induction ys with
    | nil => intro acc _ _; simp [compL]
    | cons a ys ih =>
      intro acc hm hl
      simp only [List.length_cons] at hl
      obtain ⟨e', h1, h3, h2⟩ := hx a (hm a List.mem_cons_self)
      rw [List.map_cons]
      unfold compL
      have hs : lcStep F own tg cond x e (v a) st = ret (if p a then some (.d (g a)) else none) st := by
        unfold lcStep
        rw [h1]
        dsimp only
        rw [h3, bnd_ret, byT_bl, h2, bnd_ret]
        cases p a <;> rfl
      rw [hs, R_bind_ret]
      cases hp : p a with
      | true =>
        simp only [if_pos]
        rw [if_pos (by omega), ih _ (fun b hb => hm b (List.mem_cons_of_mem _ hb)) (by simp; omega)]
        simp [hp]
      | false =>
        simp only [Bool.false_eq_true, if_false]
        rw [ih _ (fun b hb => hm b (List.mem_cons_of_mem _ hb)) (by omega)]
        simp [hp]
  rw [key xs [] (fun a h => h) (by simpa using hl)]
  rw [bnd_ret]
  unfold lcEnd
  have hd : dats ([] ++ (xs.filter p).map fun a => Vl.d (g a)) = some ((xs.filter p).map g) := by
    rw [List.nil_append, show ((xs.filter p).map fun a => Vl.d (g a)) = ((xs.filter p).map g).map Vl.d by simp, dats_map]
  rw [hd]
  rfl
/-! refused right -/
def R41 : List Int := (List.range 41).map fun (k : Nat) => (k : Int)
def odd5 : List D := [.non, .int (-1), .bl true, .str [49], .lst [.int 1]]
def none6 : List D := [.non, .int 0, .int (-2), .bl true, .str [50], .lst [.int 1]]
def bad3 : List D := [.lst [.int 3, .int 3], .lst [.int 5, .non], .tup [.int 7, .int (-1)]]
theorem none6_ok : ∀ d ∈ none6, spanOk d = false ∧ isStrm d = false ∧ samB d 1 = true := by
  intro d hd
  simp only [none6, List.mem_cons, List.not_mem_nil, or_false] at hd
  rcases hd with rfl | rfl | rfl | rfl | rfl | rfl <;> decide
theorem odd5_ok : ∀ d ∈ odd5, isStrm d = false ∧ ∀ i, d = .int i → i < 0 := by
  intro d hd
  simp only [odd5, List.mem_cons, List.not_mem_nil, or_false] at hd
  rcases hd with rfl | rfl | rfl | rfl | rfl <;> refine ⟨rfl, fun i e => ?_⟩ <;> cases e
  decide
theorem bad3_ok : ∀ d ∈ bad3, ∀ j, 3 ≤ j → callE (F j) .frz 4 [.d d] [] = .ok (.x 0 [.int 1] []) := by
  intro d hd j hj
  simp only [bad3, List.mem_cons, List.not_mem_nil, or_false] at hd
  rcases hd with rfl | rfl | rfl
  · rw [c_among rfl (by decide) (by decide) hj]; rfl
  · rw [c_among rfl (by decide) (by decide) hj]; rfl
  · rw [c_among rfl (by decide) (by decide) hj]; rfl
def bdy23 : St := ir__law_refused_right
section
variable {m : Nat} {ps : List Int} {s : Int} {a : D}
/-- environment -/
def eR (ps : List Int) (s : Int) (a : D) (v4 v5 v6 v7 v8 v9 v10 v11 : Option Vl) : Env := [some (.d .strm), some (.d (I ps)), some (.d (.int s)), some (.d a), v4, v5, v6, v7, v8, v9, v10, v11, none]
theorem len_I (ps : List Int) (st : Store) : biE .len [.d (I ps)] st = ret (.d (.int (ps.length : Int))) st := by
  rw [len_seq (d := I ps) rfl]; simp [itemsD]
theorem r0 (hm : 2 ≤ m) (hl : ps.length ≤ 40) : gd (fun o => ∃ e' s', o = Out.nx e' s' ∧ ∃ od ∈ odd5, ∃ at_ : Nat, at_ ≤ ps.length ∧ e' = eR ps s a none none none none (some (.d od)) (some (.d (.int (at_ : Int)))) none none ∧ s' = []) 2
    (evS (F m) (nthS 0 bdy23) (eR ps s a none none none none none none none none) []) := by
  have hp := g_pick (n := m) (st := []) (xs := odd5) hm (by decide) (by decide)
  have e : evS (F m) (nthS 0 bdy23) (eR ps s a none none none none none none none none) [] = sBnd (bnd (callE (F m) .frz 13 [.d .strm, .d (.lst odd5)] []) fun x st => bnd (bnd (callE (F m) .frz 12 [.d .strm, .d (.int ((ps.length : Int) + 1))] st) fun y st => consf y (.its []) st) fun y st => consf x y st) (eR ps s a none none none none none none none none) (parf [8, 9] (eR ps s a none none none none none none none none)) := by
    simp [nthS, bdy23, ir__law_refused_right, eR, lstf, dats, exLen, odd5, len_I, bin_add]
  rw [e]
  refine gd_sBnd (n := 2) (m := 0) (P := fun v s' => ∃ od ∈ odd5, ∃ at_ : Nat, at_ ≤ ps.length ∧ v = .its [.d od, .d (.int (at_ : Int))] ∧ s' = []) ?_ fun v s' ⟨od, ho, at_, ha, ev, es⟩ => ?_
  · refine gd_bnd (n := 1) (m := 1) hp fun v s' ⟨od, ho, ev, es⟩ => ?_
    subst ev es
    rw [c_draw (by omega) (by omega) (by omega)]
    simp only [bnd_draw, bnd_ret, consf_its]
    refine gd_draw (n := 0) (by omega) fun d hd => gd_ret ⟨_, _, rfl, od, ho, d, by omega, rfl, rfl⟩
  · subst ev es
    exact gd_ok ⟨_, _, rfl, od, ho, at_, ha, rfl, rfl⟩
def wr (ps : List Int) (k : Nat) (x : D) : D := .lst ((ps.map .int).take k ++ [x] ++ (ps.map .int).drop k)
theorem r1 (hm : 2 ≤ m) (hl : ps.length ≤ 40) {od : D} (ho : od ∈ odd5) {k : Nat} (hk : k ≤ ps.length) : gd (fun o => ∃ e' s', o = Out.nx e' s' ∧ ∃ x : D, isStrm x = false ∧ (∀ i, x = .int i → i < 0 ∨ i ∈ ps.take k) ∧ e' = eR ps s a (some (.d (wr ps k x))) none none none (some (.d od)) (some (.d (.int (k : Int)))) none none ∧ s' = []) 1
    (evS (F m) (nthS 1 bdy23) (eR ps s a none none none none (some (.d od)) (some (.d (.int (k : Int)))) none none) []) := by
  have hs1 : ∀ st : Store, slf (.d (I ps)) (.its []) (fun st => ret (.d (.int (k : Int))) st) st = ret (.d (.lst ((ps.map .int).take k))) st := fun st => sl_to
  have hs2 : ∀ st : Store, slf (.d (I ps)) (.d (.int (k : Int))) (fun st => ret (.its []) st) st = ret (.d (.lst ((ps.map .int).drop k))) st := fun st => sl_from (T := I ps) rfl k
  have hb : ∀ x : D, binD .add (.lst ((ps.map .int).take k)) (.lst [x]) = some (.lst ((ps.map .int).take k ++ [x])) := fun x => bin_lst (by simp; omega)
  have hb2 : ∀ x : D, binD .add (.lst ((ps.map .int).take k ++ [x])) (.lst ((ps.map .int).drop k)) = some (wr ps k x) := fun x => bin_lst (by simp; omega)
  by_cases h0 : k = 0
  · have hk0 : decide ((k : Int) = 0) = true := by simpa using h0
    have e : evS (F m) (nthS 1 bdy23) (eR ps s a none none none none (some (.d od)) (some (.d (.int (k : Int)))) none none) [] = .ok (.nx (eR ps s a (some (.d (wr ps k od))) none none none (some (.d od)) (some (.d (.int (k : Int)))) none none) []) := by
      simp only [nthS, bdy23, ir__law_refused_right, es_set, ev_bin, ev_sl, ev_v, eR, envGet_0, envGet_s, Option.map_some, rdV_d, lift_some, bnd_ret, ev_nil, hs1, hs2, ev_lstf, ev_cons, ev_ite, ev_cmp, ev_c, two_d, eq_int, hk0, byT_bl, if_true, consf_its, lstf, dats]
      simp only [Option.bind_some, Option.map_some]
      rw [if_pos (by simp)]
      simp only [lift_some, bnd_ret, two_d, hb, hb2, Option.map_some, sBnd_ret, setf_nm]
      rfl
    rw [e]
    exact gd_mono (gd_ok (n := 0) ⟨_, _, rfl, od, (odd5_ok od ho).1, fun i hi => Or.inl ((odd5_ok od ho).2 i hi), rfl, rfl⟩) (by omega) fun _ h => h
  · have hk0 : ¬ (k : Int) = 0 := by omega
    obtain ⟨p, qs, rfl⟩ : ∃ p qs, ps = p :: qs := by
      cases ps with
      | nil => simp at hk; omega
      | cons p qs => exact ⟨p, qs, rfl⟩
    have hp := g_pick (n := m) (st := []) (xs := [od, .int p]) hm (by simp) (by simp)
    have e : evS (F m) (nthS 1 bdy23) (eR (p :: qs) s a none none none none (some (.d od)) (some (.d (.int (k : Int)))) none none) [] = sBnd (bnd (callE (F m) .frz 13 [.d .strm, .d (.lst [od, .int p])] []) fun x st => bnd (bnd (bnd (ret (.its [x]) st) lstf) fun y st => two (fun x y => (binD .add x y).map .d) (.d (.lst (((p :: qs).map .int).take k))) y st) fun y st => two (fun x y => (binD .add x y).map .d) y (.d (.lst (((p :: qs).map .int).drop k))) st) (eR (p :: qs) s a none none none none (some (.d od)) (some (.d (.int (k : Int)))) none none) (setf (.nm 4) (eR (p :: qs) s a none none none none (some (.d od)) (some (.d (.int (k : Int)))) none none)) := by
      have hix : ∀ st : Store, ixD st (.d (I (p :: qs))) (.int 0) = some (.d (.int p)) := fun st => ix_nat (xs := (p :: qs).map .int) (d := 0) (st := st)
      simp only [nthS, bdy23, ir__law_refused_right, es_set, ev_bin, ev_sl, ev_v, eR, envGet_0, envGet_s, Option.map_some, rdV_d, lift_some, bnd_ret, ev_nil, hs1, hs2, ev_lstf, ev_cons, ev_ite, ev_cmp, ev_c, two_d, eq_int, hk0, decide_false, byT_bl, if_false, consf_its, ev_call, ev_ix, ixf_d, hix, Bool.false_eq_true]
      have t2 : ∀ (d e : D) (st : Store), lstf (.its [.d d, .d e]) st = ret (.d (.lst [d, e])) st := fun d e st => by simp [lstf, dats]
      simp only [t2, bnd_ret, consf_its, calf_its, exLen, List.length_cons, List.length_nil, if_true]
      simp only [bnd_assoc]
      rfl
    rw [e]
    refine gd_sBnd (n := 1) (m := 0) (P := fun v s' => s' = [] ∧ ∃ x : D, isStrm x = false ∧ (∀ i, x = .int i → i < 0 ∨ i ∈ (p :: qs).take k) ∧ v = .d (wr (p :: qs) k x)) ?_ fun v s' ⟨es, x, h1, h2, ev⟩ => ?_
    · refine gd_bnd (n := 1) (m := 0) hp fun v s' ⟨x, hx, ev, es⟩ => ?_
      subst ev es
      have t1 : ∀ (d : D) (st : Store), lstf (.its [.d d]) st = ret (.d (.lst [d])) st := fun d st => by simp [lstf, dats]
      simp only [bnd_ret, t1, two_d, hb, hb2, Option.map_some, lift_some]
      refine gd_ret ⟨_, _, rfl, rfl, x, ?_, ?_, rfl⟩
      · simp only [List.mem_cons, List.not_mem_nil, or_false] at hx
        rcases hx with rfl | rfl
        · exact (odd5_ok x ho).1
        · rfl
      · intro i hi
        simp only [List.mem_cons, List.not_mem_nil, or_false] at hx
        rcases hx with rfl | rfl
        · exact Or.inl ((odd5_ok x ho).2 i hi)
        · injection hi with hi
          subst hi
          obtain ⟨j, rfl⟩ : ∃ j, k = j + 1 := ⟨k - 1, by omega⟩
          exact Or.inr (by simp)
    · subst ev es
      exact gd_ok ⟨_, _, rfl, x, h1, h2, rfl, rfl⟩
theorem r2 (hm : 2 ≤ m) (v4 v8 v9 : Option Vl) : gd (fun o => ∃ e' s', o = Out.nx e' s' ∧ ∃ x ∈ none6, e' = eR ps s a v4 (some (.d x)) none none v8 v9 none none ∧ s' = []) 1
    (evS (F m) (nthS 2 bdy23) (eR ps s a v4 none none none v8 v9 none none) []) := by
  have hp := g_pick (n := m) (st := []) (xs := none6) hm (by decide) (by decide)
  have e : evS (F m) (nthS 2 bdy23) (eR ps s a v4 none none none v8 v9 none none) [] = sBnd (callE (F m) .frz 13 [.d .strm, .d (.lst none6)] []) (eR ps s a v4 none none none v8 v9 none none) (setf (.nm 5) (eR ps s a v4 none none none v8 v9 none none)) := by
    simp [nthS, bdy23, ir__law_refused_right, eR, lstf, dats, exLen, none6]
  rw [e]
  refine gd_sBnd (n := 1) (m := 0) hp fun v s' ⟨x, hx, ev, es⟩ => ?_
  subst ev es
  exact gd_ok ⟨_, _, rfl, x, hx, rfl, rfl⟩
theorem r3 (hm : 2 ≤ m) (v4 v5 v8 v9 : Option Vl) : gd (fun o => ∃ e' s', o = Out.nx e' s' ∧ ∃ x ∈ bad3, e' = eR ps s a v4 v5 none none v8 v9 (some (.d x)) (some (.d (I R41))) ∧ s' = []) 1
    (evS (F m) (nthS 3 bdy23) (eR ps s a v4 v5 none none v8 v9 none none) []) := by
  have hp := g_pick (n := m) (st := []) (xs := bad3) hm (by decide) (by decide)
  have hR : ∀ st : Store, lrgf false (.d (.int 41)) st = ret (.d (I R41)) st := fun st => by
    unfold lrgf R41
    dsimp only
    rw [if_pos (by decide)]
    simp only [Bool.false_eq_true, if_false, I, List.map_map]
    rfl
  have e : evS (F m) (nthS 3 bdy23) (eR ps s a v4 v5 none none v8 v9 none none) [] = sBnd (bnd (bnd (callE (F m) .frz 13 [.d .strm, .d (.lst bad3)] []) fun x st => ret (.its [x, .d (I R41)]) st) tupf) (eR ps s a v4 v5 none none v8 v9 none none) (setf (.tp (.cons (.nm 10) (.cons (.nm 11) .nil))) (eR ps s a v4 v5 none none v8 v9 none none)) := by
    simp only [nthS, bdy23, ir__law_refused_right, es_set, ev_tup, ev_cons, ev_call, ev_v, eR, envGet_0, Option.map_some, rdV_d, lift_some, bnd_ret, ev_lstf, ev_c, ev_neg, neg1_i, ev_nil, consf_its, ev_lrg, hR]
    have t2 : ∀ (d e : D) (st : Store), lstf (.its [.d d, .d e]) st = ret (.d (.lst [d, e])) st := fun d e st => by simp [lstf, dats]
    have t4 : ∀ (d e : D) (st : Store), tupf (.its [.d d, .d e]) st = ret (.d (.tup [d, e])) st := fun d e st => by simp [tupf, dats]
    have t3 : ∀ (d e f : D) (st : Store), lstf (.its [.d d, .d e, .d f]) st = ret (.d (.lst [d, e, f])) st := fun d e f st => by simp [lstf, dats]
    simp only [t2, t3, t4, bnd_ret, consf_its, calf_its, exLen, List.length_cons, List.length_nil, if_true]
    rfl
  rw [e]
  refine gd_sBnd (n := 1) (m := 0) (P := fun v s' => s' = [] ∧ ∃ x ∈ bad3, v = .d (.tup [x, I R41])) ?_ fun v s' ⟨es, x, hx, ev⟩ => ?_
  · refine gd_bnd (n := 1) (m := 0) (P := fun v s' => s' = [] ∧ ∃ x ∈ bad3, v = .its [.d x, .d (I R41)]) ?_ fun v s' ⟨es, x, hx, ev⟩ => ?_
    · refine gd_bnd (n := 1) (m := 0) hp fun v s' ⟨x, hx, ev, es⟩ => ?_
      subst ev es
      exact gd_ret ⟨_, _, rfl, rfl, x, hx, rfl⟩
    · subst ev es
      have t4 : ∀ (d e : D) (st : Store), tupf (.its [.d d, .d e]) st = ret (.d (.tup [d, e])) st := fun d e st => by simp [tupf, dats]
      rw [t4]
      exact gd_ret ⟨_, _, rfl, rfl, x, hx, rfl⟩
  · subst ev es
    exact gd_ok ⟨_, _, rfl, x, hx, rfl, rfl⟩
end
end EV

end
section
set_option maxRecDepth 1000000
set_option linter.all false
namespace EV
def sPg : List Nat := [112, 97, 103, 101, 115]
def sSp : List Nat := [115, 112, 97, 110]
def sAm : List Nat := [97, 109, 111, 110, 103]
def sOt : List Nat := [111, 116, 104, 101, 114]
section
variable {m : Nat} {ps : List Int} {s : Int} {a : D} {st : Store}
theorem mt0 (d : D) : metE metHs (.x 0 [d] st) = ret (.d (.tup [.str sAm, d])) st := rfl
theorem mt1 (d : D) : metE metHs (.x 1 [d] st) = ret (.d (.tup [.str sPg, d])) st := rfl
theorem mt2 (d : D) : metE metHs (.x 2 [d] st) = ret (.d (.tup [.str sSp, d])) st := rfl
theorem mt3 (d : D) : metE metHs (.x 3 [d] st) = ret (.d (.tup [.str sOt, d])) st := rfl
theorem app_cellD {xs : List D} {r : Store} {x : D} (h : xs.length < 1000000) : mtE .append (.ref 0) [.d x] (cellD xs :: r) = ret (.d .non) (cellD (xs ++ [x]) :: r) := by
  have e : mtE .append (.ref 0) [.d x] (cellD xs :: r) = if (xs.map Vl.d).length < 1000000 then ret (.d .non) ((cellD xs :: r).set 0 (some (.lst (xs.map .d ++ [.d x])))) else .err := rfl
  rw [e, if_pos (by simpa using h)]
  simp [cellD]
theorem mtf_1 {mt : Mt} {es : Store → E Vl} {c : Option Cell} {l : List D} {r : Store} : mtf mt (.ref 1) es (c :: cellD l :: r) = bnd (es (c :: cellD l :: r)) (mtk mt (.ref 1)) := mtf_lst rfl
theorem ext_1 {xs ys : List D} {c : Option Cell} {r : Store} (h : xs.length + ys.length ≤ 1000000) : mtE .extend (.ref 1) [.d (.lst ys)] (c :: cellD xs :: r) = ret (.d .non) (c :: cellD (xs ++ ys) :: r) := by
  have e : mtE .extend (.ref 1) [.d (.lst ys)] (c :: cellD xs :: r) = if (xs.map Vl.d).length + (ys.map Vl.d).length ≤ 1000000 then ret (.d .non) ((c :: cellD xs :: r).set 1 (some (.lst (xs.map .d ++ ys.map .d)))) else .err := rfl
  rw [e, if_pos (by simpa using h)]
  simp [cellD]
theorem frz_0 {xs : List D} {r : Store} : frzf (.ref 0) (cellD xs :: r) = ret (.d (.lst xs)) (none :: r) := by
  have e : frzV (cellD xs :: r) (.ref 0) = some (.lst xs, none :: r) := by
    show (snap (cellD xs :: r) (.ref 0)).map _ = _
    rw [snap_cellD]; rfl
  unfold frzf
  rw [e]
theorem frz_1 {xs : List D} {c : Option Cell} {r : Store} : frzf (.ref 1) (c :: cellD xs :: r) = ret (.d (.lst xs)) (c :: none :: r) := by
  have e : frzV (c :: cellD xs :: r) (.ref 1) = some (.lst xs, c :: none :: r) := by
    show (snap (c :: cellD xs :: r) (.ref 1)).map _ = _
    have : snap (c :: cellD xs :: r) (.ref 1) = some (.lst xs) := by
      show (dats (xs.map .d)).map D.lst = _
      rw [dats_map]; rfl
    rw [this]; rfl
  unfold frzf
  rw [e]
def duA (k : Nat) (nn : D) : List D := [.tup [.str sPg, .int (k : Int)], .tup [.str sSp, nn], .tup [.str sAm, .int 1], .tup [.str sPg, .int 0], .tup [.str sAm, .int 0], .tup [.str sSp, nn]]
def duB (l : Int) : List D := [.tup [.str sOt, .int l], .tup [.str sOt, .int 40]]
variable {k : Nat} {x nn bad : D} {od : Option Vl}
/-- the pages are ill -/
theorem wr_items : itemsD (wr ps k x) = (ps.take k).map .int ++ x :: (ps.drop k).map .int := by
  simp [wr, itemsD]
theorem wr_bad (hp : Pg ps) (hk : k ≤ ps.length) (hx : isStrm x = false) (hw : ∀ i, x = .int i → i < 0 ∨ i ∈ ps.take k) : ∀ j, 3 ≤ j → callE (F j) .frz 3 [.d (wr ps k x)] [] = .ok (.x 1 [.int (k : Int)] []) := by
  intro j hj
  have hl := hp.len
  have hstr : ∀ d ∈ itemsD (wr ps k x), isStrm d = false := by
    intro d hd
    rw [wr_items] at hd
    rcases List.mem_append.mp hd with h | h
    · exact strm_I _ d h
    · rcases List.mem_cons.mp h with h | h
      · rw [h]; exact hx
      · exact strm_I _ d h
  rw [c_pages (p := wr ps k x) rfl hstr (by rw [wr_items]; simp; omega) hj, wr_items]
  have hnd : ([] ++ ps.take k).Nodup := by simpa using (List.take_sublist k ps).nodup hp.nd
  rw [scan_bad (ps.take k) [] 0 x ((ps.drop k).map .int) hnd (fun p h => hp.lo p (List.mem_of_mem_take h)) (by simpa using hw)]
  simp [Nat.min_eq_left hk]
variable (hp : Pg ps) (hs : 1 ≤ s) (hm : 7 ≤ m)
include hm in
theorem r4 (h : X5 (wr ps k x) nn bad 1 [.int (k : Int)]) (rw_ : Option Vl) : evS (F m) (nthS 4 bdy23) (eR ps s a (some (.d (wr ps k x))) (some (.d nn)) none none od (some (.d (.int (k : Int)))) (some (.d bad)) rw_) [] = .ok (.nx (eR ps s a (some (.d (wr ps k x))) (some (.d nn)) (some (.ref 0)) none od (some (.d (.int (k : Int)))) (some (.d bad)) rw_) [cellD ((duA k nn).take 1)]) := by
  have hc := fun st : Store => l7x (st := st) h (m := m) (by omega)
  simp [nthS, bdy23, ir__law_refused_right, eR, exLen, hc, mt1, lstmf, cellD, duA]
def eS (ps : List Int) (s : Int) (a : D) (k : Nat) (x nn bad : D) (od v7 : Option Vl) (rw_ : Option Vl) : Env := eR ps s a (some (.d (wr ps k x))) (some (.d nn)) (some (.ref 0)) v7 od (some (.d (.int (k : Int)))) (some (.d bad)) rw_
include hm in
theorem r5 (h : X5 (I ps) nn bad 2 [nn]) (rw_ : Option Vl) : evS (F m) (nthS 5 bdy23) (eS ps s a k x nn bad od none rw_) [cellD ((duA k nn).take 1)] = .ok (.nx (eS ps s a k x nn bad od none rw_) [cellD ((duA k nn).take 2)]) := by
  have hc := fun st : Store => l8x (st := st) h (m := m) (by omega)
  simp [nthS, bdy23, ir__law_refused_right, eR, eS, exLen, hc, mt2, duA, app_cellD]
include hm in
theorem r6 (h : X5 (I ps) (.int s) bad 0 [.int 1]) (rw_ : Option Vl) : evS (F m) (nthS 6 bdy23) (eS ps s a k x nn bad od none rw_) [cellD ((duA k nn).take 2)] = .ok (.nx (eS ps s a k x nn bad od none rw_) [cellD ((duA k nn).take 3)]) := by
  have hc := fun st : Store => l7x (st := st) h (m := m) (by omega)
  simp [nthS, bdy23, ir__law_refused_right, eR, eS, exLen, hc, mt0, duA, app_cellD]
include hm in
theorem r7 (h : X5 .non nn bad 1 [.int 0]) (rw_ : Option Vl) : evS (F m) (nthS 7 bdy23) (eS ps s a k x nn bad od none rw_) [cellD ((duA k nn).take 3)] = .ok (.nx (eS ps s a k x nn bad od none rw_) [cellD ((duA k nn).take 4)]) := by
  have hc := fun (st : Store) (t : D) => l9x (st := st) (t := t) h (m := m) (by omega)
  simp [nthS, bdy23, ir__law_refused_right, eR, eS, exLen, hc, mt1, duA, app_cellD, lstf, dats]
include hm in
theorem r8 (h : X5 (I ps) (.int s) (.int 5) 0 [.int 0]) (rw_ : Option Vl) : evS (F m) (nthS 8 bdy23) (eS ps s a k x nn bad od none rw_) [cellD ((duA k nn).take 4)] = .ok (.nx (eS ps s a k x nn bad od none rw_) [cellD ((duA k nn).take 5)]) := by
  have hc := fun (st : Store) (t : D) => l10x (st := st) (t := t) h (m := m) (by omega)
  simp [nthS, bdy23, ir__law_refused_right, eR, eS, exLen, hc, mt0, duA, app_cellD, lstf, dats]
include hm in
theorem r9 (h : X5 (I ps) nn (.lst []) 2 [nn]) (rw_ : Option Vl) : evS (F m) (nthS 9 bdy23) (eS ps s a k x nn bad od none rw_) [cellD ((duA k nn).take 5)] = .ok (.nx (eS ps s a k x nn bad od none rw_) [cellD (duA k nn)]) := by
  have hc := fun (st : Store) (t : D) => l9x (st := st) (t := t) h (m := m) (by omega)
  simp [nthS, bdy23, ir__law_refused_right, eR, eS, exLen, hc, mt2, duA, app_cellD, lstf, dats]
theorem r10 (rw_ : Option Vl) : evS (F m) (nthS 10 bdy23) (eS ps s a k x nn bad od none rw_) [cellD (duA k nn)] = .ok (.nx (eS ps s a k x nn bad od (some (.ref 1)) rw_) [cellD (duA k nn), cellD (duA k nn)]) := by
  simp [nthS, bdy23, ir__law_refused_right, eR, eS, lstmf, tupf, dats, duA, sPg, sSp, sAm, cellD]
end
end EV

end
section
set_option maxRecDepth 1000000
set_option linter.all false
namespace EV
theorem ne_I (l : List Int) : cmpD .ne (I l) (.lst []) = some (!l.isEmpty) := by
  show (if _ then _ else _ : Option Bool).map not = _
  simp only [okB, okBs_I, okBs, Bool.and_self, if_true, Option.map_some]
  cases l <;> rfl
theorem ix_m1 {qs : List Int} {l : Int} {st : Store} : ixD st (.d (I (qs ++ [l]))) (.int (-1)) = some (.d (.int l)) := by
  show ((ixN ((qs ++ [l]).map D.int).length (-1)).bind fun j => ((qs ++ [l]).map D.int)[j]?).map Vl.d = _
  rw [show ((qs ++ [l]).map D.int).length = qs.length + 1 by simp, ixN_last]
  simp
def rowsX (l : Int) : List Int := R41.filter fun i => !decide (i = l)
theorem R41_mem {i : Int} : i ∈ R41 ↔ 0 ≤ i ∧ i < 41 := by
  unfold R41
  simp only [List.mem_map, List.mem_range]
  constructor
  · rintro ⟨j, h1, rfl⟩; omega
  · rintro ⟨h1, h2⟩; exact ⟨i.toNat, by omega, by omega⟩
theorem R41_nd : R41.Nodup := by decide
theorem rowsX_mem {l i : Int} : i ∈ rowsX l ↔ (0 ≤ i ∧ i < 41) ∧ i ≠ l := by
  unfold rowsX
  rw [List.mem_filter, R41_mem]
  simp
theorem rowsX_len (l : Int) : (rowsX l).length < 64 := by
  have := List.length_filter_le (fun i => !decide (i = l)) R41
  have h2 : R41.length = 41 := by decide
  unfold rowsX
  omega
theorem rowsX_nd (l : Int) : (rowsX l).Nodup := (List.filter_sublist).nodup R41_nd
section
variable {m : Nat} {ps : List Int} {s : Int} {a : D} {st : Store}
variable {k : Nat} {x nn bad : D} {od : Option Vl}
theorem x5_last {qs : List Int} {l : Int} (hp : Pg (qs ++ [l])) (hs : 1 ≤ s) : X5 (I (qs ++ [l])) (.int s) (I (rowsX l)) 3 [.int l] := by
  refine x5_k (ps := qs ++ [l]) (xs := rowsX l) (fun j hj => pg_3 hp rfl rfl hj) hs (fun j hj => am_4 (rowsX_nd l) (fun i hi => (rowsX_mem.mp hi).1.1) (rowsX_len l) rfl rfl hj) ?_
  rw [List.find?_append, List.find?_eq_none.mpr]
  · have : l ∉ rowsX l := fun h => (rowsX_mem.mp h).2 rfl
    simp [this]
  · intro q hq
    have hnd := List.nodup_append.mp hp.nd
    have hne : q ≠ l := hnd.2.2 q hq l (by simp)
    have h0 := hp.lo q (by simp [hq])
    have h1 := hp.hi q (by simp [hq])
    have : q ∈ rowsX l := rowsX_mem.mpr ⟨⟨h0, by omega⟩, hne⟩
    simp [this]
theorem x5_40 (hp : Pg ps) (hs : 1 ≤ s) : X5 (I (40 :: ps)) (.int s) (I [0]) 3 [.int 40] := by
  have hl := hp.len
  have nd : (40 :: ps).Nodup := List.nodup_cons.mpr ⟨fun h => by have := hp.hi 40 h; omega, hp.nd⟩
  refine x5_k (ps := 40 :: ps) (xs := [0]) (fun j hj => ?_) hs (fun j hj => am_4 (by decide) (by decide) (by decide) rfl rfl hj) (by simp)
  rw [c_pages (p := I (40 :: ps)) rfl (strm_I _) (by simp [itemsD]; omega) hj, show itemsD (I (40 :: ps)) = (40 :: ps).map .int from rfl, scan_ok (40 :: ps) [] 0 (by simpa using nd) (fun p h => by
    rcases List.mem_cons.mp h with h | h
    · omega
    · exact hp.lo p h)]
  dsimp only
  rw [List.nil_append, if_pos (by simp; omega)]
theorem r11n (rw_ : Option Vl) (st : Store) : evS (F m) (nthS 11 bdy23) (eS [] s a k x nn bad od (some (.ref 1)) rw_) st = .ok (.nx (eS [] s a k x nn bad od (some (.ref 1)) rw_) st) := by
  have h := ne_I []
  simp only [nthS, bdy23, ir__law_refused_right, es_iff, ev_cmp, ev_v, eS, eR, envGet_0, envGet_s, Option.map_some, rdV_d, lift_some, bnd_ret, ev_lstf, ev_nil, lstf, dats]
  simp only [Option.bind_some, List.length_nil]
  rw [if_pos (by omega)]
  simp only [lift_some, bnd_ret, two_d, h, Option.map_some, sBnd_ret, List.isEmpty_nil, Bool.not_true, byT_bl, Bool.false_eq_true, if_false, es_skip]
theorem r11 {qs : List Int} {l : Int} (hp : Pg (qs ++ [l])) (hs : 1 ≤ s) (hm : 7 ≤ m) : evS (F m) (nthS 11 bdy23) (eS (qs ++ [l]) s a k x nn bad od (some (.ref 1)) (some (.d (I R41)))) [cellD (duA k nn), cellD (duA k nn)] = .ok (.nx (eS (qs ++ [l]) s a k x nn bad od (some (.ref 1)) (some (.d (I R41)))) [cellD (duA k nn ++ duB l), cellD (duA k nn ++ duB l)]) := by
  have h := ne_I (qs ++ [l])
  have hb : (qs ++ [l]).isEmpty = false := by cases qs <;> rfl
  have hl : (qs ++ [l]).length ≤ 40 := hp.len
  have c1 := fun st : Store => l7x (st := st) (x5_last hp hs) (m := m) (by omega)
  have c2 := fun st : Store => l8x (st := st) (x5_40 hp hs) (m := m) (by omega)
  have t0 : ∀ (st : Store), lstf (.its []) st = ret (.d (.lst [])) st := fun st => by simp [lstf, dats]
  have t1 : ∀ (d : D) (st : Store), lstf (.its [.d d]) st = ret (.d (.lst [d])) st := fun d st => by simp [lstf, dats]
  have t2 : ∀ (d e : D) (st : Store), lstf (.its [.d d, .d e]) st = ret (.d (.lst [d, e])) st := fun d e st => by simp [lstf, dats]
  have t3 : ∀ (d e : D) (st : Store), tupf (.its [.d d, .d e]) st = ret (.d (.tup [d, e])) st := fun d e st => by simp [tupf, dats]
  have k1 : binD .add (.lst [.int 40]) (I (qs ++ [l])) = some (I (40 :: (qs ++ [l]))) := bin_lst (by simp; simp at hl; omega)
  have hlc : ∀ st : Store, evE (F m) (.lc false [12] (.nm 12) (.v 11) (.cmp .ne (.v 12) (.ix (.v 1) (.neg (.c (.int 1))))) (.v 12)) (eS (qs ++ [l]) s a k x nn bad od (some (.ref 1)) (some (.d (I R41)))) st = ret (.d (I (rowsX l))) st := fun st =>
    lc_filt (m := false) (w := .d (I R41)) R41 (fun i => .d (.int i)) (fun i => !decide (i = l)) (fun i => .int i) (by simp [eS, eR]) (by simp [itsOf]) (fun i _ => ⟨_, rfl, by
      have h2 := ix_m1 (qs := qs) (l := l) (st := st)
      simp only [ev_cmp, ev_v, ev_ix, ev_neg, ev_c, neg1_i, bnd_ret, eS, eR, wipeE, List.foldl, List.set, envGet_0, envGet_s, Option.map_some, rdV_d, lift_some, ixf_d, h2, two_d, ne_int], by
      simp [eS, eR, wipeE]⟩) (by decide)
  have d1 : (duA k nn).length = 6 := rfl
  have e1 : evS (F m) (.ex (.mt .append (.v 6) (.cons (.met metHs 0 (.call .frz 7 (.cons (.v 1) (.cons (.v 2) (.cons (.lc false [12] (.nm 12) (.v 11) (.cmp .ne (.v 12) (.ix (.v 1) (.neg (.c (.int 1))))) (.v 12)) .nil))))) .nil))) (eS (qs ++ [l]) s a k x nn bad od (some (.ref 1)) (some (.d (I R41)))) [cellD (duA k nn), cellD (duA k nn)] = .ok (.nx (eS (qs ++ [l]) s a k x nn bad od (some (.ref 1)) (some (.d (I R41)))) [cellD (duA k nn ++ (duB l).take 1), cellD (duA k nn)]) := by
    have v1 : ∀ st : Store, evE (F m) (.v 1) (eS (qs ++ [l]) s a k x nn bad od (some (.ref 1)) (some (.d (I R41)))) st = ret (.d (I (qs ++ [l]))) st := fun _ => rfl
    have v2 : ∀ st : Store, evE (F m) (.v 2) (eS (qs ++ [l]) s a k x nn bad od (some (.ref 1)) (some (.d (I R41)))) st = ret (.d (.int s)) st := fun _ => rfl
    have v6 : ∀ st : Store, evE (F m) (.v 6) (eS (qs ++ [l]) s a k x nn bad od (some (.ref 1)) (some (.d (I R41)))) st = ret (.ref 0) st := fun _ => rfl
    simp only [es_ex, ev_mt, v6, bnd_ret, mtf_cellD, ev_cons, ev_met, ev_call, v1, v2, hlc, ev_nil, consf_its, calf_its, exLen, List.length_cons, List.length_nil, if_true, c1, R_bind_ok, mt3, mtk_its]
    rw [app_cellD (by rw [d1]; omega)]
    rfl
  have e2 : evS (F m) (.ex (.mt .append (.v 6) (.cons (.met metHs 0 (.call .frz 8 (.cons (.bin .add (.lst false (.cons (.c (.int 40)) .nil)) (.v 1)) (.cons (.v 2) (.cons (.lst false (.cons (.c (.int 0)) .nil)) .nil))))) .nil))) (eS (qs ++ [l]) s a k x nn bad od (some (.ref 1)) (some (.d (I R41)))) [cellD (duA k nn ++ (duB l).take 1), cellD (duA k nn)] = .ok (.nx (eS (qs ++ [l]) s a k x nn bad od (some (.ref 1)) (some (.d (I R41)))) [cellD (duA k nn ++ duB l), cellD (duA k nn)]) := by
    have v1 : ∀ st : Store, evE (F m) (.v 1) (eS (qs ++ [l]) s a k x nn bad od (some (.ref 1)) (some (.d (I R41)))) st = ret (.d (I (qs ++ [l]))) st := fun _ => rfl
    have v2 : ∀ st : Store, evE (F m) (.v 2) (eS (qs ++ [l]) s a k x nn bad od (some (.ref 1)) (some (.d (I R41)))) st = ret (.d (.int s)) st := fun _ => rfl
    have v6 : ∀ st : Store, evE (F m) (.v 6) (eS (qs ++ [l]) s a k x nn bad od (some (.ref 1)) (some (.d (I R41)))) st = ret (.ref 0) st := fun _ => rfl
    have c2' : ∀ st : Store, callE (F m) .frz 8 [.d (I (40 :: (qs ++ [l]))), .d (.int s), .d (.lst [.int 0])] st = .ok (.x 3 [.int 40] st) := c2
    simp only [es_ex, ev_mt, v6, bnd_ret, mtf_cellD, ev_cons, ev_met, ev_call, v1, v2, ev_nil, consf_its, calf_its, exLen, List.length_cons, List.length_nil, if_true, ev_bin, ev_lstf, ev_c, t1, two_d, k1, Option.map_some, lift_some, c2', R_bind_ok, mt3, mtk_its]
    rw [app_cellD (by simp [duA, duB])]
    rw [List.append_assoc]
    rfl
  have e3 : evS (F m) (.ex (.mt .extend (.v 7) (.cons (.lst false (.cons (.tup (.cons (.c (.str [111, 116, 104, 101, 114])) (.cons (.ix (.v 1) (.neg (.c (.int 1)))) .nil))) (.cons (.tup (.cons (.c (.str [111, 116, 104, 101, 114])) (.cons (.c (.int 40)) .nil))) .nil))) .nil))) (eS (qs ++ [l]) s a k x nn bad od (some (.ref 1)) (some (.d (I R41)))) [cellD (duA k nn ++ duB l), cellD (duA k nn)] = .ok (.nx (eS (qs ++ [l]) s a k x nn bad od (some (.ref 1)) (some (.d (I R41)))) [cellD (duA k nn ++ duB l), cellD (duA k nn ++ duB l)]) := by
    have v1 : ∀ st : Store, evE (F m) (.v 1) (eS (qs ++ [l]) s a k x nn bad od (some (.ref 1)) (some (.d (I R41)))) st = ret (.d (I (qs ++ [l]))) st := fun _ => rfl
    have v7 : ∀ st : Store, evE (F m) (.v 7) (eS (qs ++ [l]) s a k x nn bad od (some (.ref 1)) (some (.d (I R41)))) st = ret (.ref 1) st := fun _ => rfl
    simp only [es_ex, ev_mt, v7, bnd_ret, mtf_1, ev_cons, v1, ev_nil, consf_its, ev_lstf, ev_tup, ev_ix, ev_neg, ev_c, neg1_i, ixf_d, ix_m1, lift_some, t2, t3, mtk_its]
    rw [ext_1 (by simp [duA])]
    rfl
  have v1 : ∀ st : Store, evE (F m) (.v 1) (eS (qs ++ [l]) s a k x nn bad od (some (.ref 1)) (some (.d (I R41)))) st = ret (.d (I (qs ++ [l]))) st := fun _ => rfl
  simp only [nthS, bdy23, ir__law_refused_right, es_iff, ev_cmp, v1, bnd_ret, ev_lstf, ev_nil, t0, two_d, h, hb, Bool.not_false, Option.map_some, lift_some, sBnd_ret, byT_bl, if_true]
  rw [es_seq, e1, R_bind_ok, thn_nx, es_seq, e2, R_bind_ok, thn_nx, es_seq, e3, R_bind_ok, thn_nx, es_skip]
theorem r12 {X : List D} (hX : samB (.lst X) 3 = true) (hm : 7 ≤ m) (rw_ : Option Vl) : evS (F m) (nthS 12 bdy23) (eS ps s a k x nn bad od (some (.ref 1)) rw_) [cellD X, cellD X] = .ok (.rt (.d (.bl true)) [none, none]) := by
  have v6 : ∀ st : Store, evE (F m) (.v 6) (eS ps s a k x nn bad od (some (.ref 1)) rw_) st = ret (.ref 0) st := fun _ => rfl
  have v7 : ∀ st : Store, evE (F m) (.v 7) (eS ps s a k x nn bad od (some (.ref 1)) rw_) st = ret (.ref 1) st := fun _ => rfl
  have hc := fun st : Store => c_same 3 (.lst X) m st hX (by omega)
  simp only [nthS, bdy23, ir__law_refused_right, es_ret, ev_call, ev_cons, ev_frz, v6, v7, bnd_ret, frz_0, frz_1, ev_nil, consf_its, calf_its, exLen, List.length_cons, List.length_nil, if_true, hc, sBnd_ret]
theorem du_same (hn : samB nn 1 = true) : samB (.lst (duA k nn)) 3 = true ∧ ∀ l : Int, samB (.lst (duA k nn ++ duB l)) 3 = true := by
  constructor
  · simp [duA, samB, samBs, hn, sPg, sSp, sAm]
  · intro l
    simp [duA, duB, samB, samBs, hn, sPg, sSp, sAm, sOt]
end
end EV

end
section
set_option maxRecDepth 1000000
set_option linter.all false
namespace EV
section
variable {m : Nat} {ps : List Int} {s : Int} {a : D} {st : Store}
theorem gd_fin {r : R Out} {n : Nat} {st : Store} (h : gd (fun o => ∃ s', o = Out.rt (.d (.bl true)) s') n r) : gd (fun o => o = EO.v (.d (.bl true)) st) n (R.bind r (finF st)) :=
  gd_bind (n := n) (m := 0) (f := finF st) h fun o ⟨s', e⟩ => by subst e; exact gd_ret rfl
/-- it says True -/
theorem g_refused {n : Nat} (hp : Pg ps) (hs : 1 ≤ s) (hn : 8 ≤ n) : gd (fun o => o = EO.v (.d (.bl true)) st) 5 (callE (F n) .frz 23 [.d .strm, .d (I ps), .d (.int s), .d a] st) := by
  obtain ⟨m, rfl⟩ := pred (n := n) (by omega)
  have hm : 7 ≤ m := by omega
  have hm2 : 2 ≤ m := by omega
  rw [call4 (fn := fd__law_refused_right) rfl rfl]
  have envd : ([some (Vl.d .strm), some (.d (I ps)), some (.d (.int s)), some (.d a)] ++ List.replicate (fd__law_refused_right.slots - fd__law_refused_right.ps) none) = eR ps s a none none none none none none none none := rfl
  rw [envd]
  have e : fd__law_refused_right.body = .seq (nthS 0 bdy23) (.seq (nthS 1 bdy23) (.seq (nthS 2 bdy23) (.seq (nthS 3 bdy23) (.seq (nthS 4 bdy23) (.seq (nthS 5 bdy23) (.seq (nthS 6 bdy23) (.seq (nthS 7 bdy23) (.seq (nthS 8 bdy23) (.seq (nthS 9 bdy23) (.seq (nthS 10 bdy23) (.seq (nthS 11 bdy23) (.seq (nthS 12 bdy23) .skip)))))))))))) := rfl
  rw [e]
  clear e envd
  have hb : gd (fun o => ∃ s', o = Out.rt (.d (.bl true)) s') (2 + (1 + (1 + (1 + 0)))) (evS (F m) (.seq (nthS 0 bdy23) (.seq (nthS 1 bdy23) (.seq (nthS 2 bdy23) (.seq (nthS 3 bdy23) (.seq (nthS 4 bdy23) (.seq (nthS 5 bdy23) (.seq (nthS 6 bdy23) (.seq (nthS 7 bdy23) (.seq (nthS 8 bdy23) (.seq (nthS 9 bdy23) (.seq (nthS 10 bdy23) (.seq (nthS 11 bdy23) (.seq (nthS 12 bdy23) .skip))))))))))))) (eR ps s a none none none none none none none none) []) := by
    have g0 := r0 (m := m) (ps := ps) (s := s) (a := a) hm2 hp.len
    refine gd_seq (n := 2) (m := 1 + (1 + (1 + 0))) g0 ?_
    rintro e' s' ⟨od, ho, k, hk, ee, es⟩
    subst ee es
    have g1 := r1 (m := m) (s := s) (a := a) hm2 hp.len ho hk
    refine gd_seq (n := 1) (m := 1 + (1 + 0)) g1 ?_
    rintro e' s' ⟨x, hx, hw, ee, es⟩
    subst ee es
    have g2 := r2 (m := m) (ps := ps) (s := s) (a := a) hm2 (some (.d (wr ps k x))) (some (.d od)) (some (.d (.int (k : Int))))
    refine gd_seq (n := 1) (m := 1 + 0) g2 ?_
    rintro e' s' ⟨nn, hnn, ee, es⟩
    subst ee es
    have g3 := r3 (m := m) (ps := ps) (s := s) (a := a) hm2 (some (.d (wr ps k x))) (some (.d nn)) (some (.d od)) (some (.d (.int (k : Int))))
    refine gd_seq (n := 1) (m := 0) g3 ?_
    rintro e' s' ⟨bad, hbad, ee, es⟩
    subst ee es
    obtain ⟨n1, n2, n3⟩ := none6_ok nn hnn
    have y4 : X5 (wr ps k x) nn bad 1 [.int (k : Int)] := x5_p (wr_bad hp hk hx hw)
    have y5 : X5 (I ps) nn bad 2 [nn] := x5_s hp n1 n2
    have y6 : X5 (I ps) (.int s) bad 0 [.int 1] := x5_a hp hs (bad3_ok bad hbad)
    have y7 : X5 .non nn bad 1 [.int 0] := x5_p fun j hj => c_pages_no rfl rfl hj
    have y8 : X5 (I ps) (.int s) (.int 5) 0 [.int 0] := x5_a hp hs fun j hj => c_among_no rfl rfl rfl hj
    have y9 : X5 (I ps) nn (.lst []) 2 [nn] := x5_s hp n1 n2
    rw [es_seq, r4 hm y4, R_bind_ok, thn_nx]
    have r5' := r5 (s := s) (a := a) (k := k) (x := x) (od := some (.d od)) hm y5 (some (.d (I R41)))
    have r6' := r6 (s := s) (a := a) (k := k) (x := x) (nn := nn) (od := some (.d od)) hm y6 (some (.d (I R41)))
    have r7' := r7 (ps := ps) (s := s) (a := a) (k := k) (x := x) (od := some (.d od)) hm y7 (some (.d (I R41)))
    have r8' := r8 (a := a) (k := k) (x := x) (nn := nn) (bad := bad) (od := some (.d od)) hm y8 (some (.d (I R41)))
    have r9' := r9 (s := s) (a := a) (k := k) (x := x) (bad := bad) (od := some (.d od)) hm y9 (some (.d (I R41)))
    have r10' := r10 (m := m) (ps := ps) (s := s) (a := a) (k := k) (x := x) (nn := nn) (bad := bad) (od := some (.d od)) (some (.d (I R41)))
    have ew : ∀ v7 : Option Vl, eR ps s a (some (.d (wr ps k x))) (some (.d nn)) (some (.ref 0)) v7 (some (.d od)) (some (.d (.int (k : Int)))) (some (.d bad)) (some (.d (I R41))) = eS ps s a k x nn bad (some (.d od)) v7 (some (.d (I R41))) := fun _ => rfl
    rw [ew]
    rw [es_seq, r5', R_bind_ok, thn_nx, es_seq, r6', R_bind_ok, thn_nx, es_seq, r7', R_bind_ok, thn_nx, es_seq, r8', R_bind_ok, thn_nx, es_seq, r9', R_bind_ok, thn_nx, es_seq, r10', R_bind_ok, thn_nx, es_seq]
    obtain ⟨q1, q2⟩ := du_same (k := k) n3
    rcases List.eq_nil_or_concat ps with h0 | ⟨qs, l, h0⟩
    · subst h0
      rw [r11n, R_bind_ok, thn_nx, es_seq, r12 q1 hm, R_bind_ok, thn_rt]
      exact gd_ok ⟨_, rfl⟩
    · rw [List.concat_eq_append] at h0
      subst h0
      rw [r11 hp hs hm, R_bind_ok, thn_nx, es_seq, r12 (q2 l) hm, R_bind_ok, thn_rt]
      exact gd_ok ⟨_, rfl⟩
  exact gd_fin (gd_mono hb (Nat.le_refl 5) fun _ h => h)
end
end EV

end
section
set_option maxRecDepth 1000000
set_option linter.all false
namespace EV
/-! ### the greedy -/
theorem insI_pm (x : Int) : ∀ l : List Int, (insI x l).Perm (x :: l)
  | [] => List.Perm.refl _
  | y :: l => by
    unfold insI
    by_cases h : x ≤ y
    · rw [if_pos h]
    · rw [if_neg h]
      exact ((insI_pm x l).cons y).trans (List.Perm.swap x y l)
theorem sortI_pm : ∀ l : List Int, (sortI l).Perm l
  | [] => List.Perm.refl _
  | x :: l => (insI_pm x (sortI l)).trans ((sortI_pm l).cons x)
theorem insI_le (x : Int) : ∀ l : List Int, l.Pairwise (· ≤ ·) → (insI x l).Pairwise (· ≤ ·)
  | [], _ => by simp [insI]
  | y :: l, h => by
    unfold insI
    have h1 := List.pairwise_cons.mp h
    by_cases c : x ≤ y
    · rw [if_pos c]
      refine List.pairwise_cons.mpr ⟨fun z hz => ?_, h⟩
      rcases List.mem_cons.mp hz with rfl | hz
      · exact c
      · have := h1.1 z hz; omega
    · rw [if_neg c]
      refine List.pairwise_cons.mpr ⟨fun z hz => ?_, insI_le x l h1.2⟩
      rcases List.mem_cons.mp ((insI_pm x l).mem_iff.mp hz) with rfl | hz
      · omega
      · exact h1.1 z hz
theorem sortI_le : ∀ l : List Int, (sortI l).Pairwise (· ≤ ·)
  | [] => List.Pairwise.nil
  | x :: l => insI_le x _ (sortI_le l)
theorem sortI_lt {l : List Int} (h : l.Nodup) : (sortI l).Pairwise (· < ·) := by
  have h1 := sortI_le l
  have h2 : (sortI l).Nodup := (sortI_pm l).nodup_iff.mpr h
  refine (List.Pairwise.and h1 h2).imp ?_
  rintro a b ⟨q1, q2⟩
  omega
theorem adj_cons2 (s : Int) (kn : Option (List Int)) (q r : Int) (l : List Int) : adj s kn (q :: r :: l) = (decide (q < r) && !carried q r s kn && adj s kn (r :: l)) := rfl
theorem adj_snoc {s : Int} {kn : Option (List Int)} {a p : Int} (h1 : a < p) (h2 : carried a p s kn = false) : ∀ qs : List Int, adj s kn (qs ++ [a]) = true → adj s kn (qs ++ [a, p]) = true
  | [], _ => by
    rw [List.nil_append, adj_cons2]
    simp [h1, h2, adj]
  | [q], h => by
    simp only [List.cons_append, List.nil_append] at h ⊢
    rw [adj_cons2] at h ⊢
    rw [Bool.and_eq_true] at h ⊢
    exact ⟨h.1, adj_snoc h1 h2 [] h.2⟩
  | q :: r :: qs, h => by
    simp only [List.cons_append] at h ⊢
    rw [adj_cons2] at h ⊢
    rw [Bool.and_eq_true] at h ⊢
    exact ⟨h.1, adj_snoc h1 h2 (r :: qs) h.2⟩
structure GI (s : Int) (kn : Option (List Int)) (acc : List (Int × Int)) (dn : List Int) : Prop where
  pr : ∀ q ∈ acc, q.1 ≤ q.2 ∧ q.1 ∈ dn ∧ q.2 ∈ dn ∧ carried q.1 q.2 s kn = true
  cv : ∀ p ∈ dn, ∃ q ∈ acc, q.1 ≤ p ∧ p ≤ q.2
  ch : acc.Pairwise fun q r => q.2 < r.1
  ad : adj s kn (acc.map (·.1)) = true
  ln : acc.length ≤ dn.length
theorem gi_step {s : Int} {kn : Option (List Int)} {acc : List (Int × Int)} {dn : List Int} {p : Int} (h : GI s kn acc dn) (hp : ∀ d ∈ dn, d < p) (hc : carried p p s kn = true) :
    GI s kn (match acc.getLast? with
    | none => acc ++ [(p, p)]
    | some (a, b) => if carried a p s kn then acc.dropLast ++ [(a, p)] else acc ++ [(p, p)]) (dn ++ [p]) := by
  have new : adj s kn ((acc ++ [(p, p)]).map (·.1)) = true → GI s kn (acc ++ [(p, p)]) (dn ++ [p]) := fun had => by
    refine ⟨?_, ?_, ?_, had, by simp; exact h.ln⟩
    · intro q hq
      rcases List.mem_append.mp hq with hq | hq
      · obtain ⟨h1, h2, h3, h4⟩ := h.pr q hq
        exact ⟨h1, List.mem_append_left _ h2, List.mem_append_left _ h3, h4⟩
      · rw [List.mem_singleton.mp hq]
        exact ⟨Int.le_refl _, by simp, by simp, hc⟩
    · intro d hd
      rcases List.mem_append.mp hd with hd | hd
      · obtain ⟨q, hq, h1⟩ := h.cv d hd
        exact ⟨q, List.mem_append_left _ hq, h1⟩
      · rw [List.mem_singleton.mp hd]
        exact ⟨(p, p), by simp, Int.le_refl _, Int.le_refl _⟩
    · refine List.pairwise_append.mpr ⟨h.ch, by simp, fun q hq r hr => ?_⟩
      rw [List.mem_singleton.mp hr]
      exact hp _ (h.pr q hq).2.2.1
  rcases List.eq_nil_or_concat acc with h0 | ⟨ini, ⟨a, b⟩, h0⟩
  · subst h0
    exact new rfl
  · rw [List.concat_eq_append] at h0
    subst h0
    simp only [List.getLast?_append, List.getLast?_singleton, Option.some_or, List.dropLast_concat]
    have hab := h.pr (a, b) (by simp)
    have hap : a < p := hp a hab.2.1
    by_cases c : carried a p s kn = true
    · rw [if_pos c]
      obtain ⟨c1, c2, c3⟩ := List.pairwise_append.mp h.ch
      refine ⟨?_, ?_, ?_, ?_, by have := h.ln; simp at this ⊢; omega⟩
      · intro q hq
        rcases List.mem_append.mp hq with hq | hq
        · obtain ⟨h1, h2, h3, h4⟩ := h.pr q (List.mem_append_left _ hq)
          exact ⟨h1, List.mem_append_left _ h2, List.mem_append_left _ h3, h4⟩
        · rw [List.mem_singleton.mp hq]
          exact ⟨by show a ≤ p; omega, List.mem_append_left _ hab.2.1, by simp, c⟩
      · intro d hd
        rcases List.mem_append.mp hd with hd | hd
        · obtain ⟨q, hq, h1, h2⟩ := h.cv d hd
          rcases List.mem_append.mp hq with hq | hq
          · exact ⟨q, List.mem_append_left _ hq, h1, h2⟩
          · rw [List.mem_singleton.mp hq] at h1 h2
            have := hp d hd
            exact ⟨(a, p), by simp, h1, by show d ≤ p; omega⟩
        · rw [List.mem_singleton.mp hd]
          exact ⟨(a, p), by simp, by show a ≤ p; omega, Int.le_refl _⟩
      · refine List.pairwise_append.mpr ⟨c1, by simp, fun q hq r hr => ?_⟩
        rw [List.mem_singleton.mp hr]
        exact c3 q hq (a, b) (by simp)
      · have := h.ad
        simpa using this
    · rw [if_neg c]
      refine new ?_
      have h1 := h.ad
      simp only [List.map_append, List.map_cons, List.map_nil] at h1 ⊢
      have := adj_snoc hap (by simpa using c) (ini.map (·.1)) h1
      simpa using this
theorem gi_gr {s : Int} {kn : Option (List Int)} : ∀ (l acc : List (Int)) (dn : List Int) (ac : List (Int × Int)), GI s kn ac dn → (dn ++ l).Pairwise (· < ·) → (∀ p ∈ l, carried p p s kn = true) → GI s kn (gr s kn l ac) (dn ++ l)
  | [], _, dn, ac, h, _, _ => by simpa [gr] using h
  | p :: l, acc, dn, ac, h, hs, hc => by
    have hlt : ∀ d ∈ dn, d < p := fun d hd => (List.pairwise_append.mp hs).2.2 d hd p List.mem_cons_self
    have h1 := gi_step h hlt (hc p List.mem_cons_self)
    have h2 := fun ac' (h' : GI s kn ac' (dn ++ [p])) => gi_gr l acc (dn ++ [p]) ac' h' (by simpa using hs) fun q hq => hc q (List.mem_cons_of_mem _ hq)
    have e : dn ++ [p] ++ l = dn ++ p :: l := by simp
    rw [e] at h2
    unfold gr
    cases hl : ac.getLast? with
    | none => rw [hl] at h1; exact h2 _ h1
    | some ab =>
      obtain ⟨a, b⟩ := ab
      rw [hl] at h1
      dsimp only at h1 ⊢
      by_cases c : carried a p s kn = true
      · rw [if_pos c] at h1 ⊢; exact h2 _ h1
      · rw [if_neg c] at h1 ⊢; exact h2 _ h1
theorem carried_self {p s : Int} {kn : Option (List Int)} (hs : 1 ≤ s) (h : ∀ xs, kn = some xs → p ∈ xs) : carried p p s kn = true := by
  unfold carried
  have h1 : decide (p < p) = false := by simp
  have h2 : decide (s ≤ p - p) = false := by simp; omega
  rw [h1, h2]
  cases kn with
  | none => rfl
  | some xs =>
    have := h xs rfl
    simp only [Bool.or_false, Bool.not_false, Bool.true_and, List.all_eq_true, decide_eq_true_eq]
    intro x hx
    have := mem_rng.mp hx
    have : x = p := by omega
    rw [this]; assumption
/-- the greedy's law -/
theorem gi_ok {ps : List Int} {s : Int} {kn : Option (List Int)} (hn : ps.Nodup) (hs : 1 ≤ s) (h : ∀ xs, kn = some xs → ∀ p ∈ ps, p ∈ xs) : GI s kn (gr s kn (sortI ps) []) (sortI ps) := by
  have := gi_gr (s := s) (kn := kn) (sortI ps) [] [] [] ⟨by simp, by simp, List.Pairwise.nil, rfl, by simp⟩ (by simpa using sortI_lt hn) fun p hp => carried_self hs fun xs e => h xs e p ((sortI_pm ps).mem_iff.mp hp)
  simpa using this
theorem carried_mem {f l s : Int} {xs ys : List Int} (h : ∀ i, i ∈ xs ↔ i ∈ ys) : carried f l s (some xs) = carried f l s (some ys) := by
  unfold carried
  congr 1
  dsimp only
  congr 1
  funext x
  simp [h]
theorem gr_mem {s : Int} {xs ys : List Int} (h : ∀ i, i ∈ xs ↔ i ∈ ys) : ∀ (l : List Int) (ac : List (Int × Int)), gr s (some xs) l ac = gr s (some ys) l ac
  | [], _ => rfl
  | p :: l, ac => by
    unfold gr
    cases ac.getLast? with
    | none => exact gr_mem h l _
    | some ab =>
      obtain ⟨a, b⟩ := ab
      dsimp only
      rw [carried_mem h, gr_mem h l, gr_mem h l]
theorem asc_of : ∀ {l : List (Int × Int)}, (∀ q ∈ l, q.1 ≤ q.2) → l.Pairwise (fun q r => q.2 < r.1) → ascP l = true
  | [], _, _ => rfl
  | q :: l, h1, h2 => by
    have h3 := List.pairwise_cons.mp h2
    unfold ascP
    rw [Bool.and_eq_true]
    refine ⟨List.all_eq_true.mpr fun r hr => ?_, asc_of (fun r hr => h1 r (List.mem_cons_of_mem _ hr)) h3.2⟩
    have := h3.1 r hr
    have h4 := h1 q List.mem_cons_self
    unfold leP
    rw [if_neg (by omega)]
    simp; omega
theorem zip_lt : ∀ {l : List (Int × Int)}, l.Pairwise (fun q r => q.2 < r.1) → ∀ z ∈ l.zip l.tail, z.1.2 < z.2.1
  | [], _, z, hz => by simp at hz
  | [q], _, z, hz => by simp at hz
  | q :: r :: l, h, z, hz => by
    have h3 := List.pairwise_cons.mp h
    rcases List.mem_cons.mp hz with rfl | hz
    · exact h3.1 r List.mem_cons_self
    · exact zip_lt h3.2 z hz
end EV

end
section
set_option maxRecDepth 1000000
set_option linter.all false
namespace EV
/-- the setting of a turn -/
structure Se (ps : List Int) (s : Int) (am : Option (List Int)) (hd pd : D) : Prop where
  pg : Pg ps
  s1 : 1 ≤ s
  amo : ∀ xs, am = some xs → xs.Nodup ∧ (∀ x ∈ xs, 0 ≤ x ∧ x < 40) ∧ xs.length ≤ 40 ∧ ∀ p ∈ ps, p ∈ xs
  hdn : am = none → hd = .non
  hds : ∀ xs, am = some xs → ∃ zs, zs.Perm xs ∧ (hd = I zs ∨ hd = .tup (zs.map .int))
  pdo : pd = I ps ∨ pd = .tup (ps.map .int)
def AmO (ps : List Int) (a : D) (kn : Option (List Int)) : Prop := (kn = none ∧ a = .non) ∨ ∃ zs, kn = some zs ∧ isSeq a = true ∧ itemsD a = zs.map .int ∧ zs.Nodup ∧ (∀ x ∈ zs, 0 ≤ x) ∧ zs.length < 64 ∧ ∀ p ∈ ps, p ∈ zs
theorem cl5 {ps : List Int} {s : Int} {p a : D} {kn : Option (List Int)} (hp : Pg ps) (hs : 1 ≤ s) (h1 : isSeq p = true) (h2 : itemsD p = ps.map .int) (h : AmO ps a kn) {j : Nat} (hj : 4 ≤ j) (st : Store) : callE (F j) .frz 5 [.d p, .d (.int s), .d a] st = ret (.d (.tup [I (sortI ps), knV kn])) st := by
  obtain ⟨k, rfl⟩ : ∃ k, j = k + 1 := ⟨j - 1, by omega⟩
  rcases h with ⟨rfl, rfl⟩ | ⟨zs, rfl, a1, a2, a3, a4, a5, a6⟩
  · exact c_cl_non (pg_3 hp h1 h2 (by omega)) hs (c_among_non (by omega)) (by omega)
  · have hf : ps.find? (fun i => !decide (i ∈ zs)) = none := List.find?_eq_none.mpr fun i hi => by simp [a6 i hi]
    rw [c_cl_kn h1 h2 (pg_3 hp h1 h2 (by omega)) hs (am_4 a3 a4 a5 a1 a2 (by omega)) (by omega), hf]
    rfl
section
variable {ps : List Int} {s : Int} {am : Option (List Int)} {hd pd : D}
def LL (ps : List Int) (s : Int) (am : Option (List Int)) : List (Int × Int) := gr s am (sortI ps) []
def FF (ps : List Int) (s : Int) (am : Option (List Int)) : List Int := (LL ps s am).map (·.1)
theorem Se.gi (h : Se ps s am hd pd) : GI s am (LL ps s am) (sortI ps) := gi_ok h.pg.nd h.s1 fun xs e => (h.amo xs e).2.2.2
theorem Se.mem (h : Se ps s am hd pd) : ∀ q ∈ LL ps s am, q.1 ∈ ps ∧ q.2 ∈ ps ∧ q.1 ≤ q.2 ∧ carried q.1 q.2 s am = true := fun q hq => by
  obtain ⟨h1, h2, h3, h4⟩ := h.gi.pr q hq
  exact ⟨(sortI_pm ps).mem_iff.mp h2, (sortI_pm ps).mem_iff.mp h3, h1, h4⟩
theorem Se.len (h : Se ps s am hd pd) : (LL ps s am).length ≤ 40 := by
  have h1 := h.gi.ln
  have h2 := (sortI_pm ps).length_eq
  have h3 := h.pg.len
  omega
theorem Se.smq (h : Se ps s am hd pd) : ∀ q ∈ LL ps s am, (0 ≤ q.1 ∧ q.1 < 40) ∧ 0 ≤ q.2 ∧ q.2 < 40 := fun q hq => by
  obtain ⟨h1, h2, _, _⟩ := h.mem q hq
  exact ⟨⟨h.pg.lo _ h1, h.pg.hi _ h1⟩, h.pg.lo _ h2, h.pg.hi _ h2⟩
theorem Se.amA (h : Se ps s am hd pd) : AmO ps (amV am) am := by
  cases e : am with
  | none => exact Or.inl ⟨rfl, rfl⟩
  | some xs =>
    obtain ⟨h1, h2, h3, h4⟩ := h.amo xs e
    exact Or.inr ⟨xs, rfl, rfl, rfl, h1, fun x hx => (h2 x hx).1, by omega, h4⟩
/-- handed -/
theorem Se.amH (h : Se ps s am hd pd) : ∃ kn, AmO ps hd kn ∧ ∀ (l : List Int), gr s kn l [] = gr s am l [] := by
  cases e : am with
  | none => exact ⟨none, Or.inl ⟨rfl, h.hdn e⟩, fun _ => rfl⟩
  | some xs =>
    obtain ⟨h1, h2, h3, h4⟩ := h.amo xs e
    obtain ⟨zs, hz, ho⟩ := h.hds xs e
    have hm := fun i => hz.mem_iff (a := i)
    refine ⟨some zs, Or.inr ⟨zs, rfl, ?_, ?_, hz.nodup_iff.mpr h1, fun x hx => (h2 x ((hm x).mp hx)).1, by rw [hz.length_eq]; omega, fun p hp => (hm p).mpr (h4 p hp)⟩, fun l => gr_mem hm l []⟩
    · rcases ho with rfl | rfl <;> rfl
    · rcases ho with rfl | rfl <;> rfl
theorem let_N {p a : D} {kn : Option (List Int)} (h : Se ps s am hd pd) (h1 : isSeq p = true) (h2 : itemsD p = ps.map .int) (ha : AmO ps a kn) (hk : ∀ l : List Int, gr s kn l [] = gr s am l []) {m : Nat} (hm : 5 ≤ m) : callN fns 1000 m 7 [.d p, .d (.int s), .d a] [] = .ok (.v (.ref 0) [cellP (LL ps s am)]) := by
  obtain ⟨k, rfl⟩ : ∃ k, m = k + 2 := ⟨m - 2, by omega⟩
  have hl := h.pg.len
  rw [letters_ok (cl5 h.pg h.s1 h1 h2 ha (by omega) []) (fun i hi => h.pg.sm i ((sortI_pm ps).mem_iff.mp hi)) (by rw [(sortI_pm ps).length_eq]; omega), hk]
  rfl
theorem let_F {p a : D} {kn : Option (List Int)} (h : Se ps s am hd pd) (h1 : isSeq p = true) (h2 : itemsD p = ps.map .int) (ha : AmO ps a kn) (hk : ∀ l : List Int, gr s kn l [] = gr s am l []) {m : Nat} (hm : 5 ≤ m) (st : Store) : callE (F m) .frz 7 [.d p, .d (.int s), .d a] st = ret (.d (.lst (P2 (LL ps s am)))) st :=
  frz_of (ds := [p, .int s, a]) (let_N h h1 h2 ha hk hm) snap_cellP
theorem let_A {p a : D} {kn : Option (List Int)} (h : Se ps s am hd pd) (h1 : isSeq p = true) (h2 : itemsD p = ps.map .int) (ha : AmO ps a kn) (hk : ∀ l : List Int, gr s kn l [] = gr s am l []) {m : Nat} (hm : 5 ≤ m) (st : Store) : callE (F m) .adopt 7 [.d p, .d (.int s), .d a] st = ret (.ref st.length) (st ++ [cellP (LL ps s am)]) :=
  adopt_of (ds := [p, .int s, a]) (let_N h h1 h2 ha hk hm) snap_cellP
theorem apt_N {p a : D} {kn : Option (List Int)} (h : Se ps s am hd pd) (h1 : isSeq p = true) (h2 : itemsD p = ps.map .int) (ha : AmO ps a kn) (hk : ∀ l : List Int, gr s kn l [] = gr s am l []) {m : Nat} (hm : 6 ≤ m) : callN fns 1000 m 8 [.d p, .d (.int s), .d a] [] = .ok (.v (.ref 0) [cellI (FF ps s am)]) := by
  obtain ⟨k, rfl⟩ : ∃ k, m = k + 2 := ⟨m - 2, by omega⟩
  have := h.len
  exact apart_ok (let_F h h1 h2 ha hk (by omega) []) (by omega)
theorem apt_F {p a : D} {kn : Option (List Int)} (h : Se ps s am hd pd) (h1 : isSeq p = true) (h2 : itemsD p = ps.map .int) (ha : AmO ps a kn) (hk : ∀ l : List Int, gr s kn l [] = gr s am l []) {m : Nat} (hm : 6 ≤ m) (st : Store) : callE (F m) .frz 8 [.d p, .d (.int s), .d a] st = ret (.d (I (FF ps s am))) st :=
  frz_of (ds := [p, .int s, a]) (apt_N h h1 h2 ha hk hm) snap_cell
theorem apt_A {p a : D} {kn : Option (List Int)} (h : Se ps s am hd pd) (h1 : isSeq p = true) (h2 : itemsD p = ps.map .int) (ha : AmO ps a kn) (hk : ∀ l : List Int, gr s kn l [] = gr s am l []) {m : Nat} (hm : 6 ≤ m) (st : Store) : callE (F m) .adopt 8 [.d p, .d (.int s), .d a] st = ret (.ref st.length) (st ++ [cellI (FF ps s am)]) :=
  adopt_of (ds := [p, .int s, a]) (apt_N h h1 h2 ha hk hm) snap_cell
/-! calls without among -/
theorem let_2 (h : Se ps s none hd pd) {m : Nat} (hm : 5 ≤ m) (st : Store) : callE (F m) .frz 7 [.d (I ps), .d (.int s)] st = ret (.d (.lst (P2 (LL ps s none)))) st :=
  frz_of (ds := [I ps, .int s]) (by rw [show ([I ps, .int s] : List D).map Vl.d = [.d (I ps), .d (.int s)] from rfl, letters_2]; exact let_N h rfl rfl (Or.inl ⟨rfl, rfl⟩) (fun _ => rfl) hm) snap_cellP
theorem apt_2 (h : Se ps s none hd pd) {m : Nat} (hm : 6 ≤ m) (st : Store) : callE (F m) .frz 8 [.d (I ps), .d (.int s)] st = ret (.d (I (FF ps s none))) st :=
  frz_of (ds := [I ps, .int s]) (by rw [show ([I ps, .int s] : List D).map Vl.d = [.d (I ps), .d (.int s)] from rfl, apart_2]; exact apt_N h rfl rfl (Or.inl ⟨rfl, rfl⟩) (fun _ => rfl) hm) snap_cell
/-! the four readings of a thing -/
def RL (ps : List Int) (s : Int) (am : Option (List Int)) (T : D) : Bool := isSeq T && (itemsD T).all (xok s am) && ps.all fun p => (itemsD T).any (cov p)
def RA (ps : List Int) (s : Int) (am : Option (List Int)) (T : D) : Bool := isSeq T && (itemsD T).all (pgIn ps) && pairw s am (intsD (itemsD T))
variable {T : D}
theorem all_perm {α : Type} {xs ys : List α} (h : xs.Perm ys) (f : α → Bool) : xs.all f = ys.all f := by
  rw [Bool.eq_iff_iff, List.all_eq_true, List.all_eq_true]
  exact ⟨fun q x hx => q x (h.mem_iff.mpr hx), fun q x hx => q x (h.mem_iff.mp hx)⟩
theorem v9 (h : Se ps s am hd pd) (hT : tOk T = true) {m : Nat} (hm : 6 ≤ m) (st : Store) : callE (F m) .frz 9 [.d (I ps), .d (.int s), .d (amV am), .d T] st = ret (.d (.bl (RL ps s am T))) st := by
  obtain ⟨k, rfl⟩ : ∃ k, m = k + 3 := ⟨m - 3, by omega⟩
  have hl := h.pg.len
  rw [c_are_letters (cl5 h.pg h.s1 rfl rfl h.amA (by omega) []) (by rw [(sortI_pm ps).length_eq]; omega) hT]
  congr 3
  unfold RL
  rw [all_perm (sortI_pm ps)]
  have : (itemsD T).all (xok s am) = ((itemsD T).all p2 && (itemsD T).all pn && (itemsD T).all (pc s am)) := by
    rw [Bool.eq_iff_iff]
    simp only [List.all_eq_true, Bool.and_eq_true, xok]
    exact ⟨fun q => ⟨⟨fun x hx => (q x hx).1.1, fun x hx => (q x hx).1.2⟩, fun x hx => (q x hx).2⟩, fun q x hx => ⟨⟨q.1.1 x hx, q.1.2 x hx⟩, q.2 x hx⟩⟩
  rw [this]
  simp only [Bool.and_assoc]
theorem v10 (h : Se ps s am hd pd) (hT : tOk T = true) {m : Nat} (hm : 6 ≤ m) (st : Store) : callE (F m) .frz 10 [.d (I ps), .d (.int s), .d (amV am), .d T] st = ret (.d (.bl (RA ps s am T))) st := by
  obtain ⟨k, rfl⟩ : ∃ k, m = k + 3 := ⟨m - 3, by omega⟩
  rw [c_are_apart (cl5 h.pg h.s1 rfl rfl h.amA (by omega) []) hT fun i hi => h.pg.sm i ((sortI_pm ps).mem_iff.mp hi)]
  congr 3
  unfold RA
  rw [adj_pairw]
  have : ∀ x, pgIn (sortI ps) x = pgIn ps x := fun x => by
    cases x <;> try rfl
    simp only [pgIn, (sortI_pm ps).mem_iff]
  rw [show (itemsD T).all (pgIn (sortI ps)) = (itemsD T).all (pgIn ps) from by congr 1; funext x; exact this x]
theorem v20 (h : Se ps s am hd pd) (hT : tOk T = true) {m : Nat} (hm : 6 ≤ m) (st : Store) : callE (F m) .frz 20 [.d (I ps), .d (.int s), .d (amV am), .d T] st = ret (.d (.bl (RL ps s am T))) st := by
  obtain ⟨k, rfl⟩ : ∃ k, m = k + 2 := ⟨m - 2, by omega⟩
  have hl := h.pg.len
  exact c_law_letters (by omega) hT
theorem v21 (h : Se ps s am hd pd) (hT : tOk T = true) {m : Nat} (hm : 6 ≤ m) (st : Store) : callE (F m) .frz 21 [.d (I ps), .d (.int s), .d (amV am), .d T] st = ret (.d (.bl (RA ps s am T))) st := by
  obtain ⟨k, rfl⟩ : ∃ k, m = k + 2 := ⟨m - 2, by omega⟩
  have hl := h.pg.len
  exact c_law_apart (by omega) h.pg.sm hT
end
end EV

end
section
set_option maxRecDepth 1000000
set_option linter.all false
namespace EV
/-! repr -/
theorem rpIs_I {l : List Int} (h : ∀ i ∈ l, 0 ≤ i ∧ i < 40) : rpIs (l.map .int) = true := by
  induction l with
  | nil => rfl
  | cons i l ih =>
    have h1 := h i List.mem_cons_self
    simp only [List.map_cons, rpIs, rpI, ih fun j hj => h j (List.mem_cons_of_mem _ hj), Bool.and_true, decide_eq_true_eq]
    have : (10 : Nat) ^ 12 = 1000000000000 := by decide
    omega
theorem rpWs_I (l : List Int) : rpWs (l.map .int) = 42 * l.length := by
  induction l with
  | nil => rfl
  | cons i l ih => simp only [List.map_cons, rpWs, rpW, ih, List.length_cons]; omega
theorem rpIs_P2 {l : List (Int × Int)} (h : ∀ q ∈ l, (0 ≤ q.1 ∧ q.1 < 40) ∧ 0 ≤ q.2 ∧ q.2 < 40) : rpIs (P2 l) = true := by
  induction l with
  | nil => rfl
  | cons q l ih =>
    have h1 := h q List.mem_cons_self
    have h2 : rpIs ([q.1, q.2].map .int) = true := rpIs_I (by intro i hi; simp at hi; rcases hi with rfl | rfl; exact h1.1; exact h1.2)
    have ih2 := ih fun j hj => h j (List.mem_cons_of_mem _ hj)
    unfold P2 at ih2 ⊢
    simp only [List.map_cons, rpIs, rpI, ih2, Bool.and_true]
    simpa [rpIs, rpI] using h2
theorem rpWs_P2 (l : List (Int × Int)) : rpWs (P2 l) = 85 * l.length := by
  unfold P2
  induction l with
  | nil => rfl
  | cons i l ih => simp only [List.map_cons, rpWs, rpW, ih, List.length_cons]; omega
theorem eqBs_I (l : List Int) : eqBs (l.map .int) (l.map .int) = true := by
  induction l with
  | nil => rfl
  | cons i l ih => simp only [List.map_cons, eqBs, ih, Bool.and_true]; simp [eqB]
theorem eqBs_P2 (l : List (Int × Int)) : eqBs (P2 l) (P2 l) = true := by
  unfold P2
  induction l with
  | nil => rfl
  | cons i l ih => simp only [List.map_cons, eqBs, ih, Bool.and_true]; simp [eqB, eqBs]
theorem ne_rp (x : D) : cmpD .ne (.rp x) (.rp x) = some false := by
  show (if okB (.rp x) 64 && okB (.rp x) 64 then _ else eqRp _ _ : Option Bool).map not = _
  have : okB (.rp x) 64 = false := by simp [okB]
  rw [this]
  simp [eqRp, sameD_refl]
theorem ne_IS (l : List Int) : cmpD .ne (I l) (I l) = some false := by
  show (if _ then _ else _ : Option Bool).map not = _
  have : okB (I l) 64 = true := by simp only [I, okB, okBs_I]
  rw [this]
  simp [I, eqB, eqBs_I]
theorem ne_PS (l : List (Int × Int)) : cmpD .ne (.lst (P2 l)) (.lst (P2 l)) = some false := by
  show (if _ then _ else _ : Option Bool).map not = _
  have : okB (.lst (P2 l)) 64 = true := by simp only [okB, okBs_P2]
  rw [this]
  simp [eqB, eqBs_P2]
section
variable {ps : List Int} {s : Int} {am : Option (List Int)} {hd pd : D}
abbrev TT (ps : List Int) (s : Int) (am : Option (List Int)) : D := .lst (P2 (LL ps s am))
abbrev AA (ps : List Int) (s : Int) (am : Option (List Int)) : D := I (FF ps s am)
theorem Se.smf (h : Se ps s am hd pd) : ∀ i ∈ FF ps s am, 0 ≤ i ∧ i < 40 := fun i hi => by
  obtain ⟨q, hq, rfl⟩ := List.mem_map.mp hi
  exact (h.smq q hq).1
theorem Se.lenF (h : Se ps s am hd pd) : (FF ps s am).length ≤ 40 := by
  have := h.len
  simpa [FF] using this
theorem Se.rp1 (h : Se ps s am hd pd) : rpD (.tup [I ps, hd]) = some (.rp (.tup [I ps, hd])) := by
  have hl := h.pg.len
  have hp : ∀ i ∈ ps, 0 ≤ i ∧ i < 40 := fun i hi => ⟨h.pg.lo i hi, h.pg.hi i hi⟩
  have key : okB hd 61 = true ∧ rpI hd = true ∧ rpW hd ≤ 42 * 40 := by
    cases e : am with
    | none => rw [h.hdn e]; exact ⟨rfl, rfl, by decide⟩
    | some xs =>
      obtain ⟨h1, h2, h3, h4⟩ := h.amo xs e
      obtain ⟨zs, hz, ho⟩ := h.hds xs e
      have hzl := hz.length_eq
      have hzm : ∀ i ∈ zs, 0 ≤ i ∧ i < 40 := fun i hi => h2 i (hz.mem_iff.mp hi)
      rcases ho with rfl | rfl
      · exact ⟨by simp only [I, okB, okBs_I], by simp only [I, rpI, rpIs_I hzm], by simp only [I, rpW, rpWs_I]; omega⟩
      · exact ⟨by simp only [okB, okBs_I], by simp only [rpI, rpIs_I hzm], by simp only [rpW, rpWs_I]; omega⟩
  obtain ⟨k1, k2, k3⟩ := key
  unfold rpD
  rw [if_pos]
  have w : rpW (.tup [I ps, hd]) = 42 * ps.length + 1 + (rpW hd + 1 + 0) := by simp only [rpW, rpWs, I, rpWs_I]
  have o1 : okB (.tup [I ps, hd]) 62 = true := by simp only [okB, okBs, I, okBs_I, k1, Bool.and_self]
  have o2 : rpI (.tup [I ps, hd]) = true := by simp only [rpI, rpIs, I, rpIs_I hp, k2, Bool.and_self]
  have : (2 : Nat) ^ 20 = 1048576 := by decide
  rw [o1, o2, w]
  simp only [isSeq, Bool.true_and, decide_eq_true_eq]
  omega
theorem Se.rp2 (h : Se ps s am hd pd) : rpD (.tup [TT ps s am, AA ps s am]) = some (.rp (.tup [TT ps s am, AA ps s am])) := by
  have hl := h.len
  have hf := h.lenF
  unfold rpD
  rw [if_pos]
  have w : rpW (.tup [TT ps s am, AA ps s am]) = 85 * (LL ps s am).length + 1 + (42 * (FF ps s am).length + 1 + 0) := by simp only [rpW, rpWs, TT, AA, I, rpWs_I, rpWs_P2]
  have o1 : okB (.tup [TT ps s am, AA ps s am]) 62 = true := by
    have : okBs (P2 (LL ps s am)) 60 = true := by
      unfold P2
      generalize LL ps s am = l
      induction l with
      | nil => rfl
      | cons a l ih => simp [okBs, okB, ih]
    simp only [okB, okBs, TT, AA, I, okBs_I, this, Bool.and_self]
  have o2 : rpI (.tup [TT ps s am, AA ps s am]) = true := by simp only [rpI, rpIs, TT, AA, I, rpIs_I h.smf, rpIs_P2 h.smq, Bool.and_self]
  have : (2 : Nat) ^ 20 = 1048576 := by decide
  rw [o1, o2, w]
  simp only [isSeq, Bool.true_and, decide_eq_true_eq]
  omega
theorem rp_bi {x : D} {st : Store} (h : rpD x = some (.rp x)) : biE .repr [.d x] st = ret (.d (.rp x)) st := by
  have e : biE .repr [.d x] st = lift (((snap st (.d x)).bind rpD).map .d) st := rfl
  rw [e, snap_d, Option.bind_some, h]
  rfl
/-! told and apart are right -/
theorem Se.tT (h : Se ps s am hd pd) : tOk (TT ps s am) = true := by
  have hl := h.len
  refine (tOk_all (by simp [P2]; omega) (xOk_P2 fun q hq => ?_)).1
  obtain ⟨⟨h1, h2⟩, h3, h4⟩ := h.smq q hq
  simp [smB]; omega
theorem Se.tA (h : Se ps s am hd pd) : tOk (AA ps s am) = true := by
  have hl := h.lenF
  refine (tOk_all (by simp; omega) (xOk_I fun q hq => ?_)).1
  obtain ⟨h1, h2⟩ := h.smf q hq
  simp [smB]; omega
theorem Se.rlT (h : Se ps s am hd pd) : RL ps s am (TT ps s am) = true := by
  unfold RL
  rw [Bool.and_eq_true, Bool.and_eq_true]
  refine ⟨⟨rfl, List.all_eq_true.mpr fun x hx => ?_⟩, List.all_eq_true.mpr fun p hp => ?_⟩
  · obtain ⟨q, hq, rfl⟩ := List.mem_map.mp (show x ∈ P2 (LL ps s am) from hx)
    obtain ⟨⟨h1, h2⟩, h3, h4⟩ := h.smq q hq
    have hc := (h.mem q hq).2.2.2
    simp [xok, p2, pn, pc, isSeq, itemsD, isNum, h1, h3, hc]
  · obtain ⟨q, hq, h1, h2⟩ := h.gi.cv p ((sortI_pm ps).mem_iff.mpr hp)
    exact List.any_eq_true.mpr ⟨.tup [.int q.1, .int q.2], List.mem_map.mpr ⟨q, hq, rfl⟩, by simp [cov, itemsD, h1, h2]⟩
theorem intsD_I (l : List Int) : intsD (l.map .int) = l := by
  unfold intsD
  induction l with
  | nil => rfl
  | cons i l ih => simp only [List.map_cons, List.filterMap_cons, ih]
theorem Se.raA (h : Se ps s am hd pd) : RA ps s am (AA ps s am) = true := by
  unfold RA
  rw [Bool.and_eq_true, Bool.and_eq_true]
  refine ⟨⟨rfl, List.all_eq_true.mpr fun x hx => ?_⟩, ?_⟩
  · obtain ⟨i, hi, rfl⟩ := List.mem_map.mp (show x ∈ (FF ps s am).map .int from hx)
    obtain ⟨q, hq, rfl⟩ := List.mem_map.mp hi
    have h1 := (h.mem q hq).1
    simp [pgIn, h1, (h.smq q hq).1.1]
  · rw [show itemsD (AA ps s am) = (FF ps s am).map .int from rfl, intsD_I, ← adj_pairw]
    exact h.gi.ad
theorem sort_P2 {l : List (Int × Int)} (h : ascP l = true) (st : Store) : biE .sorted [.d (.lst (P2 l))] st = ret (.d (.lst (P2 l))) st := by
  have e : biE .sorted [.d (.lst (P2 l))] st = lift ((((lstOf st (.d (.lst (P2 l)))).bind dats).bind sortD).map fun l => .d (.lst l)) st := rfl
  have e2 : sortD (P2 l) = some (P2 l) := by
    cases l with
    | nil => rfl
    | cons q l =>
      have hp : ∀ l : List (Int × Int), pairsOf (P2 l) = some l := by
        intro l
        unfold P2
        induction l with
        | nil => rfl
        | cons q l ih => simp only [List.map_cons, pairsOf, ih, Option.map_some]
      have hi : intsOf (P2 (q :: l)) = none := rfl
      unfold sortD
      rw [hi]
      dsimp only
      rw [hp]
      dsimp only
      rw [if_pos h]
  rw [e]
  simp only [lstOf, Option.bind_some, dats_map, e2]
  rfl
theorem Se.asc (h : Se ps s am hd pd) : ascP (LL ps s am) = true := asc_of (fun q hq => (h.mem q hq).2.2.1) h.gi.ch
end
end EV

end
section
set_option maxRecDepth 1000000
set_option linter.all false
namespace EV
def sB0 : St := (.iff (.cmp .ne (.bi .repr (.cons (.tup (.cons (.bi .list (.cons (.v 11) .nil)) (.cons (.v 8) .nil))) .nil)) (.v 12)) (.seq (.ret (.c (.bl false))) .skip) .skip)
def sB1 : St := (.iff (.bo false (.not (.isi (.v 13) [.list])) (.bo false (.not (.call .frz 20 (.cons (.v 6) (.cons (.v 7) (.cons (.v 4) (.cons (.v 13) .nil)))))) (.cmp .ne (.bi .len (.cons (.v 13) .nil)) (.bi .len (.cons (.v 14) .nil))))) (.seq (.ret (.c (.bl false))) .skip) .skip)
def sB2 : St := (.iff (.not (.call .frz 15 (.cons (.v 13) (.cons (.bi .sorted (.cons (.lc false [20] (.nm 20) (.v 13) (.c (.bl true)) (.tup (.cons (.ix (.v 20) (.c (.int 0))) (.cons (.ix (.v 20) (.c (.int 1))) .nil)))) .nil)) .nil)))) (.seq (.ret (.c (.bl false))) .skip) .skip)
def sB3 : St := (.iff (.bi .any (.cons (.lc false [18, 19] (.tp (.cons (.nm 18) (.cons (.nm 19) .nil))) (.wk .zip (.cons (.v 13) (.cons (.sl (.v 13) (.c (.int 1)) .nil) .nil))) (.c (.bl true)) (.cmp .le (.ix (.v 19) (.c (.int 0))) (.ix (.v 18) (.c (.int 1))))) .nil)) (.seq (.ret (.c (.bl false))) .skip) .skip)
def sB4 : St := (.iff (.bo false (.not (.isi (.v 14) [.list])) (.not (.call .frz 21 (.cons (.v 6) (.cons (.v 7) (.cons (.v 4) (.cons (.v 14) .nil))))))) (.seq (.ret (.c (.bl false))) .skip) .skip)
def sB5 : St := (.for (.nm 9) (.bin .add (.call .frz 22 (.cons (.v 1) (.cons (.v 13) (.cons (.v 14) .nil)))) (.lst false (.cons (.v 13) (.cons (.v 14) .nil)))) (.seq (.set (.nm 15) (.lst false (.cons (.call .frz 9 (.cons (.v 6) (.cons (.v 7) (.cons (.v 4) (.cons (.v 9) .nil))))) (.cons (.call .frz 10 (.cons (.v 6) (.cons (.v 7) (.cons (.v 4) (.cons (.v 9) .nil))))) .nil)))) (.seq (.set (.nm 16) (.lst false (.cons (.call .frz 20 (.cons (.v 6) (.cons (.v 7) (.cons (.v 4) (.cons (.v 9) .nil))))) (.cons (.call .frz 21 (.cons (.v 6) (.cons (.v 7) (.cons (.v 4) (.cons (.v 9) .nil))))) .nil)))) (.seq (.iff (.not (.call .frz 15 (.cons (.v 15) (.cons (.v 16) .nil)))) (.seq (.ret (.c (.bl false))) .skip) .skip) .skip))))
def sB6 : St := (.iff (.bo true (.cmp .isN (.v 4) (.c .non)) (.bo false (.cmp .ne (.call .frz 7 (.cons (.v 6) (.cons (.v 7) .nil))) (.v 13)) (.cmp .ne (.call .frz 8 (.cons (.v 6) (.cons (.v 7) .nil))) (.v 14)))) (.seq (.ret (.c (.bl false))) .skip) .skip)
def sB7 : St := (.iff (.cmp .ne (.callk .frz 7 [0, 1, 2] (.cons (.v 6) (.cons (.v 7) (.cons (.v 8) .nil)))) (.v 13)) (.seq (.ret (.c (.bl false))) .skip) .skip)
def sB8 : St := (.iff (.not (.call .frz 23 (.cons (.v 1) (.cons (.v 6) (.cons (.v 7) (.cons (.v 4) .nil)))))) (.seq (.ret (.c (.bl false))) .skip) .skip)
def sB9 : St := (.set (.nm 10) (.bi .repr (.cons (.tup (.cons (.v 13) (.cons (.v 14) .nil))) .nil)))
def blk : St := (.seq sB0 (.seq sB1 (.seq sB2 (.seq sB3 (.seq sB4 (.seq sB5 (.seq sB6 (.seq sB7 (.seq sB8 (.seq sB9 .skip))))))))))
def sL0 : St := (.set (.nm 3) (.call .frz 13 (.cons (.v 1) (.cons (.lst false (.cons (.c (.int 6)) (.cons (.c (.int 12)) (.cons (.c (.int 12)) (.cons (.c (.int 40)) .nil))))) .nil))))
def sL1 : St := (.set (.nm 4) (.ite (.cmp .gt (.call .frz 12 (.cons (.v 1) (.cons (.c (.int 3)) .nil))) (.c (.int 0))) (.lc false [17] (.nm 17) (.wk .range (.cons (.v 3) .nil)) (.cmp .gt (.call .frz 12 (.cons (.v 1) (.cons (.c (.int 4)) .nil))) (.c (.int 0))) (.v 17)) (.c .non)))
def sL2 : St := (.set (.nm 5) (.ite (.cmp .isN (.v 4) (.c .non)) (.lrg false (.v 3)) (.v 4)))
def sL3 : St := (.set (.nm 6) (.call .frz 14 (.cons (.v 1) (.cons (.lc false [17] (.nm 17) (.v 5) (.cmp .eq (.call .frz 12 (.cons (.v 1) (.cons (.c (.int 2)) .nil))) (.c (.int 0))) (.v 17)) .nil))))
def sL4 : St := (.set (.nm 7) (.call .frz 13 (.cons (.v 1) (.cons (.lst false (.cons (.c (.int 1)) (.cons (.c (.int 2)) (.cons (.c (.int 3)) (.cons (.c (.int 4)) (.cons (.c (.int 10)) .nil)))))) .nil))))
def sL5 : St := (.set (.nm 8) (.ite (.cmp .isN (.v 4) (.c .non)) (.c .non) (.call .frz 16 (.cons (.v 1) (.cons (.call .frz 14 (.cons (.v 1) (.cons (.v 4) .nil))) .nil)))))
def sL6 : St := (.par [11, 12] (.cons (.call .frz 16 (.cons (.v 1) (.cons (.v 6) .nil))) (.cons (.bi .repr (.cons (.tup (.cons (.v 6) (.cons (.v 8) .nil))) .nil)) .nil)))
def sL7 : St := (.par [13, 14] (.cons (.call .adopt 7 (.cons (.v 11) (.cons (.v 7) (.cons (.v 8) .nil)))) (.cons (.call .adopt 8 (.cons (.bi .tuple (.cons (.v 6) .nil)) (.cons (.v 7) (.cons (.v 8) .nil)))) .nil)))
def sL8 : St := (.bor 10 blk)
def sL9 : St := (.ex (.mt .append (.v 13) (.cons (.tup (.cons (.c (.int 0)) (.cons (.c (.int 0)) .nil))) .nil)))
def sL10 : St := (.ex (.mt .append (.v 14) (.cons (.c (.int 0)) .nil)))
def sL11 : St := (.iff (.cmp .ne (.bi .repr (.cons (.tup (.cons (.call .frz 7 (.cons (.v 11) (.cons (.v 7) (.cons (.v 8) .nil)))) (.cons (.call .frz 8 (.cons (.bi .tuple (.cons (.v 6) .nil)) (.cons (.v 7) (.cons (.v 8) .nil)))) .nil))) .nil)) (.v 10)) (.seq (.ret (.c (.bl false))) .skip) .skip)
def turnB : St := (.seq sL0 (.seq sL1 (.seq sL2 (.seq sL3 (.seq sL4 (.seq sL5 (.seq sL6 (.seq sL7 (.seq sL8 (.seq sL9 (.seq sL10 (.seq sL11 .skip))))))))))))
theorem law_is : ir_law = .seq (.for (.nm 2) (.wk .range (.cons (.c (.int 5)) .nil)) turnB) (.seq (.ret (.c (.bl true))) .skip) := rfl
def sF0 : St := (.set (.nm 15) (.lst false (.cons (.call .frz 9 (.cons (.v 6) (.cons (.v 7) (.cons (.v 4) (.cons (.v 9) .nil))))) (.cons (.call .frz 10 (.cons (.v 6) (.cons (.v 7) (.cons (.v 4) (.cons (.v 9) .nil))))) .nil))))
def sF1 : St := (.set (.nm 16) (.lst false (.cons (.call .frz 20 (.cons (.v 6) (.cons (.v 7) (.cons (.v 4) (.cons (.v 9) .nil))))) (.cons (.call .frz 21 (.cons (.v 6) (.cons (.v 7) (.cons (.v 4) (.cons (.v 9) .nil))))) .nil))))
def sF2 : St := (.iff (.not (.call .frz 15 (.cons (.v 15) (.cons (.v 16) .nil)))) (.seq (.ret (.c (.bl false))) .skip) .skip)
def forB : St := (.seq sF0 (.seq sF1 (.seq sF2 .skip)))
theorem sB5_is : sB5 = .for (.nm 9) (.bin .add (.call .frz 22 (.cons (.v 1) (.cons (.v 13) (.cons (.v 14) .nil)))) (.lst false (.cons (.v 13) (.cons (.v 14) .nil)))) forB := rfl
/-- the block's environment -/
def eB (ps : List Int) (s : Int) (am : Option (List Int)) (hd pd : D) (i j : Nat) (b0 b2 b3 b5 b9 b10 b15 b16 b17 b18 b19 b20 : Option Vl) : Env :=
  [b0, some (.h .strm), b2, b3, some (.h (amV am)), b5, some (.h (I ps)), some (.h (.int s)), some (.h hd), b9, b10, some (.h pd), some (.h (.rp (.tup [I ps, hd]))), some (.hr i (TT ps s am)), some (.hr j (AA ps s am)), b15, b16, b17, b18, b19, b20]
section
variable {m : Nat} {ps : List Int} {s : Int} {am : Option (List Int)} {hd pd : D} {i j : Nat} {b0 b2 b3 b5 b9 b10 b15 b16 b17 b18 b19 b20 : Option Vl} {st : Store}
theorem rB1 : evE (F m) (.v 1) (eB ps s am hd pd i j b0 b2 b3 b5 b9 b10 b15 b16 b17 b18 b19 b20) st = ret (.d .strm) st := rfl
theorem rB4 : evE (F m) (.v 4) (eB ps s am hd pd i j b0 b2 b3 b5 b9 b10 b15 b16 b17 b18 b19 b20) st = ret (.d (amV am)) st := rfl
theorem rB6 : evE (F m) (.v 6) (eB ps s am hd pd i j b0 b2 b3 b5 b9 b10 b15 b16 b17 b18 b19 b20) st = ret (.d (I ps)) st := rfl
theorem rB7 : evE (F m) (.v 7) (eB ps s am hd pd i j b0 b2 b3 b5 b9 b10 b15 b16 b17 b18 b19 b20) st = ret (.d (.int s)) st := rfl
theorem rB8 : evE (F m) (.v 8) (eB ps s am hd pd i j b0 b2 b3 b5 b9 b10 b15 b16 b17 b18 b19 b20) st = ret (.d hd) st := rfl
theorem rB11 : evE (F m) (.v 11) (eB ps s am hd pd i j b0 b2 b3 b5 b9 b10 b15 b16 b17 b18 b19 b20) st = ret (.d pd) st := rfl
theorem rB12 : evE (F m) (.v 12) (eB ps s am hd pd i j b0 b2 b3 b5 b9 b10 b15 b16 b17 b18 b19 b20) st = ret (.d (.rp (.tup [I ps, hd]))) st := rfl
theorem rB13 : evE (F m) (.v 13) (eB ps s am hd pd i j b0 b2 b3 b5 b9 b10 b15 b16 b17 b18 b19 b20) st = ret (.d (TT ps s am)) st := rfl
theorem rB14 : evE (F m) (.v 14) (eB ps s am hd pd i j b0 b2 b3 b5 b9 b10 b15 b16 b17 b18 b19 b20) st = ret (.d (AA ps s am)) st := rfl
theorem tupf2 (d e : D) : tupf (.its [.d d, .d e]) st = ret (.d (.tup [d, e])) st := by simp [tupf, dats]
theorem lstf2 (d e : D) : lstf (.its [.d d, .d e]) st = ret (.d (.lst [d, e])) st := by simp [lstf, dats]
theorem list_pd (h : Se ps s am hd pd) : biE .list [.d pd] st = ret (.d (I ps)) st := by
  rcases h.pdo with rfl | rfl
  · exact bi_list_l
  · exact bi_list_t
theorem b0_ok (h : Se ps s am hd pd) : evS (F m) sB0 (eB ps s am hd pd i j b0 b2 b3 b5 b9 b10 b15 b16 b17 b18 b19 b20) st = .ok (.nx (eB ps s am hd pd i j b0 b2 b3 b5 b9 b10 b15 b16 b17 b18 b19 b20) st) := by
  simp only [sB0, es_iff, ev_cmp, ev_bi, ev_cons, ev_tup, rB11, rB8, rB12, ev_nil, bnd_ret, consf_its, biq_its, list_pd h, tupf2, rp_bi h.rp1, two_d, ne_rp, Option.map_some, lift_some, sBnd_ret, byT_bl, Bool.false_eq_true, if_false, es_skip]
theorem lenD (xs : List D) : biE .len [.d (.lst xs)] st = ret (.d (.int (xs.length : Int))) st := by
  rw [len_seq (d := .lst xs) rfl]; rfl
theorem isi_lst (xs : List D) : isif [.list] (.d (.lst xs)) st = ret (.d (.bl true)) st := rfl
theorem b1_ok (h : Se ps s am hd pd) (hm : 9 ≤ m) : evS (F m) sB1 (eB ps s am hd pd i j b0 b2 b3 b5 b9 b10 b15 b16 b17 b18 b19 b20) st = .ok (.nx (eB ps s am hd pd i j b0 b2 b3 b5 b9 b10 b15 b16 b17 b18 b19 b20) st) := by
  have hc := fun st : Store => v20 h h.tT (m := m) (by omega) st
  have hl : ((P2 (LL ps s am)).length : Int) = (((FF ps s am).map D.int).length : Int) := by simp [P2, FF]
  simp only [sB1, es_iff, ev_or, ev_not, ev_isi, ev_call, ev_cmp, ev_bi, ev_cons, rB13, rB14, rB6, rB7, rB4, ev_nil, bnd_ret, consf_its, biq_its, isi_lst, not1_bl, Bool.not_true, byT_bl, Bool.false_eq_true, if_false, calf_its, exLen, List.length_cons, List.length_nil, if_true, hc, h.rlT, TT, AA, I, lenD, two_d, hl, ne_int, decide_true, Option.map_some, lift_some, sBnd_ret, es_skip]
theorem b2_ok (h : Se ps s am hd pd) (hm : 9 ≤ m) : evS (F m) sB2 (eB ps s am hd pd i j b0 b2 b3 b5 b9 b10 b15 b16 b17 b18 b19 b20) st = .ok (.nx (eB ps s am hd pd i j b0 b2 b3 b5 b9 b10 b15 b16 b17 b18 b19 b20) st) := by
  have hlen := h.len
  have hlc : ∀ st : Store, evE (F m) (.lc false [20] (.nm 20) (.v 13) (.c (.bl true)) (.tup (.cons (.ix (.v 20) (.c (.int 0))) (.cons (.ix (.v 20) (.c (.int 1))) .nil)))) (eB ps s am hd pd i j b0 b2 b3 b5 b9 b10 b15 b16 b17 b18 b19 b20) st = ret (.d (TT ps s am)) st := fun st =>
    lc_map (w := .d (TT ps s am)) (LL ps s am) (fun q => .d (.tup [.int q.1, .int q.2])) (fun q => .tup [.int q.1, .int q.2]) rB13 (by simp [itsOf, P2]) (fun q _ => ⟨_, rfl, by
      simp only [ev_tup, ev_cons, ev_ix, ev_v, ev_c, ev_nil, eB, wipeE, List.foldl, List.set, envGet_0, envGet_s, Option.map_some, rdV_d, lift_some, bnd_ret, ixf_d, ix_tup0, ix_tup1, consf_its, tupf2]⟩) (by omega)
  have hsm : samB (TT ps s am) 2 = true := by
    have : samBs (P2 (LL ps s am)) 1 = true := by
      unfold P2
      generalize LL ps s am = l
      induction l with
      | nil => rfl
      | cons a l ih => simp [samBs, samB, ih]
    have l2 : (P2 (LL ps s am)).length < 1000 := by simp [P2]; omega
    simp only [TT, samB, this, l2, decide_true, Bool.and_self]
  have hc := fun st : Store => c_same 2 (TT ps s am) m st hsm (by omega)
  have hsrt := fun st : Store => sort_P2 h.asc st
  simp only [sB2, es_iff, ev_not, ev_call, ev_bi, ev_cons, rB13, hlc, ev_nil, bnd_ret, consf_its, biq_its, hsrt, calf_its, exLen, List.length_cons, List.length_nil, if_true, hc, not1_bl, Bool.not_true, byT_bl, Bool.false_eq_true, if_false, sBnd_ret, es_skip]
theorem zip2_P2 : ∀ (a b : List (Int × Int)), zip2 (P2 a) (P2 b) = (a.zip b).map fun z => Vl.d (.tup [.tup [.int z.1.1, .int z.1.2], .tup [.int z.2.1, .int z.2.2]])
  | [], b => by cases b <;> rfl
  | x :: a, [] => rfl
  | x :: a, y :: b => by
    have ih := zip2_P2 a b
    simp only [P2] at ih ⊢
    simp only [List.map_cons, List.zip_cons_cons]
    rw [← ih]
    rfl
theorem b3_ok (h : Se ps s am hd pd) : evS (F m) sB3 (eB ps s am hd pd i j b0 b2 b3 b5 b9 b10 b15 b16 b17 b18 b19 b20) st = .ok (.nx (eB ps s am hd pd i j b0 b2 b3 b5 b9 b10 b15 b16 b17 b18 b19 b20) st) := by
  have hlen := h.len
  have hz : ∀ st : Store, evE (F m) (.wk .zip (.cons (.v 13) (.cons (.sl (.v 13) (.c (.int 1)) .nil) .nil))) (eB ps s am hd pd i j b0 b2 b3 b5 b9 b10 b15 b16 b17 b18 b19 b20) st = ret (.its (((LL ps s am).zip (LL ps s am).tail).map fun z => Vl.d (.tup [.tup [.int z.1.1, .int z.1.2], .tup [.int z.2.1, .int z.2.2]]))) st := fun st => by
    have e1 : (P2 (LL ps s am)).drop 1 = P2 (LL ps s am).tail := by simp [P2]
    have e2 := wk_zip (T := .lst (P2 (LL ps s am))) rfl (P2 (LL ps s am).tail) (st := st)
    have e3 : reS (.lst (P2 (LL ps s am))) (P2 (LL ps s am).tail) = .lst (P2 (LL ps s am).tail) := rfl
    rw [e3, show itemsD (.lst (P2 (LL ps s am))) = P2 (LL ps s am) from rfl, zip2_P2] at e2
    simp only [ev_wk, ev_cons, rB13, bnd_ret, ev_sl, ev_c, ev_nil, TT, sl_1, e1, consf_its, wkf_its, e2]
  have hlc : ∀ st : Store, evE (F m) (.lc false [18, 19] (.tp (.cons (.nm 18) (.cons (.nm 19) .nil))) (.wk .zip (.cons (.v 13) (.cons (.sl (.v 13) (.c (.int 1)) .nil) .nil))) (.c (.bl true)) (.cmp .le (.ix (.v 19) (.c (.int 0))) (.ix (.v 18) (.c (.int 1))))) (eB ps s am hd pd i j b0 b2 b3 b5 b9 b10 b15 b16 b17 b18 b19 b20) st = ret (.d (.lst (((LL ps s am).zip (LL ps s am).tail).map fun z => .bl (decide (z.2.1 ≤ z.1.2))))) st := fun st =>
    lc_map ((LL ps s am).zip (LL ps s am).tail) (fun z => Vl.d (.tup [.tup [.int z.1.1, .int z.1.2], .tup [.int z.2.1, .int z.2.2]])) (fun z => .bl (decide (z.2.1 ≤ z.1.2))) (hz st) rfl (fun z _ => ⟨_, setTg_tup, by
      simp only [ev_cmp, ev_ix, ev_v, ev_c, eB, wipeE, List.foldl, List.set, envGet_0, envGet_s, Option.map_some, rdV_d, lift_some, bnd_ret, ixf_d, ix_tup0, ix_tup1, two_d, cmp_le]⟩) (by
      have := List.length_zip (l₁ := LL ps s am) (l₂ := (LL ps s am).tail)
      omega)
  have hany : (((LL ps s am).zip (LL ps s am).tail).any fun z => decide (z.2.1 ≤ z.1.2)) = false := by
    rw [List.any_eq_false]
    intro z hz
    have := zip_lt h.gi.ch z hz
    simp; omega
  simp only [sB3, es_iff, ev_bi, ev_cons, hlc, ev_nil, bnd_ret, consf_its, biq_its, any_lc, hany, sBnd_ret, byT_bl, Bool.false_eq_true, if_false, es_skip]
theorem b4_ok (h : Se ps s am hd pd) (hm : 9 ≤ m) : evS (F m) sB4 (eB ps s am hd pd i j b0 b2 b3 b5 b9 b10 b15 b16 b17 b18 b19 b20) st = .ok (.nx (eB ps s am hd pd i j b0 b2 b3 b5 b9 b10 b15 b16 b17 b18 b19 b20) st) := by
  have hc := fun st : Store => v21 h h.tA (m := m) (by omega) st
  simp only [sB4, es_iff, ev_or, ev_not, ev_isi, ev_call, ev_cons, rB14, rB6, rB7, rB4, ev_nil, bnd_ret, consf_its, AA, I, isi_lst, not1_bl, Bool.not_true, byT_bl, Bool.false_eq_true, if_false, calf_its, exLen, List.length_cons, List.length_nil, if_true, hc, h.raA, sBnd_ret, es_skip]
end
end EV

end
section
set_option maxRecDepth 1000000
set_option linter.all false
namespace EV
section
variable {m : Nat} {ps : List Int} {s : Int} {am : Option (List Int)} {hd pd : D} {i j : Nat} {b0 b2 b3 b5 b9 b10 b15 b16 b17 b18 b19 b20 : Option Vl} {st : Store}
theorem rB9 {T : D} : evE (F m) (.v 9) (eB ps s am hd pd i j b0 b2 b3 b5 (some (.d T)) b10 b15 b16 b17 b18 b19 b20) st = ret (.d T) st := rfl
theorem rB15 {T : D} : evE (F m) (.v 15) (eB ps s am hd pd i j b0 b2 b3 b5 b9 b10 (some (.d T)) b16 b17 b18 b19 b20) st = ret (.d T) st := rfl
theorem rB16 {T : D} : evE (F m) (.v 16) (eB ps s am hd pd i j b0 b2 b3 b5 b9 b10 b15 (some (.d T)) b17 b18 b19 b20) st = ret (.d T) st := rfl
def RR (ps : List Int) (s : Int) (am : Option (List Int)) (T : D) : D := .lst [.bl (RL ps s am T), .bl (RA ps s am T)]
theorem f0_ok (h : Se ps s am hd pd) (hm : 9 ≤ m) {T : D} (hT : tOk T = true) : evS (F m) sF0 (eB ps s am hd pd i j b0 b2 b3 b5 (some (.d T)) b10 b15 b16 b17 b18 b19 b20) st = .ok (.nx (eB ps s am hd pd i j b0 b2 b3 b5 (some (.d T)) b10 (some (.d (RR ps s am T))) b16 b17 b18 b19 b20) st) := by
  have c1 := fun st : Store => v9 h hT (m := m) (by omega) st
  have c2 := fun st : Store => v10 h hT (m := m) (by omega) st
  simp only [sF0, es_set, ev_lstf, ev_cons, ev_call, rB6, rB7, rB4, rB9, ev_nil, bnd_ret, consf_its, calf_its, exLen, List.length_cons, List.length_nil, if_true, c1, c2, lstf2, sBnd_ret, setf_nm]
  rfl
theorem f1_ok (h : Se ps s am hd pd) (hm : 9 ≤ m) {T : D} (hT : tOk T = true) : evS (F m) sF1 (eB ps s am hd pd i j b0 b2 b3 b5 (some (.d T)) b10 b15 b16 b17 b18 b19 b20) st = .ok (.nx (eB ps s am hd pd i j b0 b2 b3 b5 (some (.d T)) b10 b15 (some (.d (RR ps s am T))) b17 b18 b19 b20) st) := by
  have c1 := fun st : Store => v20 h hT (m := m) (by omega) st
  have c2 := fun st : Store => v21 h hT (m := m) (by omega) st
  simp only [sF1, es_set, ev_lstf, ev_cons, ev_call, rB6, rB7, rB4, rB9, ev_nil, bnd_ret, consf_its, calf_its, exLen, List.length_cons, List.length_nil, if_true, c1, c2, lstf2, sBnd_ret, setf_nm]
  rfl
theorem f2_ok (hm : 9 ≤ m) {T : D} : evS (F m) sF2 (eB ps s am hd pd i j b0 b2 b3 b5 b9 b10 (some (.d (RR ps s am T))) (some (.d (RR ps s am T))) b17 b18 b19 b20) st = .ok (.nx (eB ps s am hd pd i j b0 b2 b3 b5 b9 b10 (some (.d (RR ps s am T))) (some (.d (RR ps s am T))) b17 b18 b19 b20) st) := by
  have hsm : samB (RR ps s am T) 1 = true := by simp [RR, samB, samBs]
  have hc := fun st : Store => c_same 1 (RR ps s am T) m st hsm (by omega)
  simp only [sF2, es_iff, ev_not, ev_call, ev_cons, rB15, rB16, ev_nil, bnd_ret, consf_its, calf_its, exLen, List.length_cons, List.length_nil, if_true, hc, not1_bl, Bool.not_true, byT_bl, Bool.false_eq_true, if_false, sBnd_ret, es_skip]
theorem for_ok (h : Se ps s am hd pd) (hm : 9 ≤ m) : ∀ (Ts : List D) (b9 b15 b16 : Option Vl), (∀ T ∈ Ts, tOk T = true) → ∃ b9' b15' b16', forL (.nm 9) (evS (F m) forB) (Ts.map .d) (eB ps s am hd pd i j b0 b2 b3 b5 b9 b10 b15 b16 b17 b18 b19 b20) st = .ok (.nx (eB ps s am hd pd i j b0 b2 b3 b5 b9' b10 b15' b16' b17 b18 b19 b20) st)
  | [], b9, b15, b16, _ => ⟨b9, b15, b16, rfl⟩
  | T :: Ts, b9, b15, b16, hT => by
    obtain ⟨c9, c15, c16, e⟩ := for_ok h hm Ts (some (.d T)) (some (.d (RR ps s am T))) (some (.d (RR ps s am T))) fun x hx => hT x (List.mem_cons_of_mem _ hx)
    refine ⟨c9, c15, c16, ?_⟩
    rw [List.map_cons, forL_cons (e' := eB ps s am hd pd i j b0 b2 b3 b5 (some (.d T)) b10 b15 b16 b17 b18 b19 b20) rfl]
    have hb : evS (F m) forB (eB ps s am hd pd i j b0 b2 b3 b5 (some (.d T)) b10 b15 b16 b17 b18 b19 b20) st = .ok (.nx (eB ps s am hd pd i j b0 b2 b3 b5 (some (.d T)) b10 (some (.d (RR ps s am T))) (some (.d (RR ps s am T))) b17 b18 b19 b20) st) := by
      rw [forB, es_seq, f0_ok h hm (hT T List.mem_cons_self), R_bind_ok, thn_nx, es_seq, f1_ok h hm (hT T List.mem_cons_self), R_bind_ok, thn_nx, es_seq, f2_ok hm, R_bind_ok, thn_nx, es_skip]
    rw [hb, R_bind_ok, forK_nx, e]
theorem b5_ok (h : Se ps s am hd pd) (hm : 9 ≤ m) : gd (fun o => ∃ e' s', o = Out.nx e' s' ∧ ∃ b9' b15' b16', e' = eB ps s am hd pd i j b0 b2 b3 b5 b9' b10 b15' b16' b17 b18 b19 b20 ∧ s' = st) 27 (evS (F m) sB5 (eB ps s am hd pd i j b0 b2 b3 b5 b9 b10 b15 b16 b17 b18 b19 b20) st) := by
  have hl := h.len
  have hf := h.lenF
  have ho := odds_ok (l := LL ps s am) (qs := FF ps s am) (by omega) (by omega) (fun q hq => by
    obtain ⟨⟨h1, h2⟩, h3, h4⟩ := h.smq q hq
    refine ⟨?_, ?_, ?_⟩ <;> (simp [smB]; omega)) (fun q hq => by
    obtain ⟨h1, h2⟩ := h.smf q hq
    simp [smB]; omega)
  have g := g_odd (n := m) (st := st) (l := LL ps s am) (qs := FF ps s am) (by omega) (by omega) (by omega)
  rw [sB5_is, es_for]
  have e : evE (F m) (.bin .add (.call .frz 22 (.cons (.v 1) (.cons (.v 13) (.cons (.v 14) .nil)))) (.lst false (.cons (.v 13) (.cons (.v 14) .nil)))) (eB ps s am hd pd i j b0 b2 b3 b5 b9 b10 b15 b16 b17 b18 b19 b20) st = bnd (callE (F m) .frz 22 [.d .strm, .d (.lst (P2 (LL ps s am))), .d (I (FF ps s am))] st) fun x st => two (fun x y => (binD .add x y).map .d) x (.d (.lst [TT ps s am, AA ps s am])) st := by
    simp only [ev_bin, ev_call, ev_cons, rB1, rB13, rB14, ev_nil, bnd_ret, consf_its, calf_its, exLen, List.length_cons, List.length_nil, if_true, ev_lstf, lstf2]
  rw [e]
  refine gd_sBnd (n := 27) (m := 0) (P := fun v s' => s' = st ∧ ∃ Ts : List D, (∀ T ∈ Ts, tOk T = true) ∧ v = .d (.lst Ts)) ?_ fun v s' ⟨es, Ts, hT, ev⟩ => ?_
  · refine gd_bnd (n := 27) (m := 0) g fun v s' ⟨es, xs, hx, hn, ev⟩ => ?_
    subst ev es
    rw [two_d, bin_lst (by simp; omega), Option.map_some, lift_some]
    refine gd_ret ⟨_, _, rfl, rfl, xs ++ [TT ps s am, AA ps s am], fun T hT => ?_, rfl⟩
    rcases List.mem_append.mp hT with hT | hT
    · exact ho T (hx T hT)
    · simp only [List.mem_cons, List.not_mem_nil, or_false] at hT
      rcases hT with rfl | rfl
      · exact h.tT
      · exact h.tA
  · subst ev es
    obtain ⟨c9, c15, c16, e⟩ := for_ok (m := m) (i := i) (j := j) (b0 := b0) (b2 := b2) (b3 := b3) (b5 := b5) (b10 := b10) (b17 := b17) (b18 := b18) (b19 := b19) (b20 := b20) (st := s') h hm Ts b9 b15 b16 hT
    have e2 : forR (F m) (.nm 9) forB (eB ps s am hd pd i j b0 b2 b3 b5 b9 b10 b15 b16 b17 b18 b19 b20) (.d (.lst Ts)) s' = forL (.nm 9) (evS (F m) forB) (Ts.map .d) (eB ps s am hd pd i j b0 b2 b3 b5 b9 b10 b15 b16 b17 b18 b19 b20) s' := rfl
    rw [e2, e]
    exact gd_ok ⟨_, _, rfl, _, _, _, rfl, rfl⟩
theorem b6_ok (h : Se ps s am hd pd) (hm : 9 ≤ m) : evS (F m) sB6 (eB ps s am hd pd i j b0 b2 b3 b5 b9 b10 b15 b16 b17 b18 b19 b20) st = .ok (.nx (eB ps s am hd pd i j b0 b2 b3 b5 b9 b10 b15 b16 b17 b18 b19 b20) st) := by
  cases am with
  | some xs =>
    have : isNon (amV (some xs)) = false := rfl
    simp only [sB6, es_iff, ev_and, ev_cmp, rB4, ev_c, bnd_ret, two_d, isN_non, this, Option.map_some, lift_some, byT_bl, Bool.false_eq_true, if_false, sBnd_ret, es_skip]
  | none =>
    have : isNon (amV none) = true := rfl
    have c1 := fun st : Store => let_2 h (m := m) (by omega) st
    have c2 := fun st : Store => apt_2 h (m := m) (by omega) st
    simp only [sB6, es_iff, ev_and, ev_or, ev_cmp, ev_call, ev_cons, rB4, rB6, rB7, rB13, rB14, ev_nil, ev_c, bnd_ret, consf_its, calf_its, exLen, List.length_cons, List.length_nil, c1, c2, two_d, isN_non, this, TT, AA, ne_PS, ne_IS, Option.map_some, lift_some, byT_bl, if_true, Bool.false_eq_true, if_false, sBnd_ret, es_skip]
theorem b7_ok (h : Se ps s am hd pd) (hm : 9 ≤ m) : evS (F m) sB7 (eB ps s am hd pd i j b0 b2 b3 b5 b9 b10 b15 b16 b17 b18 b19 b20) st = .ok (.nx (eB ps s am hd pd i j b0 b2 b3 b5 b9 b10 b15 b16 b17 b18 b19 b20) st) := by
  obtain ⟨kn, ha, hk⟩ := h.amH
  have c1 := fun st : Store => let_F h rfl rfl ha hk (p := I ps) (m := m) (by omega) st
  have ck : ∀ st : Store, calkf (F m) .frz 7 [0, 1, 2] 3 (.its [.d (I ps), .d (.int s), .d hd]) st = callE (F m) .frz 7 [.d (I ps), .d (.int s), .d hd] st := fun st => rfl
  simp only [sB7, es_iff, ev_cmp, ev_callk, ev_cons, rB6, rB7, rB8, rB13, ev_nil, bnd_ret, consf_its, exLen, ck, c1, two_d, TT, ne_PS, Option.map_some, lift_some, byT_bl, Bool.false_eq_true, if_false, sBnd_ret, es_skip]
theorem b8_ok (h : Se ps s am hd pd) (hm : 9 ≤ m) : gd (fun o => o = Out.nx (eB ps s am hd pd i j b0 b2 b3 b5 b9 b10 b15 b16 b17 b18 b19 b20) st) 5 (evS (F m) sB8 (eB ps s am hd pd i j b0 b2 b3 b5 b9 b10 b15 b16 b17 b18 b19 b20) st) := by
  have g := g_refused (n := m) (ps := ps) (s := s) (a := amV am) (st := st) h.pg h.s1 (by omega)
  have e : evS (F m) sB8 (eB ps s am hd pd i j b0 b2 b3 b5 b9 b10 b15 b16 b17 b18 b19 b20) st = sBnd (bnd (callE (F m) .frz 23 [.d .strm, .d (I ps), .d (.int s), .d (amV am)] st) fun x st => not1 x st) (eB ps s am hd pd i j b0 b2 b3 b5 b9 b10 b15 b16 b17 b18 b19 b20) fun v st => byT v (evS (F m) (.seq (.ret (.c (.bl false))) .skip) (eB ps s am hd pd i j b0 b2 b3 b5 b9 b10 b15 b16 b17 b18 b19 b20) st) (evS (F m) .skip (eB ps s am hd pd i j b0 b2 b3 b5 b9 b10 b15 b16 b17 b18 b19 b20) st) := by
    simp only [sB8, es_iff, ev_not, ev_call, ev_cons, rB1, rB6, rB7, rB4, ev_nil, bnd_ret, consf_its, calf_its, exLen, List.length_cons, List.length_nil, if_true]
  rw [e]
  refine gd_sBnd (n := 5) (m := 0) (P := fun v s' => v = .d (.bl false) ∧ s' = st) ?_ fun v s' ⟨ev, es⟩ => ?_
  · refine gd_bnd (n := 5) (m := 0) (P := fun v s' => v = .d (.bl true) ∧ s' = st) (gd_mono g (Nat.le_refl 5) fun o ho => ⟨_, _, ho, rfl, rfl⟩) fun v s' ⟨ev, es⟩ => ?_
    subst ev es
    exact gd_ret ⟨_, _, rfl, rfl, rfl⟩
  · subst ev es
    exact gd_ok rfl
theorem b9_ok (h : Se ps s am hd pd) : evS (F m) sB9 (eB ps s am hd pd i j b0 b2 b3 b5 b9 b10 b15 b16 b17 b18 b19 b20) st = .ok (.nx (eB ps s am hd pd i j b0 b2 b3 b5 b9 (some (.d (.rp (.tup [TT ps s am, AA ps s am])))) b15 b16 b17 b18 b19 b20) st) := by
  simp only [sB9, es_set, ev_bi, ev_cons, ev_tup, rB13, rB14, ev_nil, bnd_ret, consf_its, biq_its, tupf2, rp_bi h.rp2, sBnd_ret, setf_nm]
  rfl
theorem blok_ok (h : Se ps s am hd pd) (hm : 9 ≤ m) : gd (fun o => ∃ b9' b15' b16', o = Out.nx (eB ps s am hd pd i j b0 b2 b3 b5 b9' (some (.d (.rp (.tup [TT ps s am, AA ps s am])))) b15' b16' b17 b18 b19 b20) st) 32 (evS (F m) blk (eB ps s am hd pd i j b0 b2 b3 b5 b9 b10 b15 b16 b17 b18 b19 b20) st) := by
  rw [blk, es_seq, b0_ok h, R_bind_ok, thn_nx, es_seq, b1_ok h hm, R_bind_ok, thn_nx, es_seq, b2_ok h hm, R_bind_ok, thn_nx, es_seq, b3_ok h, R_bind_ok, thn_nx, es_seq, b4_ok h hm, R_bind_ok, thn_nx]
  refine gd_seq (n := 27) (m := 5) (b5_ok h hm) ?_
  rintro e' s' ⟨c9, c15, c16, ee, es⟩
  subst ee es
  rw [es_seq, b6_ok h hm, R_bind_ok, thn_nx, es_seq, b7_ok h hm, R_bind_ok, thn_nx, es_seq]
  refine gd_bind (n := 5) (m := 0) (b8_ok h hm) fun o ho => ?_
  subst ho
  rw [thn_nx, es_seq, b9_ok h, R_bind_ok, thn_nx, es_skip]
  exact gd_ok ⟨_, _, _, rfl⟩
end
end EV

end
section
set_option maxRecDepth 1000000
set_option linter.all false
namespace EV
theorem lc_sub {F : Cfg} {it cond : Ex} {e : Env} {st : Store} (xs : List Int) {w : Vl} (hit : evE F it e st = ret w st) (hw : itsOf w = some (xs.map fun i => Vl.d (.int i)))
    (hc : ∀ i : Int, gd (fun o => ∃ a s', o = EO.v a s' ∧ s' = st ∧ ∃ b : Bool, a = .d (.bl b)) 1 (evE F cond ((wipeE e [17]).set 17 (some (.d (.int i)))) st))
    (hv : ∀ i : Int, evE F (.v 17) ((wipeE e [17]).set 17 (some (.d (.int i)))) st = ret (.d (.int i)) st) (hl : xs.length ≤ 1000) :
    gd (fun o => ∃ a s', o = EO.v a s' ∧ s' = st ∧ ∃ ys : List Int, ys.Sublist xs ∧ a = .d (I ys)) xs.length (evE F (.lc false [17] (.nm 17) it cond (.v 17)) e st) := by
  rw [ev_lc, hit, bnd_ret]
  unfold lcRun
  rw [hw]
  dsimp only
  have key : ∀ (zs : List Int) (acc : List Vl), acc.length + zs.length ≤ 1000 → gd (fun o => ∃ a s', o = EO.v a s' ∧ s' = st ∧ ∃ ys : List Int, ys.Sublist zs ∧ a = acc ++ (ys.map D.int).map .d) zs.length (compL (lcStep F [17] (.nm 17) cond (.v 17) e) (zs.map fun i => Vl.d (.int i)) acc st) := by
    intro zs
    induction zs with
    | nil => intro acc _; exact gd_ret ⟨_, _, rfl, rfl, [], List.Sublist.refl _, by simp⟩
    | cons i zs ih =>
      intro acc hl
      simp only [List.length_cons] at hl
      rw [List.map_cons]
      unfold compL
      have hs : gd (fun o => ∃ b : Bool, o = EO.v (if b then some (.d (.int i)) else none) st) (1 + 0) (lcStep F [17] (.nm 17) cond (.v 17) e (.d (.int i)) st) := by
        have e1 : lcStep F [17] (.nm 17) cond (.v 17) e (.d (.int i)) st = bnd (evE F cond ((wipeE e [17]).set 17 (some (.d (.int i)))) st) fun t st => byT t (bnd (evE F (.v 17) ((wipeE e [17]).set 17 (some (.d (.int i)))) st) fun y st => ret (some y) st) (ret none st) := rfl
        rw [e1]
        refine gd_bnd (n := 1) (m := 0) (hc i) fun a s' ⟨es, b, ea⟩ => ?_
        subst es ea
        rw [byT_bl, hv, bnd_ret]
        cases b
        · exact gd_ret ⟨false, rfl⟩
        · exact gd_ret ⟨true, rfl⟩
      rw [show (i :: zs).length = (1 + 0) + zs.length by simp; omega]
      refine gd_bind (n := 1 + 0) (m := zs.length) hs fun o ⟨b, eo⟩ => ?_
      subst eo
      cases b
      · exact gd_mono (ih acc (by omega)) (Nat.le_refl _) fun o ⟨a, s', e1, e2, ys, hy, ea⟩ => ⟨a, s', e1, e2, ys, hy.cons _, ea⟩
      · simp only [if_true]
        rw [if_pos (by omega)]
        exact gd_mono (ih _ (by simp; omega)) (Nat.le_refl _) fun o ⟨a, s', e1, e2, ys, hy, ea⟩ => ⟨a, s', e1, e2, i :: ys, hy.cons₂ _, by rw [ea]; simp⟩
  refine gd_bnd (n := xs.length) (m := 0) (key xs [] (by simpa using hl)) fun a s' ⟨es, ys, hy, ea⟩ => ?_
  subst es ea
  unfold lcEnd
  rw [List.nil_append, dats_map]
  exact gd_ret ⟨_, _, rfl, rfl, ys, hy, rfl⟩
/-- the turn's environment -/
def eL (v0 v2 v3 v4 v5 v6 v7 v8 v9 v10 v11 v12 v13 v14 v15 v16 v17 v18 v19 v20 : Option Vl) : Env := [v0, some (.d .strm), v2, v3, v4, v5, v6, v7, v8, v9, v10, v11, v12, v13, v14, v15, v16, v17, v18, v19, v20]
section
variable {m : Nat} {v0 v2 v3 v4 v5 v6 v7 v8 v9 v10 v11 v12 v13 v14 v15 v16 v17 v18 v19 v20 : Option Vl} {st : Store}
theorem s0_ok (hm : 9 ≤ m) : gd (fun o => ∃ e' s', o = Out.nx e' s' ∧ ∃ t : Int, 0 ≤ t ∧ t ≤ 40 ∧ e' = eL v0 v2 (some (.d (.int t))) v4 v5 v6 v7 v8 v9 v10 v11 v12 v13 v14 v15 v16 v17 v18 v19 v20 ∧ s' = st) 1 (evS (F m) sL0 (eL v0 v2 v3 v4 v5 v6 v7 v8 v9 v10 v11 v12 v13 v14 v15 v16 v17 v18 v19 v20) st) := by
  have hp := g_pick (n := m) (st := st) (xs := [.int 6, .int 12, .int 12, .int 40]) (by omega) (by simp) (by decide)
  have e : evS (F m) sL0 (eL v0 v2 v3 v4 v5 v6 v7 v8 v9 v10 v11 v12 v13 v14 v15 v16 v17 v18 v19 v20) st = sBnd (callE (F m) .frz 13 [.d .strm, .d (.lst [.int 6, .int 12, .int 12, .int 40])] st) (eL v0 v2 v3 v4 v5 v6 v7 v8 v9 v10 v11 v12 v13 v14 v15 v16 v17 v18 v19 v20) (setf (.nm 3) (eL v0 v2 v3 v4 v5 v6 v7 v8 v9 v10 v11 v12 v13 v14 v15 v16 v17 v18 v19 v20)) := by
    simp [sL0, eL, lstf, dats, exLen]
  rw [e]
  refine gd_sBnd (n := 1) (m := 0) hp fun v s' ⟨x, hx, ev, es⟩ => ?_
  subst ev es
  simp only [List.mem_cons, List.not_mem_nil, or_false] at hx
  rcases hx with rfl | rfl | rfl | rfl
  · exact gd_ok ⟨_, _, rfl, 6, by omega, by omega, rfl, rfl⟩
  · exact gd_ok ⟨_, _, rfl, 12, by omega, by omega, rfl, rfl⟩
  · exact gd_ok ⟨_, _, rfl, 12, by omega, by omega, rfl, rfl⟩
  · exact gd_ok ⟨_, _, rfl, 40, by omega, by omega, rfl, rfl⟩
theorem s4_ok (hm : 9 ≤ m) : gd (fun o => ∃ e' s', o = Out.nx e' s' ∧ ∃ t : Int, 1 ≤ t ∧ e' = eL v0 v2 v3 v4 v5 v6 (some (.d (.int t))) v8 v9 v10 v11 v12 v13 v14 v15 v16 v17 v18 v19 v20 ∧ s' = st) 1 (evS (F m) sL4 (eL v0 v2 v3 v4 v5 v6 v7 v8 v9 v10 v11 v12 v13 v14 v15 v16 v17 v18 v19 v20) st) := by
  have hp := g_pick (n := m) (st := st) (xs := [.int 1, .int 2, .int 3, .int 4, .int 10]) (by omega) (by simp) (by decide)
  have e : evS (F m) sL4 (eL v0 v2 v3 v4 v5 v6 v7 v8 v9 v10 v11 v12 v13 v14 v15 v16 v17 v18 v19 v20) st = sBnd (callE (F m) .frz 13 [.d .strm, .d (.lst [.int 1, .int 2, .int 3, .int 4, .int 10])] st) (eL v0 v2 v3 v4 v5 v6 v7 v8 v9 v10 v11 v12 v13 v14 v15 v16 v17 v18 v19 v20) (setf (.nm 7) (eL v0 v2 v3 v4 v5 v6 v7 v8 v9 v10 v11 v12 v13 v14 v15 v16 v17 v18 v19 v20)) := by
    simp [sL4, eL, lstf, dats, exLen]
  rw [e]
  refine gd_sBnd (n := 1) (m := 0) hp fun v s' ⟨x, hx, ev, es⟩ => ?_
  subst ev es
  simp only [List.mem_cons, List.not_mem_nil, or_false] at hx
  rcases hx with rfl | rfl | rfl | rfl | rfl
  · exact gd_ok ⟨_, _, rfl, 1, by omega, rfl, rfl⟩
  · exact gd_ok ⟨_, _, rfl, 2, by omega, rfl, rfl⟩
  · exact gd_ok ⟨_, _, rfl, 3, by omega, rfl, rfl⟩
  · exact gd_ok ⟨_, _, rfl, 4, by omega, rfl, rfl⟩
  · exact gd_ok ⟨_, _, rfl, 10, by omega, rfl, rfl⟩
theorem rng_nd (t : Int) : (rng 0 t).Nodup := by
  unfold rng
  refine List.Pairwise.map _ (fun a b h => ?_) (List.nodup_range)
  omega
theorem drw (hm : 9 ≤ m) {k : Int} (h0 : 0 < k) (h1 : k < 1000000) (e : Env) (h : evE (F m) (.v 1) e st = ret (.d .strm) st) : evE (F m) (.call .frz 12 (.cons (.v 1) (.cons (.c (.int k)) .nil))) e st = .draw k.toNat fun d => ret (.d (.int (d : Nat))) st := by
  have hd := c_draw (n := m) (st := st) (m := k) (by omega) h0 h1
  simp only [ev_call, ev_cons, h, bnd_ret, ev_c, ev_nil, consf_its, calf_its, exLen, List.length_cons, List.length_nil, if_true, hd]
theorem s1_ok (hm : 9 ≤ m) {t : Int} (h0 : 0 ≤ t) (h1 : t ≤ 40) : gd (fun o => ∃ e' s', o = Out.nx e' s' ∧ ∃ am : Option (List Int), (∀ xs, am = some xs → xs.Sublist (rng 0 t)) ∧ e' = eL v0 v2 (some (.d (.int t))) (some (.d (amV am))) v5 v6 v7 v8 v9 v10 v11 v12 v13 v14 v15 v16 v17 v18 v19 v20 ∧ s' = st) 41 (evS (F m) sL1 (eL v0 v2 (some (.d (.int t))) v4 v5 v6 v7 v8 v9 v10 v11 v12 v13 v14 v15 v16 v17 v18 v19 v20) st) := by
  have hr : evE (F m) (.wk .range (.cons (.v 3) .nil)) (eL v0 v2 (some (.d (.int t))) v4 v5 v6 v7 v8 v9 v10 v11 v12 v13 v14 v15 v16 v17 v18 v19 v20) st = ret (.its (range 0 t)) st := by
    have a1 : evE (F m) (.cons (.v 3) .nil) (eL v0 v2 (some (.d (.int t))) v4 v5 v6 v7 v8 v9 v10 v11 v12 v13 v14 v15 v16 v17 v18 v19 v20) st = ret (.its [.d (.int t)]) st := rfl
    rw [ev_wk, a1, bnd_ret, wkf_its]
    exact wk_range (by omega) (by omega)
  have hlen : (rng 0 t).length ≤ 40 := by rw [len_rng]; omega
  have hl := lc_sub (F := F m) (cond := .cmp .gt (.call .frz 12 (.cons (.v 1) (.cons (.c (.int 4)) .nil))) (.c (.int 0))) (rng 0 t) hr (by rw [range_rng, List.map_map]; rfl) (fun i => by
    rw [ev_cmp, drw hm (by omega) (by omega) _ rfl]
    simp only [bnd_draw, bnd_ret, ev_c, two_d, cmp_gt, Option.map_some, lift_some]
    exact gd_draw (n := 0) (by decide) fun d hd => gd_ret ⟨_, _, rfl, rfl, _, rfl⟩) (fun i => rfl) (by omega)
  have e : evS (F m) sL1 (eL v0 v2 (some (.d (.int t))) v4 v5 v6 v7 v8 v9 v10 v11 v12 v13 v14 v15 v16 v17 v18 v19 v20) st = sBnd (bnd (bnd (R.draw (3 : Int).toNat fun d => ret (.d (.int (d : Nat))) st) fun x st => bnd (ret (.d (.int 0)) st) fun y st => two (fun x y => (cmpD .gt x y).map fun t => .d (.bl t)) x y st) fun x st => byT x (evE (F m) (.lc false [17] (.nm 17) (.wk .range (.cons (.v 3) .nil)) (.cmp .gt (.call .frz 12 (.cons (.v 1) (.cons (.c (.int 4)) .nil))) (.c (.int 0))) (.v 17)) (eL v0 v2 (some (.d (.int t))) v4 v5 v6 v7 v8 v9 v10 v11 v12 v13 v14 v15 v16 v17 v18 v19 v20) st) (ret (.d .non) st)) (eL v0 v2 (some (.d (.int t))) v4 v5 v6 v7 v8 v9 v10 v11 v12 v13 v14 v15 v16 v17 v18 v19 v20) (setf (.nm 4) (eL v0 v2 (some (.d (.int t))) v4 v5 v6 v7 v8 v9 v10 v11 v12 v13 v14 v15 v16 v17 v18 v19 v20)) := by
    rw [sL1, es_set, ev_ite, ev_cmp, drw hm (by omega) (by omega) _ rfl]
    rfl
  rw [e]
  refine gd_sBnd (n := 41) (m := 0) (P := fun v s' => s' = st ∧ ∃ am : Option (List Int), (∀ xs, am = some xs → xs.Sublist (rng 0 t)) ∧ v = .d (amV am)) ?_ fun v s' ⟨es, am, ha, ev⟩ => ?_
  · simp only [bnd_draw, bnd_ret, two_d, cmp_gt, Option.map_some, lift_some, byT_bl]
    refine gd_draw (n := 40) (by decide) fun d hd => ?_
    by_cases c : decide ((0 : Int) < (d : Nat)) = true
    · rw [if_pos c]
      exact gd_mono hl hlen fun o ⟨a, s', e1, e2, ys, hy, ea⟩ => ⟨a, s', e1, e2, some ys, fun xs hx => by cases hx; exact hy, ea⟩
    · rw [if_neg c]
      exact gd_mono (n := 0) (P := fun o => o = EO.v (.d .non) st) (gd_ret rfl) (by omega) fun o eo => ⟨_, _, eo, rfl, none, (fun xs hx => by cases hx), rfl⟩
  · subst es ev
    exact gd_ok ⟨_, _, rfl, am, ha, rfl, rfl⟩
def smO (t : Int) : Option (List Int) → List Int
  | none => rng 0 t
  | some xs => xs
theorem s2_ok {t : Int} (h0 : 0 ≤ t) (h1 : t ≤ 40) (am : Option (List Int)) : evS (F m) sL2 (eL v0 v2 (some (.d (.int t))) (some (.d (amV am))) v5 v6 v7 v8 v9 v10 v11 v12 v13 v14 v15 v16 v17 v18 v19 v20) st = .ok (.nx (eL v0 v2 (some (.d (.int t))) (some (.d (amV am))) (some (.d (I (smO t am)))) v6 v7 v8 v9 v10 v11 v12 v13 v14 v15 v16 v17 v18 v19 v20) st) := by
  have r4 : evE (F m) (.v 4) (eL v0 v2 (some (.d (.int t))) (some (.d (amV am))) v5 v6 v7 v8 v9 v10 v11 v12 v13 v14 v15 v16 v17 v18 v19 v20) st = ret (.d (amV am)) st := rfl
  have r3 : evE (F m) (.v 3) (eL v0 v2 (some (.d (.int t))) (some (.d (amV am))) v5 v6 v7 v8 v9 v10 v11 v12 v13 v14 v15 v16 v17 v18 v19 v20) st = ret (.d (.int t)) st := rfl
  cases am with
  | some xs =>
    have : isNon (amV (some xs)) = false := rfl
    simp only [sL2, es_set, ev_ite, ev_cmp, r4, ev_c, bnd_ret, two_d, isN_non, this, Option.map_some, lift_some, byT_bl, Bool.false_eq_true, if_false, sBnd_ret, setf_nm]
    rfl
  | none =>
    have : isNon (amV none) = true := rfl
    have hR : lrgf false (.d (.int t)) st = ret (.d (I (rng 0 t))) st := by
      unfold lrgf
      dsimp only
      rw [if_pos (by omega)]
      simp only [Bool.false_eq_true, if_false, I, rng, List.map_map]
      congr 4
      · funext k; simp
      · rw [Int.sub_zero]
    simp only [sL2, es_set, ev_ite, ev_cmp, r4, ev_c, bnd_ret, two_d, isN_non, this, Option.map_some, lift_some, byT_bl, if_true, ev_lrg, r3, hR, sBnd_ret, setf_nm]
    rfl
end
end EV

end
section
set_option maxRecDepth 1000000
set_option linter.all false
namespace EV
theorem perm_ints {es : List D} {ys : List Int} (h : es.Perm (ys.map .int)) : ∃ zs : List Int, zs.Perm ys ∧ es = zs.map .int := by
  have hall : ∀ x ∈ es, ∃ i, x = D.int i := fun x hx => by
    obtain ⟨i, _, rfl⟩ := List.mem_map.mp (h.mem_iff.mp hx)
    exact ⟨i, rfl⟩
  refine ⟨intsD es, ?_, ?_⟩
  · have := List.Perm.filterMap (fun | D.int i => some i | _ => none) h
    have e : intsD (ys.map .int) = ys := intsD_I ys
    have p : (intsD es).Perm (intsD (ys.map .int)) := this
    rw [e] at p
    exact p
  · clear h
    induction es with
    | nil => rfl
    | cons x es ih =>
      obtain ⟨i, rfl⟩ := hall x List.mem_cons_self
      have := ih fun y hy => hall y (List.mem_cons_of_mem _ hy)
      unfold intsD at this ⊢
      rw [List.filterMap_cons]
      dsimp only
      rw [List.map_cons, ← this]
section
variable {m : Nat} {v0 v2 v3 v4 v5 v6 v7 v8 v9 v10 v11 v12 v13 v14 v15 v16 v17 v18 v19 v20 : Option Vl} {st : Store}
theorem g_mix (hm : 9 ≤ m) {ys : List Int} (hl : ys.length ≤ 40) : gd (fun o => ∃ a s', o = EO.v a s' ∧ s' = st ∧ ∃ zs : List Int, zs.Perm ys ∧ a = .d (I zs)) 40 (callE (F m) .frz 14 [.d .strm, .d (I ys)] st) :=
  gd_mono (g_mixed (n := m) (st := st) (l := ys.map .int) (by omega) (by simp; omega)) (by simpa using hl) fun o ⟨a, s', e1, e2, es, hp, ea⟩ => by
    obtain ⟨zs, hz, e⟩ := perm_ints hp
    exact ⟨a, s', e1, e2, zs, hz, by rw [ea, e]⟩
theorem s3_ok (hm : 9 ≤ m) {sm : List Int} (hl : sm.length ≤ 40) : gd (fun o => ∃ e' s', o = Out.nx e' s' ∧ ∃ ps ys : List Int, ps.Perm ys ∧ ys.Sublist sm ∧ e' = eL v0 v2 v3 v4 (some (.d (I sm))) (some (.d (I ps))) v7 v8 v9 v10 v11 v12 v13 v14 v15 v16 v17 v18 v19 v20 ∧ s' = st) 80 (evS (F m) sL3 (eL v0 v2 v3 v4 (some (.d (I sm))) v6 v7 v8 v9 v10 v11 v12 v13 v14 v15 v16 v17 v18 v19 v20) st) := by
  have hc := lc_sub (F := F m) (st := st) (it := .v 5) (cond := .cmp .eq (.call .frz 12 (.cons (.v 1) (.cons (.c (.int 2)) .nil))) (.c (.int 0))) (e := eL v0 v2 v3 v4 (some (.d (I sm))) v6 v7 v8 v9 v10 v11 v12 v13 v14 v15 v16 v17 v18 v19 v20) sm (w := .d (I sm)) rfl (by simp [itsOf]) (fun i => by
    rw [ev_cmp, drw hm (by omega) (by omega) _ rfl]
    simp only [bnd_draw, bnd_ret, ev_c, two_d, eq_int, Option.map_some, lift_some]
    exact gd_draw (n := 0) (by decide) fun d hd => gd_ret ⟨_, _, rfl, rfl, _, rfl⟩) (fun i => rfl) (by omega)
  have e : evS (F m) sL3 (eL v0 v2 v3 v4 (some (.d (I sm))) v6 v7 v8 v9 v10 v11 v12 v13 v14 v15 v16 v17 v18 v19 v20) st = sBnd (bnd (evE (F m) (.lc false [17] (.nm 17) (.v 5) (.cmp .eq (.call .frz 12 (.cons (.v 1) (.cons (.c (.int 2)) .nil))) (.c (.int 0))) (.v 17)) (eL v0 v2 v3 v4 (some (.d (I sm))) v6 v7 v8 v9 v10 v11 v12 v13 v14 v15 v16 v17 v18 v19 v20) st) fun x st => callE (F m) .frz 14 [.d .strm, x] st) (eL v0 v2 v3 v4 (some (.d (I sm))) v6 v7 v8 v9 v10 v11 v12 v13 v14 v15 v16 v17 v18 v19 v20) (setf (.nm 6) (eL v0 v2 v3 v4 (some (.d (I sm))) v6 v7 v8 v9 v10 v11 v12 v13 v14 v15 v16 v17 v18 v19 v20)) := by
    have r1 : evE (F m) (.v 1) (eL v0 v2 v3 v4 (some (.d (I sm))) v6 v7 v8 v9 v10 v11 v12 v13 v14 v15 v16 v17 v18 v19 v20) st = ret (.d .strm) st := rfl
    rw [sL3, es_set, ev_call, ev_cons, r1, bnd_ret]
    congr 1
    simp only [ev_cons, ev_nil, bnd_ret, consf_its, bnd_assoc]
    rfl
  rw [e]
  refine gd_sBnd (n := 80) (m := 0) (P := fun v s' => s' = st ∧ ∃ ps ys : List Int, ps.Perm ys ∧ ys.Sublist sm ∧ v = .d (I ps)) ?_ fun v s' ⟨es, ps, ys, h1, h2, ev⟩ => ?_
  · refine gd_mono (gd_bnd (n := sm.length) (m := 40) (Q := fun o => ∃ a s', o = EO.v a s' ∧ s' = st ∧ ∃ ps ys : List Int, ps.Perm ys ∧ ys.Sublist sm ∧ a = .d (I ps)) hc fun a s' ⟨es, ys, hy, ea⟩ => ?_) (by omega) fun _ h => h
    subst es ea
    exact gd_mono (g_mix (st := s') hm (Nat.le_trans hy.length_le hl)) (Nat.le_refl _) fun o ⟨a, s'', e1, e2, zs, hz, ea⟩ => ⟨a, s'', e1, e2, zs, ys, hz, hy, ea⟩
  · subst es ev
    exact gd_ok ⟨_, _, rfl, ps, ys, h1, h2, rfl, rfl⟩
def HdO (am : Option (List Int)) (hd : D) : Prop := (am = none → hd = .non) ∧ ∀ xs, am = some xs → ∃ zs, zs.Perm xs ∧ (hd = I zs ∨ hd = .tup (zs.map .int))
theorem s5_ok (hm : 9 ≤ m) {am : Option (List Int)} (ha : ∀ xs, am = some xs → xs.length ≤ 40) : gd (fun o => ∃ e' s', o = Out.nx e' s' ∧ ∃ hd : D, HdO am hd ∧ e' = eL v0 v2 v3 (some (.d (amV am))) v5 v6 v7 (some (.d hd)) v9 v10 v11 v12 v13 v14 v15 v16 v17 v18 v19 v20 ∧ s' = st) 41 (evS (F m) sL5 (eL v0 v2 v3 (some (.d (amV am))) v5 v6 v7 v8 v9 v10 v11 v12 v13 v14 v15 v16 v17 v18 v19 v20) st) := by
  have r4 : ∀ st : Store, evE (F m) (.v 4) (eL v0 v2 v3 (some (.d (amV am))) v5 v6 v7 v8 v9 v10 v11 v12 v13 v14 v15 v16 v17 v18 v19 v20) st = ret (.d (amV am)) st := fun _ => rfl
  have r1 : ∀ st : Store, evE (F m) (.v 1) (eL v0 v2 v3 (some (.d (amV am))) v5 v6 v7 v8 v9 v10 v11 v12 v13 v14 v15 v16 v17 v18 v19 v20) st = ret (.d .strm) st := fun _ => rfl
  cases am with
  | none =>
    have : isNon (amV none) = true := rfl
    have e : evS (F m) sL5 (eL v0 v2 v3 (some (.d (amV none))) v5 v6 v7 v8 v9 v10 v11 v12 v13 v14 v15 v16 v17 v18 v19 v20) st = .ok (.nx (eL v0 v2 v3 (some (.d (amV none))) v5 v6 v7 (some (.d .non)) v9 v10 v11 v12 v13 v14 v15 v16 v17 v18 v19 v20) st) := by
      simp only [sL5, es_set, ev_ite, ev_cmp, r4, ev_c, bnd_ret, two_d, isN_non, this, Option.map_some, lift_some, byT_bl, if_true, sBnd_ret, setf_nm]
      rfl
    rw [e]
    exact gd_mono (gd_ok (n := 0) (P := fun o => o = Out.nx (eL v0 v2 v3 (some (.d (amV none))) v5 v6 v7 (some (.d .non)) v9 v10 v11 v12 v13 v14 v15 v16 v17 v18 v19 v20) st) rfl) (by omega) fun o eo => ⟨_, _, eo, .non, ⟨fun _ => rfl, fun xs hx => by cases hx⟩, rfl, rfl⟩
  | some xs =>
    have : isNon (amV (some xs)) = false := rfl
    have hxl := ha xs rfl
    have e : evS (F m) sL5 (eL v0 v2 v3 (some (.d (amV (some xs)))) v5 v6 v7 v8 v9 v10 v11 v12 v13 v14 v15 v16 v17 v18 v19 v20) st = sBnd (bnd (callE (F m) .frz 14 [.d .strm, .d (I xs)] st) fun x st => callE (F m) .frz 16 [.d .strm, x] st) (eL v0 v2 v3 (some (.d (amV (some xs)))) v5 v6 v7 v8 v9 v10 v11 v12 v13 v14 v15 v16 v17 v18 v19 v20) (setf (.nm 8) (eL v0 v2 v3 (some (.d (amV (some xs)))) v5 v6 v7 v8 v9 v10 v11 v12 v13 v14 v15 v16 v17 v18 v19 v20)) := by
      simp only [sL5, es_set, ev_ite, ev_cmp, r4, ev_c, bnd_ret, two_d, isN_non, this, Option.map_some, lift_some, byT_bl, Bool.false_eq_true, if_false, ev_call, ev_cons, r1, ev_nil, consf_its, calf_its, exLen, List.length_cons, List.length_nil, if_true, bnd_assoc]
      rfl
    rw [e]
    refine gd_sBnd (n := 41) (m := 0) (P := fun v s' => s' = st ∧ ∃ hd : D, HdO (some xs) hd ∧ v = .d hd) ?_ fun v s' ⟨es, hd, h1, ev⟩ => ?_
    · refine gd_bnd (n := 40) (m := 1) (g_mix (st := st) hm hxl) fun a s' ⟨es, zs, hz, ea⟩ => ?_
      subst es ea
      rw [c_loose (by omega) (by rw [hz.length_eq]; omega)]
      refine gd_draw (n := 0) (by omega) fun d hd => gd_ret ⟨_, _, rfl, rfl, _, ⟨(fun h => by cases h), fun ws hw => ?_⟩, rfl⟩
      cases hw
      refine ⟨zs, hz, ?_⟩
      by_cases c : (d : Int) = 0
      · rw [if_pos c]; exact Or.inl rfl
      · rw [if_neg c]; exact Or.inr rfl
    · subst es ev
      exact gd_ok ⟨_, _, rfl, hd, h1, rfl, rfl⟩
theorem s6_ok (hm : 9 ≤ m) {ps : List Int} {hd : D} (hl : ps.length ≤ 40) (hr : rpD (.tup [I ps, hd]) = some (.rp (.tup [I ps, hd]))) : gd (fun o => ∃ e' s', o = Out.nx e' s' ∧ ∃ pd : D, (pd = I ps ∨ pd = .tup (ps.map .int)) ∧ e' = eL v0 v2 v3 v4 v5 (some (.d (I ps))) v7 (some (.d hd)) v9 v10 (some (.d pd)) (some (.d (.rp (.tup [I ps, hd])))) v13 v14 v15 v16 v17 v18 v19 v20 ∧ s' = st) 1 (evS (F m) sL6 (eL v0 v2 v3 v4 v5 (some (.d (I ps))) v7 (some (.d hd)) v9 v10 v11 v12 v13 v14 v15 v16 v17 v18 v19 v20) st) := by
  have r1 : ∀ st : Store, evE (F m) (.v 1) (eL v0 v2 v3 v4 v5 (some (.d (I ps))) v7 (some (.d hd)) v9 v10 v11 v12 v13 v14 v15 v16 v17 v18 v19 v20) st = ret (.d .strm) st := fun _ => rfl
  have r6 : ∀ st : Store, evE (F m) (.v 6) (eL v0 v2 v3 v4 v5 (some (.d (I ps))) v7 (some (.d hd)) v9 v10 v11 v12 v13 v14 v15 v16 v17 v18 v19 v20) st = ret (.d (I ps)) st := fun _ => rfl
  have r8 : ∀ st : Store, evE (F m) (.v 8) (eL v0 v2 v3 v4 v5 (some (.d (I ps))) v7 (some (.d hd)) v9 v10 v11 v12 v13 v14 v15 v16 v17 v18 v19 v20) st = ret (.d hd) st := fun _ => rfl
  have hq := c_loose (n := m) (st := st) (xs := ps) (by omega) (by omega)
  have hb := fun st : Store => rp_bi (st := st) hr
  simp only [sL6, es_par, ev_cons, ev_call, r1, r6, r8, ev_nil, bnd_ret, consf_its, calf_its, exLen, List.length_cons, List.length_nil, if_true, hq, bnd_draw, ev_bi, ev_tup, tupf2, biq_its, hb, sBnd_draw, sBnd_ret]
  refine gd_draw (n := 0) (by omega) fun d hd' => ?_
  refine gd_ok ⟨_, _, rfl, _, ?_, rfl, rfl⟩
  by_cases c : (d : Int) = 0
  · rw [if_pos c]; exact Or.inl rfl
  · rw [if_neg c]; exact Or.inr rfl
end
end EV

end
section
set_option maxRecDepth 1000000
set_option linter.all false
namespace EV
theorem app_at {st : Store} {r : Nat} {xs : List Vl} {v : Vl} (h : geti st r = some (.lst xs)) (hl : xs.length < 1000000) : mtE .append (.ref r) [v] st = ret (.d .non) (st.set r (some (.lst (xs ++ [v])))) := by
  show (match geti st r with
    | some (.lst xs) => if xs.length < 1000000 then ret (Vl.d D.non) (st.set r (some (.lst (xs ++ [v])))) else R.err
    | _ => R.err) = _
  rw [h]
  dsimp only
  rw [if_pos hl]
theorem isl_at {st : Store} {r : Nat} {xs : List Vl} (h : geti st r = some (.lst xs)) : isLstV st (.ref r) = true := by
  show (match geti st r with
    | some (.lst _) => true
    | _ => false) = _
  rw [h]
def TE (e : Env) : Prop := ∃ v0 v2 v3 v4 v5 v6 v7 v8 v9 v10 v11 v12 v13 v14 v15 v16 v17 v18 v19 v20, e = eL v0 v2 v3 v4 v5 v6 v7 v8 v9 v10 v11 v12 v13 v14 v15 v16 v17 v18 v19 v20
section
variable {m : Nat} {v0 v2 v3 v4 v5 v6 v7 v8 v9 v10 v11 v12 v13 v14 v15 v16 v17 v18 v19 v20 : Option Vl} {st : Store} {ps : List Int} {s : Int} {am : Option (List Int)} {hd pd : D}
def eT (ps : List Int) (s : Int) (am : Option (List Int)) (hd pd : D) (r : Nat) (v0 v2 v3 v5 v9 v10 v15 v16 v17 v18 v19 v20 : Option Vl) : Env :=
  eL v0 v2 v3 (some (.d (amV am))) v5 (some (.d (I ps))) (some (.d (.int s))) (some (.d hd)) v9 v10 (some (.d pd)) (some (.d (.rp (.tup [I ps, hd])))) (some (.ref r)) (some (.ref (r + 1))) v15 v16 v17 v18 v19 v20
def S2 (ps : List Int) (s : Int) (am : Option (List Int)) (st : Store) : Store := st ++ [cellP (LL ps s am), cellI (FF ps s am)]
theorem seq_pd (h : Se ps s am hd pd) : isSeq pd = true ∧ itemsD pd = ps.map .int := by
  rcases h.pdo with rfl | rfl <;> exact ⟨rfl, rfl⟩
theorem s7_ok (h : Se ps s am hd pd) (hm : 9 ≤ m) : evS (F m) sL7 (eL v0 v2 v3 (some (.d (amV am))) v5 (some (.d (I ps))) (some (.d (.int s))) (some (.d hd)) v9 v10 (some (.d pd)) (some (.d (.rp (.tup [I ps, hd])))) v13 v14 v15 v16 v17 v18 v19 v20) st = .ok (.nx (eT ps s am hd pd st.length v0 v2 v3 v5 v9 v10 v15 v16 v17 v18 v19 v20) (S2 ps s am st)) := by
  obtain ⟨kn, ha, hk⟩ := h.amH
  have c1 := fun st : Store => let_A h (seq_pd h).1 (seq_pd h).2 ha hk (m := m) (by omega) st
  have c2 := fun st : Store => apt_A h (p := .tup (ps.map .int)) rfl rfl ha hk (m := m) (by omega) st
  have r6 : ∀ st' : Store, evE (F m) (.v 6) (eL v0 v2 v3 (some (.d (amV am))) v5 (some (.d (I ps))) (some (.d (.int s))) (some (.d hd)) v9 v10 (some (.d pd)) (some (.d (.rp (.tup [I ps, hd])))) v13 v14 v15 v16 v17 v18 v19 v20) st' = ret (.d (I ps)) st' := fun _ => rfl
  have r7 : ∀ st' : Store, evE (F m) (.v 7) (eL v0 v2 v3 (some (.d (amV am))) v5 (some (.d (I ps))) (some (.d (.int s))) (some (.d hd)) v9 v10 (some (.d pd)) (some (.d (.rp (.tup [I ps, hd])))) v13 v14 v15 v16 v17 v18 v19 v20) st' = ret (.d (.int s)) st' := fun _ => rfl
  have r8 : ∀ st' : Store, evE (F m) (.v 8) (eL v0 v2 v3 (some (.d (amV am))) v5 (some (.d (I ps))) (some (.d (.int s))) (some (.d hd)) v9 v10 (some (.d pd)) (some (.d (.rp (.tup [I ps, hd])))) v13 v14 v15 v16 v17 v18 v19 v20) st' = ret (.d hd) st' := fun _ => rfl
  have r11 : ∀ st' : Store, evE (F m) (.v 11) (eL v0 v2 v3 (some (.d (amV am))) v5 (some (.d (I ps))) (some (.d (.int s))) (some (.d hd)) v9 v10 (some (.d pd)) (some (.d (.rp (.tup [I ps, hd])))) v13 v14 v15 v16 v17 v18 v19 v20) st' = ret (.d pd) st' := fun _ => rfl
  have hl : (st ++ [cellP (LL ps s am)]).length = st.length + 1 := by simp
  have hbt : ∀ st' : Store, biE .tuple [.d (I ps)] st' = ret (.d (.tup (ps.map .int))) st' := fun st' => bi_tup
  simp only [sL7, es_par, ev_cons, ev_call, r11, r7, r8, r6, ev_nil, bnd_ret, consf_its, calf_its, exLen, List.length_cons, List.length_nil, if_true, c1, ev_bi, biq_its, hbt, c2, hl, sBnd_ret, List.append_assoc, List.cons_append, List.nil_append]
  rfl
theorem get0 : geti (S2 ps s am st) st.length = some (.lst ((P2 (LL ps s am)).map .d)) := by
  simp [geti, S2, cellP]
theorem get1 : geti (S2 ps s am st) (st.length + 1) = some (.lst (((FF ps s am).map D.int).map .d)) := by
  unfold geti S2
  rw [List.getElem?_append_right (by omega), show st.length + 1 - st.length = 1 by omega]
  rfl
theorem snap0 : snap (S2 ps s am st) (.ref st.length) = some (TT ps s am) := by
  show (match geti (S2 ps s am st) st.length with
    | some (.lst xs) => (dats xs).map D.lst
    | some (.dct ks vs) => (dats vs).map (D.dct ks)
    | some (.ins c vs) => (dats vs).map (D.ins c)
    | none => none) = _
  rw [get0]
  dsimp only
  rw [dats_map]
  rfl
theorem snap1 : snap (S2 ps s am st) (.ref (st.length + 1)) = some (AA ps s am) := by
  show (match geti (S2 ps s am st) (st.length + 1) with
    | some (.lst xs) => (dats xs).map D.lst
    | some (.dct ks vs) => (dats vs).map (D.dct ks)
    | some (.ins c vs) => (dats vs).map (D.ins c)
    | none => none) = _
  rw [get1]
  dsimp only
  rw [dats_map]
  rfl
theorem s8_ok (h : Se ps s am hd pd) (hm : 9 ≤ m) : gd (fun o => ∃ w0 w2 w3 w5 w9 w15 w16 w17 w18 w19 w20, o = Out.nx (eT ps s am hd pd st.length w0 w2 w3 w5 w9 (some (.d (.rp (.tup [TT ps s am, AA ps s am])))) w15 w16 w17 w18 w19 w20) (S2 ps s am st)) 32 (evS (F m) sL8 (eT ps s am hd pd st.length v0 v2 v3 v5 v9 v10 v15 v16 v17 v18 v19 v20) (S2 ps s am st)) := by
  have b13 : borE (S2 ps s am st) (some (.ref st.length)) = some (.hr st.length (TT ps s am)) := by
    show (snap (S2 ps s am st) (.ref st.length)).map (Vl.hr st.length) = _
    rw [snap0]; rfl
  have b14 : borE (S2 ps s am st) (some (.ref (st.length + 1))) = some (.hr (st.length + 1) (AA ps s am)) := by
    show (snap (S2 ps s am st) (.ref (st.length + 1))).map (Vl.hr (st.length + 1)) = _
    rw [snap1]; rfl
  have bd : ∀ x : D, borE (S2 ps s am st) (some (.d x)) = some (.h x) := fun _ => rfl
  generalize hS : S2 ps s am st = S at *
  have e1 : (eT ps s am hd pd st.length v0 v2 v3 v5 v9 v10 v15 v16 v17 v18 v19 v20).map (borE S) = eB ps s am hd pd st.length (st.length + 1) (borE S v0) (borE S v2) (borE S v3) (borE S v5) (borE S v9) (borE S v10) (borE S v15) (borE S v16) (borE S v17) (borE S v18) (borE S v19) (borE S v20) := by
    simp only [eT, eL, eB, List.map_cons, List.map_nil, bd, b13, b14]
  rw [sL8, es_bor, e1]
  refine gd_bind (n := 32) (m := 0) (blok_ok h hm) fun o ⟨c9, c15, c16, eo⟩ => ?_
  subst eo
  have e2 : ∀ (e : Env), borO S (.nx e (S.map fun _ => none)) = .ok (.nx (e.map retE) S) := fun e => by
    show R.ok (Out.nx (e.map retE) (S ++ List.replicate ((S.map fun _ => (none : Option Cell)).length - S.length) none)) = _
    simp
  rw [e2]
  exact gd_ok ⟨_, _, _, _, _, _, _, _, _, _, _, rfl⟩
theorem s9_ok (h : Se ps s am hd pd) : evS (F m) sL9 (eT ps s am hd pd st.length v0 v2 v3 v5 v9 v10 v15 v16 v17 v18 v19 v20) (S2 ps s am st) = .ok (.nx (eT ps s am hd pd st.length v0 v2 v3 v5 v9 v10 v15 v16 v17 v18 v19 v20) ((S2 ps s am st).set st.length (some (.lst ((P2 (LL ps s am)).map Vl.d ++ [.d (.tup [.int 0, .int 0])]))))) := by
  have hl := h.len
  have r13 : ∀ st' : Store, evE (F m) (.v 13) (eT ps s am hd pd st.length v0 v2 v3 v5 v9 v10 v15 v16 v17 v18 v19 v20) st' = ret (.ref st.length) st' := fun _ => rfl
  rw [sL9, es_ex, ev_mt, r13, bnd_ret, mtf_lst (isl_at get0)]
  simp only [ev_cons, ev_tup, ev_c, ev_nil, bnd_ret, consf_its, tupf2, mtk_its]
  rw [app_at get0 (by simp [P2]; omega)]
  rfl
theorem s10_ok (h : Se ps s am hd pd) (x : Option Cell) : ∃ S', evS (F m) sL10 (eT ps s am hd pd st.length v0 v2 v3 v5 v9 v10 v15 v16 v17 v18 v19 v20) ((S2 ps s am st).set st.length x) = .ok (.nx (eT ps s am hd pd st.length v0 v2 v3 v5 v9 v10 v15 v16 v17 v18 v19 v20) S') := by
  have hl := h.lenF
  have r14 : ∀ st' : Store, evE (F m) (.v 14) (eT ps s am hd pd st.length v0 v2 v3 v5 v9 v10 v15 v16 v17 v18 v19 v20) st' = ret (.ref (st.length + 1)) st' := fun _ => rfl
  have g : geti ((S2 ps s am st).set st.length x) (st.length + 1) = some (.lst (((FF ps s am).map D.int).map .d)) := by
    have := get1 (ps := ps) (s := s) (am := am) (st := st)
    unfold geti at this ⊢
    rw [List.getElem?_set_ne (by omega)]
    exact this
  refine ⟨((S2 ps s am st).set st.length x).set (st.length + 1) (some (.lst (((FF ps s am).map D.int).map Vl.d ++ [.d (.int 0)]))), ?_⟩
  rw [sL10, es_ex, ev_mt, r14, bnd_ret, mtf_lst (isl_at g)]
  simp only [ev_cons, ev_c, ev_nil, bnd_ret, consf_its, mtk_its]
  rw [app_at g (by simp; omega)]
  rfl
theorem s11_ok (h : Se ps s am hd pd) (hm : 9 ≤ m) (r : Nat) : evS (F m) sL11 (eT ps s am hd pd r v0 v2 v3 v5 v9 (some (.d (.rp (.tup [TT ps s am, AA ps s am])))) v15 v16 v17 v18 v19 v20) st = .ok (.nx (eT ps s am hd pd r v0 v2 v3 v5 v9 (some (.d (.rp (.tup [TT ps s am, AA ps s am])))) v15 v16 v17 v18 v19 v20) st) := by
  obtain ⟨kn, ha, hk⟩ := h.amH
  have c1 := fun st : Store => let_F h (seq_pd h).1 (seq_pd h).2 ha hk (m := m) (by omega) st
  have c2 := fun st : Store => apt_F h (p := .tup (ps.map .int)) rfl rfl ha hk (m := m) (by omega) st
  have r6 : evE (F m) (.v 6) (eT ps s am hd pd r v0 v2 v3 v5 v9 (some (.d (.rp (.tup [TT ps s am, AA ps s am])))) v15 v16 v17 v18 v19 v20) st = ret (.d (I ps)) st := rfl
  have r7 : evE (F m) (.v 7) (eT ps s am hd pd r v0 v2 v3 v5 v9 (some (.d (.rp (.tup [TT ps s am, AA ps s am])))) v15 v16 v17 v18 v19 v20) st = ret (.d (.int s)) st := rfl
  have r8 : evE (F m) (.v 8) (eT ps s am hd pd r v0 v2 v3 v5 v9 (some (.d (.rp (.tup [TT ps s am, AA ps s am])))) v15 v16 v17 v18 v19 v20) st = ret (.d hd) st := rfl
  have r10 : evE (F m) (.v 10) (eT ps s am hd pd r v0 v2 v3 v5 v9 (some (.d (.rp (.tup [TT ps s am, AA ps s am])))) v15 v16 v17 v18 v19 v20) st = ret (.d (.rp (.tup [TT ps s am, AA ps s am]))) st := rfl
  have r11 : evE (F m) (.v 11) (eT ps s am hd pd r v0 v2 v3 v5 v9 (some (.d (.rp (.tup [TT ps s am, AA ps s am])))) v15 v16 v17 v18 v19 v20) st = ret (.d pd) st := rfl
  have hbt : biE .tuple [.d (I ps)] st = ret (.d (.tup (ps.map .int))) st := bi_tup
  have hrp : biE .repr [.d (.tup [.lst (P2 (LL ps s am)), I (FF ps s am)])] st = ret (.d (.rp (.tup [TT ps s am, AA ps s am]))) st := rp_bi h.rp2
  simp only [sL11, es_iff, ev_cmp, ev_bi, ev_cons, ev_tup, ev_call, r11, r7, r8, r6, r10, ev_nil, bnd_ret, consf_its, calf_its, exLen, List.length_cons, List.length_nil, if_true, c1, biq_its, hbt, c2, tupf2, hrp, two_d, ne_rp, Option.map_some, lift_some, sBnd_ret, byT_bl, Bool.false_eq_true, if_false, es_skip]
theorem se_of {t : Int} {ys : List Int} (h1 : t ≤ 40) (ha : ∀ xs, am = some xs → xs.Sublist (rng 0 t)) (hp : ps.Perm ys) (hy : ys.Sublist (smO t am)) (hs : 1 ≤ s) (hh : HdO am hd) (hpd : pd = I ps ∨ pd = .tup (ps.map .int)) : Se ps s am hd pd := by
  have hsm : (smO t am).Sublist (rng 0 t) := by
    cases am with
    | none => exact List.Sublist.refl _
    | some xs => exact ha xs rfl
  have hlr : (rng 0 t).length ≤ 40 := by rw [len_rng]; omega
  have hb : ∀ x ∈ rng 0 t, 0 ≤ x ∧ x < 40 := fun x hx => by
    have := mem_rng.mp hx
    omega
  have hyr := hy.trans hsm
  refine ⟨⟨?_, ?_, ?_, ?_⟩, hs, ?_, hh.1, hh.2, hpd⟩
  · exact hp.nodup_iff.mpr (hyr.nodup (rng_nd t))
  · exact fun p h => (hb p (hyr.subset (hp.mem_iff.mp h))).1
  · exact fun p h => (hb p (hyr.subset (hp.mem_iff.mp h))).2
  · rw [hp.length_eq]; exact Nat.le_trans hyr.length_le hlr
  · intro xs e
    have hx := ha xs e
    subst e
    exact ⟨hx.nodup (rng_nd t), fun x h => hb x (hx.subset h), Nat.le_trans hx.length_le hlr, fun p h => hy.subset (hp.mem_iff.mp h)⟩
theorem turn_ok (hm : 9 ≤ m) : gd (fun o => ∃ e' s', o = Out.nx e' s' ∧ TE e') (1 + (41 + (80 + (1 + (41 + (1 + (32 + 0))))))) (evS (F m) turnB (eL v0 v2 v3 v4 v5 v6 v7 v8 v9 v10 v11 v12 v13 v14 v15 v16 v17 v18 v19 v20) st) := by
  rw [turnB]
  refine gd_seq (n := 1) (m := 41 + (80 + (1 + (41 + (1 + (32 + 0)))))) (s0_ok hm) ?_
  rintro e' s' ⟨t, h0, h1, ee, es⟩
  subst ee es
  refine gd_seq (n := 41) (m := 80 + (1 + (41 + (1 + (32 + 0))))) (s1_ok hm h0 h1) ?_
  rintro e' s' ⟨am, ha, ee, es⟩
  subst ee es
  have hlr : (rng 0 t).length ≤ 40 := by rw [len_rng]; omega
  have hsl : (smO t am).length ≤ 40 := by
    cases am with
    | none => exact hlr
    | some xs => exact Nat.le_trans (ha xs rfl).length_le hlr
  rw [es_seq, s2_ok h0 h1 am, R_bind_ok, thn_nx]
  refine gd_seq (n := 80) (m := 1 + (41 + (1 + (32 + 0)))) (s3_ok hm hsl) ?_
  rintro e' s' ⟨ps, ys, hp, hy, ee, es⟩
  subst ee es
  refine gd_seq (n := 1) (m := 41 + (1 + (32 + 0))) (s4_ok hm) ?_
  rintro e' s' ⟨s, hs, ee, es⟩
  subst ee es
  refine gd_seq (n := 41) (m := 1 + (32 + 0)) (s5_ok hm fun xs e => Nat.le_trans (ha xs e).length_le hlr) ?_
  rintro e' s' ⟨hd, hh, ee, es⟩
  subst ee es
  have se0 := se_of (s := s) (hd := hd) (pd := I ps) h1 ha hp hy hs hh (Or.inl rfl)
  refine gd_seq (n := 1) (m := 32 + 0) (s6_ok hm se0.pg.len se0.rp1) ?_
  rintro e' s' ⟨pd, hpd, ee, es⟩
  subst ee es
  have se := se_of (s := s) (hd := hd) (pd := pd) h1 ha hp hy hs hh hpd
  rw [es_seq, s7_ok se hm, R_bind_ok, thn_nx, es_seq]
  refine gd_bind (n := 32) (m := 0) (s8_ok se hm) fun o ⟨w0, w2, w3, w5, w9, w15, w16, w17, w18, w19, w20, eo⟩ => ?_
  subst eo
  obtain ⟨S', e10⟩ := s10_ok (m := m) (st := s') (v0 := w0) (v2 := w2) (v3 := w3) (v5 := w5) (v9 := w9) (v10 := some (.d (.rp (.tup [TT ps s am, AA ps s am])))) (v15 := w15) (v16 := w16) (v17 := w17) (v18 := w18) (v19 := w19) (v20 := w20) se (some (.lst ((P2 (LL ps s am)).map Vl.d ++ [.d (.tup [.int 0, .int 0])])))
  rw [thn_nx, es_seq, s9_ok se, R_bind_ok, thn_nx, es_seq, e10, R_bind_ok, thn_nx, es_seq, s11_ok se hm, R_bind_ok, thn_nx, es_skip]
  exact gd_ok ⟨_, _, rfl, _, _, _, _, _, _, _, _, _, _, _, _, _, _, _, _, _, _, _, _, rfl⟩
theorem loop_ok (hm : 9 ≤ m) : ∀ (vs : List Vl) (e : Env) (st : Store), TE e → gd (fun o => ∃ e' s', o = Out.nx e' s' ∧ TE e') (197 * vs.length) (forL (.nm 2) (evS (F m) turnB) vs e st)
  | [], e, st, h => gd_ok ⟨_, _, rfl, h⟩
  | v :: vs, e, st, h => by
    obtain ⟨v0, v2, v3, v4, v5, v6, v7, v8, v9, v10, v11, v12, v13, v14, v15, v16, v17, v18, v19, v20, rfl⟩ := h
    rw [forL_cons (e' := eL v0 (some v) v3 v4 v5 v6 v7 v8 v9 v10 v11 v12 v13 v14 v15 v16 v17 v18 v19 v20) rfl]
    have hn : 197 * (v :: vs).length = (1 + (41 + (80 + (1 + (41 + (1 + (32 + 0))))))) + 197 * vs.length := by simp only [List.length_cons]; omega
    rw [hn]
    refine gd_bind (turn_ok hm) fun o ⟨e', s', eo, ht⟩ => ?_
    subst eo
    rw [forK_nx]
    exact loop_ok hm vs e' s' ht
end
theorem law_gd : gd (fun o => ∃ st, o = Out.rt (.d (.bl true)) st) 1000 (evS (F 20) ir_law ([none, some (.d .strm)] ++ List.replicate 19 none) []) := by
  have ee : ([none, some (Vl.d .strm)] ++ List.replicate 19 none) = eL none none none none none none none none none none none none none none none none none none none none := rfl
  rw [ee, law_is, es_seq, es_for]
  have er : evE (F 20) (.wk .range (.cons (.c (.int 5)) .nil)) (eL none none none none none none none none none none none none none none none none none none none none) [] = ret (.its (range 0 5)) [] := by
    have a1 : evE (F 20) (.cons (.c (.int 5)) .nil) (eL none none none none none none none none none none none none none none none none none none none none) [] = ret (.its [.d (.int 5)]) [] := rfl
    rw [ev_wk, a1, bnd_ret, wkf_its]
    exact wk_range (by omega) (by omega)
  rw [er, sBnd_ret]
  have ef : ∀ e : Env, forR (F 20) (.nm 2) turnB e (.its (range 0 5)) [] = forL (.nm 2) (evS (F 20) turnB) (range 0 5) e [] := fun _ => rfl
  rw [ef]
  have hlen : 197 * (range 0 5).length = 985 := by
    have : (range 0 5).length = 5 := by simp [range]
    rw [this]
  have hl := loop_ok (m := 20) (by omega) (range 0 5) (eL none none none none none none none none none none none none none none none none none none none none) [] ⟨_, _, _, _, _, _, _, _, _, _, _, _, _, _, _, _, _, _, _, _, rfl⟩
  rw [hlen] at hl
  refine gd_mono (n := 985) (P := fun o => ∃ st, o = Out.rt (.d (.bl true)) st) ?_ (by omega) fun _ h => h
  refine gd_bind (n := 985) (m := 0) hl fun o ⟨e', s', eo, _⟩ => ?_
  subst eo
  rw [thn_nx]
  exact gd_ok ⟨_, rfl⟩
theorem law_good : good (fun o _ => ∃ st, o = Out.rt (.d (.bl true)) st) (evS ⟨callN fns 1000 20, fun _ => .err, 1000⟩ ir_law ([none, some (.d .strm)] ++ List.replicate 19 none) []) 1000000 :=
  good_mono (fun _ _ h => h.1) (law_gd.out 1000000 (by omega))
end EV

end
section
set_option Elab.async false
set_option linter.all false
set_option maxRecDepth 1000000
set_option maxHeartbeats 4000000
/-! the end -/
namespace EV
open PySem PySem.Spec PyProof.Rows L2
open LamX (Tabs TabS CodeO ExtN TabB)
abbrev Plain : Prop := good (fun o _ => ∃ st, o = Out.rt (.d (.bl true)) st) (evS ⟨callN fns 1000 20, fun _ => .err, 1000⟩ ir_law env0 []) 1000000
theorem walk92 {l : PySem.W.OpenLaw} {q : Program} {loose : List Str} {XP : (Str → Option Value) → Heap → Prop} {YP : World → Heap → Prop} {d : DefRec} {K : Params → PySem.W.Frag}
    (hn : l.most = some 63) (hdf : d.params.defaults = []) (hdn : d.name = "law") (hY : ∀ (w : World) (h : Heap), YP w h → (K w.params).In h) (hr : ∃ dr, (recsOf q).find? (fun e => e.name == ("_law_refused_right" : Str)) = some dr) (plain : Plain)
    (F : ∀ w : World, ∃ C0 C1 C2 C3 c P, AllF (K w.params) C0 C1 C2 C3 c P ∧ PySem.W.tabIn (K w.params) "_law_refused_right" = some (c, P) ∧ (K w.params).lookup P = none) :
    PySem.W.WalkO q loose XP YP l.row.toRowW d [] (fun f vs => PySem.call f vs) := by
  refine Att.attach_callB hn hdf fun w s₀ s mg mb fa o pm cd doc a vs zs G Y ho hd hcd hmg hobj hints hlen hbits hg => ?_
  have KX := hY w _ Y
  obtain ⟨C0, C1, C2, C3, c, P, A, ht, hP⟩ := F w
  obtain ⟨dr, hr⟩ := hr
  obtain ⟨t1, t2⟩ := PySem.W.tab_of G.T KX hr ht
  rw [hdn] at hmg
  refine law_at (cs := [(c, P)]) KX G.T.g G.T.b G.T.builtins G.T.nolimit hg (fun p hp => ?_) (fun p hp => ?_) (fun p hp => ?_) G.T.bmain hobj hints (Nat.le_trans hlen (by decide)) fun base H e0 Xb gb TB hT hS => ?_
  · rw [List.mem_singleton.mp hp]; exact t2
  · rw [List.mem_singleton.mp hp]; exact hP
  · rw [List.mem_singleton.mp hp]; exact t1
  · exact law_run A KX G.T.g hmg hlen hbits plain base H e0 Xb gb (TB _ (List.mem_singleton.mpr rfl)) (hT _ (List.mem_singleton.mpr rfl)) hS
/-- one def's facts -/
theorem mkDef {K : PySem.W.Frag} {name : Str} {st : Stmt} {f : Addr} {cd oc kV dc pm ct : Value} {od an : Option Addr} {sl : Array (Option Value)} (n : PySem.W.nsIn K mainGlobals name = some (some (.ref f)))
    (l : K.lookup f = some ⟨oc, od, .func (PySem.W.fnOf name name (defArgs st) (defBody st) (defScope st) .none kV dc pm an cd ct), sl⟩) (c : PySem.W.codeIn K cd name = true) (k : PySem.W.keepIn K (.ref f) = true) : ∃ f cd, DefF K name st f .none cd :=
  ⟨f, cd, n, ⟨_, _, _, _, _, _, _, _, l⟩, c, k⟩
theorem mkDefC {K : PySem.W.Frag} {name : Str} {st : Stmt} {f cc : Addr} {oc kV dc pm ct : Value} {od an : Option Addr} {sl : Array (Option Value)} (n : PySem.W.nsIn K mainGlobals name = some (some (.ref f)))
    (l : K.lookup f = some ⟨oc, od, .func (PySem.W.fnOf name name (defArgs st) (defBody st) (defScope st) .none kV dc pm an (.ref cc) ct), sl⟩) (c : PySem.W.codeIn K (.ref cc) name = true) (k : PySem.W.keepIn K (.ref f) = true) : ∃ f, DefF K name st f .none (.ref cc) :=
  ⟨f, n, ⟨_, _, _, _, _, _, _, _, l⟩, c, k⟩
theorem mkDefD {K : PySem.W.Frag} {name : Str} {st : Stmt} {f T : Addr} {cd oc kV dc pm ct oT : Value} {od an oTd : Option Addr} {sl slT : Array (Option Value)} {nT : Nat} (n : PySem.W.nsIn K mainGlobals name = some (some (.ref f)))
    (l : K.lookup f = some ⟨oc, od, .func (PySem.W.fnOf name name (defArgs st) (defBody st) (defScope st) (.ref T) kV dc pm an cd ct), sl⟩) (c : PySem.W.codeIn K cd name = true) (k : PySem.W.keepIn K (.ref f) = true) (t : K.lookup T = some ⟨oT, oTd, .seq #[.none] nT, slT⟩) :
    ∃ f T cd, DefF K name st f (.ref T) cd ∧ ∃ (o : Obj) (n : Nat), K.lookup T = some o ∧ o.data = .seq #[.none] n :=
  ⟨f, T, cd, ⟨n, ⟨_, _, _, _, _, _, _, _, l⟩, c, k⟩, _, _, t, rfl⟩
theorem mkErr {K : PySem.W.Frag} {name fld : Str} {st : Stmt} {C fI : Addr} {q : Str} {oc kV dc pm cd ct : Value} {od an : Option Addr} {sl : Array (Option Value)} {nm q' N bs bm sn sub ab col dd k0 k1 k2 k3 k5}
    (a : PySem.W.nsIn K mainGlobals name = some (some (.ref C))) (cl : K.lookup C = some (excClassObj nm q' C N bs bm true sn sub ab col dd k0 k1 k2 k3 k5 "ValueError.__new__")) (rv : PySem.HandSPX.refsVE bm = true)
    (sa : PySem.W.findIn K (.ref C) "__setattr__" = some (some (.builtin "object.__setattr__"))) (ex : PySem.W.subIn K (.ref C) (.type "BaseException") = some true) (ty : PySem.W.typeIn K (.ref C) = some (.type "type")) (kC : PySem.W.keepIn K (.ref C) = true)
    (ga : PySem.W.findIn K (.ref C) "__getattribute__" = some (some (.builtin "BaseException.__getattribute__"))) (gg : PySem.W.findIn K (.ref C) "__getattr__" = some none) (hd : PySem.W.hasDictIn K C = true) (no : PySem.W.findIn K (.ref C) fld = some none)
    (i1 : PySem.W.findIn K (.ref C) "__init__" = some (some (.ref fI))) (i2 : PySem.W.typeIn K (.ref fI) = some (.type "function"))
    (i3 : K.lookup fI = some ⟨oc, od, .func (PySem.W.fnOf "__init__" q (defArgs (inClass st 0)) (defBody (inClass st 0)) (defScope (inClass st 0)) .none kV dc pm an cd ct), sl⟩) (i4 : PySem.W.codeIn K cd q = true) (tx : ErrT st fld) : ErrF K name st fld C :=
  ⟨a, ⟨⟨_, _, _, _, _, _, _, _, _, _, _, _, _, _, _, cl, rv⟩, sa, ex, ty, kC⟩, ⟨ga, gg, ex, hd⟩, no, ⟨fI, q, oc, kV, dc, pm, cd, ct, od, an, sl, i1, i2, i3, i4⟩, tx⟩
theorem mkTab {K : PySem.W.Frag} {x : Str} {f c P : Addr} {fd : FuncData} {oc o1 : Value} {od o2 : Option Addr} {sl o4 : Array (Option Value)} {vs : Array Value} (n1 : PySem.W.nsIn K mainGlobals x = some (some (.ref f))) (l : K.lookup f = some ⟨oc, od, .func fd, sl⟩) (hc : fd.code = .ref c)
    (lc : K.lookup c = some ⟨o1, o2, .fields vs, o4⟩) (hv : (vs[11]? : Option Value) = some (.ref P)) : PySem.W.tabIn K x = some (c, P) := by
  unfold PySem.W.tabIn
  rw [n1]
  dsimp only
  rw [l]
  dsimp only
  rw [hc]
  dsimp only
  rw [lc]
  dsimp only
  rw [hv]
theorem tx1 : ErrT (top 2) "index" := ⟨⟨rfl, rfl, rfl, by decide +kernel, rfl, by decide +kernel, by decide +kernel⟩, by decide +kernel, by decide +kernel, by decide +kernel, by decide +kernel, by decide +kernel, fun q kV dc pm cd ct an us hl => match us, hl with | [_, _], _ => rfl⟩
theorem tx2 : ErrT (top 3) "index" := ⟨⟨rfl, rfl, rfl, by decide +kernel, rfl, by decide +kernel, by decide +kernel⟩, by decide +kernel, by decide +kernel, by decide +kernel, by decide +kernel, by decide +kernel, fun q kV dc pm cd ct an us hl => match us, hl with | [_, _], _ => rfl⟩
theorem tx3 : ErrT (top 4) "thing" := ⟨⟨rfl, rfl, rfl, by decide +kernel, rfl, by decide +kernel, by decide +kernel⟩, by decide +kernel, by decide +kernel, by decide +kernel, by decide +kernel, by decide +kernel, fun q kV dc pm cd ct an us hl => match us, hl with | [_, _], _ => rfl⟩
theorem tx4 : ErrT (top 5) "page" := ⟨⟨rfl, rfl, rfl, by decide +kernel, rfl, by decide +kernel, by decide +kernel⟩, by decide +kernel, by decide +kernel, by decide +kernel, by decide +kernel, by decide +kernel, fun q kV dc pm cd ct an us hl => match us, hl with | [_, _], _ => rfl⟩
end EV

end
section
open PySem PySem.W PyProof.Rows
set_option Elab.async false
set_option maxRecDepth 100000
set_option maxHeartbeats 0
open_top hd for PySem.Challenge.rw_farfolder_k92_whole_letters_and_pages_ap

end
open PySem PySem.W PyProof.Rows
set_option Elab.async false
set_option linter.all false
set_option maxRecDepth 1000000
set_option maxHeartbeats 0
theorem EV.plain92 : EV.Plain := EV.law_good
theorem PySem.Challenge.cw_farfolder_k92_whole_letters_and_pages_ap_holds : PySem.Challenge.rw_farfolder_k92_whole_letters_and_pages_ap.Holds :=
  hd (by
  k_fill
  refine EV.walk92 (l := PySem.Challenge.rw_farfolder_k92_whole_letters_and_pages_ap) rfl rfl rfl (fun w h Y => PySem.W.km_in_of Y) ?R EV.plain92 ?F
  case R => exact ⟨_, rfl⟩
  case F =>
    intro w
    refine' ⟨_, _, _, _, _, _, EV.AllF.mk ?d_is_list ?d_is_integer ?d_is_number ?d_checked_pages ?d_checked_among ?d_checked_letters ?d_is_carried ?d_letters ?d_pages_apart ?d_are_letters ?d_are_apart ?d__law_start ?d__law_draw ?d__law_pick ?d__law_mixed ?d__law_same ?d__law_loose ?d__law_met ?d__law_is_page ?d__law_is_one ?d__law_are_letters ?d__law_are_apart ?d__law_odd_letters ?d__law_refused_right ?d_law ?e_BadAmong ?e_BadPages ?e_BadSpan ?e_NotAmong ?x_0_0 ?x_0_1 ?x_0_2 ?x_0_3 ?x_1_0 ?x_1_1 ?x_1_2 ?x_1_3 ?x_2_0 ?x_2_1 ?x_2_2 ?x_2_3 ?x_3_0 ?x_3_1 ?x_3_2 ?x_3_3 ?bt, ?tab, ?np⟩
    (case e_BadAmong => (refine' EV.mkErr ?a ?cl ?rv ?sa ?ex ?ty ?kC ?ga ?gg ?hd ?no ?i1 ?i2 ?i3 ?i4 EV.tx1; (case a => k_is); (case cl => k_is); (case rv => decide +kernel); (case sa => k_is); (case ex => k_is); (case ty => k_is); (case kC => k_is); (case ga => k_is); (case gg => k_is); (case hd => k_is); (case no => k_is); (case i1 => k_is); (case i2 => k_is); (case i3 => k_is); (case i4 => k_is)))
    (case e_BadPages => (refine' EV.mkErr ?a ?cl ?rv ?sa ?ex ?ty ?kC ?ga ?gg ?hd ?no ?i1 ?i2 ?i3 ?i4 EV.tx2; (case a => k_is); (case cl => k_is); (case rv => decide +kernel); (case sa => k_is); (case ex => k_is); (case ty => k_is); (case kC => k_is); (case ga => k_is); (case gg => k_is); (case hd => k_is); (case no => k_is); (case i1 => k_is); (case i2 => k_is); (case i3 => k_is); (case i4 => k_is)))
    (case e_BadSpan => (refine' EV.mkErr ?a ?cl ?rv ?sa ?ex ?ty ?kC ?ga ?gg ?hd ?no ?i1 ?i2 ?i3 ?i4 EV.tx3; (case a => k_is); (case cl => k_is); (case rv => decide +kernel); (case sa => k_is); (case ex => k_is); (case ty => k_is); (case kC => k_is); (case ga => k_is); (case gg => k_is); (case hd => k_is); (case no => k_is); (case i1 => k_is); (case i2 => k_is); (case i3 => k_is); (case i4 => k_is)))
    (case e_NotAmong => (refine' EV.mkErr ?a ?cl ?rv ?sa ?ex ?ty ?kC ?ga ?gg ?hd ?no ?i1 ?i2 ?i3 ?i4 EV.tx4; (case a => k_is); (case cl => k_is); (case rv => decide +kernel); (case sa => k_is); (case ex => k_is); (case ty => k_is); (case kC => k_is); (case ga => k_is); (case gg => k_is); (case hd => k_is); (case no => k_is); (case i1 => k_is); (case i2 => k_is); (case i3 => k_is); (case i4 => k_is)))
    (case d_is_list => (refine' EV.mkDef ?n ?l ?c ?k; (case n => k_is); (case l => k_is); (case c => k_is); (case k => k_is)))
    (case d_is_integer => (refine' EV.mkDef ?n ?l ?c ?k; (case n => k_is); (case l => k_is); (case c => k_is); (case k => k_is)))
    (case d_is_number => (refine' EV.mkDef ?n ?l ?c ?k; (case n => k_is); (case l => k_is); (case c => k_is); (case k => k_is)))
    (case d_checked_pages => (refine' EV.mkDef ?n ?l ?c ?k; (case n => k_is); (case l => k_is); (case c => k_is); (case k => k_is)))
    (case d_checked_among => (refine' EV.mkDef ?n ?l ?c ?k; (case n => k_is); (case l => k_is); (case c => k_is); (case k => k_is)))
    (case d_checked_letters => (refine' EV.mkDef ?n ?l ?c ?k; (case n => k_is); (case l => k_is); (case c => k_is); (case k => k_is)))
    (case d_is_carried => (refine' EV.mkDef ?n ?l ?c ?k; (case n => k_is); (case l => k_is); (case c => k_is); (case k => k_is)))
    (case d_letters => (refine' EV.mkDefD ?n ?l ?c ?k ?t; (case n => k_is); (case l => k_is); (case c => k_is); (case k => k_is); (case t => k_is)))
    (case d_pages_apart => (refine' EV.mkDefD ?n ?l ?c ?k ?t; (case n => k_is); (case l => k_is); (case c => k_is); (case k => k_is); (case t => k_is)))
    (case d_are_letters => (refine' EV.mkDef ?n ?l ?c ?k; (case n => k_is); (case l => k_is); (case c => k_is); (case k => k_is)))
    (case d_are_apart => (refine' EV.mkDef ?n ?l ?c ?k; (case n => k_is); (case l => k_is); (case c => k_is); (case k => k_is)))
    (case d__law_start => (refine' EV.mkDef ?n ?l ?c ?k; (case n => k_is); (case l => k_is); (case c => k_is); (case k => k_is)))
    (case d__law_draw => (refine' EV.mkDef ?n ?l ?c ?k; (case n => k_is); (case l => k_is); (case c => k_is); (case k => k_is)))
    (case d__law_pick => (refine' EV.mkDef ?n ?l ?c ?k; (case n => k_is); (case l => k_is); (case c => k_is); (case k => k_is)))
    (case d__law_mixed => (refine' EV.mkDef ?n ?l ?c ?k; (case n => k_is); (case l => k_is); (case c => k_is); (case k => k_is)))
    (case d__law_same => (refine' EV.mkDef ?n ?l ?c ?k; (case n => k_is); (case l => k_is); (case c => k_is); (case k => k_is)))
    (case d__law_loose => (refine' EV.mkDef ?n ?l ?c ?k; (case n => k_is); (case l => k_is); (case c => k_is); (case k => k_is)))
    (case d__law_met => (refine' EV.mkDef ?n ?l ?c ?k; (case n => k_is); (case l => k_is); (case c => k_is); (case k => k_is)))
    (case d__law_is_page => (refine' EV.mkDef ?n ?l ?c ?k; (case n => k_is); (case l => k_is); (case c => k_is); (case k => k_is)))
    (case d__law_is_one => (refine' EV.mkDef ?n ?l ?c ?k; (case n => k_is); (case l => k_is); (case c => k_is); (case k => k_is)))
    (case d__law_are_letters => (refine' EV.mkDef ?n ?l ?c ?k; (case n => k_is); (case l => k_is); (case c => k_is); (case k => k_is)))
    (case d__law_are_apart => (refine' EV.mkDef ?n ?l ?c ?k; (case n => k_is); (case l => k_is); (case c => k_is); (case k => k_is)))
    (case d__law_odd_letters => (refine' EV.mkDef ?n ?l ?c ?k; (case n => k_is); (case l => k_is); (case c => k_is); (case k => k_is)))
    (case d__law_refused_right => (refine' EV.mkDefC ?n ?l ?c ?k; (case n => k_is); (case l => k_is); (case c => k_is); (case k => k_is)))
    (case d_law => (refine' EV.mkDef ?n ?l ?c ?k; (case n => k_is); (case l => k_is); (case c => k_is); (case k => k_is)))
    (case x_0_0 => k_is)
    (case x_0_1 => k_is)
    (case x_0_2 => k_is)
    (case x_0_3 => k_is)
    (case x_1_0 => k_is)
    (case x_1_1 => k_is)
    (case x_1_2 => k_is)
    (case x_1_3 => k_is)
    (case x_2_0 => k_is)
    (case x_2_1 => k_is)
    (case x_2_2 => k_is)
    (case x_2_3 => k_is)
    (case x_3_0 => k_is)
    (case x_3_1 => k_is)
    (case x_3_2 => k_is)
    (case x_3_3 => k_is)
    (case tab => (refine' EV.mkTab ?n1 ?l ?hc ?lc ?hv; (case n1 => k_is); (case l => k_is); (case hc => rfl); (case lc => k_is); (case hv => rfl)))
    (case np => kernel_rfl)
    (case bt => (intro x hx; simp only [EV.btab, List.mem_cons, List.not_mem_nil, or_false] at hx; rcases hx with rfl | rfl | rfl | rfl | rfl | rfl | rfl | rfl | rfl | rfl | rfl | rfl | rfl | rfl | rfl <;> k_is)))
