import PyProof.Rows.All
import Wide.All
import OpenK.AllK
import Wide.FinOn
import HandS.ForMost
import HandS.ForExc
import HandS.Lambda
import HandS.Wide
import HandS.TupAny
import HandS.IsInst
import HandS.Conv
import HandS.RevTup
import HandS.SortRule
import HandS.Gcd
import HandS.ListItems
import PyProof.ReprLen
import PyProof.ReprRoads
import HandS.Zip
import KE.GoesEnum
import HandS.Style
import HandS.Small
import HandS.CallSlots
import HandS.TryMany
import HandS.ExcField
import HandS.ExcInit
import PySem.Challenge.RW_farfolder_k84_whole_spans_and_periods
import HandS.EndTab
import HandS.ExcIs
import KE.KNest
set_option Elab.async false
set_option linter.all false
section
set_option Elab.async false
set_option linter.all false
/-! EV 1: data, the small language, its evaluator. -/
namespace EV
open PySem

/-- frozen data -/
inductive D where
  | non | bl (b : Bool) | int (i : Int) | str (s : List Nat)
  | tup (xs : List D) | lst (xs : List D) | dct (ks vs : List D)
  | ins (c : Nat) (vs : List D) | fn (i : Nat) | strm
  /-- the text that repr makes -/
  | rp (x : D)
  deriving Inhabited

/-- a value that a name may hold: data, a mutable thing of the running store, a thunk (the def's argument that is a lambda) -/
inductive Vl where
  | d (x : D) | ref (i : Nat) | thk | its (xs : List Vl) | exn (c : Nat) (fs : List D)
  /-- in a block that borrows: what stays when it ends; a thing of the store, read -/
  | h (x : D) | hr (i : Nat) (x : D)
  deriving Inhabited

/-- a mutable thing -/
inductive Cell where
  | lst (xs : List Vl) | dct (ks : List D) (vs : List Vl) | ins (c : Nat) (vs : List Vl)
  deriving Inhabited
abbrev Store := List (Option Cell)
abbrev Env := List (Option Vl)

/-- an answer with draws: k d for each d below m -/
inductive R (α : Type) where
  | ok (a : α) | err | draw (m : Nat) (k : Nat → R α)

namespace R
def bind {α β : Type} : R α → (α → R β) → R β
  | .ok a, f => f a
  | .err, _ => .err
  | .draw m k, f => .draw m fun d => (k d).bind f
/-- every leaf is fine -/
def all {α : Type} (P : α → Prop) : R α → Prop
  | .ok a => P a
  | .err => False
  | .draw m k => 0 < m ∧ ∀ d, d < m → (k d).all P
theorem all_mono {α : Type} {P Q : α → Prop} (h : ∀ a, P a → Q a) : ∀ {r : R α}, r.all P → r.all Q
  | .ok a, q => h a q
  | .draw m k, q => ⟨q.1, fun d hd => all_mono h (q.2 d hd)⟩
theorem all_bind {α β : Type} {P : β → Prop} {f : α → R β} : ∀ {r : R α}, (r.bind f).all P ↔ r.all fun a => (f a).all P
  | .ok a => Iff.rfl
  | .err => Iff.rfl
  | .draw m k => and_congr Iff.rfl (forall_congr' fun d => forall_congr' fun _ => all_bind)
theorem bind_ok {α β : Type} (a : α) (f : α → R β) : (R.ok a).bind f = f a := rfl
end R

/-- an expression's end: a value, or an own error (its class, its fields) -/
inductive EO (α : Type) where
  | v (a : α) (s : Store) | x (c : Nat) (fs : List D) (s : Store)
abbrev E (α : Type) := R (EO α)
def ret {α : Type} (a : α) (s : Store) : E α := .ok (.v a s)
def bnd {α β : Type} (m : E α) (f : α → Store → E β) : E β := R.bind m fun
  | .v a s => f a s
  | .x c fs s => .ok (.x c fs s)
/-- a block's end -/
inductive Out where
  | nx (e : Env) (s : Store) | rt (v : Vl) (s : Store) | bk (e : Env) (s : Store) | ct (e : Env) (s : Store) | x (c : Nat) (fs : List D) (e : Env) (s : Store)
def sBnd {α : Type} (m : E α) (e : Env) (f : α → Store → R Out) : R Out := R.bind m fun
  | .v a s => f a s
  | .x c fs s => .ok (.x c fs e s)

/-! ### data -/
mutual
/-- Python's == of data without dicts and objects -/
def eqB : D → D → Bool
  | .non, .non => true
  | .bl a, .bl b => a == b
  | .bl a, .int j => (if a then 1 else 0) == j
  | .int i, .bl b => i == (if b then 1 else 0)
  | .int i, .int j => i == j
  | .str a, .str b => a == b
  | .lst xs, .lst ys => eqBs xs ys
  | .tup xs, .tup ys => eqBs xs ys
  | _, _ => false
def eqBs : List D → List D → Bool
  | [], [] => true
  | x :: xs, y :: ys => eqB x y && eqBs xs ys
  | _, _ => false
end
mutual
/-- data without dicts and objects, so deep at most -/
def okB : D → Nat → Bool
  | .non, _ => true
  | .bl _, _ => true
  | .int _, _ => true
  | .str s, _ => s.all fun c => decide (c < 128)
  | .lst xs, n => match n with
    | 0 => false
    | m + 1 => okBs xs m
  | .tup xs, n => match n with
    | 0 => false
    | m + 1 => okBs xs m
  | .dct _ _, _ => false
  | .ins _ _, _ => false
  | .fn _, _ => false
  | .strm, _ => false
  | .rp _, _ => false
def okBs : List D → Nat → Bool
  | [], _ => true
  | x :: xs, n => okB x n && okBs xs n
end
mutual
/-- the very same data -/
def sameD : D → D → Bool
  | .non, .non => true
  | .bl a, .bl b => a == b
  | .int i, .int j => i == j
  | .str a, .str b => a == b
  | .tup xs, .tup ys => sameDs xs ys
  | .lst xs, .lst ys => sameDs xs ys
  | .dct ks vs, .dct js us => sameDs ks js && sameDs vs us
  | .ins c vs, .ins d us => c == d && sameDs vs us
  | .fn i, .fn j => i == j
  | .strm, .strm => true
  | .rp a, .rp b => sameD a b
  | _, _ => false
def sameDs : List D → List D → Bool
  | [], [] => true
  | x :: xs, y :: ys => sameD x y && sameDs xs ys
  | _, _ => false
end
mutual
theorem sameD_eq : ∀ {a b : D}, sameD a b = true → a = b
  | .non, b, h => by cases b <;> simp [sameD] at h ⊢
  | .bl a, b, h => by cases b <;> simp [sameD] at h ⊢; exact h
  | .int a, b, h => by cases b <;> simp [sameD] at h ⊢; exact h
  | .str a, b, h => by cases b <;> simp [sameD] at h ⊢; exact h
  | .tup a, b, h => by cases b <;> simp [sameD] at h ⊢; exact sameDs_eq h
  | .lst a, b, h => by cases b <;> simp [sameD] at h ⊢; exact sameDs_eq h
  | .dct a c, b, h => by cases b <;> simp [sameD] at h ⊢; exact ⟨sameDs_eq h.1, sameDs_eq h.2⟩
  | .ins a c, b, h => by cases b <;> simp [sameD] at h ⊢; exact ⟨h.1, sameDs_eq h.2⟩
  | .fn a, b, h => by cases b <;> simp [sameD] at h ⊢; exact h
  | .strm, b, h => by cases b <;> simp [sameD] at h ⊢
  | .rp a, b, h => by cases b <;> simp [sameD] at h ⊢; exact sameD_eq h
theorem sameDs_eq : ∀ {a b : List D}, sameDs a b = true → a = b
  | [], b, h => by cases b <;> simp [sameDs] at h ⊢
  | x :: xs, b, h => by cases b <;> simp [sameDs] at h ⊢; exact ⟨sameD_eq h.1, sameDs_eq h.2⟩
end
mutual
theorem sameD_refl : ∀ a : D, sameD a a = true
  | .non => rfl
  | .bl a => by simp [sameD]
  | .int a => by simp [sameD]
  | .str a => by simp [sameD]
  | .tup a => by simp [sameD, sameDs_refl a]
  | .lst a => by simp [sameD, sameDs_refl a]
  | .dct a c => by simp [sameD, sameDs_refl a, sameDs_refl c]
  | .ins a c => by simp [sameD, sameDs_refl c]
  | .fn a => by simp [sameD]
  | .strm => rfl
  | .rp a => by simp [sameD, sameD_refl a]
theorem sameDs_refl : ∀ a : List D, sameDs a a = true
  | [] => rfl
  | x :: xs => by simp [sameDs, sameD_refl x, sameDs_refl xs]
end
/-- two texts that repr made: told where they are the very same -/
def eqRp : D → D → Option Bool
  | .rp a, .rp b => if sameD a b then some true else none
  | _, _ => none
/-- ==, where it is told -/
def eqD (a b : D) : Option Bool := if okB a 64 && okB b 64 then some (eqB a b) else eqRp a b

inductive BOp where | add | sub | mul | mod | fdiv | pow deriving DecidableEq
inductive COp where | eq | ne | lt | le | gt | ge | isN | notN | isin | notin deriving DecidableEq
inductive Ty where | int | bool | str | list | tuple | dict | own (c : Nat) deriving DecidableEq
inductive Bi where | len | range | range2 | enumr | zip | all | any | sorted | list | tuple | int | min | max | sum | str | dict | repr | abs | listm | gcd deriving DecidableEq
inductive Mt where | append | extend | pop | items | values | get | keys deriving DecidableEq
/-- how a call's answer is taken: frozen, adopted as a new mutable thing, or the call runs in this very store -/
inductive Md where | frz | adopt | shared deriving DecidableEq

/-- targets -/
inductive Tg where | nm (i : Nat) | tp (t : Tg) | nil | cons (a b : Tg)

inductive Ex where
  | c (d : D) | v (i : Nat) | gc (x : Nat) (d : D)
  | bin (o : BOp) (a b : Ex) | neg (a : Ex)
  | bo (isAnd : Bool) (a b : Ex) | not (a : Ex)
  | cmp (o : COp) (a b : Ex) | cmp2 (o p : COp) (a b c : Ex)
  | ite (t a b : Ex)
  | tup (es : Ex) | lst (m : Bool) (es : Ex) | dct (m : Bool)
  | ix (a b : Ex) | sl (a lo hi : Ex) | rev (a : Ex)
  | fld (a : Ex) (f : Nat)
  | isi (a : Ex) (ts : List Ty)
  | call (m : Md) (f : Nat) (es : Ex)
  /-- f(k = v, ..), all by names, perm: which of the values each parameter takes -/
  | callk (m : Md) (f : Nat) (perm : List Nat) (es : Ex)
  | met (hs : List (Nat × List Nat × List Nat)) (f : Nat) (b : Ex)
  | nope
  | bi (b : Bi) (es : Ex) | wk (b : Bi) (es : Ex) | wm (m : Mt) (o : Ex) | mt (m : Mt) (o es : Ex)
  | thk
  | lc (m : Bool) (own : List Nat) (tg : Tg) (it cond e : Ex)
  | lc2 (m : Bool) (own own1 : List Nat) (tg : Tg) (it cond : Ex) (tg1 : Tg) (it1 cond1 e : Ex)
  | frz (a : Ex)
  /-- list(range(a)) -/
  | lrg (m : Bool) (a : Ex)
  /-- list(a.items()) -/
  | litm (a : Ex)
  | nil | cons (a b : Ex)

inductive St where
  | skip | seq (a b : St)
  | ex (e : Ex) | ret (e : Ex)
  | set (t : Tg) (e : Ex)
  | par (is : List Nat) (es : Ex)
  | setix (o i e : Ex) | setfld (o : Ex) (f : Nat) (e : Ex)
  | aug (i : Nat) (o : BOp) (e : Ex)
  | iff (t : Ex) (a b : St)
  | whl (t : Ex) (b : St)
  | for (t : Tg) (it : Ex) (b : St)
  | raise (c : Nat) (es : Ex)
  | tryx (b : St) (hs : St)
  | hd (c : Nat) (i : Nat) (b rest : St)
  | brk | cont | bor (n : Nat) (b : St) | nope
  deriving Inhabited

/-- a def: how many parameters, how many slots, the defaults of the last parameters, the body -/
structure Fn where
  ps : Nat
  slots : Nat
  dfl : List D
  body : St
  deriving Inhabited

/-! ### small steps -/
def geti (st : Store) (i : Nat) : Option Cell := (st[i]?).bind id
/-- elements of a mutable list, all data -/
def dats : List Vl → Option (List D)
  | [] => some []
  | .d x :: r => (dats r).map (x :: ·)
  | _ :: _ => none
/-- data out of a value: a mutable thing that holds data alone is read -/
def snap (st : Store) : Vl → Option D
  | .d x => some x
  | .ref i => match geti st i with
    | some (.lst xs) => (dats xs).map .lst
    | some (.dct ks vs) => (dats vs).map (.dct ks)
    | some (.ins c vs) => (dats vs).map (.ins c)
    | none => none
  | _ => none
def snaps (st : Store) : List Vl → Option (List D)
  | [] => some []
  | v :: r => match snap st v, snaps st r with
    | some x, some y => some (x :: y)
    | _, _ => none
/-- frozen: read, the thing is dead from then on -/
def frzV (st : Store) : Vl → Option (D × Store)
  | .d x => some (x, st)
  | .ref i => (snap st (.ref i)).map fun x => (x, st.set i none)
  | _ => none
def lift {α : Type} (o : Option α) (s : Store) : E α := match o with
  | some a => ret a s
  | none => .err

/-- the items of a sequence -/
def itemsOf (st : Store) : Vl → Option (List Vl)
  | .d (.lst xs) => some (xs.map .d)
  | .d (.tup xs) => some (xs.map .d)
  | .d (.dct ks _) => some (ks.map .d)
  | .ref i => match geti st i with
    | some (.lst xs) => some xs
    | some (.dct ks _) => some (ks.map .d)
    | _ => none
  | _ => none
/-- of a list alone; of a list or a tuple -/
def lstOf (st : Store) : Vl → Option (List Vl)
  | .d (.lst xs) => some (xs.map .d)
  | .ref i => match geti st i with
    | some (.lst xs) => some xs
    | _ => none
  | _ => none
def seqOf (st : Store) : Vl → Option (List Vl)
  | .d (.tup xs) => some (xs.map .d)
  | v => lstOf st v
def lenOf (st : Store) : Vl → Option Nat
  | .d (.str s) => if s.length ≤ 1000000 then some s.length else none
  | v => (itemsOf st v).map List.length
def ixN (n : Nat) (i : Int) : Option Nat := if 0 ≤ i then (if i < n then some i.toNat else none) else if -(n : Int) ≤ i then some (i + n).toNat else none
def keyEq : D → D → Bool
  | .int i, .int j => i == j
  | .str a, .str b => a == b
  | _, _ => false
def lookD (k : D) : List D → List Vl → Option Vl
  | a :: ks, v :: vs => if keyEq a k then some v else lookD k ks vs
  | _, _ => none
def hasD (k : D) : List D → Bool
  | a :: ks => keyEq a k || hasD k ks
  | [] => false
/-- d[k] = v of the entries -/
def repD (k : D) (v : Vl) : List D → List Vl → List Vl
  | a :: ks, b :: vs => (if keyEq a k then v else b) :: repD k v ks vs
  | _, _ => []
def putD (k : D) (v : Vl) (ks : List D) (vs : List Vl) : List D × List Vl := if hasD k ks then (ks, repD k v ks vs) else (ks ++ [k], vs ++ [v])
def isKey : D → Bool
  | .int _ => true
  | .str _ => true
  | _ => false

def truth : Vl → Option Bool
  | .d (.bl b) => some b
  | _ => none

def binD (o : BOp) : D → D → Option D
  | .int i, .int j => match o with
    | .add => some (.int (i + j))
    | .sub => some (.int (i - j))
    | .mul => if i.natAbs.log2 + j.natAbs.log2 < 1000000 then some (.int (i * j)) else none
    | .mod => if j = 0 then none else some (.int (i.fmod j))
    | .fdiv => if (j ≠ 0 ∧ j.natAbs < 1073741824) ∨ (0 < j ∧ j.natAbs.log2 < 9000) then some (.int (i.fdiv j)) else none
    | .pow => if 0 ≤ j ∧ j ≤ 1000000 ∧ i.natAbs < 2 ^ 64 then some (.int (i ^ j.toNat)) else none
  | .str a, .str b => if o = .add ∧ a.length + b.length ≤ 1000000 then some (.str (a ++ b)) else none
  | .lst a, .lst b => if o = .add ∧ a.length + b.length ≤ 1000000 then some (.lst (a ++ b)) else none
  | .tup a, .tup b => if o = .add ∧ a.length + b.length ≤ 1000000 ∧ a.isEmpty = false then some (.tup (a ++ b)) else none
  | .lst a, .int k => if o = .mul ∧ k < 1000000 ∧ -1000000 < k ∧ a.length * k.toNat ≤ 1000000 then some (.lst (List.replicate k.toNat a).flatten) else none
  | _, _ => none
def anyEq (x : D) (ys : List D) : Option Bool := if okB x 64 && okBs ys 63 then some (ys.any fun y => eqB y x) else none
def inD (x : D) : D → Option Bool
  | .lst ys => anyEq x ys
  | .tup ys => anyEq x ys
  | .dct ks _ => if isKey x then some (hasD x ks) else none
  | .str b => match x with
    | .str [c] => some (decide (c ∈ b))
    | _ => none
  | _ => none
def isNon : D → Bool
  | .non => true
  | _ => false
def cmpD (o : COp) (x y : D) : Option Bool := match o with
  | .eq => eqD x y
  | .ne => (eqD x y).map not
  | .lt => match x, y with | .int i, .int j => some (decide (i < j)) | _, _ => none
  | .le => match x, y with | .int i, .int j => some (decide (i ≤ j)) | _, _ => none
  | .gt => match x, y with | .int i, .int j => some (decide (j < i)) | _, _ => none
  | .ge => match x, y with | .int i, .int j => some (decide (j ≤ i)) | _, _ => none
  | .isN => if isNon y then some (isNon x) else none
  | .notN => if isNon y then some (!isNon x) else none
  | .isin => inD x y
  | .notin => (inD x y).map not
def tyOf : D → Option Ty
  | .bl _ => some .bool
  | .int _ => some .int
  | .str _ => some .str
  | .lst _ => some .list
  | .tup _ => some .tuple
  | .dct _ _ => some .dict
  | .ins c _ => some (.own c)
  | .rp _ => some .str
  | _ => none
def isStrm : D → Bool
  | .strm => true
  | _ => false
def isTy (x : D) (t : Ty) : Bool := tyOf x == some t || (tyOf x == some .bool && t == .int)
def sIx (n d : Nat) : Option Int → Nat
  | none => d
  | some v => if v < 0 then (v + (n : Int)).toNat else min v.toNat n
def cut {α : Type} (xs : List α) (lo hi : Option Int) : List α := (xs.drop (sIx xs.length 0 lo)).take (sIx xs.length xs.length hi - sIx xs.length 0 lo)
def slD (x : D) (lo hi : Option Int) : Option D := match x with
  | .lst xs => some (.lst (cut xs lo hi))
  | .tup xs => some (.tup (cut xs lo hi))
  | .str xs => if xs.length ≤ 1000000 then some (.str (cut xs lo hi)) else none
  | _ => none
def ixD (st : Store) (x : Vl) (y : D) : Option Vl := match x, y with
  | .d (.lst xs), .int i => ((ixN xs.length i).bind fun j => xs[j]?).map .d
  | .d (.tup xs), .int i => ((ixN xs.length i).bind fun j => xs[j]?).map .d
  | .d (.str xs), .int i => if xs.length ≤ 1000000 then ((ixN xs.length i).bind fun j => xs[j]?).map fun c => .d (.str [c]) else none
  | .d (.dct ks vs), k => if isKey k then lookD k ks (vs.map .d) else none
  | .ref r, k => match geti st r, k with
    | some (.lst xs), .int i => (ixN xs.length i).bind fun j => xs[j]?
    | some (.dct ks vs), k => if isKey k then lookD k ks vs else none
    | _, _ => none
  | _, _ => none

/-! ### the evaluator -/
/-- what calls do: by the def's number (in a store), by the def's number with a thunk; what the thunk of the running def does; turns of a while at most -/
structure Cfg where
  call : Nat → List Vl → Store → E Vl
  thk : Store → E Vl
  turns : Nat

/-- a name's value, read -/
def rdV : Vl → Vl
  | .h x => .d x
  | .hr _ x => .d x
  | v => v
def envGet (e : Env) (i : Nat) : Option Vl := ((e[i]?).bind id).map rdV
/-- the slots of a block's own names forgotten -/
def wipeE (e : Env) : List Nat → Env
  | [] => e
  | i :: is => (wipeE e is).set i none
def setTg : Tg → Vl → Env → Option Env
  | .nm i, v, e => some (e.set i (some v))
  | .tp t, .d (.tup xs), e => setTgs t (xs.map .d) e
  | .tp t, .d (.lst xs), e => setTgs t (xs.map .d) e
  | _, _, _ => none
where
  setTgs : Tg → List Vl → Env → Option Env
  | .nil, [], e => some e
  | .cons a b, v :: vs, e => (setTg1 a v e).bind fun e' => setTgs b vs e'
  | _, _, _ => none
  setTg1 : Tg → Vl → Env → Option Env
  | .nm i, v, e => some (e.set i (some v))
  | _, _, _ => none
def allB : List Vl → Option Bool
  | [] => some true
  | .d (.bl b) :: r => (allB r).map (b && ·)
  | _ => none
def anyB : List Vl → Option Bool
  | [] => some false
  | .d (.bl b) :: r => (anyB r).map (b || ·)
  | _ => none
def intsOf : List D → Option (List Int)
  | [] => some []
  | .int i :: r => (intsOf r).map (i :: ·)
  | _ => none
def insI (x : Int) : List Int → List Int
  | [] => [x]
  | y :: ys => if x ≤ y then x :: y :: ys else y :: insI x ys
def sortI : List Int → List Int
  | [] => []
  | x :: xs => insI x (sortI xs)
def pairsOf : List D → Option (List (Int × Int))
  | [] => some []
  | .tup [.int i, .int j] :: r => (pairsOf r).map ((i, j) :: ·)
  | _ => none
def leP (p q : Int × Int) : Bool := if p.1 = q.1 then decide (p.2 ≤ q.2) else decide (p.1 < q.1)
def ascP : List (Int × Int) → Bool
  | [] => true
  | p :: r => r.all (leP p) && ascP r
/-- sorted: ints; pairs of ints that stand so already -/
def sortD (ds : List D) : Option (List D) := match intsOf ds with
  | some l => if l.length < 64 then some ((sortI l).map .int) else none
  | none => match pairsOf ds with
    | some l => if ascP l then some ds else none
    | none => none
/-- the loop of a comprehension: tests and element by f (none: not kept) -/
def compL (f : Vl → Store → E (Option Vl)) : List Vl → List Vl → Store → E (List Vl)
  | [], acc, s => ret acc s
  | x :: xs, acc, s => R.bind (f x s) fun
    | .v (some v) s' => if acc.length < 1000000 then compL f xs (acc ++ [v]) s' else .err
    | .v none s' => compL f xs acc s'
    | .x _ _ _ => .err
/-- the outer loop of a comprehension with two sources -/
def outL (g : Vl → List Vl → Store → E (List Vl)) : List Vl → List Vl → Store → E (List Vl)
  | [], acc, s => ret acc s
  | x :: xs, acc, s => R.bind (g x acc s) fun
    | .v acc s => outL g xs acc s
    | .x _ _ _ => .err
mutual
/-- repr of it is short: how many things, small ints -/
def rpI : D → Bool
  | .non => true
  | .bl _ => true
  | .int i => decide (i.natAbs < 10 ^ 12)
  | .str _ => true
  | .tup xs => rpIs xs
  | .lst xs => rpIs xs
  | _ => false
def rpIs : List D → Bool
  | [] => true
  | x :: xs => rpI x && rpIs xs
end
mutual
def rpW : D → Nat
  | .tup xs => rpWs xs
  | .lst xs => rpWs xs
  | .str xs => xs.length
  | .int _ => 41
  | _ => 0
def rpWs : List D → Nat
  | [] => 0
  | x :: xs => rpW x + 1 + rpWs xs
end
def isSeq : D → Bool
  | .tup _ => true
  | .lst _ => true
  | _ => false
def rpD (x : D) : Option D := if isSeq x && okB x 62 && rpI x && decide (rpW x ≤ 2 ^ 20) then some (.rp x) else none
/-- list(v), a mutable thing -/
def listmE (v : Vl) (st : Store) : E Vl := match (itemsOf st v).bind dats with
  | some l => ret (.ref st.length) (st ++ [some (.lst (l.map .d))])
  | none => .err
/-- the greatest, the least of some ints -/
def maxI : List Int → Option Int
  | [] => none
  | x :: xs => some (xs.foldl max x)
def minI : List Int → Option Int
  | [] => none
  | x :: xs => some (xs.foldl min x)
def biE (b : Bi) (vs : List Vl) (st : Store) : E Vl := match b, vs with
  | .abs, [.d (.int i)] => ret (.d (.int (if i < 0 then -i else i))) st
  | .gcd, [.d (.int i), .d (.int j)] => ret (.d (.int ((Nat.gcd i.natAbs j.natAbs : Nat) : Int))) st
  | .max, [v] => lift (((((lstOf st v).bind dats).bind intsOf).bind maxI).map fun i => .d (.int i)) st
  | .min, [v] => lift (((((lstOf st v).bind dats).bind intsOf).bind minI).map fun i => .d (.int i)) st
  | .listm, [v] => listmE v st
  | .repr, [v] => lift (((snap st v).bind rpD).map .d) st
  | .len, [v] => lift ((lenOf st v).map fun (n : Nat) => Vl.d (.int (n : Int))) st
  | .all, [v] => lift (((lstOf st v).bind allB).map fun b => .d (.bl b)) st
  | .any, [v] => lift (((lstOf st v).bind anyB).map fun b => .d (.bl b)) st
  | .sorted, [v] => lift ((((lstOf st v).bind dats).bind sortD).map fun l => .d (.lst l)) st
  | .list, [v] => lift (((itemsOf st v).bind dats).map fun l => .d (.lst l)) st
  | .tuple, [v] => lift (((seqOf st v).bind dats).map fun l => .d (.tup l)) st
  | .int, [.d (.int i)] => ret (.d (.int i)) st
  | .int, [.d (.bl b)] => ret (.d (.int (if b then 1 else 0))) st
  | _, _ => .err
/-- a mutable list -/
def isLstV (st : Store) : Vl → Bool
  | .ref r => match geti st r with
    | some (.lst _) => true
    | _ => false
  | _ => false
def mtE (m : Mt) (o : Vl) (vs : List Vl) (st : Store) : E Vl := match m, o, vs with
  | .append, .ref r, [v] => match geti st r with
    | some (.lst xs) => if xs.length < 1000000 then ret (.d .non) (st.set r (some (.lst (xs ++ [v])))) else .err
    | _ => .err
  | .extend, .ref r, [v] => match geti st r, lstOf st v with
    | some (.lst xs), some ys => if xs.length + ys.length ≤ 1000000 then ret (.d .non) (st.set r (some (.lst (xs ++ ys)))) else .err
    | _, _ => .err
  | .pop, .ref r, [.d (.int i)] => match geti st r with
    | some (.lst xs) => match (ixN xs.length i).bind fun j => (xs[j]?).map fun v => (j, v) with
      | some (j, v) => ret v (st.set r (some (.lst (xs.eraseIdx j))))
      | none => .err
    | _ => .err
  | _, _, _ => .err
def range (lo hi : Int) : List Vl := (List.range (hi - lo).toNat).map fun (k : Nat) => .d (.int (lo + (k : Int)))
def enum (vs : List D) : List Vl := List.zipWith (fun (i : Nat) x => .d (.tup [.int (i : Int), x])) (List.range vs.length) vs
def zip2 (xs ys : List D) : List Vl := List.zipWith (fun x y => .d (.tup [x, y])) xs ys
/-- what is walked -/
def itsOf : Vl → Option (List Vl)
  | .its xs => some xs
  | .d (.lst xs) => some (xs.map .d)
  | .d (.tup xs) => some (xs.map .d)
  | _ => none
def partOf : Vl → Option (Option Int)
  | .its [] => some none
  | .d (.int i) => some (some i)
  | _ => none
/-- the built-ins that are walked -/
def wkE (b : Bi) (vs : List Vl) (st : Store) : E Vl := match b, vs with
  | .range, [.d (.int i)] => if -1000000 < i ∧ i < 1000000 then ret (.its (range 0 i)) st else .err
  | .range2, [.d (.int i), .d (.int j)] => if -1000000 < i ∧ i < 1000000 ∧ -1000000 < j ∧ j < 1000000 then ret (.its (range i j)) st else .err
  | .enumr, [.d (.lst l)] => ret (.its (enum l)) st
  | .enumr, [.d (.tup l)] => ret (.its (enum l)) st
  | .zip, [.d (.lst l), .d (.lst k)] => ret (.its (zip2 l k)) st
  | .zip, [.d (.tup l), .d (.tup k)] => ret (.its (zip2 l k)) st
  | _, _ => .err
def wmE (m : Mt) (v : Vl) (st : Store) : E Vl := match m with
  | .items => match snap st v with
    | some (.dct ks vs) => ret (.its (zip2 ks vs)) st
    | _ => .err
  | .values => match snap st v with
    | some (.dct _ vs) => ret (.its (vs.map .d)) st
    | _ => .err
  | _ => .err
def callE (F : Cfg) (m : Md) (f : Nat) (vs : List Vl) (st : Store) : E Vl := match m with
  | .shared => F.call f vs st
  | .frz => match dats vs with
    | some ds => R.bind (F.call f (ds.map .d) []) fun
      | .v v s' => lift ((snap s' v).map .d) st
      | .x c fs _ => .ok (.x c fs st)
    | none => .err
  | .adopt => match dats vs with
    | some ds => R.bind (F.call f (ds.map .d) []) fun
      | .v (.ref r) s' => match snap s' (.ref r) with
        | some (.lst xs) => ret (.ref st.length) (st ++ [some (.lst (xs.map .d))])
        | some (.dct ks vs) => ret (.ref st.length) (st ++ [some (.dct ks (vs.map .d))])
        | _ => .err
      | .v _ _ => .err
      | .x c fs _ => .ok (.x c fs st)
    | none => .err

/-- how many items are written -/
def exLen : Ex → Nat
  | .cons _ b => exLen b + 1
  | _ => 0
/-- what the def makes that asks and tells how it was met -/
def metE (hs : List (Nat × List Nat × List Nat)) : EO Vl → E Vl
  | .v (.d x) s => ret (.d (.tup [.str [116, 111, 108, 100], x])) s
  | .v _ _ => .err
  | .x c fs s => match hs.lookup c with
    | some (tag, is) => match is.mapM fun i => fs[i]? with
      | some us => ret (.d (.tup (.str tag :: if is.isEmpty then [.non] else us))) s
      | none => .err
    | none => .err
def evE (F : Cfg) : Ex → Env → Store → E Vl
  | .c d, _, st => ret (.d d) st
  | .v i, e, st => lift (envGet e i) st
  | .nope, _, _ => .err
  | .met hs _ b, e, st => R.bind (evE F b e st) (metE hs)
  | .gc _ d, _, st => ret (.d d) st
  | .bin o a b, e, st => bnd (evE F a e st) fun x st => bnd (evE F b e st) fun y st =>
      match snap st x, snap st y with
      | some x, some y => lift ((binD o x y).map .d) st
      | _, _ => .err
  | .neg a, e, st => bnd (evE F a e st) fun x st => match x with
      | .d (.int i) => ret (.d (.int (-i))) st
      | _ => .err
  | .bo k a b, e, st => bnd (evE F a e st) fun x st => match truth x with
      | some t => if t = k then evE F b e st else ret x st
      | none => .err
  | .not a, e, st => bnd (evE F a e st) fun x st => lift ((truth x).map fun t => .d (.bl (!t))) st
  | .cmp o a b, e, st => bnd (evE F a e st) fun x st => bnd (evE F b e st) fun y st =>
      match snap st x, snap st y with
      | some x, some y => lift ((cmpD o x y).map fun t => .d (.bl t)) st
      | _, _ => .err
  | .cmp2 o p a b c, e, st => bnd (evE F a e st) fun x st => bnd (evE F b e st) fun y st =>
      match snap st x, snap st y with
      | some x, some y' => match cmpD o x y' with
        | some true => bnd (evE F c e st) fun z st => match snap st y, snap st z with
          | some y, some z => lift ((cmpD p y z).map fun t => .d (.bl t)) st
          | _, _ => .err
        | some false => ret (.d (.bl false)) st
        | none => .err
      | _, _ => .err
  | .ite t a b, e, st => bnd (evE F t e st) fun x st => match truth x with
      | some true => evE F a e st
      | some false => evE F b e st
      | none => .err
  | .tup es, e, st => bnd (evE F es e st) fun vs st => match vs with
      | .its vs => lift ((dats vs).bind fun l => if l.length ≤ 1000000 then some (.d (.tup l)) else none) st
      | _ => .err
  | .lst m es, e, st => bnd (evE F es e st) fun vs st => match vs with
      | .its vs => if m then (if vs.length ≤ 1000000 then ret (.ref st.length) (st ++ [some (.lst vs)]) else .err) else lift ((dats vs).bind fun l => if l.length ≤ 1000000 then some (.d (.lst l)) else none) st
      | _ => .err
  | .dct m, _, st => if m then ret (.ref st.length) (st ++ [some (.dct [] [])]) else ret (.d (.dct [] [])) st
  | .ix a b, e, st => bnd (evE F a e st) fun x st => bnd (evE F b e st) fun y st =>
      match y with
      | .d y => lift (ixD st x y) st
      | _ => .err
  | .sl a lo hi, e, st => bnd (evE F a e st) fun x st => bnd (evE F lo e st) fun l st => match partOf l with
      | none => .err
      | some l => bnd (evE F hi e st) fun h st => match snap st x, partOf h with
        | some x, some h => lift ((slD x l h).map .d) st
        | _, _ => .err
  | .rev a, e, st => bnd (evE F a e st) fun x st => match snap st x with
      | some (.lst xs) => ret (.d (.lst xs.reverse)) st
      | _ => .err
  | .fld a f, e, st => bnd (evE F a e st) fun x st => match x with
      | .d (.ins _ vs) => lift ((vs[f]?).map .d) st
      | .exn _ vs => lift ((vs[f]?).map .d) st
      | .ref r => match geti st r with
        | some (.ins _ vs) => lift (vs[f]?) st
        | _ => .err
      | _ => .err
  | .isi a ts, e, st => bnd (evE F a e st) fun x st => match snap st x with
      | some x => if isStrm x then .err else ret (.d (.bl (ts.any (isTy x)))) st
      | none => .err
  | .call m f es, e, st => bnd (evE F es e st) fun vs st => match vs with
      | .its vs => if vs.length = exLen es then callE F m f vs st else .err
      | _ => .err
  | .callk m f perm es, e, st => bnd (evE F es e st) fun vs st => match vs with
      | .its vs => if vs.length = exLen es then match perm.mapM fun j => vs[j]? with
          | some us => callE F m f us st
          | none => .err
        else .err
      | _ => .err
  | .bi b es, e, st => bnd (evE F es e st) fun vs st => match vs with
      | .its vs => biE b vs st
      | _ => .err
  | .wk b es, e, st => bnd (evE F es e st) fun vs st => match vs with
      | .its vs => wkE b vs st
      | _ => .err
  | .wm m o, e, st => bnd (evE F o e st) fun x st => wmE m x st
  | .mt m o es, e, st => bnd (evE F o e st) fun x st => if isLstV st x then bnd (evE F es e st) fun vs st => match vs with
      | .its vs => mtE m x vs st
      | _ => .err
    else .err
  | .thk, _, st => F.thk st
  | .lc m own tg it cond x, e, st => bnd (evE F it e st) fun w st => match itsOf w with
      | none => .err
      | some vs =>
        bnd (compL (fun v st => match setTg tg v (wipeE e own) with
          | some e' => bnd (evE F cond e' st) fun t st => match truth t with
            | some true => bnd (evE F x e' st) fun y st => ret (some y) st
            | some false => ret none st
            | none => .err
          | none => .err) vs [] st) fun ys st =>
        if m then ret (.ref st.length) (st ++ [some (.lst ys)]) else lift ((dats ys).map fun l => .d (.lst l)) st
  | .lc2 m own own1 tg it cond tg1 it1 cond1 x, e, st => bnd (evE F it e st) fun w st => match itsOf w with
      | none => .err
      | some vs =>
        bnd (outL (fun v acc st => match setTg tg v (wipeE e own) with
          | none => .err
          | some e2 => bnd (evE F cond e2 st) fun t st => match truth t with
            | none => .err
            | some false => ret acc st
            | some true => bnd (evE F it1 e2 st) fun w1 st => match itsOf w1 with
              | none => .err
              | some vs1 => compL (fun v st => match setTg tg1 v (wipeE e2 own1) with
                | some e' => bnd (evE F cond1 e' st) fun t st => match truth t with
                  | some true => bnd (evE F x e' st) fun y st => ret (some y) st
                  | some false => ret none st
                  | none => .err
                | none => .err) vs1 acc st) vs [] st) fun ys st =>
        if m then ret (.ref st.length) (st ++ [some (.lst ys)]) else lift ((dats ys).map fun l => .d (.lst l)) st
  | .frz a, e, st => bnd (evE F a e st) fun x st => match frzV st x with
      | some (x, st) => ret (.d x) st
      | none => .err
  | .lrg m a, e, st => bnd (evE F a e st) fun x st => match x with
      | .d (.int i) => if -1000000 < i ∧ i < 1000000 then (if m then ret (.ref st.length) (st ++ [some (.lst (((List.range i.toNat).map fun k => D.int (k : Nat)).map .d))]) else ret (.d (.lst ((List.range i.toNat).map fun k => D.int (k : Nat)))) st) else .err
      | _ => .err
  | .litm a, e, st => bnd (evE F a e st) fun x st => match snap st x with
      | some (.dct ks vs) => ret (.d (.lst (List.zipWith (fun k v => D.tup [k, v]) ks vs))) st
      | _ => .err
  | .nil, _, st => ret (.its []) st
  | .cons a b, e, st => bnd (evE F a e st) fun x st => bnd (evE F b e st) fun y st => match y with
      | .its ys => ret (.its (x :: ys)) st
      | _ => .err

/-! ### statements -/
def setPar : List Nat → List Vl → Env → Option Env
  | [], [], e => some e
  | i :: is, v :: vs, e => setPar is vs (e.set i (some v))
  | _, _, _ => none
/-- o[i] = v -/
def setIx (st : Store) (o : Vl) (i : Vl) (v : Vl) : Option Store := match o, i with
  | .ref r, .d k => match geti st r, k with
    | some (.lst xs), .int n => (ixN xs.length n).map fun j => st.set r (some (.lst (xs.set j v)))
    | some (.dct ks vs), k => if isKey k ∧ ks.length < 1000000 then some (st.set r (some (.dct (putD k v ks vs).1 (putD k v ks vs).2))) else none
    | _, _ => none
  | _, _ => none
/-- o.f = v -/
def setFld (st : Store) (o : Vl) (f : Nat) (v : Vl) : Option Store := match o with
  | .ref r => match geti st r with
    | some (.ins c vs) => if f < vs.length then some (st.set r (some (.ins c (vs.set f v)))) else if f = vs.length then some (st.set r (some (.ins c (vs ++ [v])))) else none
    | _ => none
  | _ => none
def whlL (t : Env → Store → E Vl) (b : Env → Store → R Out) : Nat → Env → Store → R Out
  | 0, _, _ => .err
  | n + 1, e, st => sBnd (t e st) e fun v st => match truth v with
    | some true => R.bind (b e st) fun
      | .nx e st => whlL t b n e st
      | .ct e st => whlL t b n e st
      | .bk e st => .ok (.nx e st)
      | o => .ok o
    | some false => .ok (.nx e st)
    | none => .err
def forL (t : Tg) (b : Env → Store → R Out) : List Vl → Env → Store → R Out
  | [], e, st => .ok (.nx e st)
  | x :: xs, e, st => match setTg t x e with
    | none => .err
    | some e => R.bind (b e st) fun
      | .nx e st => forL t b xs e st
      | .ct e st => forL t b xs e st
      | .bk e st => .ok (.nx e st)
      | o => .ok o
/-- a block that borrows: the store's things are read only in it -/
def borE (st : Store) : Option Vl → Option Vl
  | some (.d x) => some (.h x)
  | some (.h x) => some (.h x)
  | some (.ref i) => (snap st (.ref i)).map (.hr i)
  | _ => none
def flat : D → Bool
  | .non => true
  | .bl _ => true
  | .int _ => true
  | .str _ => true
  | .rp _ => true
  | _ => false
def retE : Option Vl → Option Vl
  | some (.h x) => some (.d x)
  | some (.hr i _) => some (.ref i)
  | some (.d x) => if flat x then some (.d x) else none
  | _ => none
def borO (st : Store) : Out → R Out
  | .nx e s => .ok (.nx (e.map retE) (st ++ List.replicate (s.length - st.length) none))
  | .bk e s => .ok (.bk (e.map retE) (st ++ List.replicate (s.length - st.length) none))
  | .ct e s => .ok (.ct (e.map retE) (st ++ List.replicate (s.length - st.length) none))
  | .rt (.d x) s => if flat x then .ok (.rt (.d x) (st ++ List.replicate (s.length - st.length) none)) else .err
  | .rt _ _ => .err
  | .x _ _ _ _ => .err
def augI : BOp → Int → Int → Option Int
  | .add, a, b => some (a + b)
  | .sub, a, b => some (a - b)
  | _, _, _ => none
def evS (F : Cfg) : St → Env → Store → R Out
  | .skip, e, st => .ok (.nx e st)
  | .nope, _, _ => .err
  | .bor _ b, e, st => R.bind (evS F b (e.map (borE st)) (st.map fun _ => none)) (borO st)
  | .seq a b, e, st => R.bind (evS F a e st) fun
    | .nx e st => evS F b e st
    | o => .ok o
  | .ex x, e, st => sBnd (evE F x e st) e fun _ st => .ok (.nx e st)
  | .ret x, e, st => sBnd (evE F x e st) e fun v st => .ok (.rt v st)
  | .set t x, e, st => sBnd (evE F x e st) e fun v st => match setTg t v e with
    | some e => .ok (.nx e st)
    | none => .err
  | .par is es, e, st => sBnd (evE F es e st) e fun v st => match v with
    | .its vs => match setPar is vs e with
      | some e => .ok (.nx e st)
      | none => .err
    | _ => .err
  | .setix o i x, e, st => sBnd (evE F x e st) e fun v st => sBnd (evE F o e st) e fun o st => sBnd (evE F i e st) e fun i st => match setIx st o i v with
    | some st => .ok (.nx e st)
    | none => .err
  | .setfld o f x, e, st => sBnd (evE F x e st) e fun v st => sBnd (evE F o e st) e fun o st => match setFld st o f v with
    | some st => .ok (.nx e st)
    | none => .err
  | .aug i o x, e, st => match envGet e i with
    | some (.d (.int a)) => sBnd (evE F x e st) e fun v st => match v with
      | .d (.int b) => match augI o a b with
        | some c => .ok (.nx (e.set i (some (.d (.int c)))) st)
        | none => .err
      | _ => .err
    | _ => .err
  | .iff t a b, e, st => sBnd (evE F t e st) e fun v st => match truth v with
    | some true => evS F a e st
    | some false => evS F b e st
    | none => .err
  | .whl t b, e, st => whlL (evE F t) (evS F b) F.turns e st
  | .for t it b, e, st => sBnd (evE F it e st) e fun w st => match itsOf w with
    | some vs => forL t (evS F b) vs e st
    | none => .err
  | .raise c es, e, st => sBnd (evE F es e st) e fun v st => match v with
    | .its vs => match dats vs with
      | some fs => if fs.length = exLen es then .ok (.x c fs e st) else .err
      | none => .err
    | _ => .err
  | .tryx b hs, e, st => R.bind (evS F b e st) fun
    | .x c fs e st => evH F hs c fs e st
    | o => .ok o
  | .hd _ _ _ _, _, _ => .err
  | .brk, e, st => .ok (.bk e st)
  | .cont, e, st => .ok (.ct e st)
where
  /-- the clauses of a try -/
  evH (F : Cfg) : St → Nat → List D → Env → Store → R Out
  | .hd c' i b rest, c, fs, e, st => if c = c' then
      R.bind (evS F b (e.set i (some (.exn c fs))) st) fun
      | .nx e st => .ok (.nx (e.set i none) st)
      | .bk e st => .ok (.bk (e.set i none) st)
      | .ct e st => .ok (.ct (e.set i none) st)
      | .x _ _ _ _ => .err
      | o => .ok o
    else evH F rest c fs e st
  | .skip, c, fs, e, st => .ok (.x c fs e st)
  | _, _, _, _, _ => .err

inductive FnK where | plain (f : Fn) | draw | spring deriving Inhabited
def fill (f : Fn) (vs : List Vl) : List Vl := vs ++ (f.dfl.drop (f.dfl.length + vs.length - f.ps)).map .d
def runFn (F : Cfg) (f : Fn) (vs : List Vl) (st : Store) : E Vl :=
  if (fill f vs).length = f.ps then
    R.bind (evS F f.body ((fill f vs).map some ++ List.replicate (f.slots - f.ps) none) st) fun
    | .rt v s => .ok (.v v s)
    | .nx _ s => .ok (.v (.d .non) s)
    | .x c fs _ s => .ok (.x c fs s)
    | _ => .err
  else .err
def drawE (vs : List Vl) (st : Store) : E Vl := match vs with
  | [.d .strm, .d (.int m)] => if 0 < m ∧ m < 1000000 then .draw m.toNat fun d => ret (.d (.int d)) st else .err
  | _ => .err
def callN (fns : List FnK) (turns : Nat) : Nat → Nat → List Vl → Store → E Vl
  | 0, _, _, _ => .err
  | n + 1, f, vs, st => match fns[f]? with
    | some (.plain fn) => runFn ⟨callN fns turns n, fun _ => .err, turns⟩ fn vs st
    | some .draw => drawE vs st
    | some .spring => ret (.d .strm) st
    | none => .err
end EV

end
section
set_option Elab.async false
set_option linter.all false
set_option maxRecDepth 100000
set_option maxHeartbeats 4000000
/-! EV 2: how data, values, stores lie in the abstract heap. -/
namespace EV
open PySem PySem.Spec PyProof.Rows L2
open LamX (Tabs TabS CodeO)

def sOf (s : List Nat) : Str := ⟨s.toArray⟩
theorem sOf_len (s : List Nat) : (sOf s).length = s.length := by simp [sOf, Str.length]
theorem sOf_inj {a b : List Nat} (h : sOf a = sOf b) : a = b := by
  unfold sOf at h; injection h with h; simpa using h

/-- nothing stands there, but for a table of code -/
def Nn (H : Hp) (q : Addr) : Prop := ∀ o, H q = some o → ∃ ps, o = .tbl ps
theorem Nn.none {H : Hp} {q : Addr} (h : H q = none) : Nn H q := fun o e => by rw [h] at e; cases e
theorem Nn.kept {H H' : Hp} {q : Addr} (k : ∀ o, H q = some o → H' q = some o) (h : Nn H' q) : Nn H q := fun o e => h o (k o e)
theorem Nn.no {H : Hp} {q : Addr} {o : HO} (h : H q = some o) (n : ∀ ps, o ≠ .tbl ps) : ¬ Nn H q := fun z => let ⟨ps, e⟩ := z o h; n ps e
/-- the fixed ground: the written part, where the spring stands -/
structure Gd where
  sp : Addr
  sc : Addr
  /-- the tables of the lambdas' code -/
  T : List (Addr × Str)
/-- where the mutable things stand; what no data may lie at besides -/
structure Wd where
  cells : List (Option Addr)
  av : Addr → Prop
  hc : Nat → Option Addr
def Wd.live (W : Wd) (a : Addr) : Prop := ∃ i : Nat, W.cells[i]? = some (some a)
/-- what may change -/
def Mv (G : Gd) (W : Wd) (a : Addr) : Prop := W.live a ∨ a = G.sp ∨ a = G.sc
/-- where no data lies -/
def Av (G : Gd) (W : Wd) (a : Addr) : Prop := Mv G W a ∨ W.av a
/-- nor what stays behind a block that borrows -/
def Ah (G : Gd) (W : Wd) (a : Addr) : Prop := Av G W a ∨ ∃ i, W.hc i = some a

def keyOf : D → Option Key
  | .int i => some (.inl i)
  | .str s => some (.inr (sOf s))
  | _ => none
def KeysOk : List D → List (Key × V) → Prop
  | [], [] => True
  | k :: ks, p :: ps => keyOf k = some p.1 ∧ KeysOk ks ps
  | _, _ => False
mutual
def toPy : D → PyData
  | .bl b => .bool b
  | .int i => .int i
  | .str s => .str (sOf s)
  | .tup xs => .tuple (toPys xs)
  | .lst xs => .list (toPys xs)
  | _ => .none
def toPys : List D → List PyData
  | [] => []
  | x :: xs => toPy x :: toPys xs
end
mutual
/-- v is the data d in H, none of its things at an address of A -/
def VR (G : Gd) (A : Addr → Prop) (H : Hp) : D → V → Prop
  | .non, v => v = .non
  | .bl b, v => v = .bl b
  | .int i, v => v = .int i
  | .str s, v => v = .str (sOf s)
  | .tup ds, v => ∃ p vs, v = .ref p ∧ H p = some (.tup vs) ∧ ¬ A p ∧ VRs G A H ds vs
  | .lst ds, v => ∃ p vs, v = .ref p ∧ H p = some (.lst vs) ∧ ¬ A p ∧ VRs G A H ds vs
  | .dct ks us, v => ∃ p kvs, v = .ref p ∧ H p = some (.dK kvs) ∧ ¬ A p ∧ KeysOk ks kvs ∧ VRs G A H us (kvs.map (·.2))
  | .ins _ _, _ => False
  | .fn _, _ => False
  | .strm, v => v = .ref G.sp
  | .rp x, v => v = .str (toPy x).shown
def VRs (G : Gd) (A : Addr → Prop) (H : Hp) : List D → List V → Prop
  | [], vs => vs = []
  | d :: ds, vs => ∃ w ws, vs = w :: ws ∧ VR G A H d w ∧ VRs G A H ds ws
end

/-- the same but for the outermost thing, which may stand anywhere -/
def VT (G : Gd) (A : Addr → Prop) (H : Hp) : D → V → Prop
  | .lst ds, v => ∃ p vs, v = .ref p ∧ H p = some (.lst vs) ∧ VRs G A H ds vs
  | .dct ks us, v => ∃ p kvs, v = .ref p ∧ H p = some (.dK kvs) ∧ KeysOk ks kvs ∧ VRs G A H us (kvs.map (·.2))
  | d, v => VR G A H d v
theorem VR.top {G : Gd} {A : Addr → Prop} {H : Hp} : ∀ {d : D} {v : V}, VR G A H d v → VT G A H d v
  | .lst _, _, h => by
    unfold VR at h
    obtain ⟨p, vs, e, h1, _, h2⟩ := h
    exact ⟨p, vs, e, h1, h2⟩
  | .dct _ _, _, h => by
    unfold VR at h
    obtain ⟨p, kvs, e, h1, _, h2, h3⟩ := h
    exact ⟨p, kvs, e, h1, h2, h3⟩
  | .non, _, h => h
  | .bl _, _, h => h
  | .int _, _, h => h
  | .str _, _, h => h
  | .tup _, _, h => h
  | .ins _ _, _, h => h
  | .fn _, _, h => h
  | .strm, _, h => h
  | .rp _, _, h => h

/-- values of names -/
def VlR (G : Gd) (W : Wd) (H : Hp) : Vl → V → Prop
  | .d x, v => VR G (Av G W) H x v
  | .ref i, v => i < W.cells.length ∧ ∀ a, W.cells[i]? = some (some a) → v = .ref a
  | .thk, _ => False
  | .its _, _ => False
  | .exn _ _, _ => False
  | .h x, v => VR G (Ah G W) H x v
  | .hr i x, v => ∃ a, W.hc i = some a ∧ v = .ref a ∧ VR G (Av G W) H x v
abbrev VlRs (G : Gd) (W : Wd) (H : Hp) : List Vl → List V → Prop := Paired (VlR G W H)

/-- a mutable thing at a -/
def CellR (G : Gd) (W : Wd) (H : Hp) (a : Addr) : Cell → Prop
  | .lst xs => ∃ vs, H a = some (.lst vs) ∧ VlRs G W H xs vs
  | .dct ks us => ∃ kvs : List (Key × V), H a = some (.dK kvs) ∧ KeysOk ks kvs ∧ VlRs G W H us (kvs.map (·.2))
  | .ins _ _ => False

/-- the spring: its list of four, its cells; b draws may still come -/
def SprOk (G : Gd) (H : Hp) (b : Nat) : Prop :=
  ∃ (ns : List Int) (g m : Int) (c : Nat), H G.sp = some (.lst [.ref G.sc, .int g, .int c, .int m]) ∧ H G.sc = some (.lst (ns.map V.int)) ∧ G.sp ≠ G.sc ∧
    0 ≤ g ∧ g.natAbs < 2 ^ 1048576 ∧ (∀ n ∈ ns, n.natAbs < 2 ^ 1048576) ∧ ns.length ≤ 63 ∧ 0 ≤ m ∧ m < 2147483647 ∧ c + b ≤ 2 ^ 40

/-- the store st lies in H by W -/
structure Rel (G : Gd) (W : Wd) (st : Store) (b : Nat) (H : Hp) : Prop where
  len : W.cells.length = st.length
  inj : ∀ (i j : Nat) a, W.cells[i]? = some (some a) → W.cells[j]? = some (some a) → i = j
  cell : ∀ (i : Nat) c, st[i]? = some (some c) → ∃ a, W.cells[i]? = some (some a) ∧ CellR G W H a c
  dead : ∀ i : Nat, st[i]? = some none → W.cells[i]? = some none
  spr : SprOk G H b
  nosp : ¬ W.live G.sp ∧ ¬ W.live G.sc
  avt : ∀ a, W.av a → ¬ Nn H a
  avl : ∀ a, W.live a → ¬ W.av a
  tabs : Tabs G.T H

/-- from W, H to W', H': what may not change is there still -/
structure Ext (G : Gd) (W : Wd) (H : Hp) (W' : Wd) (H' : Hp) : Prop where
  keep : ∀ q o, H q = some o → (∀ ps, o ≠ .tbl ps) → ¬ Mv G W q → H' q = some o
  there : ∀ q, Nn H' q → Nn H q
  grow : W.cells.length ≤ W'.cells.length
  back : ∀ (i : Nat) a, i < W.cells.length → W'.cells[i]? = some (some a) → W.cells[i]? = some (some a)
  fresh : ∀ q, W'.live q → W.live q ∨ Nn H q
  av : ∀ q, W'.av q → W.av q ∨ Nn H q
  avm : ∀ q, W.av q → W'.av q
  hc : W'.hc = W.hc
theorem Ext.refl {G : Gd} {W : Wd} {H : Hp} : Ext G W H W H :=
  ⟨fun _ _ h _ _ => h, fun _ h => h, Nat.le_refl _, fun _ _ _ h => h, fun _ h => .inl h, fun _ h => .inl h, fun _ h => h, rfl⟩
theorem Ext.trans {G : Gd} {W W1 W2 : Wd} {H H1 H2 : Hp} (a : Ext G W H W1 H1) (b : Ext G W1 H1 W2 H2) : Ext G W H W2 H2 where
  keep := fun q o h nt n => b.keep q o (a.keep q o h nt n) nt fun m => by
    rcases m with m | m
    · rcases a.fresh q m with l | l
      · exact n (.inl l)
      · exact Nn.no h nt l
    · exact n (.inr m)
  there := fun q h => a.there q (b.there q h)
  grow := Nat.le_trans a.grow b.grow
  back := fun i c hi h => a.back i c hi (b.back i c (Nat.lt_of_lt_of_le hi a.grow) h)
  fresh := fun q h => by
    rcases b.fresh q h with l | l
    · exact a.fresh q l
    · exact .inr (a.there q l)
  av := fun q h => by
    rcases b.av q h with l | l
    · exact a.av q l
    · exact .inr (a.there q l)
  avm := fun q h => b.avm q (a.avm q h)
  hc := b.hc.trans a.hc

/-- what VR leans on -/
structure Ext0 (A : Addr → Prop) (H : Hp) (A' : Addr → Prop) (H' : Hp) : Prop where
  keep : ∀ q o, H q = some o → (∀ ps, o ≠ .tbl ps) → ¬ A q → H' q = some o ∧ ¬ A' q
mutual
theorem VR.ext0 {G : Gd} {A A' : Addr → Prop} {H H' : Hp} (x : Ext0 A H A' H') : ∀ {d : D} {v : V}, VR G A H d v → VR G A' H' d v
  | .non, _, h => by unfold VR at h ⊢; exact h
  | .bl _, _, h => by unfold VR at h ⊢; exact h
  | .int _, _, h => by unfold VR at h ⊢; exact h
  | .str _, _, h => by unfold VR at h ⊢; exact h
  | .strm, _, h => by unfold VR at h ⊢; exact h
  | .rp _, _, h => by unfold VR at h ⊢; exact h
  | .ins _ _, _, h => by unfold VR at h ⊢; exact h
  | .fn _, _, h => by unfold VR at h ⊢; exact h
  | .tup ds, _, h => by
    unfold VR at h ⊢
    obtain ⟨p, vs, e, h1, n, h2⟩ := h
    exact ⟨p, vs, e, (x.keep _ _ h1 nofun n).1, (x.keep _ _ h1 nofun n).2, VRs.ext0 x h2⟩
  | .lst ds, _, h => by
    unfold VR at h ⊢
    obtain ⟨p, vs, e, h1, n, h2⟩ := h
    exact ⟨p, vs, e, (x.keep _ _ h1 nofun n).1, (x.keep _ _ h1 nofun n).2, VRs.ext0 x h2⟩
  | .dct ks us, _, h => by
    unfold VR at h ⊢
    obtain ⟨p, kvs, e, h1, n, h2, h3⟩ := h
    exact ⟨p, kvs, e, (x.keep _ _ h1 nofun n).1, (x.keep _ _ h1 nofun n).2, h2, VRs.ext0 x h3⟩
theorem VRs.ext0 {G : Gd} {A A' : Addr → Prop} {H H' : Hp} (x : Ext0 A H A' H') : ∀ {ds : List D} {vs : List V}, VRs G A H ds vs → VRs G A' H' ds vs
  | [], _, h => by unfold VRs at h ⊢; exact h
  | d :: ds, _, h => by
    unfold VRs at h ⊢
    obtain ⟨w, ws, e, h1, h2⟩ := h
    exact ⟨w, ws, e, VR.ext0 x h1, VRs.ext0 x h2⟩
end
theorem Ext.ext0 {G : Gd} {W W' : Wd} {H H' : Hp} (x : Ext G W H W' H') : Ext0 (Av G W) H (Av G W') H' := ⟨fun q o h nt n => by
  have nm : ¬ Mv G W q := fun m => n (.inl m)
  refine ⟨x.keep q o h nt nm, fun m => ?_⟩
  rcases m with m | m
  · rcases m with m | m
    · rcases x.fresh q m with l | l
      · exact nm (.inl l)
      · exact Nn.no h nt l
    · exact nm (.inr m)
  · rcases x.av q m with l | l
    · exact n (.inr l)
    · exact Nn.no h nt l⟩
theorem Ext.ext0h {G : Gd} {W W' : Wd} {H H' : Hp} (x : Ext G W H W' H') : Ext0 (Ah G W) H (Ah G W') H' := ⟨fun q o h nt n => by
  obtain ⟨h1, h2⟩ := x.ext0.keep q o h nt fun m => n (.inl m)
  refine ⟨h1, fun m => ?_⟩
  rcases m with m | m
  · exact h2 m
  · exact n (.inr (by rw [← x.hc]; exact m))⟩
/-- later, what no data lies at may have changed, too -/
structure ExtA (G : Gd) (W : Wd) (H : Hp) (W' : Wd) (H' : Hp) : Prop where
  keep : ∀ q o, H q = some o → (∀ ps, o ≠ .tbl ps) → ¬ Av G W q → H' q = some o
  there : ∀ q, Nn H' q → Nn H q
  fresh : ∀ q, W'.live q → W.live q ∨ Nn H q
  av : ∀ q, W'.av q → W.av q ∨ Nn H q
  grow : W.cells.length ≤ W'.cells.length
  back : ∀ (i : Nat) a, i < W.cells.length → W'.cells[i]? = some (some a) → W.cells[i]? = some (some a)
  hc : W'.hc = W.hc
theorem Ext.toA {G : Gd} {W W' : Wd} {H H' : Hp} (x : Ext G W H W' H') : ExtA G W H W' H' := ⟨fun q o h nt n => x.keep q o h nt fun m => n (.inl m), x.there, x.fresh, x.av, x.grow, x.back, x.hc⟩
theorem ExtA.ext0 {G : Gd} {W W' : Wd} {H H' : Hp} (x : ExtA G W H W' H') : Ext0 (Av G W) H (Av G W') H' := ⟨fun q o h nt n => by
  refine ⟨x.keep q o h nt n, fun m => ?_⟩
  rcases m with (m | m) | m
  · rcases x.fresh q m with l | l
    · exact n (.inl (.inl l))
    · exact Nn.no h nt l
  · exact n (.inl (.inr m))
  · rcases x.av q m with l | l
    · exact n (.inr l)
    · exact Nn.no h nt l⟩
theorem VlR.ext {G : Gd} {W W' : Wd} {H H' : Hp} (x : Ext G W H W' H') : ∀ {a : Vl} {v : V}, VlR G W H a v → VlR G W' H' a v
  | .d _, _, h => VR.ext0 x.ext0 h
  | .ref i, _, h => ⟨Nat.lt_of_lt_of_le h.1 x.grow, fun a e => h.2 a (x.back i a h.1 e)⟩
  | .thk, _, h => h
  | .its _, _, h => h
  | .exn _ _, _, h => h
  | .h _, _, h => VR.ext0 x.ext0h h
  | .hr _ _, _, ⟨a, h1, h2, h3⟩ => ⟨a, by rw [x.hc]; exact h1, h2, VR.ext0 x.ext0 h3⟩
theorem VlRs.ext {G : Gd} {W W' : Wd} {H H' : Hp} (x : Ext G W H W' H') {as : List Vl} {vs : List V} (h : VlRs G W H as vs) : VlRs G W' H' as vs :=
  Paired.mapP h fun _ _ q => q.ext x

/-- a frame's names -/
structure EnvR (G : Gd) (W : Wd) (H : Hp) (e : Env) (σ : L2.St) : Prop where
  len : e.length = σ.length
  get0 : ∀ (i : Nat) a, e[i]? = some (some a) → ∃ v, σ[i]? = some (some v) ∧ VlR G W H a v
theorem EnvR.ext {G : Gd} {W W' : Wd} {H H' : Hp} (x : Ext G W H W' H') {e : Env} {σ : L2.St} (h : EnvR G W H e σ) : EnvR G W' H' e σ :=
  ⟨h.len, fun i a q => let ⟨v, h1, h2⟩ := h.get0 i a q; ⟨v, h1, h2.ext x⟩⟩
theorem Ext0.less {A A' : Addr → Prop} {H : Hp} (h : ∀ a, A' a → A a) : Ext0 A H A' H := ⟨fun _ _ e _ n => ⟨e, fun m => n (h _ m)⟩⟩
theorem VlR.rd {G : Gd} {W : Wd} {H : Hp} : ∀ {a : Vl} {v : V}, VlR G W H a v → VlR G W H (rdV a) v
  | .h _, _, r => VR.ext0 (.less fun _ m => .inl m) r
  | .hr _ _, _, ⟨_, _, _, r⟩ => r
  | .d _, _, r => r
  | .ref _, _, r => r
  | .thk, _, r => r
  | .its _, _, r => r
  | .exn _ _, _, r => r
theorem EnvR.get {G : Gd} {W : Wd} {H : Hp} {e : Env} {σ : L2.St} (h : EnvR G W H e σ) {i : Nat} {a : Vl} (q : envGet e i = some a) : ∃ v, σ[i]? = some (some v) ∧ VlR G W H a v := by
  unfold envGet at q
  obtain ⟨b, qb, eb⟩ := Option.map_eq_some_iff.mp q
  subst eb
  have q' : e[i]? = some (some b) := by
    cases z : e[i]? with
    | none => rw [z] at qb; cases qb
    | some o =>
      rw [z] at qb
      have q2 : o = some b := qb
      rw [q2]
  obtain ⟨v, h1, h2⟩ := h.get0 i b q'
  exact ⟨v, h1, h2.rd⟩
theorem EnvR.set {G : Gd} {W : Wd} {H : Hp} {e : Env} {σ : L2.St} (h : EnvR G W H e σ) (i : Nat) {a : Vl} {v : V} (r : VlR G W H a v) : EnvR G W H (e.set i (some a)) (σ.set i (some v)) := by
  refine ⟨by simp [h.len], fun j b q => ?_⟩
  by_cases hj : i = j
  · subst hj
    by_cases hl : i < e.length
    · rw [List.getElem?_set_self hl] at q
      cases q
      exact ⟨v, List.getElem?_set_self (by rw [← h.len]; exact hl), r⟩
    · rw [List.getElem?_eq_none (by simpa using hl)] at q; cases q
  · rw [List.getElem?_set_ne hj] at q ⊢
    exact h.get0 j b q
end EV

end
section
set_option Elab.async false
set_option linter.all false
set_option maxRecDepth 100000
set_option maxHeartbeats 4000000
/-! EV 3: the operations on data, by the hand layer's rules. -/
namespace EV
open PySem PySem.Spec PyProof.Rows L2

theorem R.good_ok {α : Type} : True := trivial
/-- every leaf is fine, with b draws left -/
def good {α : Type} (P : α → Nat → Prop) : R α → Nat → Prop
  | .ok a, b => P a b
  | .err, _ => False
  | .draw m k, b => ∃ b', b = b' + 1 ∧ 0 < m ∧ ∀ d, d < m → good P (k d) b'
theorem good_mono {α : Type} {P Q : α → Nat → Prop} (h : ∀ a b, P a b → Q a b) : ∀ {r : R α} {b : Nat}, good P r b → good Q r b
  | .ok a, b, q => h a b q
  | .err, _, q => q
  | .draw m k, b, ⟨b', e, hm, q⟩ => ⟨b', e, hm, fun d hd => good_mono h (q d hd)⟩
theorem good_bind {α β : Type} {P : β → Nat → Prop} {f : α → R β} : ∀ {r : R α} {b : Nat}, good P (r.bind f) b ↔ good (fun a b' => good P (f a) b') r b
  | .ok a, b => Iff.rfl
  | .err, _ => Iff.rfl
  | .draw m k, b => by
    constructor
    · rintro ⟨b', e, hm, q⟩
      exact ⟨b', e, hm, fun d hd => good_bind.mp (q d hd)⟩
    · rintro ⟨b', e, hm, q⟩
      exact ⟨b', e, hm, fun d hd => good_bind.mpr (q d hd)⟩
/-- an expression's leaves -/
def EG {α : Type} (K : α → Store → Nat → Prop) (Kx : Nat → List D → Store → Nat → Prop) (r : E α) (b : Nat) : Prop :=
  good (fun o b' => match o with
    | .v a s => K a s b'
    | .x c fs s => Kx c fs s b') r b
theorem EG.mono {α : Type} {K K' : α → Store → Nat → Prop} {Kx Kx' : Nat → List D → Store → Nat → Prop} {r : E α} {b : Nat} (h : EG K Kx r b) (h1 : ∀ a s b, K a s b → K' a s b) (h2 : ∀ c fs s b, Kx c fs s b → Kx' c fs s b) : EG K' Kx' r b :=
  good_mono (fun o b' q => by
    cases o with
    | v a s => exact h1 a s b' q
    | x c fs s => exact h2 c fs s b' q) h
theorem EG_bnd {α β : Type} {K : β → Store → Nat → Prop} {Kx : Nat → List D → Store → Nat → Prop} {m : E α} {f : α → Store → E β} {b : Nat} : EG K Kx (bnd m f) b ↔ EG (fun a s b' => EG K Kx (f a s) b') Kx m b := by
  unfold EG bnd
  rw [good_bind]
  constructor
  · intro h
    refine good_mono (fun o b' q => ?_) h
    cases o with
    | v a s => exact q
    | x c fs s => exact q
  · intro h
    refine good_mono (fun o b' q => ?_) h
    cases o with
    | v a s => exact q
    | x c fs s => exact q
theorem EG_ret {α : Type} {K : α → Store → Nat → Prop} {Kx : Nat → List D → Store → Nat → Prop} {a : α} {s : Store} {b : Nat} : EG K Kx (ret a s) b ↔ K a s b := Iff.rfl
theorem EG_lift {α : Type} {K : α → Store → Nat → Prop} {Kx : Nat → List D → Store → Nat → Prop} {o : Option α} {s : Store} {b : Nat} : EG K Kx (lift o s) b ↔ ∃ a, o = some a ∧ K a s b := by
  cases o with
  | none => exact ⟨fun h => False.elim h, fun ⟨a, e, _⟩ => by cases e⟩
  | some a => exact ⟨fun h => ⟨a, rfl, h⟩, fun ⟨a', e, h⟩ => by cases e; exact h⟩
theorem EG_err {α : Type} {K : α → Store → Nat → Prop} {Kx : Nat → List D → Store → Nat → Prop} {b : Nat} (h : EG K Kx (.err : E α) b) : False := h

/-! ### a new thing -/
theorem Rel.av_nn {G : Gd} {W : Wd} {st : Store} {b : Nat} {H : Hp} (R : Rel G W st b H) {a : Addr} (h : Av G W a) : ¬ Nn H a := by
  obtain ⟨ns, g, m, c, h1, h2, _⟩ := R.spr
  rcases h with (⟨i, h⟩ | h | h) | h
  · have hi : i < st.length := by
      rw [← R.len]
      exact (List.getElem?_eq_some_iff.mp h).1
    cases e : st[i]? with
    | none => rw [List.getElem?_eq_none_iff] at e; omega
    | some o =>
      cases o with
      | none => rw [R.dead i e] at h; cases h
      | some c =>
        obtain ⟨a', h', r⟩ := R.cell i c e
        rw [h] at h'
        cases h'
        cases c with
        | lst xs => obtain ⟨vs, q, _⟩ := r; exact Nn.no q nofun
        | dct ks us => obtain ⟨vs, q, _⟩ := r; exact Nn.no q nofun
        | ins c vs => exact False.elim r
  · rw [h]; exact Nn.no h1 nofun
  · rw [h]; exact Nn.no h2 nofun
  · exact R.avt a h
theorem Rel.av_there {G : Gd} {W : Wd} {st : Store} {b : Nat} {H : Hp} (R : Rel G W st b H) {a : Addr} (h : Av G W a) : H a ≠ none := fun e => R.av_nn h (.none e)
theorem Rel.new_av {G : Gd} {W : Wd} {st : Store} {b : Nat} {H : Hp} (R : Rel G W st b H) {p : Addr} (hp : H p = none) : ¬ Av G W p := fun h => R.av_there h hp
theorem upd_keep {H : Hp} {p q : Addr} {o u : HO} (hp : H p = none) (h : H q = some o) : upd H p u q = some o := by
  rw [upd_ne]; exact h
  rintro rfl; rw [hp] at h; cases h
theorem ext_new {G : Gd} {W : Wd} {H : Hp} {p : Addr} {u : HO} (hp : H p = none) : Ext G W H W (upd H p u) where
  keep := fun q o h _ _ => upd_keep hp h
  there := fun q h => h.kept fun o e => upd_keep hp e
  grow := Nat.le_refl _
  back := fun _ _ _ h => h
  fresh := fun q h => .inl h
  av := fun _ h => .inl h
  avm := fun _ h => h
  hc := rfl
theorem CellR.keeps {G : Gd} {W W' : Wd} {H H' : Hp} {a : Addr} {c : Cell} (x : Ext G W H W' H') (h : CellR G W H a c) (e : H' a = H a) : CellR G W' H' a c := by
  cases c with
  | lst xs => obtain ⟨vs, q, r⟩ := h; exact ⟨vs, e.trans q, r.ext x⟩
  | dct ks us => obtain ⟨vs, q, r1, r2⟩ := h; exact ⟨vs, e.trans q, r1, r2.ext x⟩
  | ins c vs => exact h
theorem SprOk.keeps {G : Gd} {H H' : Hp} {b : Nat} (h : SprOk G H b) (e1 : H' G.sp = H G.sp) (e2 : H' G.sc = H G.sc) : SprOk G H' b := by
  obtain ⟨ns, g, m, c, h1, h2, r⟩ := h
  exact ⟨ns, g, m, c, e1.trans h1, e2.trans h2, r⟩
/-- nothing that may change has changed -/
theorem Rel.same {G : Gd} {W : Wd} {st : Store} {b : Nat} {H H' : Hp} (R : Rel G W st b H) (x : Ext G W H W H') (e : ∀ a, Mv G W a → H' a = H a) (k : ∀ q o, H q = some o → H' q = some o) : Rel G W st b H' where
  len := R.len
  inj := R.inj
  cell := fun i c h => by
    obtain ⟨a, h1, r⟩ := R.cell i c h
    exact ⟨a, h1, r.keeps x (e a (.inl ⟨i, h1⟩))⟩
  dead := R.dead
  spr := R.spr.keeps (e _ (.inr (.inl rfl))) (e _ (.inr (.inr rfl)))
  nosp := R.nosp
  avt := fun a h n => R.avt a h (x.there a n)
  avl := R.avl
  tabs := R.tabs.ext k
theorem Rel.new {G : Gd} {W : Wd} {st : Store} {b : Nat} {H : Hp} (R : Rel G W st b H) {p : Addr} {u : HO} (hp : H p = none) : Rel G W st b (upd H p u) :=
  R.same (ext_new hp) (fun a m => upd_ne (by rintro rfl; exact R.av_there (.inl m) hp)) fun q o h => upd_keep hp h

/-! ### lists of data -/
theorem VRs.length {G : Gd} {A : Addr → Prop} {H : Hp} : ∀ {ds : List D} {vs : List V}, VRs G A H ds vs → ds.length = vs.length
  | [], _, h => by unfold VRs at h; rw [h]; rfl
  | d :: ds, _, h => by
    unfold VRs at h
    obtain ⟨w, ws, rfl, _, h2⟩ := h
    simp [VRs.length h2]
theorem VRs.append {G : Gd} {A : Addr → Prop} {H : Hp} : ∀ {ds es : List D} {vs ws : List V}, VRs G A H ds vs → VRs G A H es ws → VRs G A H (ds ++ es) (vs ++ ws)
  | [], _, _, _, h, q => by unfold VRs at h; rw [h]; exact q
  | d :: ds, _, _, _, h, q => by
    unfold VRs at h
    obtain ⟨w, ws, rfl, h1, h2⟩ := h
    rw [List.cons_append, List.cons_append]
    unfold VRs
    exact ⟨w, _, rfl, h1, VRs.append h2 q⟩
theorem VRs.nil {G : Gd} {A : Addr → Prop} {H : Hp} : VRs G A H [] [] := by unfold VRs; rfl
theorem VRs.cons {G : Gd} {A : Addr → Prop} {H : Hp} {d : D} {v : V} {ds : List D} {vs : List V} (h : VR G A H d v) (q : VRs G A H ds vs) : VRs G A H (d :: ds) (v :: vs) := by
  unfold VRs; exact ⟨v, vs, rfl, h, q⟩
theorem VRs.take {G : Gd} {A : Addr → Prop} {H : Hp} : ∀ {ds : List D} {vs : List V} (n : Nat), VRs G A H ds vs → VRs G A H (ds.take n) (vs.take n)
  | _, _, 0, _ => by simp; exact VRs.nil
  | [], _, n + 1, h => by unfold VRs at h; rw [h]; simp; exact VRs.nil
  | d :: ds, _, n + 1, h => by
    unfold VRs at h
    obtain ⟨w, ws, rfl, h1, h2⟩ := h
    simp only [List.take_succ_cons]
    exact VRs.cons h1 (VRs.take n h2)
theorem VRs.drop {G : Gd} {A : Addr → Prop} {H : Hp} : ∀ {ds : List D} {vs : List V} (n : Nat), VRs G A H ds vs → VRs G A H (ds.drop n) (vs.drop n)
  | _, _, 0, h => by simpa using h
  | [], _, n + 1, h => by unfold VRs at h; rw [h]; simp; exact VRs.nil
  | d :: ds, _, n + 1, h => by
    unfold VRs at h
    obtain ⟨w, ws, rfl, h1, h2⟩ := h
    simp only [List.drop_succ_cons]
    exact VRs.drop n h2
theorem VRs.get {G : Gd} {A : Addr → Prop} {H : Hp} : ∀ {ds : List D} {vs : List V} {i : Nat} {d : D}, VRs G A H ds vs → ds[i]? = some d → ∃ v, vs[i]? = some v ∧ VR G A H d v
  | [], _, _, _, _, e => by simp at e
  | d :: ds, _, 0, _, h, e => by
    unfold VRs at h
    obtain ⟨w, ws, rfl, h1, _⟩ := h
    simp at e; subst e
    exact ⟨w, rfl, h1⟩
  | d :: ds, _, i + 1, _, h, e => by
    unfold VRs at h
    obtain ⟨w, ws, rfl, _, h2⟩ := h
    simpa using VRs.get (i := i) h2 (by simpa using e)
theorem VRs.reverse {G : Gd} {A : Addr → Prop} {H : Hp} : ∀ {ds : List D} {vs : List V}, VRs G A H ds vs → VRs G A H ds.reverse vs.reverse
  | [], _, h => by unfold VRs at h; rw [h]; exact VRs.nil
  | d :: ds, _, h => by
    unfold VRs at h
    obtain ⟨w, ws, rfl, h1, h2⟩ := h
    rw [List.reverse_cons, List.reverse_cons]
    exact VRs.append (VRs.reverse h2) (VRs.cons h1 VRs.nil)
theorem VRs.rep {G : Gd} {A : Addr → Prop} {H : Hp} {ds : List D} {vs : List V} (h : VRs G A H ds vs) : ∀ k : Nat, VRs G A H (List.replicate k ds).flatten (List.replicate k vs).flatten
  | 0 => by simp; exact VRs.nil
  | k + 1 => by
    rw [List.replicate_succ, List.replicate_succ, List.flatten_cons, List.flatten_cons]
    exact VRs.append h (VRs.rep h k)
/-- a new list, a new tuple of data -/
theorem VR.newL {G : Gd} {W : Wd} {st : Store} {b : Nat} {H : Hp} (R : Rel G W st b H) {p : Addr} (hp : H p = none) {ds : List D} {vs : List V} (h : VRs G (Av G W) H ds vs) : VR G (Av G W) (upd H p (.lst vs)) (.lst ds) (.ref p) := by
  unfold VR
  exact ⟨p, vs, rfl, upd_same, R.new_av hp, VRs.ext0 (ext_new hp).ext0 h⟩
theorem VR.newT {G : Gd} {W : Wd} {st : Store} {b : Nat} {H : Hp} (R : Rel G W st b H) {p : Addr} (hp : H p = none) {ds : List D} {vs : List V} (h : VRs G (Av G W) H ds vs) : VR G (Av G W) (upd H p (.tup vs)) (.tup ds) (.ref p) := by
  unfold VR
  exact ⟨p, vs, rfl, upd_same, R.new_av hp, VRs.ext0 (ext_new hp).ext0 h⟩

/-! ### two-place operations on data -/
def rD2 (G : Gd) (f : D → D → Option D) : R2 := fun x y H Q => ∃ W st b dx dy d, Rel G W st b H ∧ VT G (Av G W) H dx x ∧ VT G (Av G W) H dy y ∧ f dx dy = some d ∧
  ∀ H' v, Ext G W H W H' → Rel G W st b H' → VR G (Av G W) H' d v → Q v H'
theorem million : (1000000 : Nat) ≤ sizeLine := by rw [sizeLine_eq]; decide
/-- a reading of a rule over data -/
theorem OpR.weak {X : Cx} {f : Value → Value → Sem Value} {r r' : R2} (h : OpR X f r) (i : ∀ x y H Q, r' x y H Q → r x y H Q) : OpR X f r' :=
  fun pins s σ H x y v u Q I rx ry q => h pins s σ H x y v u Q I rx ry (i x y H Q q)
section
variable {X : Cx} {G : Gd}
theorem VT.ref_lst {A : Addr → Prop} {H : Hp} {ds : List D} {v : V} (h : VT G A H (.lst ds) v) : ∃ p vs, v = .ref p ∧ H p = some (.lst vs) ∧ VRs G A H ds vs := h
theorem VT.ref_tup {A : Addr → Prop} {H : Hp} {ds : List D} {v : V} (h : VT G A H (.tup ds) v) : ∃ p vs, v = .ref p ∧ H p = some (.tup vs) ∧ ¬ A p ∧ VRs G A H ds vs := by
  unfold VT VR at h; exact h
theorem VT.int {A : Addr → Prop} {H : Hp} {i : Int} {v : V} (h : VT G A H (.int i) v) : v = .int i := by unfold VT VR at h; exact h
theorem VT.bl {A : Addr → Prop} {H : Hp} {i : Bool} {v : V} (h : VT G A H (.bl i) v) : v = .bl i := by unfold VT VR at h; exact h
theorem VT.str {A : Addr → Prop} {H : Hp} {i : List Nat} {v : V} (h : VT G A H (.str i) v) : v = .str (sOf i) := by unfold VT VR at h; exact h
theorem VR.int {A : Addr → Prop} {H : Hp} {i : Int} : VR G A H (.int i) (.int i) := by unfold VR; rfl
theorem VR.bl {A : Addr → Prop} {H : Hp} {i : Bool} : VR G A H (.bl i) (.bl i) := by unfold VR; rfl
theorem VR.str {A : Addr → Prop} {H : Hp} {i : List Nat} : VR G A H (.str i) (.str (sOf i)) := by unfold VR; rfl
theorem VR.non {A : Addr → Prop} {H : Hp} : VR G A H .non .non := by unfold VR; rfl
theorem sOf_app (a b : List Nat) : sOf a ++ sOf b = sOf (a ++ b) := by
  unfold sOf
  show Str.mk _ = Str.mk _
  congr 1
  simp
theorem opD_add : OpR X (binaryOp .Add) (rD2 G (binD .add)) := by
  refine OpR.weak (OpR.or op_add (OpR.or op_add_str (OpR.or op_cat op_catT))) fun x y H Q h => ?_
  obtain ⟨W, st, b, dx, dy, d, R, hx, hy, e, q⟩ := h
  cases dx <;> cases dy <;> simp only [binD, reduceCtorEq, and_false, if_false, false_and, ite_false] at e
  case int.int i j =>
    cases e
    rw [hx.int, hy.int]
    exact .inl ⟨i, j, rfl, rfl, q H _ .refl R .int⟩
  case str.str i j =>
    split at e
    · rename_i c
      cases e
      rw [hx.str, hy.str]
      refine .inr (.inl ⟨_, _, rfl, rfl, ?_, ?_⟩)
      · rw [sOf_len, sOf_len]; exact Nat.le_trans c.2 million
      · rw [sOf_app]; exact q H _ .refl R .str
    · cases e
  case lst.lst i j =>
    split at e
    · rename_i c
      cases e
      obtain ⟨p, vs, rfl, h1, r1⟩ := hx
      obtain ⟨p', vs', rfl, h1', r1'⟩ := hy
      refine .inr (.inr (.inl ⟨p, p', vs, vs', rfl, rfl, h1, h1', ?_, fun n hn => q _ _ (ext_new hn) (R.new hn) (VR.newL R hn (r1.append r1'))⟩))
      rw [← r1.length, ← r1'.length]; exact Nat.le_trans c.2 million
    · cases e
  case tup.tup i j =>
    split at e
    · rename_i c
      cases e
      have hx0 := hx
      obtain ⟨p, vs, rfl, h1, n1, r1⟩ := hx.ref_tup
      obtain ⟨p', vs', rfl, h1', n1', r1'⟩ := hy.ref_tup
      refine .inr (.inr (.inr ⟨p, p', vs, vs', rfl, rfl, SqT.of h1, SqT.of h1', ?_, ?_, fun z => ?_, fun z n hn => q _ _ (ext_new hn) (R.new hn) (VR.newT R hn (r1.append r1'))⟩))
      · intro z; subst z
        have := r1.length
        cases i with
        | nil => simp at c
        | cons _ _ => simp at this
      · rw [← r1.length, ← r1'.length]; exact Nat.le_trans c.2.1 million
      · subst z
        have := r1'.length
        cases j with
        | nil =>
          rw [List.append_nil] at q
          exact q H _ .refl R hx0
        | cons _ _ => simp at this
    · cases e
theorem opD_sub : OpR X (binaryOp .Sub) (rD2 G (binD .sub)) := by
  refine OpR.weak op_sub fun x y H Q h => ?_
  obtain ⟨W, st, b, dx, dy, d, R, hx, hy, e, q⟩ := h
  cases dx <;> cases dy <;> simp only [binD, reduceCtorEq, and_false, if_false, false_and, ite_false] at e
  case int.int i j =>
    cases e
    rw [hx.int, hy.int]
    exact ⟨i, j, rfl, rfl, q H _ .refl R .int⟩
theorem opD_mul : OpR X (binaryOp .Mult) (rD2 G (binD .mul)) := by
  refine OpR.weak (OpR.or (OpR.or op_mul op_mulW) op_rep) fun x y H Q h => ?_
  obtain ⟨W, st, b, dx, dy, d, R, hx, hy, e, q⟩ := h
  cases dx <;> cases dy <;> simp only [binD, reduceCtorEq, and_false, if_false, false_and, ite_false] at e
  case int.int i j =>
    split at e
    · rename_i c
      cases e
      rw [hx.int, hy.int]
      exact .inl (.inr ⟨i, j, rfl, rfl, c, q H _ .refl R .int⟩)
    · cases e
  case lst.int i k =>
    split at e
    · rename_i c
      cases e
      obtain ⟨p, vs, rfl, h1, r1⟩ := hx
      rw [hy.int]
      obtain ⟨_, c1, c2, c3⟩ := c
      refine .inr ⟨p, k, vs, rfl, rfl, h1, by omega, by omega, ?_, fun n hn => q _ _ (ext_new hn) (R.new hn) (VR.newL R hn (r1.rep _))⟩
      rw [← r1.length]; exact Nat.le_trans c3 million
    · cases e
theorem opD_mod : OpR X (binaryOp .Mod) (rD2 G (binD .mod)) := by
  refine OpR.weak op_modN fun x y H Q h => ?_
  obtain ⟨W, st, b, dx, dy, d, R, hx, hy, e, q⟩ := h
  cases dx <;> cases dy <;> simp only [binD, reduceCtorEq, and_false, if_false, false_and, ite_false] at e
  case int.int i j =>
    split at e
    · cases e
    · rename_i c
      cases e
      rw [hx.int, hy.int]
      exact ⟨i, j, rfl, rfl, c, q H _ .refl R .int⟩
theorem opD_fdiv : OpR X (binaryOp .FloorDiv) (rD2 G (binD .fdiv)) := by
  refine OpR.weak (OpR.or op_fdivN op_fdivW) fun x y H Q h => ?_
  obtain ⟨W, st, b, dx, dy, d, R, hx, hy, e, q⟩ := h
  cases dx <;> cases dy <;> simp only [binD, reduceCtorEq, and_false, if_false, false_and, ite_false] at e
  case int.int i j =>
    split at e
    · rename_i c
      cases e
      rw [hx.int, hy.int]
      rcases c with c | c
      · exact .inl ⟨i, j, rfl, rfl, c, q H _ .refl R .int⟩
      · have hj : (0 : Int) ≤ j := by omega
        refine .inr ⟨i, j, rfl, rfl, c, ?_⟩
        have q' := q H (.int (i.fdiv j)) .refl R .int
        rw [Int.fdiv_eq_ediv_of_nonneg i hj] at q'
        exact q'
    · cases e
theorem opD_pow : OpR X (binaryOp .Pow) (rD2 G (binD .pow)) := by
  refine OpR.weak op_pow fun x y H Q h => ?_
  obtain ⟨W, st, b, dx, dy, d, R, hx, hy, e, q⟩ := h
  cases dx <;> cases dy <;> simp only [binD, reduceCtorEq, and_false, if_false, false_and, ite_false] at e
  case int.int i j =>
    split at e
    · rename_i c
      cases e
      rw [hx.int, hy.int]
      exact ⟨i, j, rfl, rfl, c, q H _ .refl R .int⟩
    · cases e
def bopOf : BOp → Operator
  | .add => .Add
  | .sub => .Sub
  | .mul => .Mult
  | .mod => .Mod
  | .fdiv => .FloorDiv
  | .pow => .Pow
theorem opD (o : BOp) : OpR X (binaryOp (bopOf o)) (rD2 G (binD o)) := by
  cases o with
  | add => exact opD_add
  | sub => exact opD_sub
  | mul => exact opD_mul
  | mod => exact opD_mod
  | fdiv => exact opD_fdiv
  | pow => exact opD_pow

/-! ### data as the library's data -/
theorem sOf_beq (a b : List Nat) : (sOf a == sOf b) = (a == b) := by
  by_cases h : a = b
  · subst h; simp
  · rw [beq_eq_false_iff_ne.mpr h, beq_eq_false_iff_ne.mpr fun e => h (sOf_inj e)]
mutual
theorem eqB_py : ∀ (a b : D) (n m : Nat), okB a n = true → okB b m = true → PyData.eqv (toPy a) (toPy b) = eqB a b := by
  intro a b n m ha hb
  cases a <;> cases b <;> (try (simp only [okB, Bool.false_eq_true] at ha)) <;> (try (simp only [okB, Bool.false_eq_true] at hb)) <;> (try (simp only [toPy, PyData.eqv, eqB]; done))
  case str.str x y => simp only [toPy, PyData.eqv, eqB]; exact sOf_beq x y
  case lst.lst x y =>
    cases n with
    | zero => cases ha
    | succ n =>
      cases m with
      | zero => cases hb
      | succ m =>
        simp only [toPy, PyData.eqv, eqB]
        exact eqBs_py x y n m ha hb
  case tup.tup x y =>
    cases n with
    | zero => cases ha
    | succ n =>
      cases m with
      | zero => cases hb
      | succ m =>
        simp only [toPy, PyData.eqv, eqB]
        exact eqBs_py x y n m ha hb
theorem eqBs_py : ∀ (a b : List D) (n m : Nat), okBs a n = true → okBs b m = true → PyData.eqvAll (toPys a) (toPys b) = eqBs a b := by
  intro a b n m ha hb
  cases a with
  | nil => cases b <;> simp only [toPys, PyData.eqvAll, eqBs]
  | cons x xs =>
    cases b with
    | nil => simp only [toPys, PyData.eqvAll, eqBs]
    | cons y ys =>
      simp only [okBs, Bool.and_eq_true] at ha hb
      simp only [toPys, PyData.eqvAll, eqBs]
      rw [eqB_py x y n m ha.1 hb.1, eqBs_py xs ys n m ha.2 hb.2]
end
mutual
theorem ok_py : ∀ (a : D) (n : Nat), okB a n = true → (toPy a).canLay0 = true ∧ (toPy a).depth ≤ n := by
  intro a n h
  cases a <;> (try (simp only [okB, Bool.false_eq_true] at h)) <;> (try (simp [toPy, PyData.canLay0, PyData.depth]; done))
  case str s =>
    simp only [toPy, PyData.canLay0, PyData.depth]
    refine ⟨?_, Nat.zero_le _⟩
    have h' : s.all (fun c => decide (c < 128)) = true := h
    simp only [List.all_eq_true, decide_eq_true_eq] at h'
    simp only [PyData.strOk, sOf, Array.all_eq_true', decide_eq_true_eq]
    intro x hx
    have := h' x (by simpa using hx)
    omega
  case tup xs =>
    cases n with
    | zero => cases h
    | succ n =>
      obtain ⟨h1, h2⟩ := oks_py xs n h
      simp only [toPy, PyData.canLay0, PyData.depth]
      exact ⟨h1, Nat.succ_le_succ h2⟩
  case lst xs =>
    cases n with
    | zero => cases h
    | succ n =>
      obtain ⟨h1, h2⟩ := oks_py xs n h
      simp only [toPy, PyData.canLay0, PyData.depth]
      exact ⟨h1, Nat.succ_le_succ h2⟩
theorem oks_py : ∀ (a : List D) (n : Nat), okBs a n = true → PyData.canLayAll0 (toPys a) = true ∧ PyData.depthAll (toPys a) ≤ n := by
  intro a n h
  cases a with
  | nil => simp only [toPys, PyData.canLayAll0, PyData.depthAll]; exact ⟨trivial, Nat.zero_le _⟩
  | cons x xs =>
    simp only [okBs, Bool.and_eq_true] at h
    obtain ⟨h1, h2⟩ := ok_py x n h.1
    obtain ⟨h3, h4⟩ := oks_py xs n h.2
    simp only [toPys, PyData.canLayAll0, PyData.depthAll, Bool.and_eq_true]
    exact ⟨⟨h1, h3⟩, Nat.max_le.mpr ⟨h2, h4⟩⟩
end
theorem ok_shaped {a : D} (h : okB a 64 = true) : SeqAt.shaped (toPy a) = true := by
  obtain ⟨h1, h2⟩ := ok_py a 64 h
  unfold SeqAt.shaped
  rw [h1, decide_eq_true h2]; rfl
mutual
theorem VR.dp {K : PySem.W.Frag} {A : Addr → Prop} {H : Hp} : ∀ (a : D) (v : V) (n : Nat), okB a n = true → VR G A H a v → Dp K H v (toPy a) := by
  intro a v n h r
  cases a <;> (try (simp only [okB, Bool.false_eq_true] at h)) <;> unfold VR at r <;> simp only [toPy]
  case non => rw [r]; exact .non
  case bl b => rw [r]; exact .bl b
  case int i => rw [r]; exact .int i
  case str s => rw [r]; exact .str _
  case tup xs =>
    cases n with
    | zero => cases h
    | succ n =>
      obtain ⟨p, vs, rfl, h1, _, h2⟩ := r
      exact .tup (SqT.of h1) (VRs.dp xs vs n h h2)
  case lst xs =>
    cases n with
    | zero => cases h
    | succ n =>
      obtain ⟨p, vs, rfl, h1, _, h2⟩ := r
      exact .lst (SqL.of h1) (VRs.dp xs vs n h h2)
theorem VRs.dp {K : PySem.W.Frag} {A : Addr → Prop} {H : Hp} : ∀ (a : List D) (vs : List V) (n : Nat), okBs a n = true → VRs G A H a vs → DpAll K H vs (toPys a) := by
  intro a vs n h r
  cases a with
  | nil => unfold VRs at r; rw [r]; simp only [toPys]; exact .nil
  | cons x xs =>
    simp only [okBs, Bool.and_eq_true] at h
    unfold VRs at r
    obtain ⟨w, ws, rfl, r1, r2⟩ := r
    simp only [toPys]
    exact .cons (VR.dp x w n h.1 r1) (VRs.dp xs ws n h.2 r2)
end
theorem VT.dp {K : PySem.W.Frag} {A : Addr → Prop} {H : Hp} {a : D} {v : V} (h : okB a 64 = true) (r : VT G A H a v) : Dp K H v (toPy a) := by
  cases a <;> (try (simp only [okB, Bool.false_eq_true] at h; done)) <;> (try exact VR.dp (G := G) (A := A) _ v 64 h r)
  case lst xs =>
    obtain ⟨p, vs, rfl, h1, h2⟩ := r
    simp only [toPy]
    exact .lst (SqL.of h1) (VRs.dp xs vs 63 h h2)
/-! ### comparisons -/
mutual
theorem VR.inj {A : Addr → Prop} {H : Hp} : ∀ (a b : D) (v : V) (n m : Nat), okB a n = true → okB b m = true → VR G A H a v → VR G A H b v → a = b := by
  intro a b v n m ha hb ra rb
  cases a <;> (try (simp only [okB, Bool.false_eq_true] at ha; done)) <;> cases b <;> (try (simp only [okB, Bool.false_eq_true] at hb; done)) <;> unfold VR at ra rb
  all_goals first
    | (rw [ra] at rb; cases rb; rfl; done)
    | (rw [ra] at rb; cases rb; done)
    | (obtain ⟨p, vs, e, _⟩ := rb; rw [ra] at e; cases e; done)
    | (obtain ⟨p, vs, e, _⟩ := ra; rw [rb] at e; cases e; done)
    | skip
  case non.non => rfl
  case tup.tup x y =>
    obtain ⟨p, vs, e, h1, _, h2⟩ := ra
    obtain ⟨p', vs', e', h1', _, h2'⟩ := rb
    rw [e] at e'; cases e'
    rw [h1] at h1'; cases h1'
    cases n with
    | zero => cases ha
    | succ n =>
      cases m with
      | zero => cases hb
      | succ m => rw [VRs.inj x y vs n m ha hb h2 h2']
  case lst.lst x y =>
    obtain ⟨p, vs, e, h1, _, h2⟩ := ra
    obtain ⟨p', vs', e', h1', _, h2'⟩ := rb
    rw [e] at e'; cases e'
    rw [h1] at h1'; cases h1'
    cases n with
    | zero => cases ha
    | succ n =>
      cases m with
      | zero => cases hb
      | succ m => rw [VRs.inj x y vs n m ha hb h2 h2']
  case tup.lst x y =>
    obtain ⟨p, vs, e, h1, _, h2⟩ := ra
    obtain ⟨p', vs', e', h1', _, h2'⟩ := rb
    rw [e] at e'; cases e'
    rw [h1] at h1'; cases h1'
  case lst.tup x y =>
    obtain ⟨p, vs, e, h1, _, h2⟩ := ra
    obtain ⟨p', vs', e', h1', _, h2'⟩ := rb
    rw [e] at e'; cases e'
    rw [h1] at h1'; cases h1'
theorem VRs.inj {A : Addr → Prop} {H : Hp} : ∀ (a b : List D) (v : List V) (n m : Nat), okBs a n = true → okBs b m = true → VRs G A H a v → VRs G A H b v → a = b := by
  intro a b v n m ha hb ra rb
  cases a with
  | nil =>
    unfold VRs at ra
    subst ra
    cases b with
    | nil => rfl
    | cons y ys => unfold VRs at rb; obtain ⟨_, _, e, _⟩ := rb; cases e
  | cons x xs =>
    unfold VRs at ra
    obtain ⟨w, ws, rfl, r1, r2⟩ := ra
    cases b with
    | nil => unfold VRs at rb; cases rb
    | cons y ys =>
      unfold VRs at rb
      obtain ⟨w', ws', e, r1', r2'⟩ := rb
      cases e
      simp only [okBs, Bool.and_eq_true] at ha hb
      rw [VR.inj x y w n m ha.1 hb.1 r1 r1', VRs.inj xs ys ws n m ha.2 hb.2 r2 r2']
end
/-- a comparison's reading: nothing changes -/
def rC2 (G : Gd) (f : D → D → Option Bool) : R2 := fun x y H Q => ∃ A dx dy t, VT G A H dx x ∧ VT G A H dy y ∧ f dx dy = some t ∧ Q (.bl t) H
theorem eqRp_of {A : Addr → Prop} {H : Hp} {dx dy : D} {x y : V} {t : Bool} (hx : VT G A H dx x) (hy : VT G A H dy y) (e : eqRp dx dy = some t) : scal x y = true ∧ x = y ∧ t = true := by
  cases dx <;> cases dy <;> simp only [eqRp, reduceCtorEq] at e
  rename_i a b
  split at e
  · rename_i h
    cases e
    have := sameD_eq h
    subst this
    unfold VT VR at hx hy
    subst hx hy
    exact ⟨rfl, rfl, rfl⟩
  · cases e
theorem cD_eq (hu : X.A.units + 64 < cLine) : OpR X (compareOp .Eq) (rC2 G eqD) := by
  refine OpR.weak (OpR.or (op_eqD hu) op_eq) fun x y H Q h => ?_
  obtain ⟨A, dx, dy, t, hx, hy, e, q⟩ := h
  by_cases c : (okB dx 64 && okB dy 64) = true
  · have e' : some (eqB dx dy) = some t := by
      rw [← e]; unfold eqD; rw [if_pos c]
    rw [Bool.and_eq_true] at c
    cases e'
    refine .inl ⟨toPy dx, toPy dy, VT.dp c.1 hx, VT.dp c.2 hy, ok_shaped c.1, ok_shaped c.2, ?_⟩
    rw [eqB_py dx dy 64 64 c.1 c.2]; exact q
  · have e' : eqRp dx dy = some t := by
      rw [← e]; unfold eqD; rw [if_neg c]
    obtain ⟨h1, rfl, rfl⟩ := eqRp_of hx hy e'
    exact .inr ⟨h1, by rw [decide_eq_true rfl]; exact q⟩
theorem cD_ne (hu : X.A.units + 64 < cLine) : OpR X (compareOp .NotEq) (rC2 G fun a b => (eqD a b).map not) := by
  refine OpR.weak (OpR.or (op_neD hu) op_ne) fun x y H Q h => ?_
  obtain ⟨A, dx, dy, t, hx, hy, e, q⟩ := h
  by_cases c : (okB dx 64 && okB dy 64) = true
  · have e' : some (!eqB dx dy) = some t := by
      rw [← e]; unfold eqD; dsimp only; rw [if_pos c]; rfl
    rw [Bool.and_eq_true] at c
    cases e'
    refine .inl ⟨toPy dx, toPy dy, VT.dp c.1 hx, VT.dp c.2 hy, ok_shaped c.1, ok_shaped c.2, ?_⟩
    rw [eqB_py dx dy 64 64 c.1 c.2]; exact q
  · have e' : (eqRp dx dy).map not = some t := by
      rw [← e]; unfold eqD; dsimp only; rw [if_neg c]
    obtain ⟨t', e2, rfl⟩ := Option.map_eq_some_iff.mp e'
    obtain ⟨h1, rfl, rfl⟩ := eqRp_of hx hy e2
    exact .inr ⟨h1, by rw [decide_eq_true rfl]; exact q⟩
theorem cD_lt : OpR X (compareOp .Lt) (rC2 G (cmpD .lt)) := by
  refine OpR.weak op_lt fun x y H Q h => ?_
  obtain ⟨A, dx, dy, t, hx, hy, e, q⟩ := h
  unfold cmpD at e
  dsimp only at e
  split at e
  · cases e
    rw [hx.int, hy.int]
    exact ⟨_, _, rfl, rfl, q⟩
  · cases e
theorem cD_le : OpR X (compareOp .LtE) (rC2 G (cmpD .le)) := by
  refine OpR.weak op_le fun x y H Q h => ?_
  obtain ⟨A, dx, dy, t, hx, hy, e, q⟩ := h
  unfold cmpD at e
  dsimp only at e
  split at e
  · cases e
    rw [hx.int, hy.int]
    exact ⟨_, _, rfl, rfl, q⟩
  · cases e
theorem cD_gt : OpR X (compareOp .Gt) (rC2 G (cmpD .gt)) := by
  refine OpR.weak op_gt fun x y H Q h => ?_
  obtain ⟨A, dx, dy, t, hx, hy, e, q⟩ := h
  unfold cmpD at e
  dsimp only at e
  split at e
  · cases e
    rw [hx.int, hy.int]
    exact ⟨_, _, rfl, rfl, q⟩
  · cases e
theorem cD_ge : OpR X (compareOp .GtE) (rC2 G (cmpD .ge)) := by
  refine OpR.weak op_ge fun x y H Q h => ?_
  obtain ⟨A, dx, dy, t, hx, hy, e, q⟩ := h
  unfold cmpD at e
  dsimp only at e
  split at e
  · cases e
    rw [hx.int, hy.int]
    exact ⟨_, _, rfl, rfl, q⟩
  · cases e
theorem VT.non_iff {A : Addr → Prop} {H : Hp} {d : D} {v : V} (h : VT G A H d v) : decide (v = .non) = isNon d := by
  cases d
  case non => unfold VT VR at h; rw [h]; rfl
  case lst xs => obtain ⟨p, vs, rfl, _⟩ := h; rfl
  case rp x => unfold VT VR at h; rw [h]; rfl
  case dct xs ys => obtain ⟨p, vs, rfl, _⟩ := h; rfl
  case tup xs => obtain ⟨p, vs, rfl, _⟩ := h.ref_tup; rfl
  case bl b => rw [h.bl]; rfl
  case int b => rw [h.int]; rfl
  case str b => rw [h.str]; rfl
  case ins c vs => unfold VT VR at h; exact h.elim
  case fn c => unfold VT VR at h; exact h.elim
  case strm => unfold VT VR at h; rw [h]; rfl
theorem cD_isN : OpR X (compareOp .Is) (rC2 G (cmpD .isN)) := by
  refine OpR.weak op_isN fun x y H Q h => ?_
  obtain ⟨A, dx, dy, t, hx, hy, e, q⟩ := h
  unfold cmpD at e
  dsimp only at e
  split at e
  · rename_i c
    cases e
    have ey : y = .non := of_decide_eq_true (hy.non_iff.trans c)
    refine ⟨ey, ?_⟩
    rw [hx.non_iff]
    exact q
  · cases e
theorem cD_notN : OpR X (compareOp .IsNot) (rC2 G (cmpD .notN)) := by
  refine OpR.weak op_notN fun x y H Q h => ?_
  obtain ⟨A, dx, dy, t, hx, hy, e, q⟩ := h
  unfold cmpD at e
  dsimp only at e
  split at e
  · rename_i c
    cases e
    have ey : y = .non := of_decide_eq_true (hy.non_iff.trans c)
    refine ⟨ey, ?_⟩
    rw [hx.non_iff]
    exact q
  · cases e
/-! ### in, not in -/
/-- a value's answer to == with x, read off what it stands for -/
noncomputable def ansU (G : Gd) (A : Addr → Prop) (H : Hp) (dx : D) (u : Value) : Bool :=
  open Classical in
  if h : ∃ d v, okB d 63 = true ∧ VR G A H d v ∧ RelV v u then eqB (Classical.choose h) dx else false
theorem ansU_of {A : Addr → Prop} {H : Hp} {dx d : D} {v : V} {u : Value} (hd : okB d 63 = true) (r : VR G A H d v) (ru : RelV v u) : ansU G A H dx u = eqB d dx := by
  unfold ansU
  have h : ∃ d v, okB d 63 = true ∧ VR G A H d v ∧ RelV v u := ⟨d, v, hd, r, ru⟩
  rw [dif_pos h]
  obtain ⟨v', h1, h2, h3⟩ := Classical.choose_spec h
  have e : v' = v := RelV.inj h3 ru
  subst e
  rw [VR.inj _ _ _ _ _ h1 hd h2 r]
theorem okB_mono : ∀ (a : D) (n m : Nat), n ≤ m → okB a n = true → okB a m = true := by
  suffices h : (∀ (a : D) (n m : Nat), n ≤ m → okB a n = true → okB a m = true) ∧ (∀ (a : List D) (n m : Nat), n ≤ m → okBs a n = true → okBs a m = true) from h.1
  have key : ∀ k, (∀ (a : D) (n m : Nat), n ≤ k → n ≤ m → okB a n = true → okB a m = true) ∧ (∀ (a : List D) (n m : Nat), n ≤ k → n ≤ m → okBs a n = true → okBs a m = true) := by
    intro k
    induction k with
    | zero =>
      have h1 : ∀ (a : D) (n m : Nat), n ≤ 0 → n ≤ m → okB a n = true → okB a m = true := fun a n m hn hm h => by
        have : n = 0 := by omega
        subst this
        cases a <;> first | exact h | (cases h; done)
      refine ⟨h1, fun a => ?_⟩
      induction a with
      | nil => intro n m _ _ _; rfl
      | cons x xs ih =>
        intro n m hn hm h
        simp only [okBs, Bool.and_eq_true] at h ⊢
        exact ⟨h1 x n m hn hm h.1, ih n m hn hm h.2⟩
    | succ k ihk =>
      have h1 : ∀ (a : D) (n m : Nat), n ≤ k + 1 → n ≤ m → okB a n = true → okB a m = true := fun a n m hn hm h => by
        cases a <;> try exact h
        case tup xs =>
          cases n with
          | zero => cases h
          | succ n =>
            cases m with
            | zero => omega
            | succ m => exact ihk.2 xs n m (by omega) (by omega) h
        case lst xs =>
          cases n with
          | zero => cases h
          | succ n =>
            cases m with
            | zero => omega
            | succ m => exact ihk.2 xs n m (by omega) (by omega) h
      refine ⟨h1, fun a => ?_⟩
      induction a with
      | nil => intro n m _ _ _; rfl
      | cons x xs ih =>
        intro n m hn hm h
        simp only [okBs, Bool.and_eq_true] at h ⊢
        exact ⟨h1 x n m hn hm h.1, ih n m hn hm h.2⟩
  exact ⟨fun a n m h q => (key n).1 a n m (Nat.le_refl _) h q, fun a n m h q => (key n).2 a n m (Nat.le_refl _) h q⟩
/-- the items' answers -/
theorem ans_all {A : Addr → Prop} {H : Hp} {Ar : Around} {s : Shared} {ux : Value} {dx : D} (hx : okB dx 64 = true) (reads : ∀ (d : D) (v : V) (u : Value), okB d 64 = true → VR G A H d v → RelV v u → ∃ as, Reads s.heap u (toPy d) as)
    (rx : ∃ as, Reads s.heap ux (toPy dx) as) (hu : Ar.units + 64 < cLine) :
    ∀ {ds : List D} {vs : List V} {us : List Value}, okBs ds 63 = true → VRs G A H ds vs → Vals vs us →
      (∀ u ∈ us, SeqAt.EqAt Ar s u ux (ansU G A H dx u)) ∧ us.any (ansU G A H dx) = ds.any fun d => eqB d dx
  | [], _, _, _, r, q => by
    unfold VRs at r; subst r; cases q
    exact ⟨(fun u hu => by cases hu), rfl⟩
  | d :: ds, _, _, h, r, q => by
    unfold VRs at r
    obtain ⟨v, vs, rfl, r1, r2⟩ := r
    cases q with
    | cons q1 q2 =>
      simp only [okBs, Bool.and_eq_true] at h
      have h64 := okB_mono d 63 64 (by decide) h.1
      obtain ⟨i1, i2⟩ := ans_all hx reads rx hu h.2 r2 q2
      have e := ansU_of (dx := dx) h.1 r1 q1
      obtain ⟨as, ra⟩ := reads d v _ h64 r1 q1
      obtain ⟨bs, rb⟩ := rx
      have hs1 := ok_shaped h64
      have hs2 := ok_shaped hx
      have eq1 := SeqAt.eqAt_reads (toPy d) (toPy dx) Ar s _ _ as bs ra rb (SeqAt.canLay_of_shaped hs1) (SeqAt.canLay_of_shaped hs2) (SeqAt.room_of_shaped hs1 hu)
      rw [eqB_py d dx 64 64 h64 hx] at eq1
      refine ⟨fun u hu => ?_, ?_⟩
      · rcases List.mem_cons.mp hu with rfl | hu
        · rw [e]; exact eq1
        · exact i1 u hu
      · rw [List.any_cons, List.any_cons, e, i2]
def isSeqD : D → Option (List D)
  | .lst xs => some xs
  | .tup xs => some xs
  | _ => none
def inSeq (x y : D) : Option Bool := (isSeqD y).bind (anyEq x)
theorem cD_inSeq (hu : X.A.in1.units + 64 < cLine) : OpR X (compareOp .In) (rC2 G inSeq) := by
  intro pins s σ H x y v u Q I rx ry h
  obtain ⟨A, dx, dy, t, hx, hy, e, q⟩ := h
  have rd : ∀ (d : D) (v : V) (u : Value), okB d 64 = true → VR G A H d v → RelV v u → ∃ as, Reads s.heap u (toPy d) as := fun d v u h1 h2 h3 => Dp.reads I _ _ _ (VR.dp (K := X.K) d v 64 h1 h2) h3
  have main : ∀ ds p vs, y = .ref p → VRs G A H ds vs → anyEq dx ds = some t → okB dx 64 = true ∧ okBs ds 63 = true ∧ t = ds.any fun d => eqB d dx := fun ds p vs _ _ h => by
    unfold anyEq at h
    split at h
    · rename_i c
      rw [Bool.and_eq_true] at c
      cases h
      exact ⟨c.1, c.2, rfl⟩
    · cases h
  unfold inSeq at e
  cases dy <;> simp only [isSeqD, Option.bind_some, Option.bind_none, reduceCtorEq] at e
  case lst ds =>
    obtain ⟨p, vs, rfl, h1, h2⟩ := hy
    cases ry
    obtain ⟨k1, k2, rfl⟩ := main ds p vs rfl h2 e
    obtain ⟨its, r, pl, hz⟩ := I.list (SqL.of h1)
    obtain ⟨a1, a2⟩ := ans_all (Ar := X.A.in1) k1 rd (Dp.reads I _ _ _ (VT.dp (K := X.K) k1 hx) rx) hu k2 h2 r
    refine SeqAt.in_listAt (ansU G A H dx) pl.isList (fun w hw => a1 w (by simpa using hw)) ⟨.bl _, H, I, rfl, ?_⟩
    rw [show its.toArray.any (ansU G A H dx) = its.any (ansU G A H dx) by simp, a2]
    exact q
  case tup ds =>
    obtain ⟨p, vs, rfl, h1, _, h2⟩ := hy.ref_tup
    cases ry
    obtain ⟨k1, k2, rfl⟩ := main ds p vs rfl h2 e
    obtain ⟨its, r, pl, hz⟩ := I.tuple (SqT.of h1)
    obtain ⟨a1, a2⟩ := ans_all (Ar := X.A.in1) k1 rd (Dp.reads I _ _ _ (VT.dp (K := X.K) k1 hx) rx) hu k2 h2 r
    refine SeqAt.in_tupleAt (ansU G A H dx) pl (fun w hw => a1 w (by simpa using hw)) ⟨.bl _, H, I, rfl, ?_⟩
    rw [show its.toArray.any (ansU G A H dx) = its.any (ansU G A H dx) by simp, a2]
    exact q
theorem cD_notinSeq (hu : X.A.in1.units + 64 < cLine) : OpR X (compareOp .NotIn) (rC2 G fun a b => (inSeq a b).map not) := by
  intro pins s σ H x y v u Q I rx ry h
  obtain ⟨A, dx, dy, t, hx, hy, e, q⟩ := h
  have rd : ∀ (d : D) (v : V) (u : Value), okB d 64 = true → VR G A H d v → RelV v u → ∃ as, Reads s.heap u (toPy d) as := fun d v u h1 h2 h3 => Dp.reads I _ _ _ (VR.dp (K := X.K) d v 64 h1 h2) h3
  have main : ∀ ds p vs, y = .ref p → VRs G A H ds vs → (anyEq dx ds).map not = some t → okB dx 64 = true ∧ okBs ds 63 = true ∧ t = !(ds.any fun d => eqB d dx) := fun ds p vs _ _ h => by
    unfold anyEq at h
    split at h
    · rename_i c
      rw [Bool.and_eq_true] at c
      cases h
      exact ⟨c.1, c.2, rfl⟩
    · cases h
  unfold inSeq at e
  cases dy <;> simp only [isSeqD, Option.bind_some, Option.bind_none, reduceCtorEq, Option.map_none] at e
  case lst ds =>
    obtain ⟨p, vs, rfl, h1, h2⟩ := hy
    cases ry
    obtain ⟨k1, k2, rfl⟩ := main ds p vs rfl h2 e
    obtain ⟨its, r, pl, hz⟩ := I.list (SqL.of h1)
    obtain ⟨a1, a2⟩ := ans_all (Ar := X.A.in1) k1 rd (Dp.reads I _ _ _ (VT.dp (K := X.K) k1 hx) rx) hu k2 h2 r
    refine SeqAt.notIn_listAt (ansU G A H dx) pl.isList (fun w hw => a1 w (by simpa using hw)) ⟨.bl _, H, I, rfl, ?_⟩
    rw [show its.toArray.any (ansU G A H dx) = its.any (ansU G A H dx) by simp, a2]
    exact q
  case tup ds =>
    obtain ⟨p, vs, rfl, h1, _, h2⟩ := hy.ref_tup
    cases ry
    obtain ⟨k1, k2, rfl⟩ := main ds p vs rfl h2 e
    obtain ⟨its, r, pl, hz⟩ := I.tuple (SqT.of h1)
    obtain ⟨a1, a2⟩ := ans_all (Ar := X.A.in1) k1 rd (Dp.reads I _ _ _ (VT.dp (K := X.K) k1 hx) rx) hu k2 h2 r
    refine SeqAt.notIn_tupleAt (ansU G A H dx) pl (fun w hw => a1 w (by simpa using hw)) ⟨.bl _, H, I, rfl, ?_⟩
    rw [show its.toArray.any (ansU G A H dx) = its.any (ansU G A H dx) by simp, a2]
    exact q
/-! a key in a dict -/
theorem key_of {k : D} {c : Key} (h : keyOf k = some c) {A : Addr → Prop} {H : Hp} {v : V} (r : VT G A H k v) : v = kV c := by
  cases k <;> simp only [keyOf, reduceCtorEq] at h
  case int i => cases h; exact r.int
  case str s => cases h; exact r.str
theorem keyOf_of {k : D} (h : isKey k = true) : ∃ c, keyOf k = some c := by
  cases k <;> first | exact ⟨_, rfl⟩ | cases h
theorem keyEq_of {a b : D} {c d : Key} (ha : keyOf a = some c) (hb : keyOf b = some d) : keyEq a b = decide (c = d) := by
  cases a <;> simp only [keyOf, reduceCtorEq] at ha <;> cases b <;> simp only [keyOf, reduceCtorEq] at hb <;> cases ha <;> cases hb
  case int.int i j => rw [key_ll]; rfl
  case int.str i j => rw [key_lr]; rfl
  case str.int i j => rw [key_rl]; rfl
  case str.str i j =>
    rw [key_rr]
    show (i == j) = _
    by_cases e : i = j
    · subst e; simp
    · rw [beq_eq_false_iff_ne.mpr e, decide_eq_false fun z => e (sOf_inj z)]
theorem lookD_of {k : D} {c : Key} (hk : keyOf k = some c) : ∀ {ks : List D} {us : List Vl} {kvs : List (Key × V)} {P : Vl → V → Prop}, KeysOk ks kvs → Paired P us (kvs.map (·.2)) →
    (∀ a, lookD k ks us = some a → ∃ v, valV kvs c = some v ∧ P a v) ∧ (hasD k ks = (valV kvs c).isSome)
  | [], us, [], _, _, _ => ⟨fun a h => (by unfold lookD at h; cases h), rfl⟩
  | [], _, _ :: _, _, h, _ => False.elim h
  | _ :: _, _, [], _, h, _ => False.elim h
  | a :: ks, _, p :: kvs, P, h, q => by
    cases q with
    | cons q1 q2 =>
      obtain ⟨h1, h2⟩ := h
      have e := keyEq_of h1 hk
      obtain ⟨i1, i2⟩ := lookD_of hk h2 q2
      by_cases z : p.1 = c
      · rw [decide_eq_true z] at e
        refine ⟨fun a' h' => ?_, ?_⟩
        · unfold lookD at h'
          rw [if_pos e] at h'
          cases h'
          exact ⟨_, valV_pos z, q1⟩
        · rw [valV_pos z]
          show (keyEq a k || hasD k ks) = true
          rw [e]; rfl
      · rw [decide_eq_false z] at e
        refine ⟨fun a' h' => ?_, ?_⟩
        · unfold lookD at h'
          rw [if_neg (by rw [e]; exact Bool.false_ne_true)] at h'
          rw [valV_neg z]
          exact i1 a' h'
        · rw [valV_neg z, ← i2]
          show (keyEq a k || hasD k ks) = hasD k ks
          rw [e]; rfl
theorem repD_of {k : D} {c : Key} (hk : keyOf k = some c) {a : Vl} {v : V} {P : Vl → V → Prop} (r : P a v) : ∀ {ks : List D} {us : List Vl} {kvs : List (Key × V)}, KeysOk ks kvs → Paired P us (kvs.map (·.2)) →
    KeysOk ks (kvs.map fun kv => if kv.1 = c then (kv.1, v) else kv) ∧ Paired P (repD k a ks us) ((kvs.map fun kv => if kv.1 = c then (kv.1, v) else kv).map (·.2))
  | [], us, [], _, q => by
    cases q
    exact ⟨trivial, .nil⟩
  | [], _, _ :: _, h, _ => False.elim h
  | _ :: _, _, [], h, _ => False.elim h
  | x :: ks, _, p :: kvs, h, q => by
    cases q with
    | cons q1 q2 =>
      obtain ⟨h1, h2⟩ := h
      have e := keyEq_of h1 hk
      obtain ⟨i1, i2⟩ := repD_of hk r h2 q2
      unfold repD
      by_cases z : p.1 = c
      · rw [decide_eq_true z] at e
        rw [if_pos e]
        simp only [List.map_cons, if_pos z]
        exact ⟨⟨h1, i1⟩, .cons r i2⟩
      · rw [decide_eq_false z] at e
        rw [if_neg (by rw [e]; exact Bool.false_ne_true)]
        simp only [List.map_cons, if_neg z]
        exact ⟨⟨h1, i1⟩, .cons q1 i2⟩
theorem KeysOk.snoc : ∀ {ks : List D} {kvs : List (Key × V)} {k : D} {p : Key × V}, KeysOk ks kvs → keyOf k = some p.1 → KeysOk (ks ++ [k]) (kvs ++ [p])
  | [], [], _, _, _, h => ⟨h, trivial⟩
  | [], _ :: _, _, _, h, _ => False.elim h
  | _ :: _, [], _, _, h, _ => False.elim h
  | _ :: _, _ :: _, _, _, h, q => ⟨h.1, KeysOk.snoc h.2 q⟩
theorem Paired.app {α β : Type} {F : α → β → Prop} : ∀ {xs ys : List α} {us ws : List β}, Paired F xs us → Paired F ys ws → Paired F (xs ++ ys) (us ++ ws)
  | _, _, _, _, .nil, s => s
  | _, _, _, _, .cons r t, s => .cons r (Paired.app t s)
theorem putD_of {k : D} {c : Key} (hk : keyOf k = some c) {a : Vl} {v : V} {P : Vl → V → Prop} (r : P a v) {ks : List D} {us : List Vl} {kvs : List (Key × V)} (h : KeysOk ks kvs) (q : Paired P us (kvs.map (·.2))) :
    KeysOk (putD k a ks us).1 (putK kvs c v) ∧ Paired P (putD k a ks us).2 ((putK kvs c v).map (·.2)) := by
  obtain ⟨_, e⟩ := lookD_of hk h q
  unfold putD
  cases z : valV kvs c with
  | none =>
    rw [z] at e
    rw [if_neg (by rw [e]; exact Bool.false_ne_true), putK_new v z]
    refine ⟨h.snoc hk, ?_⟩
    rw [List.map_append]
    exact Paired.app q (.cons r .nil)
  | some y =>
    rw [z] at e
    rw [if_pos (by rw [e]; rfl)]
    have e2 : putK kvs c v = kvs.map fun kv => if kv.1 = c then (kv.1, v) else kv := by
      unfold putK
      rw [if_pos (by rw [valV_any, z]; rfl)]
    rw [e2]
    exact repD_of hk r h q
theorem KeysOk.length : ∀ {ks : List D} {kvs : List (Key × V)}, KeysOk ks kvs → ks.length = kvs.length
  | [], [], _ => rfl
  | [], _ :: _, h => False.elim h
  | _ :: _, [], h => False.elim h
  | _ :: _, _ :: _, h => by simp [KeysOk.length h.2]
/-! in, not in: any container -/
theorem op_inDct (hu : X.A.units + 1 < cLine) : OpR X (compareOp .In) (fun x y H Q => ∃ a o, y = .ref a ∧ DGet H a x o ∧ Q (.bl o.isSome) H) := by
  intro pins s σ H x y v u Q I rx ry h
  obtain ⟨a, o, rfl, g, q⟩ := h
  cases ry
  exact d_in hu I g rx fun s' I' => ⟨.bl _, H, I', rfl, q⟩
theorem op_notInDct (hu : X.A.units + 1 < cLine) : OpR X (compareOp .NotIn) (fun x y H Q => ∃ a o, y = .ref a ∧ DGet H a x o ∧ Q (.bl (!o.isSome)) H) := by
  intro pins s σ H x y v u Q I rx ry h
  obtain ⟨a, o, rfl, g, q⟩ := h
  cases ry
  exact d_notIn hu I g rx fun s' I' => ⟨.bl _, H, I', rfl, q⟩
def inDct (x y : D) : Option Bool := match y with
  | .dct ks _ => if isKey x then some (hasD x ks) else none
  | _ => none
def inStr (x y : D) : Option Bool := match x, y with
  | .str [c], .str b => some (decide (c ∈ b))
  | _, _ => none
theorem VRs.paired {A : Addr → Prop} {H : Hp} : ∀ {ds : List D} {vs : List V}, VRs G A H ds vs → Paired (VR G A H) ds vs
  | [], _, h => by unfold VRs at h; rw [h]; exact .nil
  | d :: ds, _, h => by
    unfold VRs at h
    obtain ⟨w, ws, rfl, h1, h2⟩ := h
    exact .cons h1 (VRs.paired h2)
theorem VRs.of_paired {A : Addr → Prop} {H : Hp} : ∀ {ds : List D} {vs : List V}, Paired (VR G A H) ds vs → VRs G A H ds vs
  | [], _, .nil => VRs.nil
  | _ :: _, _, .cons r t => VRs.cons r (VRs.of_paired t)
theorem Paired.mapL {α β γ : Type} {f : α → γ} {P : γ → β → Prop} : ∀ {xs : List α} {ys : List β}, Paired (fun a b => P (f a) b) xs ys → Paired P (xs.map f) ys
  | _, _, .nil => .nil
  | _, _, .cons r t => .cons r (Paired.mapL t)
theorem cD_inDct (hu : X.A.units + 1 < cLine) : OpR X (compareOp .In) (rC2 G inDct) := by
  refine OpR.weak (op_inDct hu) fun x y H Q h => ?_
  obtain ⟨A, dx, dy, t, hx, hy, e, q⟩ := h
  cases dy <;> simp only [inDct, reduceCtorEq] at e
  case dct ks us =>
    split at e
    · rename_i c
      cases e
      obtain ⟨k, hk⟩ := keyOf_of c
      obtain ⟨p, kvs, rfl, h1, h2, h3⟩ := hy
      have ex := key_of hk hx
      subst ex
      refine ⟨p, _, rfl, .k h1, ?_⟩
      rw [← (lookD_of hk h2 (us := us.map Vl.d) (P := fun a b => ∃ d, a = Vl.d d ∧ VR G A H d b) (Paired.mapL (Paired.mapP h3.paired fun a b r => ⟨a, rfl, r⟩))).2]
      exact q
    · cases e
theorem cD_notinDct (hu : X.A.units + 1 < cLine) : OpR X (compareOp .NotIn) (rC2 G fun a b => (inDct a b).map not) := by
  refine OpR.weak (op_notInDct hu) fun x y H Q h => ?_
  obtain ⟨A, dx, dy, t, hx, hy, e, q⟩ := h
  cases dy <;> simp only [inDct, reduceCtorEq, Option.map_none] at e
  case dct ks us =>
    split at e
    · rename_i c
      cases e
      obtain ⟨k, hk⟩ := keyOf_of c
      obtain ⟨p, kvs, rfl, h1, h2, h3⟩ := hy
      have ex := key_of hk hx
      subst ex
      refine ⟨p, _, rfl, .k h1, ?_⟩
      rw [← (lookD_of hk h2 (us := us.map Vl.d) (P := fun a b => ∃ d, a = Vl.d d ∧ VR G A H d b) (Paired.mapL (Paired.mapP h3.paired fun a b r => ⟨a, rfl, r⟩))).2]
      exact q
    · cases e
theorem cD_inStr : OpR X (compareOp .In) (rC2 G inStr) := by
  refine OpR.weak op_in_sign fun x y H Q h => ?_
  obtain ⟨A, dx, dy, t, hx, hy, e, q⟩ := h
  unfold inStr at e
  split at e
  · cases e
    rw [hx.str, hy.str]
    exact ⟨_, _, rfl, rfl, q⟩
  · cases e
theorem cD_notinStr : OpR X (compareOp .NotIn) (rC2 G fun a b => (inStr a b).map not) := by
  refine OpR.weak op_notIn_sign fun x y H Q h => ?_
  obtain ⟨A, dx, dy, t, hx, hy, e, q⟩ := h
  dsimp only at e
  unfold inStr at e
  split at e
  · cases e
    rw [hx.str, hy.str]
    exact ⟨_, _, rfl, rfl, q⟩
  · cases e
theorem inD_cases {x y : D} {t : Bool} (h : inD x y = some t) : inSeq x y = some t ∨ inDct x y = some t ∨ inStr x y = some t := by
  cases y <;> simp only [inD, reduceCtorEq] at h
  case lst ys => exact .inl h
  case tup ys => exact .inl h
  case dct ks us => exact .inr (.inl h)
  case str b =>
    refine .inr (.inr ?_)
    split at h
    · exact h
    · cases h
theorem cD_in (hu : X.A.in1.units + 64 < cLine) (hu1 : X.A.units + 1 < cLine) : OpR X (compareOp .In) (rC2 G inD) := by
  refine OpR.weak (OpR.or (cD_inSeq (G := G) hu) (OpR.or (cD_inDct (G := G) hu1) (cD_inStr (G := G)))) fun x y H Q h => ?_
  obtain ⟨A, dx, dy, t, hx, hy, e, q⟩ := h
  rcases inD_cases e with e | e | e
  · exact .inl ⟨A, dx, dy, t, hx, hy, e, q⟩
  · exact .inr (.inl ⟨A, dx, dy, t, hx, hy, e, q⟩)
  · exact .inr (.inr ⟨A, dx, dy, t, hx, hy, e, q⟩)
theorem cD_notin (hu : X.A.in1.units + 64 < cLine) (hu1 : X.A.units + 1 < cLine) : OpR X (compareOp .NotIn) (rC2 G fun a b => (inD a b).map not) := by
  refine OpR.weak (OpR.or (cD_notinSeq (G := G) hu) (OpR.or (cD_notinDct (G := G) hu1) (cD_notinStr (G := G)))) fun x y H Q h => ?_
  obtain ⟨A, dx, dy, t, hx, hy, e, q⟩ := h
  obtain ⟨t', e', rfl⟩ := Option.map_eq_some_iff.mp e
  rcases inD_cases e' with e' | e' | e'
  · exact .inl ⟨A, dx, dy, _, hx, hy, by dsimp only; rw [e']; rfl, q⟩
  · exact .inr (.inl ⟨A, dx, dy, _, hx, hy, by dsimp only; rw [e']; rfl, q⟩)
  · exact .inr (.inr ⟨A, dx, dy, _, hx, hy, by dsimp only; rw [e']; rfl, q⟩)
def copOf : COp → CmpOp
  | .eq => .Eq
  | .ne => .NotEq
  | .lt => .Lt
  | .le => .LtE
  | .gt => .Gt
  | .ge => .GtE
  | .isN => .Is
  | .notN => .IsNot
  | .isin => .In
  | .notin => .NotIn
theorem cD {k : Nat} (hr : Room k X.A) (o : COp) : OpR X (compareOp (copOf o)) (rC2 G (cmpD o)) := by
  have hu := hr.un
  have h1 : X.A.in1.units + 64 < cLine := by show X.A.units + 1 + 64 < cLine; omega
  cases o with
  | eq => exact cD_eq (by omega)
  | ne => exact cD_ne (by omega)
  | lt => exact cD_lt
  | le => exact cD_le
  | gt => exact cD_gt
  | ge => exact cD_ge
  | isN => exact cD_isN
  | notN => exact cD_notN
  | isin => exact cD_in h1 (by omega)
  | notin => exact cD_notin h1 (by omega)
end
end EV

end
section
set_option Elab.async false
set_option linter.all false
set_option maxRecDepth 100000
set_option maxHeartbeats 4000000
/-! EV 4: the checker of expressions; readings by the evaluator. -/
namespace EV
open PySem PySem.Spec PyProof.Rows L2

/-! ### own errors in the air -/
/-- the error classes: their addresses, their fields' names -/
structure ErrC where
  at' : Addr
  fields : List Str
  name : Str
def ErrR (cs : List ErrC) (G : Gd) (W : Wd) (H : Hp) (c : Nat) (fs : List D) (cls : Value) (d : Option Addr) : Prop :=
  ∃ ec vs dd, cs[c]? = some ec ∧ cls = .ref ec.at' ∧ d = some dd ∧ H dd = some (.xd (ec.fields.zip vs)) ∧ vs.length = ec.fields.length ∧ VRs G (Av G W) H fs vs ∧ ¬ Av G W dd

/-! ### readings -/
section
variable (cs : List ErrC) (G : Gd) (Wx : WX)
def KX (W : Wd) (H : Hp) (σ : L2.St) : Nat → List D → Store → Nat → Prop := fun c fs s b =>
  ∀ W' H' cls d, Ext G W H W' H' → Rel G W' s b H' → ErrR cs G W' H' c fs cls d → Wx cls d σ H'
def KV' (W : Wd) (H : Hp) (Q : VK) : Vl → Store → Nat → Prop := fun a s b =>
  ∀ W' H' v, Ext G W H W' H' → Rel G W' s b H' → VlR G W' H' a v → Q v H'
def KA (W : Wd) (H : Hp) (Q : List V → Hp → Prop) : Vl → Store → Nat → Prop := fun a s b =>
  ∃ vs, a = .its vs ∧ ∀ W' H' us, Ext G W H W' H' → Rel G W' s b H' → VlRs G W' H' vs us → Q us H'
def KT (W : Wd) (H : Hp) (Q : Bool → Hp → Prop) : Vl → Store → Nat → Prop := fun a s b =>
  ∃ t, truth a = some t ∧ ∀ W' H', Ext G W H W' H' → Rel G W' s b H' → Q t H'
/-- a walk's items -/
structure ItOk (W : Wd) (H : Hp) (vs : List Vl) (J : It) : Prop where
  go : ∀ W2 H2 (i : Nat) a st b, ExtA G W H W2 H2 → Rel G W2 st b H2 → vs[i]? = some a → J.go i H2 ∧ ∀ x H3, J.yld i H2 x H3 → (∀ q o, H2 q = some o → H3 q = some o) ∧ VlR G W2 H3 a x
  stop : ∀ W2 H2, ExtA G W H W2 H2 → J.stop vs.length H2
def KI (W : Wd) (H : Hp) (R : It → Hp → Prop) : Vl → Store → Nat → Prop := fun a s b =>
  ∃ vs, itsOf a = some vs ∧ ∀ W' H' J, Ext G W H W' H' → Rel G W' s b H' → ItOk G W' H' vs J → R J H'
/-- what stands around a reading -/
def Here (run : Env → Store → E Vl) (σ : L2.St) (H : Hp) (K : Wd → Hp → Vl → Store → Nat → Prop) : Prop :=
  ∃ W e st b, Rel G W st b H ∧ EnvR G W H e σ ∧ EG (K W H) (KX cs G Wx W H σ) (run e st) b
def tE (run : Env → Store → E Vl) : TE := fun σ H Q => Here cs G Wx run σ H fun W H => KV' G W H Q
def tA (run : Env → Store → E Vl) : TA := fun σ H Q => Here cs G Wx run σ H fun W H => KA G W H Q
def tT (run : Env → Store → E Vl) : TT := fun σ H Q => Here cs G Wx run σ H fun W H => KT G W H Q
def tI (run : Env → Store → E Vl) : TI := fun σ H R => Here cs G Wx run σ H fun W H => KI G W H R
end
section
variable {cs : List ErrC} {G : Gd} {Wx : WX} {X : Cx}
theorem KX.mono {W W1 : Wd} {H H1 : Hp} {σ : L2.St} (x : Ext G W H W1 H1) {c : Nat} {fs : List D} {s : Store} {b : Nat} (h : KX cs G Wx W H σ c fs s b) : KX cs G Wx W1 H1 σ c fs s b :=
  fun W' H' cls d e r q => h W' H' cls d (x.trans e) r q
/-- a run behind another one -/
theorem Here.next {run : Env → Store → E Vl} {σ : L2.St} {W W1 : Wd} {H H1 : Hp} {e : Env} {s : Store} {b : Nat} {K : Wd → Hp → Vl → Store → Nat → Prop} {K0 : Vl → Store → Nat → Prop} (x : Ext G W H W1 H1) (R : Rel G W1 s b H1) (V : EnvR G W H e σ)
    (g : EG K0 (KX cs G Wx W H σ) (run e s) b) (h : ∀ a s b, K0 a s b → K W1 H1 a s b) : Here cs G Wx run σ H1 K :=
  ⟨W1, e, s, b, R, V.ext x, g.mono h fun c fs s b q => q.mono x⟩
theorem PE.imp {e : Expr} {t t' : TE} (h : PE X e t) (i : ∀ σ H Q, t' σ H Q → t σ H Q) : PE X e t' := ⟨fun pins s σ H Q I q => h.run pins s σ H Q I (i σ H Q q)⟩
theorem PW.imp {X : Cx} {e : Expr} {t t' : TT} (h : PW X e t) (i : ∀ σ H Q, t' σ H Q → t σ H Q) : PW X e t' := ⟨fun wh pins s σ H Q I q => h.run wh pins s σ H Q I (i σ H Q q)⟩
theorem PT.imp {e : Expr} {t t' : TT} (h : PT X e t) (i : ∀ σ H Q, t' σ H Q → t σ H Q) : PT X e t' := ⟨fun pins s σ H Q I q => h.run pins s σ H Q I (i σ H Q q)⟩
theorem PA.imp {e : List Expr} {t t' : TA} (h : PA X e t) (i : ∀ σ H Q, t' σ H Q → t σ H Q) : PA X e t' := ⟨fun pos pins s σ H Q I q => h.run pos pins s σ H Q I (i σ H Q q)⟩
theorem PI.imp {tg e : Expr} {t t' : TI} (h : PI X tg e t) (i : ∀ σ H Q, t' σ H Q → t σ H Q) : PI X tg e t' := ⟨fun pins s σ H Q I q => h.run pins s σ H Q I (i σ H Q q)⟩

/-! ### constants -/
def litOf : Const → Option D
  | .none => some .non
  | .bool b => some (.bl b)
  | .int i => some (.int i)
  | .str s => some (.str s.cps.toList)
  | _ => none
def flatD : D → Option V
  | .non => some .non
  | .bl b => some (.bl b)
  | .int i => some (.int i)
  | .str s => some (.str (sOf s))
  | _ => none
theorem flat_VR {A : Addr → Prop} {H : Hp} {d : D} {v : V} (h : flatD d = some v) : VR G A H d v := by
  cases d <;> simp only [flatD, reduceCtorEq] at h <;> cases h <;> unfold VR <;> rfl
theorem pe_lit {k : Const} {d : D} {j : Nat} {pos : Pos} (h : litOf k = some d) {run : Env → Store → E Vl} (hr : ∀ e st, run e st = ret (.d d) st) : PE X (.Constant k j pos) (tE cs G Wx run) := by
  have fin : ∀ v, flatD d = some v → ∀ σ H Q, tE cs G Wx run σ H Q → Q v H := fun v hv σ H Q ⟨W, e, st, b, R, V, g⟩ => by
    rw [hr] at g
    exact g W H v .refl R (flat_VR hv)
  cases k <;> simp only [litOf, reduceCtorEq] at h <;> cases h
  case none => exact PE.imp pe_non (fin _ rfl)
  case bool b => exact PE.imp pe_bl (fin _ rfl)
  case int i => exact PE.imp pe_int (fin _ rfl)
  case str s => exact PE.imp pe_str (fin _ (by show some (V.str ⟨s.cps.toList.toArray⟩) = _; simp))
/-! ### names -/
theorem pe_slot {i : Nat} {x : Str} {pos : Pos} (hN : X.N[i]? = some x) (hv : Vis X.env.scope x) (hd : (x == ("__debug__" : Str)) = false) (hcd : (x == ("__classdict__" : Str)) = false)
    {run : Env → Store → E Vl} (hr : ∀ e st, run e st = lift (envGet e i) st) : PE X (.Name x pos) (tE cs G Wx run) := by
  refine PE.imp (pe_var hN hv hd hcd) fun σ H Q ⟨W, e, st, b, R, V, g⟩ => ?_
  rw [hr, EG_lift] at g
  obtain ⟨a, ea, g⟩ := g
  obtain ⟨v, h1, h2⟩ := V.get ea
  exact ⟨v, h1, g W H v .refl R h2⟩
/-! ### two operands -/
theorem here_two {ra rb : Env → Store → E Vl} {f : Vl → Vl → Store → E Vl} {run : Env → Store → E Vl} (hr : ∀ e st, run e st = bnd (ra e st) fun x st => bnd (rb e st) fun y st => f x y st)
    {σ : L2.St} {H : Hp} {Q : VK} {r : R2} (h : tE cs G Wx run σ H Q)
    (fin : ∀ W H W2 H2 x y v u s b Q, Ext G W H W2 H2 → Rel G W2 s b H2 → VlR G W2 H2 x v → VlR G W2 H2 y u → EG (KV' G W H Q) (KX cs G Wx W H σ) (f x y s) b → r v u H2 Q) :
    tOp r (tE cs G Wx ra) (tE cs G Wx rb) σ H Q := by
  obtain ⟨W, e, st, b, R, V, g⟩ := h
  rw [hr, EG_bnd] at g
  refine ⟨W, e, st, b, R, V, g.mono (fun a s b g W1 H1 v x1 R1 r1 => ?_) fun _ _ _ _ q => q⟩
  rw [EG_bnd] at g
  refine Here.next x1 R1 V g fun a2 s2 b2 g W2 H2 u x2 R2 r2 => ?_
  exact fin W H W2 H2 _ _ _ _ _ _ _ (x1.trans x2) R2 (r1.ext x2) r2 g
theorem VlR_bl {W : Wd} {H : Hp} {t : Bool} : VlR G W H (.d (.bl t)) (.bl t) := VR.bl (G := G) (A := Av G W) (H := H)
theorem VlR_int {W : Wd} {H : Hp} {t : Int} : VlR G W H (.d (.int t)) (.int t) := VR.int (G := G) (A := Av G W) (H := H)
theorem VlR_non {W : Wd} {H : Hp} : VlR G W H (.d .non) .non := VR.non (G := G) (A := Av G W) (H := H)
theorem geti_some {st : Store} {i : Nat} {c : Cell} (h : geti st i = some c) : st[i]? = some (some c) := by
  unfold geti at h
  cases z : st[i]? with
  | none => rw [z] at h; cases h
  | some o =>
    rw [z] at h
    have h' : o = some c := h
    rw [h']
theorem snap_VT {W : Wd} {st : Store} {b : Nat} {H : Hp} {a : Vl} {v : V} {d : D} (R : Rel G W st b H) (r : VlR G W H a v) (h : snap st a = some d) : VT G (Av G W) H d v := by
  cases a with
  | d x => cases h; exact VR.top r
  | thk => cases h
  | its xs => cases h
  | exn c fs => cases h
  | h x => cases h
  | hr i x => cases h
  | ref i =>
    unfold snap at h
    have dats_of : ∀ {xs : List Vl} {ds : List D} {vs : List V}, dats xs = some ds → VlRs G W H xs vs → VRs G (Av G W) H ds vs := by
      intro xs
      induction xs with
      | nil => intro ds vs h q; cases q; cases h; exact VRs.nil
      | cons x xs ih =>
        intro ds vs h q
        cases q with
        | cons q1 q2 =>
          cases x <;> simp only [dats, reduceCtorEq] at h
          case d x =>
            obtain ⟨ds', e, rfl⟩ := Option.map_eq_some_iff.mp h
            exact VRs.cons q1 (ih e q2)
    have main : ∀ c, geti st i = some c → ∃ p, CellR G W H p c ∧ v = .ref p := fun c z => by
      obtain ⟨p, h1, h2⟩ := R.cell i c (geti_some z)
      exact ⟨p, h2, r.2 p h1⟩
    dsimp only at h
    split at h
    · rename_i xs z
      obtain ⟨p, ⟨vs, k1, k2⟩, ev⟩ := main _ z
      obtain ⟨ds, e, rfl⟩ := Option.map_eq_some_iff.mp h
      exact ⟨p, vs, ev, k1, dats_of e k2⟩
    · rename_i ks us z
      obtain ⟨p, ⟨kvs, k1, k2, k3⟩, ev⟩ := main _ z
      obtain ⟨ds, e, rfl⟩ := Option.map_eq_some_iff.mp h
      exact ⟨p, kvs, ev, k1, k2, dats_of e k3⟩
    · rename_i c us z
      obtain ⟨p, k, _⟩ := main _ z
      exact k.elim
    · cases h
theorem pe_binD {o : BOp} {a b : Expr} {pos : Pos} {ra rb : Env → Store → E Vl} (ha : PE X a (tE cs G Wx ra)) (hb : PE X b (tE cs G Wx rb)) {run : Env → Store → E Vl}
    (hr : ∀ e st, run e st = bnd (ra e st) fun x st => bnd (rb e st) fun y st => match snap st x, snap st y with
      | some x, some y => lift ((binD o x y).map .d) st
      | _, _ => .err) : PE X (.BinOp a (bopOf o) b pos) (tE cs G Wx run) := by
  refine PE.imp (pe_op (opD (G := G) o) ha hb) fun σ H Q h => here_two hr h fun W H W2 H2 x y v u s b Q e2 R r1 r2 g => ?_
  split at g
  · rename_i dx dy e1 e2'
    rw [EG_lift] at g
    obtain ⟨a', ea, g⟩ := g
    obtain ⟨d, ed, rfl⟩ := Option.map_eq_some_iff.mp ea
    exact ⟨W2, s, b, dx, dy, d, R, snap_VT R r1 e1, snap_VT R r2 e2', ed, fun H' v' x' R' r' => g W2 H' v' (e2.trans x') R' r'⟩
  · exact g.elim
theorem pe_cmpD {k : Nat} (room : Room k X.A) {o : COp} {a b : Expr} {pos : Pos} {ra rb : Env → Store → E Vl} (ha : PE X a (tE cs G Wx ra)) (hb : PE X b (tE cs G Wx rb)) (hm : behindInMarks (copOf o) b = false) {run : Env → Store → E Vl}
    (hr : ∀ e st, run e st = bnd (ra e st) fun x st => bnd (rb e st) fun y st => match snap st x, snap st y with
      | some x, some y => lift ((cmpD o x y).map fun t => .d (.bl t)) st
      | _, _ => .err) : PE X (.Compare a [copOf o] [b] pos) (tE cs G Wx run) ∧ PT X (.Compare a [copOf o] [b] pos) (tT cs G Wx run) := by
  constructor
  · refine PE.imp (pe_cmpR (cD (G := G) room o) ha hb hm) fun σ H Q h => here_two hr h fun W H W2 H2 x y v u s b Q e2 R r1 r2 g => ?_
    split at g
    · rename_i dx dy e1 e2'
      rw [EG_lift] at g
      obtain ⟨a', ea, g⟩ := g
      obtain ⟨t, et, rfl⟩ := Option.map_eq_some_iff.mp ea
      exact ⟨_, dx, dy, t, snap_VT R r1 e1, snap_VT R r2 e2', et, g W2 H2 _ e2 R VlR_bl⟩
    · exact g.elim
  · refine PT.imp (pt_cmpR (cD (G := G) room o) ha hb hm) fun σ H Q h => ?_
    obtain ⟨W, e, st, b, R, V, g⟩ := h
    refine here_two (Q := fun x H' => ∃ k, x = .bl k ∧ Q k H') hr ⟨W, e, st, b, R, V, g.mono (fun a s b q W' H' v x' R' r' => ?_) fun _ _ _ _ q => q⟩ fun W H W2 H2 x y v u s b Q e2 R r1 r2 g => ?_
    · obtain ⟨t, et, q⟩ := q
      cases a with
      | d d =>
        cases d <;> simp only [truth, reduceCtorEq] at et
        case bl t' =>
          cases et
          exact ⟨t, by unfold VlR VR at r'; exact r', q W' H' x' R'⟩
      | _ => simp only [truth, reduceCtorEq] at et
    · split at g
      · rename_i dx dy e1 e2'
        rw [EG_lift] at g
        obtain ⟨a', ea, g⟩ := g
        obtain ⟨t, et, rfl⟩ := Option.map_eq_some_iff.mp ea
        exact ⟨_, dx, dy, t, snap_VT R r1 e1, snap_VT R r2 e2', et, g W2 H2 _ e2 R VlR_bl⟩
      · exact g.elim
end
end EV

end
section
set_option Elab.async false
set_option linter.all false
set_option maxRecDepth 100000
set_option maxHeartbeats 4000000
/-! EV 5: more expressions. -/
namespace EV
open PySem PySem.Spec PyProof.Rows L2
section
variable {cs : List ErrC} {G : Gd} {Wx : WX} {X : Cx}
theorem tru_bl {G : Gd} {W : Wd} {H : Hp} {a : Vl} {v : V} {t : Bool} (h : truth a = some t) (r : VlR G W H a v) : v = .bl t := by
  cases a with
  | d d =>
    cases d <;> simp only [truth, reduceCtorEq] at h
    case bl t' =>
      cases h
      unfold VlR VR at r; exact r
  | _ => simp only [truth, reduceCtorEq] at h
/-- a test out of a value -/
theorem tB_of {run : Env → Store → E Vl} {σ : L2.St} {H : Hp} {Q : Bool → Hp → Prop} (h : tT cs G Wx run σ H Q) : tB (tE cs G Wx run) σ H Q := by
  obtain ⟨W, e, st, b, R, V, g⟩ := h
  refine ⟨W, e, st, b, R, V, g.mono (fun a s b q W' H' v x r rv => ?_) fun _ _ _ _ q => q⟩
  obtain ⟨t, et, q⟩ := q
  exact ⟨t, tru_bl et rv, q W' H' x r⟩
theorem pt_ofE {run : Env → Store → E Vl} {e : Expr} (h : PE X e (tE cs G Wx run)) (he : ∀ whole, isTrue e X.env whole = (do let v ← whole; standAt e.pos; holding [v] (truthy v))) : PT X e (tT cs G Wx run) :=
  PT.imp (pt_val h he) fun _ _ _ q => tB_of q
/-- a run of a test, then a way by its answer -/
theorem here_if {rt : Env → Store → E Vl} {f : Vl → Env → Store → E Vl} {run : Env → Store → E Vl} {K : Wd → Hp → Vl → Store → Nat → Prop} (hr : ∀ e st, run e st = bnd (rt e st) fun x st => f x e st)
    (hf : ∀ x e s, truth x = none → f x e s = .err) {σ : L2.St} {H : Hp} (h : Here cs G Wx run σ H K) {Q : Bool → Hp → Prop}
    (fin : ∀ W H W1 H1 x t s b e, Ext G W H W1 H1 → Rel G W1 s b H1 → EnvR G W1 H1 e σ → EG (K W H) (KX cs G Wx W H σ) (f x e s) b → truth x = some t → Q t H1) : tT cs G Wx rt σ H Q := by
  obtain ⟨W, e, st, b, R, V, g⟩ := h
  rw [hr, EG_bnd] at g
  refine ⟨W, e, st, b, R, V, g.mono (fun a s b g => ?_) fun _ _ _ _ q => q⟩
  cases z : truth a with
  | none => rw [hf a e s z] at g; exact g.elim
  | some t => exact ⟨t, z, fun W' H' x r => fin W H W' H' a t s b e x r (V.ext x) g z⟩
/-- and so behind a longer way: the end's wish carries over -/
theorem Here.on {run : Env → Store → E Vl} {σ : L2.St} {W W1 : Wd} {H H1 : Hp} {e : Env} {s : Store} {b : Nat} {K : Wd → Hp → Vl → Store → Nat → Prop} (x : Ext G W H W1 H1) (R : Rel G W1 s b H1) (V : EnvR G W1 H1 e σ)
    (g : EG (K W H) (KX cs G Wx W H σ) (run e s) b) (h : ∀ a s b, K W H a s b → K W1 H1 a s b) : Here cs G Wx run σ H1 K :=
  ⟨W1, e, s, b, R, V, g.mono (fun a s b q => h a s b q) fun c fs s b q => q.mono x⟩
theorem KV'.mono {W W1 : Wd} {H H1 : Hp} {Q : VK} (x : Ext G W H W1 H1) {a : Vl} {s : Store} {b : Nat} (h : KV' G W H Q a s b) : KV' G W1 H1 Q a s b := fun W' H' v e r q => h W' H' v (x.trans e) r q
theorem KT.mono {W W1 : Wd} {H H1 : Hp} {Q : Bool → Hp → Prop} (x : Ext G W H W1 H1) {a : Vl} {s : Store} {b : Nat} (h : KT G W H Q a s b) : KT G W1 H1 Q a s b :=
  let ⟨t, e, q⟩ := h; ⟨t, e, fun W' H' e r => q W' H' (x.trans e) r⟩
/-! ### and, or, not, if -/
theorem bo_err {k : Bool} {rb : Env → Store → E Vl} : ∀ x e s, truth x = none → (match truth x with
      | some t => if t = k then rb e s else ret x s
      | none => .err) = (.err : E Vl) := fun x e s h => by rw [h]
/-- as a test: and, or -/
theorem tAnd_of {ra rb run : Env → Store → E Vl} (hr : ∀ e st, run e st = bnd (ra e st) fun x st => match truth x with
      | some t => if t = true then rb e st else ret x st
      | none => .err) {σ : L2.St} {H : Hp} {Q : Bool → Hp → Prop} (h : tT cs G Wx run σ H Q) : tAnd (tT cs G Wx ra) (tT cs G Wx rb) σ H Q :=
  here_if (f := fun x e st => match truth x with
      | some t => if t = true then rb e st else ret x st
      | none => .err) hr (bo_err (k := true)) h fun W H W1 H1 x t s b e x1 R V g ht => by
    rw [ht] at g
    dsimp only at g
    cases t with
    | true =>
      rw [if_pos rfl] at g ⊢
      exact Here.on (K := fun W H => KT G W H Q) x1 R V g fun a s b q => q.mono x1
    | false =>
      rw [if_neg Bool.false_ne_true] at g ⊢
      obtain ⟨t', et, q⟩ := g
      rw [ht] at et
      cases et
      exact q W1 H1 x1 R
theorem tOr_of {ra rb run : Env → Store → E Vl} (hr : ∀ e st, run e st = bnd (ra e st) fun x st => match truth x with
      | some t => if t = false then rb e st else ret x st
      | none => .err) {σ : L2.St} {H : Hp} {Q : Bool → Hp → Prop} (h : tT cs G Wx run σ H Q) : tOr (tT cs G Wx ra) (tT cs G Wx rb) σ H Q :=
  here_if (f := fun x e st => match truth x with
      | some t => if t = false then rb e st else ret x st
      | none => .err) hr (bo_err (k := false)) h fun W H W1 H1 x t s b e x1 R V g ht => by
    rw [ht] at g
    dsimp only at g
    cases t with
    | false =>
      rw [if_pos rfl] at g
      rw [if_neg Bool.false_ne_true]
      exact Here.on (K := fun W H => KT G W H Q) x1 R V g fun a s b q => q.mono x1
    | true =>
      rw [if_neg (by decide)] at g
      rw [if_pos rfl]
      obtain ⟨t', et, q⟩ := g
      rw [ht] at et
      cases et
      exact q W1 H1 x1 R
/-- as a value: and, or -/
theorem tAndV_of {ra rb run : Env → Store → E Vl} (hr : ∀ e st, run e st = bnd (ra e st) fun x st => match truth x with
      | some t => if t = true then rb e st else ret x st
      | none => .err) {σ : L2.St} {H : Hp} {Q : VK} (h : tE cs G Wx run σ H Q) : tAndV (tE cs G Wx ra) (tE cs G Wx rb) σ H Q :=
  tB_of (here_if (f := fun x e st => match truth x with
      | some t => if t = true then rb e st else ret x st
      | none => .err) hr (bo_err (k := true)) h (Q := fun c H1 => if c = true then tE cs G Wx rb σ H1 Q else Q (.bl false) H1) fun W H W1 H1 x t s b e x1 R V g ht => by
    rw [ht] at g
    dsimp only at g
    cases t with
    | true =>
      rw [if_pos rfl] at g ⊢
      exact Here.on (K := fun W H => KV' G W H Q) x1 R V g fun a s b q => q.mono x1
    | false =>
      rw [if_neg Bool.false_ne_true] at g ⊢
      cases x with
      | d d =>
        cases d <;> simp only [truth, reduceCtorEq] at ht
        case bl t' => cases ht; exact g W1 H1 _ x1 R VlR_bl
      | _ => simp only [truth, reduceCtorEq] at ht)
theorem tOrV_of {ra rb run : Env → Store → E Vl} (hr : ∀ e st, run e st = bnd (ra e st) fun x st => match truth x with
      | some t => if t = false then rb e st else ret x st
      | none => .err) {σ : L2.St} {H : Hp} {Q : VK} (h : tE cs G Wx run σ H Q) : tOrV (tE cs G Wx ra) (tE cs G Wx rb) σ H Q :=
  tB_of (here_if (f := fun x e st => match truth x with
      | some t => if t = false then rb e st else ret x st
      | none => .err) hr (bo_err (k := false)) h (Q := fun c H1 => if c = true then Q (.bl true) H1 else tE cs G Wx rb σ H1 Q) fun W H W1 H1 x t s b e x1 R V g ht => by
    rw [ht] at g
    dsimp only at g
    cases t with
    | false =>
      rw [if_pos rfl] at g
      rw [if_neg Bool.false_ne_true]
      exact Here.on (K := fun W H => KV' G W H Q) x1 R V g fun a s b q => q.mono x1
    | true =>
      rw [if_neg (by decide)] at g
      rw [if_pos rfl]
      cases x with
      | d d =>
        cases d <;> simp only [truth, reduceCtorEq] at ht
        case bl t' => cases ht; exact g W1 H1 _ x1 R VlR_bl
      | _ => simp only [truth, reduceCtorEq] at ht)
theorem not_err {α : Type} {f : Bool → α} {s : Store} : ∀ x : Vl, truth x = none → lift ((truth x).map f) s = (.err : E α) := fun x h => by rw [h]; rfl
theorem tNot_of {ra run : Env → Store → E Vl} (hr : ∀ e st, run e st = bnd (ra e st) fun x st => lift ((truth x).map fun t => .d (.bl (!t))) st) {σ : L2.St} {H : Hp} {Q : Bool → Hp → Prop} (h : tT cs G Wx run σ H Q) : tNot (tT cs G Wx ra) σ H Q :=
  here_if (f := fun x e st => lift ((truth x).map fun t => .d (.bl (!t))) st) hr (fun x e s => not_err x) h fun W H W1 H1 x t s b e x1 R V g ht => by
    rw [ht] at g
    obtain ⟨t', et, q⟩ := g
    cases et
    exact q W1 H1 x1 R
theorem tNotV_of {ra run : Env → Store → E Vl} (hr : ∀ e st, run e st = bnd (ra e st) fun x st => lift ((truth x).map fun t => .d (.bl (!t))) st) {σ : L2.St} {H : Hp} {Q : VK} (h : tE cs G Wx run σ H Q) : tNotV (tE cs G Wx ra) σ H Q :=
  tB_of (here_if (f := fun x e st => lift ((truth x).map fun t => .d (.bl (!t))) st) hr (fun x e s => not_err x) h (Q := fun c H1 => Q (.bl (!c)) H1) fun W H W1 H1 x t s b e x1 R V g ht => by
    rw [ht] at g
    exact g W1 H1 _ x1 R VlR_bl)
theorem tIf_of {rt ra rb run : Env → Store → E Vl} (hr : ∀ e st, run e st = bnd (rt e st) fun x st => match truth x with
      | some true => ra e st
      | some false => rb e st
      | none => .err) {σ : L2.St} {H : Hp} {Q : VK} (h : tE cs G Wx run σ H Q) : tIf (tT cs G Wx rt) (tE cs G Wx ra) (tE cs G Wx rb) σ H Q :=
  here_if (f := fun x e st => match truth x with
      | some true => ra e st
      | some false => rb e st
      | none => .err) hr (fun x e s h => by rw [h]) h fun W H W1 H1 x t s b e x1 R V g ht => by
    rw [ht] at g
    cases t with
    | true =>
      rw [if_pos rfl]
      exact Here.on (K := fun W H => KV' G W H Q) x1 R V g fun a s b q => q.mono x1
    | false =>
      rw [if_neg Bool.false_ne_true]
      exact Here.on (K := fun W H => KV' G W H Q) x1 R V g fun a s b q => q.mono x1
end
end EV

end
section
set_option Elab.async false
set_option linter.all false
set_option maxRecDepth 100000
set_option maxHeartbeats 4000000
/-! EV 6: lists of arguments, displays, items, slices. -/
namespace EV
open PySem PySem.Spec PyProof.Rows L2
section
variable {cs : List ErrC} {G : Gd} {Wx : WX} {X : Cx}
/-! ### argument lists -/
theorem pa_nilE {run : Env → Store → E Vl} (hr : ∀ e st, run e st = ret (.its []) st) : PA X [] (tA cs G Wx run) :=
  PA.imp pa_nil fun σ H Q ⟨W, e, st, b, R, V, g⟩ => by
    rw [hr] at g
    obtain ⟨vs, ev, q⟩ := g
    cases ev
    exact q W H [] .refl R .nil
def notStar : Expr → Bool
  | .Starred _ _ => false
  | _ => true
theorem star_cons {e : Expr} {es : List Expr} {env : PySem.Env} (h : notStar e = true) : starEach (e :: es) env = (false, eval e env) :: starEach es env := by
  cases e <;> first | rfl | cases h
theorem star_plain : ∀ {es : List Expr} {env : PySem.Env} {pos : Pos}, es.all notStar = true → (backTo pos (starEach es env)).any (·.1) = false
  | [], _, _, _ => rfl
  | e :: es, env, pos, h => by
    rw [List.all_cons, Bool.and_eq_true] at h
    rw [star_cons h.1]
    show (false || (backTo pos (starEach es env)).any (·.1)) = false
    rw [star_plain h.2]; rfl
theorem pa_consE {a : Expr} {es : List Expr} {ra rs run : Env → Store → E Vl} (ha : PE X a (tE cs G Wx ra)) (hs : PA X es (tA cs G Wx rs)) (hst : notStar a = true)
    (hr : ∀ e st, run e st = bnd (ra e st) fun x st => bnd (rs e st) fun y st => match y with
      | .its ys => ret (.its (x :: ys)) st
      | _ => .err) : PA X (a :: es) (tA cs G Wx run) := by
  refine PA.imp (pa_cons ha hs (star_cons hst)) fun σ H Q ⟨W, e, st, b, R, V, g⟩ => ?_
  rw [hr, EG_bnd] at g
  refine ⟨W, e, st, b, R, V, g.mono (fun x s b g W1 H1 v x1 R1 r1 => ?_) fun _ _ _ _ q => q⟩
  rw [EG_bnd] at g
  refine Here.next x1 R1 V g fun y s b g => ?_
  cases y <;> first
    | exact g.elim
    | skip
  rename_i ys
  obtain ⟨vs, ev, q⟩ := g
  cases ev
  exact ⟨ys, rfl, fun W' H' us x2 R2 r2 => q W' H' (v :: us) (x1.trans x2) R2 (.cons (r1.ext x2) r2)⟩
/-! ### displays -/
theorem snaps_VR {W : Wd} {st : Store} {b : Nat} {H : Hp} (R : Rel G W st b H) : ∀ {vs : List Vl} {us : List V} {ds : List D}, VlRs G W H vs us → snaps st vs = some ds → (∀ v ∈ vs, ∃ x, v = .d x) → VRs G (Av G W) H ds us
  | _, _, _, .nil, h, _ => by cases h; exact VRs.nil
  | v :: vs, _, _, .cons r t, h, hd => by
    obtain ⟨x, rfl⟩ := hd v List.mem_cons_self
    unfold snaps at h
    split at h
    · rename_i a b' e1 e2
      cases h
      cases e1
      exact VRs.cons r (snaps_VR R t e2 fun v hv => hd v (List.mem_cons_of_mem _ hv))
    · cases h
theorem dats_mem : ∀ {vs : List Vl} {ds : List D}, dats vs = some ds → vs = ds.map .d
  | [], _, h => by cases h; rfl
  | v :: vs, _, h => by
    cases v <;> simp only [dats, reduceCtorEq] at h
    obtain ⟨ds, e, rfl⟩ := Option.map_eq_some_iff.mp h
    rw [dats_mem e]; rfl
theorem VlRs_d {W : Wd} {H : Hp} : ∀ {ds : List D} {us : List V}, VlRs G W H (ds.map .d) us → VRs G (Av G W) H ds us
  | [], _, h => by cases h; exact VRs.nil
  | d :: ds, _, h => by
    cases h with
    | cons r t => exact VRs.cons r (VlRs_d t)
theorem VlRs_of {W : Wd} {H : Hp} : ∀ {ds : List D} {us : List V}, VRs G (Av G W) H ds us → VlRs G W H (ds.map .d) us
  | [], _, h => by unfold VRs at h; rw [h]; exact .nil
  | d :: ds, _, h => by
    unfold VRs at h
    obtain ⟨w, ws, rfl, h1, h2⟩ := h
    exact .cons h1 (VlRs_of h2)
/-- a tuple's, a frozen list's items are data -/
theorem pe_tupE {es : List Expr} {k : Nat} {pos : Pos} {rs run : Env → Store → E Vl} (hs : PA X es (tA cs G Wx rs))
    (hr : ∀ e st, run e st = bnd (rs e st) fun vs st => match vs with
      | .its vs => lift ((dats vs).bind fun l => if l.length ≤ 1000000 then some (.d (.tup l)) else none) st
      | _ => .err) : PE X (.Tuple es k pos) (tE cs G Wx run) := by
  refine PE.imp (pe_tup hs) fun σ H Q ⟨W, e, st, b, R, V, g⟩ => ?_
  rw [hr, EG_bnd] at g
  refine ⟨W, e, st, b, R, V, g.mono (fun a s b g => ?_) fun _ _ _ _ q => q⟩
  cases a <;> first
    | exact g.elim
    | skip
  rename_i vs
  rw [EG_lift] at g
  obtain ⟨a, ea, q⟩ := g
  obtain ⟨l, el, ea⟩ := Option.bind_eq_some_iff.mp ea
  split at ea
  · rename_i hl
    cases ea
    have ev := dats_mem el
    subst ev
    refine ⟨_, rfl, fun W' H' us x R r => ⟨?_, fun p hp => q W' _ _ (x.trans (ext_new hp)) (R.new hp) (VR.newT R hp (VlRs_d r))⟩⟩
    rw [← (VlRs_d r).length]; exact Nat.le_trans hl million
  · cases ea
theorem pe_lstE {es : List Expr} {pos : Pos} {rs run : Env → Store → E Vl} (hs : PA X es (tA cs G Wx rs))
    (hr : ∀ e st, run e st = bnd (rs e st) fun vs st => match vs with
      | .its vs => lift ((dats vs).bind fun l => if l.length ≤ 1000000 then some (.d (.lst l)) else none) st
      | _ => .err) : PE X (.List es pos) (tE cs G Wx run) := by
  refine PE.imp (pe_lst hs) fun σ H Q ⟨W, e, st, b, R, V, g⟩ => ?_
  rw [hr, EG_bnd] at g
  refine ⟨W, e, st, b, R, V, g.mono (fun a s b g => ?_) fun _ _ _ _ q => q⟩
  cases a <;> first
    | exact g.elim
    | skip
  rename_i vs
  rw [EG_lift] at g
  obtain ⟨a, ea, q⟩ := g
  obtain ⟨l, el, ea⟩ := Option.bind_eq_some_iff.mp ea
  split at ea
  · rename_i hl
    cases ea
    have ev := dats_mem el
    subst ev
    refine ⟨_, rfl, fun W' H' us x R r => ⟨?_, fun p hp => q W' _ _ (x.trans (ext_new hp)) (R.new hp) (VR.newL R hp (VlRs_d r))⟩⟩
    rw [← (VlRs_d r).length]; exact Nat.le_trans hl million
  · cases ea
/-- a new mutable thing at p -/
theorem new_cell {W : Wd} {st : Store} {b : Nat} {H : Hp} (R : Rel G W st b H) {p : Addr} {u : HO} (hp : H p = none) {c : Cell} (hc : ∀ W', Ext G W H W' (upd H p u) → CellR G W' (upd H p u) p c) :
    Ext G W H ⟨W.cells ++ [some p], W.av, W.hc⟩ (upd H p u) ∧ Rel G ⟨W.cells ++ [some p], W.av, W.hc⟩ (st ++ [some c]) b (upd H p u) ∧ VlR G ⟨W.cells ++ [some p], W.av, W.hc⟩ (upd H p u) (.ref st.length) (.ref p) := by
  have old : ∀ (i : Nat) a, i < W.cells.length → (W.cells ++ [some p])[i]? = some (some a) → W.cells[i]? = some (some a) := fun i a hi h => by
    rwa [List.getElem?_append_left hi] at h
  have at_ : ∀ (i : Nat) a, (W.cells ++ [some p])[i]? = some (some a) → W.cells[i]? = some (some a) ∨ (i = W.cells.length ∧ a = p) := fun i a h => by
    by_cases hi : i < W.cells.length
    · exact .inl (old i a hi h)
    · rw [List.getElem?_append_right (by omega)] at h
      have : i - W.cells.length = 0 := by
        cases z : i - W.cells.length with
        | zero => rfl
        | succ n => rw [z] at h; simp at h
      rw [this] at h
      simp at h
      exact .inr ⟨by omega, h.symm⟩
  have x : Ext G W H ⟨W.cells ++ [some p], W.av, W.hc⟩ (upd H p u) := by
    refine ⟨fun q o h _ _ => upd_keep hp h, fun q h => h.kept fun o e => upd_keep hp e, by simp, fun i a hi h => old i a hi h, fun q ⟨i, h⟩ => ?_, fun _ h => .inl h, fun _ h => h, rfl⟩
    · rcases at_ i q h with h | ⟨_, e⟩
      · exact .inl ⟨i, h⟩
      · rw [e]; exact .inr (.none hp)
  have keepc : ∀ a, W.live a → upd H p u a = H a := fun a l => upd_ne (by rintro rfl; exact R.av_there (.inl (.inl l)) hp)
  refine ⟨x, ⟨by simp [R.len], fun i j a h1 h2 => ?_, fun i c' h => ?_, fun i h => ?_, R.spr.keeps ?_ ?_, ⟨fun l => ?_, fun l => ?_⟩, fun a h => ?_, fun a l h => ?_, R.tabs.ext fun q o h => upd_keep hp h⟩, ?_⟩
  · rcases at_ i a h1 with k1 | ⟨k1, e1⟩ <;> rcases at_ j a h2 with k2 | ⟨k2, e2⟩
    · exact R.inj i j a k1 k2
    · subst e2; exact absurd hp (R.av_there (.inl (.inl ⟨i, k1⟩)))
    · subst e1; exact absurd hp (R.av_there (.inl (.inl ⟨j, k2⟩)))
    · omega
  · by_cases hi : i < st.length
    · rw [List.getElem?_append_left hi] at h
      obtain ⟨a, h1, r⟩ := R.cell i c' h
      exact ⟨a, by rw [List.getElem?_append_left (by rw [R.len]; exact hi)]; exact h1, r.keeps x (keepc a ⟨i, h1⟩)⟩
    · rw [List.getElem?_append_right (by omega)] at h
      have z : i - st.length = 0 := by
        cases z : i - st.length with
        | zero => rfl
        | succ n => rw [z] at h; simp at h
      rw [z] at h
      simp at h
      subst h
      have e : i = W.cells.length := by rw [R.len]; omega
      exact ⟨p, by rw [e]; simp, hc _ x⟩
  · by_cases hi : i < st.length
    · rw [List.getElem?_append_left hi] at h
      rw [List.getElem?_append_left (by rw [R.len]; exact hi)]
      exact R.dead i h
    · rw [List.getElem?_append_right (by omega)] at h
      cases z : i - st.length with
      | zero => rw [z] at h; simp at h
      | succ n => rw [z] at h; simp at h
  · exact upd_ne (by rintro e; exact R.av_there (.inl (.inr (.inl e.symm))) hp)
  · exact upd_ne (by rintro e; exact R.av_there (.inl (.inr (.inr e.symm))) hp)
  · obtain ⟨i, h⟩ := l
    rcases at_ i _ h with h | ⟨_, e⟩
    · exact R.nosp.1 ⟨i, h⟩
    · exact R.av_there (.inl (.inr (.inl e.symm))) hp
  · obtain ⟨i, h⟩ := l
    rcases at_ i _ h with h | ⟨_, e⟩
    · exact R.nosp.2 ⟨i, h⟩
    · exact R.av_there (.inl (.inr (.inr e.symm))) hp
  · exact fun n => R.avt a h (x.there a n)
  · obtain ⟨i, l⟩ := l
    rcases at_ i a l with l | ⟨_, e⟩
    · exact R.avl a ⟨i, l⟩ h
    · rw [e] at h; exact R.avt _ h (.none hp)
  · refine ⟨by simp [R.len], fun a h => ?_⟩
    rcases at_ _ a h with h | ⟨_, e⟩
    · have := (List.getElem?_eq_some_iff.mp h).1
      rw [R.len] at this; omega
    · rw [e]
theorem pe_lstM {es : List Expr} {pos : Pos} {rs run : Env → Store → E Vl} (hs : PA X es (tA cs G Wx rs))
    (hr : ∀ e st, run e st = bnd (rs e st) fun vs st => match vs with
      | .its vs => if vs.length ≤ 1000000 then ret (.ref st.length) (st ++ [some (.lst vs)]) else .err
      | _ => .err) : PE X (.List es pos) (tE cs G Wx run) := by
  refine PE.imp (pe_lst hs) fun σ H Q ⟨W, e, st, b, R, V, g⟩ => ?_
  rw [hr, EG_bnd] at g
  refine ⟨W, e, st, b, R, V, g.mono (fun a s b g => ?_) fun _ _ _ _ q => q⟩
  cases a <;> first
    | exact g.elim
    | skip
  rename_i vs
  dsimp only at g
  split at g
  · rename_i hl
    refine ⟨_, rfl, fun W' H' us x R r => ⟨?_, fun p hp => ?_⟩⟩
    · rw [← Paired.length r]; exact Nat.le_trans hl million
    · obtain ⟨y, R', rv⟩ := new_cell (u := .lst us) R hp (c := .lst vs) fun W2 x2 => ⟨us, upd_same, r.ext x2⟩
      exact g _ _ _ (x.trans y) R' rv
  · exact g.elim
theorem pe_dctE {pos : Pos} {run : Env → Store → E Vl} (hr : ∀ e st, run e st = ret (.d (.dct [] [])) st) : PE X (.Dict [] [] pos) (tE cs G Wx run) := by
  refine PE.imp pe_dnewK fun σ H Q ⟨W, e, st, b, R, V, g⟩ => ?_
  rw [hr] at g
  intro d hd
  refine g W _ _ (ext_new hd) (R.new hd) ?_
  unfold VlR VR
  exact ⟨d, [], rfl, upd_same, R.new_av hd, trivial, VRs.nil⟩
theorem pe_dctM {pos : Pos} {run : Env → Store → E Vl} (hr : ∀ e st, run e st = ret (.ref st.length) (st ++ [some (.dct [] [])])) : PE X (.Dict [] [] pos) (tE cs G Wx run) := by
  refine PE.imp pe_dnewK fun σ H Q ⟨W, e, st, b, R, V, g⟩ => ?_
  rw [hr] at g
  intro d hd
  obtain ⟨y, R', rv⟩ := new_cell (u := .dK []) R hd (c := .dct [] []) fun W2 x2 => ⟨[], upd_same, trivial, .nil⟩
  exact g _ _ _ y R' rv
end
end EV

end
section
set_option Elab.async false
set_option linter.all false
set_option maxRecDepth 100000
set_option maxHeartbeats 4000000
/-! EV 7: items, slices, isinstance, built-ins. -/
namespace EV
open PySem PySem.Spec PyProof.Rows L2
section
variable {cs : List ErrC} {G : Gd} {Wx : WX} {X : Cx}
theorem ref_cell {W : Wd} {st : Store} {b : Nat} {H : Hp} (R : Rel G W st b H) {i : Nat} {v : V} (r : VlR G W H (.ref i) v) {c : Cell} (h : geti st i = some c) : ∃ p, v = .ref p ∧ W.cells[i]? = some (some p) ∧ CellR G W H p c := by
  obtain ⟨p, h1, h2⟩ := R.cell i c (geti_some h)
  exact ⟨p, r.2 p h1, h1, h2⟩
theorem items_at {W : Wd} {st : Store} {b : Nat} {H : Hp} (R : Rel G W st b H) {a : Vl} {v : V} {xs : List Vl} (r : VlR G W H a v) (h : itemsOf st a = some xs) :
    (∃ p us, v = .ref p ∧ H p = some (.lst us) ∧ VlRs G W H xs us) ∨ (∃ p us, v = .ref p ∧ H p = some (.tup us) ∧ VlRs G W H xs us) ∨ (∃ p kvs ks, v = .ref p ∧ H p = some (.dK kvs) ∧ xs = ks.map .d ∧ KeysOk ks kvs) := by
  cases a with
  | d d =>
    cases d <;> simp only [itemsOf, reduceCtorEq] at h
    case lst ds =>
      cases h
      unfold VlR VR at r
      obtain ⟨p, us, rfl, h1, _, h2⟩ := r
      exact .inl ⟨p, us, rfl, h1, VlRs_of h2⟩
    case tup ds =>
      cases h
      unfold VlR VR at r
      obtain ⟨p, us, rfl, h1, _, h2⟩ := r
      exact .inr (.inl ⟨p, us, rfl, h1, VlRs_of h2⟩)
    case dct ks us =>
      cases h
      unfold VlR VR at r
      obtain ⟨p, kvs, rfl, h1, _, h2, _⟩ := r
      exact .inr (.inr ⟨p, kvs, ks, rfl, h1, rfl, h2⟩)
  | ref i =>
    simp only [itemsOf] at h
    split at h
    · rename_i ys z
      cases h
      obtain ⟨p, rfl, _, us, h1, h2⟩ := ref_cell R r z
      exact .inl ⟨p, us, rfl, h1, h2⟩
    · rename_i ks us z
      cases h
      obtain ⟨p, rfl, _, kvs, h1, h2, _⟩ := ref_cell R r z
      exact .inr (.inr ⟨p, kvs, ks, rfl, h1, rfl, h2⟩)
    · cases h
  | thk => cases h
  | its ys => cases h
  | exn c fs => cases h
  | h x => cases h
  | hr i x => cases h
theorem VlRs.get {W : Wd} {H : Hp} : ∀ {xs : List Vl} {us : List V} {i : Nat} {a : Vl}, VlRs G W H xs us → xs[i]? = some a → ∃ u, us[i]? = some u ∧ VlR G W H a u
  | _, _, _, _, .nil, e => by simp at e
  | _, _, 0, _, .cons r _, e => by simp at e; subst e; exact ⟨_, rfl, r⟩
  | _, _, i + 1, _, .cons _ t, e => by simpa using VlRs.get (i := i) t (by simpa using e)

/-! ### o[i] -/
def rIxD (G : Gd) : R2 := fun x y H Q => ∃ W st n a d, Rel G W st n H ∧ VlR G W H a x ∧ VR G (Av G W) H d y ∧ ∃ r, ixD st a d = some r ∧ ∀ v, VlR G W H r v → Q v H
theorem ix_dct (hu : X.A.units + 1 < cLine) : IxR X (fun x y H Q => ∃ a v, x = .ref a ∧ DGet H a y (some v) ∧ Q v H) := by
  intro value slice pins s σ H x y v u Q I rx ry h hs
  obtain ⟨a, z, rfl, g, q⟩ := h
  cases rx
  exact tail_any (dict_typeIs I g) PySem.F.slot_dict_getitem.lookup (d_getItem hu I g ry fun w' s' I' rw' => ⟨z, H, I', rw', q⟩) hs
theorem ixN_eq (n : Nat) (i : Int) : EV.ixN n i = L2.ixN n i := rfl
theorem at_eq {α : Type} (xs : List α) (i : Int) : ((EV.ixN xs.length i).bind fun j => xs[j]?) = atI xs i := rfl
theorem ixD_ok (hu : X.A.units + 1 < cLine) : IxR X (rIxD G) := by
  refine fun value slice pins s σ H x y v u Q I rx ry h hs => (IxR.or (ix_seq (X := X)) (ix_dct hu)) value slice pins s σ H x y v u Q I rx ry ?_ hs
  obtain ⟨W, st, n, a, d, R, hx, hy, r, e, q⟩ := h
  have lenv : ∀ {xs : List Vl} {us : List V} {i : Int}, VlRs G W H xs us → ((EV.ixN xs.length i).bind fun j => xs[j]?) = some r → ∃ z, atI us i = some z ∧ VlR G W H r z := fun {xs us i} p e => by
    obtain ⟨j, e1, e2⟩ := Option.bind_eq_some_iff.mp e
    obtain ⟨z, h1, h2⟩ := VlRs.get p e2
    refine ⟨z, ?_, h2⟩
    unfold atI
    rw [← Paired.length p, ← ixN_eq, e1]
    exact h1
  have lens : ∀ {ds : List D} {us : List V} {i : Int}, VRs G (Av G W) H ds us → (((EV.ixN ds.length i).bind fun j => ds[j]?).map Vl.d) = some r → ∃ z, atI us i = some z ∧ VlR G W H r z := fun {ds us i} p e => by
    refine lenv (xs := ds.map .d) (VlRs_of p) ?_
    rw [List.length_map, ← e]
    cases EV.ixN ds.length i with
    | none => rfl
    | some j => simp
  have keyed : ∀ {p : Addr} {ks : List D} {us : List Vl} {kvs : List (Key × V)}, H p = some (.dK kvs) → KeysOk ks kvs → VlRs G W H us (kvs.map (·.2)) → (if isKey d = true then lookD d ks us else none) = some r →
      ∃ z, DGet H p y (some z) ∧ VlR G W H r z := fun {p ks us kvs} h1 h2 h3 e => by
    split at e
    · rename_i c
      obtain ⟨k, hk⟩ := keyOf_of c
      obtain ⟨z, ez, rz⟩ := (lookD_of hk h2 h3).1 r e
      have ey := key_of hk (VR.top hy)
      subst ey
      exact ⟨z, by rw [← ez]; exact .k h1, rz⟩
    · cases e
  cases a with
  | d a =>
    cases a <;> cases d <;> simp only [ixD, reduceCtorEq] at e
    case lst.int ds i =>
      unfold VlR VR at hx
      obtain ⟨p, us, rfl, h1, _, h2⟩ := hx
      have ey : y = .int i := by unfold VR at hy; exact hy
      subst ey
      obtain ⟨z, e1, e2⟩ := lens h2 e
      exact .inl (.inl ⟨p, us, i, z, rfl, rfl, SqL.of h1, e1, q z e2⟩)
    case tup.int ds i =>
      unfold VlR VR at hx
      obtain ⟨p, us, rfl, h1, _, h2⟩ := hx
      have ey : y = .int i := by unfold VR at hy; exact hy
      subst ey
      obtain ⟨z, e1, e2⟩ := lens h2 e
      exact .inl (.inr (.inl ⟨p, us, i, z, rfl, rfl, SqT.of h1, e1, q z e2⟩))
    case str.int s' i =>
      have ex : x = .str (sOf s') := by unfold VlR VR at hx; exact hx
      have ey : y = .int i := by unfold VR at hy; exact hy
      subst ex ey
      split at e
      · rename_i hz
        obtain ⟨c, e1, rfl⟩ := Option.map_eq_some_iff.mp e
        refine .inl (.inr (.inr ⟨sOf s', i, c, rfl, rfl, by rw [sOf_len]; exact Nat.le_trans hz million, ?_, q _ (VR.str (G := G) (A := Av G W) (H := H) (i := [c]))⟩))
        rw [← e1]
        unfold sOf
        simp only [List.toList_toArray]
        rfl
      · cases e
    all_goals
      unfold VlR VR at hx
      obtain ⟨p, kvs, rfl, h1, _, h2, h3⟩ := hx
      obtain ⟨z, e1, e2⟩ := keyed h1 h2 (VlRs_of h3) e
      exact .inr ⟨p, z, rfl, e1, q z e2⟩
  | ref i =>
    simp only [ixD] at e
    split at e
    · rename_i xs j z
      obtain ⟨p, rfl, _, us, h1, h2⟩ := ref_cell R hx z
      have ey : y = .int j := by unfold VR at hy; exact hy
      subst ey
      obtain ⟨w, e1, e2⟩ := lenv h2 e
      exact .inl (.inl ⟨p, us, j, w, rfl, rfl, SqL.of h1, e1, q w e2⟩)
    · rename_i ks us k z
      obtain ⟨p, rfl, _, kvs, h1, h2, h3⟩ := ref_cell R hx z
      obtain ⟨w, e1, e2⟩ := keyed h1 h2 h3 e
      exact .inr ⟨p, w, rfl, e1, q w e2⟩
    · cases e
  | thk => simp only [ixD, reduceCtorEq] at e
  | its ys => simp only [ixD, reduceCtorEq] at e
  | exn c fs => simp only [ixD, reduceCtorEq] at e
  | h x => simp only [ixD, reduceCtorEq] at e
  | hr i x => simp only [ixD, reduceCtorEq] at e
def plainB : Expr → Bool
  | .Slice _ _ _ _ => false
  | _ => true
theorem plainIx {b : Expr} (h : plainB b = true) : PlainIx b := by
  cases b <;> first | (cases h; done) | exact fun _ _ => rfl
theorem pe_ixE {k : Nat} (room : Room k X.A) {a b : Expr} {pos : Pos} {ra rb run : Env → Store → E Vl} (ha : PE X a (tE cs G Wx ra)) (hb : PE X b (tE cs G Wx rb)) (hp : plainB b = true)
    (hr : ∀ e st, run e st = bnd (ra e st) fun x st => bnd (rb e st) fun y st => match y with
      | .d y => lift (ixD st x y) st
      | _ => .err) : PE X (.Subscript a b pos) (tE cs G Wx run) := by
  refine PE.imp (pe_ix (ixD_ok (G := G) (by have := room.un; omega)) ha hb (plainIx hp)) fun σ H Q h => here_two hr h fun W H W2 H2 x y v u s b Q e2 R r1 r2 g => ?_
  cases y <;> first
    | exact g.elim
    | skip
  rw [EG_lift] at g
  obtain ⟨r, er, g⟩ := g
  exact ⟨W2, s, b, x, _, R, r1, r2, r, er, fun v rv => g W2 H2 v e2 R rv⟩
/-! ### -a -/
theorem pe_negE {a : Expr} {pos : Pos} {ra run : Env → Store → E Vl} (ha : PE X a (tE cs G Wx ra))
    (hr : ∀ e st, run e st = bnd (ra e st) fun x st => match x with
      | .d (.int i) => ret (.d (.int (-i))) st
      | _ => .err) : PE X (.UnaryOp .USub a pos) (tE cs G Wx run) := by
  refine PE.imp (pe_un un_neg ha) fun σ H Q ⟨W, e, st, b, R, V, g⟩ => ?_
  rw [hr, EG_bnd] at g
  refine ⟨W, e, st, b, R, V, g.mono (fun x s b g W1 H1 v x1 R1 r1 => ?_) fun _ _ _ _ q => q⟩
  split at g
  · rename_i i
    have ev : v = .int i := by unfold VlR VR at r1; exact r1
    exact ⟨i, ev, g W1 H1 _ x1 R1 VlR_int⟩
  · exact g.elim
/-! ### a < b < c -/
theorem chain_of {o p : COp} {ra rb rc run : Env → Store → E Vl} (hr : ∀ e st, run e st = bnd (ra e st) fun x st => bnd (rb e st) fun y st =>
      match snap st x, snap st y with
      | some x, some y' => match cmpD o x y' with
        | some true => bnd (rc e st) fun z st => match snap st y, snap st z with
          | some y, some z => lift ((cmpD p y z).map fun t => .d (.bl t)) st
          | _, _ => .err
        | some false => ret (.d (.bl false)) st
        | none => .err
      | _, _ => .err)
    {σ : L2.St} {H : Hp} {Q : VK} (h : tE cs G Wx run σ H Q) : tChain (rC2 G (cmpD o)) (rC2 G (cmpD p)) (tE cs G Wx ra) (tE cs G Wx rb) (tE cs G Wx rc) σ H Q := by
  obtain ⟨W, e, st, b, R, V, g⟩ := h
  rw [hr, EG_bnd] at g
  refine ⟨W, e, st, b, R, V, g.mono (fun x s b g W1 H1 v x1 R1 r1 => ?_) fun _ _ _ _ q => q⟩
  rw [EG_bnd] at g
  refine Here.next x1 R1 V g fun y s b g W2 H2 u x2 R2 r2 => ?_
  split at g
  · rename_i dx dy e1 e2
    split at g
    · rename_i e3
      refine ⟨_, dx, dy, true, snap_VT R2 (r1.ext x2) e1, snap_VT R2 r2 e2, e3, true, rfl, ?_⟩
      rw [if_pos rfl]
      rw [EG_bnd] at g
      refine Here.next (x1.trans x2) R2 V g fun z s b g W3 H3 w x3 R3 r3 => ?_
      split at g
      · rename_i dy' dz e4 e5
        rw [EG_lift] at g
        obtain ⟨a', ea, g⟩ := g
        obtain ⟨t, et, rfl⟩ := Option.map_eq_some_iff.mp ea
        exact ⟨_, dy', dz, t, snap_VT R3 (r2.ext x3) e4, snap_VT R3 r3 e5, et, g W3 H3 _ ((x1.trans x2).trans x3) R3 VlR_bl⟩
      · exact g.elim
    · rename_i e3
      refine ⟨_, dx, dy, false, snap_VT R2 (r1.ext x2) e1, snap_VT R2 r2 e2, e3, false, rfl, ?_⟩
      rw [if_neg Bool.false_ne_true]
      exact g W2 H2 _ (x1.trans x2) R2 VlR_bl
    · exact g.elim
  · exact g.elim
end
end EV

end
section
set_option Elab.async false
set_option linter.all false
set_option maxRecDepth 100000
set_option maxHeartbeats 4000000
/-! EV 8: slices, isinstance, built-ins. -/
namespace EV
open PySem PySem.Spec PyProof.Rows L2
section
variable {cs : List ErrC} {G : Gd} {Wx : WX} {X : Cx}
/-! ### a[lo:hi] -/
theorem sIx_eq (n d : Nat) (o : Option Int) : EV.sIx n d o = HT.sIx n d o := by cases o <;> rfl
theorem cut_eq (vs : List V) (lo hi : Option Int) : EV.cut vs lo hi = cutV vs lo hi := by
  unfold EV.cut cutV
  rw [sIx_eq, sIx_eq]
theorem VRs.cut {A : Addr → Prop} {H : Hp} {ds : List D} {vs : List V} (h : VRs G A H ds vs) (lo hi : Option Int) : VRs G A H (EV.cut ds lo hi) (cutV vs lo hi) := by
  rw [← cut_eq]
  unfold EV.cut
  rw [h.length]
  exact VRs.take _ (VRs.drop _ h)
def rSlD (G : Gd) : V → Option Int → Option Int → Hp → VK → Prop := fun x lo hi H Q => ∃ W st n dx d, Rel G W st n H ∧ VT G (Av G W) H dx x ∧ slD dx lo hi = some d ∧ ∀ H' v, Ext G W H W H' → Rel G W st n H' → VR G (Av G W) H' d v → Q v H'
theorem slD_ok : SlR X (rSlD G) := by
  refine fun pins s σ H x v vl vu lo hi sl Q I rx hs pl pu h => (SlR.or (sl_list (X := X)) (SlR.or sl_tupA sl_str)) pins s σ H x v vl vu lo hi sl Q I rx hs pl pu ?_
  obtain ⟨W, st, n, dx, d, R, hx, e, q⟩ := h
  cases dx <;> simp only [slD, reduceCtorEq] at e
  case lst ds =>
    cases e
    obtain ⟨p, us, rfl, h1, h2⟩ := hx
    exact .inl ⟨p, us, rfl, SqL.of h1, fun a ha => q _ _ (ext_new ha) (R.new ha) (VR.newL R ha (h2.cut lo hi))⟩
  case tup ds =>
    cases e
    have hx0 := hx
    obtain ⟨p, us, rfl, h1, n1, h2⟩ := hx.ref_tup
    refine .inr (.inl ⟨p, us, rfl, SqT.of h1, fun z => ?_, fun z a ha => q _ _ (ext_new ha) (R.new ha) (VR.newT R ha (h2.cut lo hi))⟩)
    have e : EV.cut ds lo hi = ds := by
      unfold EV.cut
      rw [sIx_eq, sIx_eq, h2.length, z.1, z.2]
      simp [← h2.length]
    rw [e] at q
    exact q H _ .refl R hx0
  case str s' =>
    split at e
    · rename_i hz
      cases e
      rw [hx.str]
      refine .inr (.inr ⟨_, rfl, by rw [sOf_len]; exact Nat.le_trans hz million, ?_⟩)
      have e : cutS (sOf s') lo hi = sOf (EV.cut s' lo hi) := by
        unfold cutS EV.cut
        rw [sOf_len, sIx_eq, sIx_eq]
        unfold sOf
        simp
      rw [e]
      exact q H _ .refl R VR.str
    · cases e
/-- a slice's part -/
def KO (W : Wd) (H : Hp) (Q : Option Int → Hp → Prop) : Vl → Store → Nat → Prop := fun a s b => ∃ o, partOf a = some o ∧ ∀ W' H', Ext G W H W' H' → Rel G W' s b H' → Q o H'
def tO (cs : List ErrC) (G : Gd) (Wx : WX) (run : Env → Store → E Vl) : TO := fun σ H Q => Here cs G Wx run σ H fun W H => KO (G := G) W H Q
theorem po_noneE {run : Env → Store → E Vl} (hr : ∀ e st, run e st = ret (.its []) st) : PO X none (tO cs G Wx run) := ⟨fun pins s σ H Q I ⟨W, e, st, b, R, V, g⟩ => po_none.run pins s σ H Q I (by
    rw [hr] at g
    obtain ⟨o, eo, q⟩ := g
    cases eo
    exact q W H .refl R)⟩
theorem po_someE {a : Expr} {ra : Env → Store → E Vl} (ha : PE X a (tE cs G Wx ra)) : PO X (some a) (tO cs G Wx ra) := ⟨fun pins s σ H Q I ⟨W, e, st, b, R, V, g⟩ => (po_some ha).run pins s σ H Q I (by
    refine ⟨W, e, st, b, R, V, g.mono (fun a s b g W1 H1 v x1 R1 r1 => ?_) fun _ _ _ _ q => q⟩
    obtain ⟨o, eo, q⟩ := g
    cases a with
    | d d =>
      cases d <;> simp only [partOf, reduceCtorEq] at eo
      case int i =>
        cases eo
        have ev : v = .int i := by unfold VlR VR at r1; exact r1
        exact ⟨i, ev, q W1 H1 x1 R1⟩
    | its ys => exact r1.elim
    | ref i => simp only [partOf, reduceCtorEq] at eo
    | thk => simp only [partOf, reduceCtorEq] at eo
    | exn c fs => simp only [partOf, reduceCtorEq] at eo
    | h x => simp only [partOf, reduceCtorEq] at eo
    | hr i x => simp only [partOf, reduceCtorEq] at eo)⟩
theorem pe_slE {a : Expr} {lo hi : Option Expr} {p2 pos : Pos} {ra rl rh run : Env → Store → E Vl} (ha : PE X a (tE cs G Wx ra)) (hl : PO X lo (tO cs G Wx rl)) (hh : PO X hi (tO cs G Wx rh))
    (hr : ∀ e st, run e st = bnd (ra e st) fun x st => bnd (rl e st) fun l st => match partOf l with
      | none => .err
      | some l => bnd (rh e st) fun h st => match snap st x, partOf h with
        | some x, some h => lift ((slD x l h).map .d) st
        | _, _ => .err) : PE X (.Subscript a (.Slice lo hi none p2) pos) (tE cs G Wx run) := by
  refine PE.imp (pe_slice (slD_ok (G := G)) ha hl hh) fun σ H Q ⟨W, e, st, b, R, V, g⟩ => ?_
  rw [hr, EG_bnd] at g
  refine ⟨W, e, st, b, R, V, g.mono (fun x s b g W1 H1 v x1 R1 r1 => ?_) fun _ _ _ _ q => q⟩
  rw [EG_bnd] at g
  refine Here.next x1 R1 V g fun l s b g => ?_
  split at g
  · exact g.elim
  · rename_i l' el
    refine ⟨l', el, fun W2 H2 x2 R2 => ?_⟩
    rw [EG_bnd] at g
    refine Here.next (x1.trans x2) R2 V g fun h s b g => ?_
    split at g
    · rename_i dx h' e1 e3
      rw [EG_lift] at g
      obtain ⟨a', ea, g⟩ := g
      obtain ⟨d, ed, rfl⟩ := Option.map_eq_some_iff.mp ea
      exact ⟨h', e3, fun W3 H3 x3 R3 => ⟨W3, _, _, dx, d, R3, snap_VT R3 ((r1.ext x2).ext x3) e1, ed, fun H' v' x' R' r' => g W3 H' v' (((x1.trans x2).trans x3).trans x') R' r'⟩⟩
    · exact g.elim
/-! ### isinstance -/
def tyName : Ty → String
  | .int => "int"
  | .bool => "bool"
  | .str => "str"
  | .list => "list"
  | .tuple => "tuple"
  | .dict => "dict"
  | .own _ => ""
def tyOk : Ty → Bool
  | .own _ => false
  | _ => true
def tyStr (t : Ty) : Str := Str.ofString (tyName t)
theorem tyx_of {K : PySem.W.Frag} {A : Addr → Prop} {H : Hp} {d : D} {v : V} (h : VT G A H d v) (hs : d ≠ .strm) : ∃ n, TyX K H v (.type n) ∧ ∀ t, tyOk t = true → kitB n (tyName t) = some (isTy d t) := by
  have fin : ∀ (n : String) (r : Option Ty), (∀ t, tyOk t = true → kitB n (tyName t) = some (r == some t || (r == some .bool && t == .int))) → tyOf d = r → ∀ t, tyOk t = true → kitB n (tyName t) = some (isTy d t) := fun n r h e t ht => by
    unfold isTy; rw [e]; exact h t ht
  have dec : ∀ (n : String) (r : Option Ty), ([Ty.int, .bool, .str, .list, .tuple, .dict].all fun t => decide (kitB n (tyName t) = some (r == some t || (r == some .bool && t == .int)))) = true → ∀ t, tyOk t = true → kitB n (tyName t) = some (r == some t || (r == some .bool && t == .int)) := fun n r h t ht => by
    simp only [List.all_cons, List.all_nil, Bool.and_eq_true, decide_eq_true_eq] at h
    obtain ⟨h1, h2, h3, h4, h5, h6, _⟩ := h
    cases t <;> first | assumption | cases ht
  cases d
  case non => unfold VT VR at h; subst h; exact ⟨"NoneType", .base .non, fin _ none (dec _ _ (by decide +kernel)) rfl⟩
  case bl b => rw [h.bl]; exact ⟨"bool", .base (.bl b), fin _ (some .bool) (dec _ _ (by decide +kernel)) rfl⟩
  case int i => rw [h.int]; exact ⟨"int", .base (.int i), fin _ (some .int) (dec _ _ (by decide +kernel)) rfl⟩
  case str s => rw [h.str]; exact ⟨"str", .base (.str _), fin _ (some .str) (dec _ _ (by decide +kernel)) rfl⟩
  case tup ds =>
    obtain ⟨p, us, rfl, h1, _⟩ := h.ref_tup
    exact ⟨"tuple", .base (.tup h1), fin _ (some .tuple) (dec _ _ (by decide +kernel)) rfl⟩
  case lst ds =>
    obtain ⟨p, us, rfl, h1, _⟩ := h
    exact ⟨"list", .base (.lst h1), fin _ (some .list) (dec _ _ (by decide +kernel)) rfl⟩
  case dct ks us =>
    obtain ⟨p, us, rfl, h1, _⟩ := h
    exact ⟨"dict", .base (.dK h1), fin _ (some .dict) (dec _ _ (by decide +kernel)) rfl⟩
  case ins c us => unfold VT VR at h; exact h.elim
  case fn c => unfold VT VR at h; exact h.elim
  case strm => exact absurd rfl hs
  case rp x => unfold VT VR at h; subst h; exact ⟨"str", .base (.str _), fin _ (some .str) (dec _ _ (by decide +kernel)) rfl⟩
theorem kitAny_of {K : PySem.W.Frag} {n : String} {d : D} (h : ∀ t, tyOk t = true → kitB n (tyName t) = some (isTy d t)) : ∀ {ts : List Ty}, ts.all tyOk = true → PySem.W.kitAny K (.type n) (ts.map fun t => .type (tyName t)) = some (ts.any (isTy d))
  | [], _ => rfl
  | t :: ts, hk => by
    rw [List.all_cons, Bool.and_eq_true] at hk
    refine kitAny_cons (kit_ty (h t hk.1)) (fun e => ?_) fun e => ?_
    · rw [kitAny_of h hk.2, List.any_cons, e]; rfl
    · rw [List.any_cons, e]; rfl
/-- the names of the types -/
def chkTys (sc : Scope) : List Ty → List Expr → Bool
  | [], [] => true
  | t :: ts, .Name x _ :: es => tyOk t && x == tyStr t && sc.names.lookup x == some .globalImplicit && chkTys sc ts es
  | _, _ => false
theorem boot_ty : ∀ t, tyOk t = true → bootBuiltins (tyStr t) = some (.type (tyName t)) ∧ tyStr t ≠ "__name__" ∧ (tyStr t == ("__debug__" : Str)) = false := by
  intro t h
  cases t <;> first | (cases h; done) | exact ⟨by decide +kernel, by decide +kernel, by decide +kernel⟩
def tTys (ts : List Ty) : TA := fun _ H Q => Q (ts.map fun t => .ty (tyName t)) H
theorem pa_tys (hm : ∀ t, tyOk t = true → X.mg (tyStr t) = none) : ∀ {ts : List Ty} {es : List Expr}, chkTys X.env.scope ts es = true → PA X es (tTys ts)
  | [], [], _ => pa_nil
  | [], _ :: _, h => by unfold chkTys at h; cases h
  | t :: ts, [], h => by unfold chkTys at h; cases h
  | t :: ts, e :: es, h => by
    cases e <;> try (unfold chkTys at h; cases h; done)
    rename_i x pos
    simp only [chkTys, Bool.and_eq_true, beq_iff_eq] at h
    obtain ⟨⟨⟨h1, h2⟩, h3⟩, h4⟩ := h
    subst h2
    obtain ⟨b1, b2, b3⟩ := boot_ty t h1
    exact pa_cons (pe_bltn (v := .ty (tyName t)) h3 (hm t h1) b1 rfl b2 b3) (pa_tys hm h4)
theorem isi_one (hm : ∀ t, tyOk t = true → X.mg (tyStr t) = none) (hi : X.mg "isinstance" = none) {a e : Expr} {t : Ty} {p pos : Pos} {ra run : Env → Store → E Vl} (ha : PE X a (tE cs G Wx ra)) (hst : notStar a = true) (hg : Gl X "isinstance") (hc : chkTys X.env.scope [t] [e] = true)
    (hr : ∀ e st, run e st = bnd (ra e st) fun x st => match snap st x with
      | some x => if isStrm x then .err else ret (.d (.bl ([t].any (isTy x)))) st
      | none => .err) : PE X (.Call (.Name "isinstance" p) [a, e] [] pos) (tE cs G Wx run) := by
  have hst2 : notStar e = true := by
    cases e <;> first | rfl | (unfold chkTys at hc; cases hc)
  have hok : tyOk t = true := by
    cases e <;> first | (unfold chkTys at hc; cases hc; done) | (simp only [chkTys, Bool.and_eq_true] at hc; exact hc.1.1.1)
  refine PE.imp (pe_callB call_isi hg hi boot_isinstance (pa_cons ha (pa_tys hm hc) (star_cons hst)) (by decide) (by decide) (star_cons hst) (star_plain (by simp [hst2]))) fun σ H Q ⟨W, e', st, b, R, V, g⟩ => ?_
  rw [hr, EG_bnd] at g
  refine ⟨W, e', st, b, R, V, g.mono (fun x s b g W1 H1 v x1 R1 r1 => ?_) fun _ _ _ _ q => q⟩
  split at g
  · rename_i dx ex
    split at g
    · exact g.elim
    · rename_i hs
      obtain ⟨n, ty, k⟩ := tyx_of (K := X.K) (snap_VT R1 r1 ex) (fun z => hs (by rw [z]; rfl))
      refine ⟨v, .ty (tyName t), .type n, .type (tyName t), isTy dx t, rfl, ?_, ty, kit_ty (k t hok), ?_⟩
      · exact .ty _
      · have q := g W1 H1 _ x1 R1 VlR_bl
        simpa using q
  · exact g.elim
theorem clsV_all : ∀ ts : List Ty, Paired ClsV (ts.map fun t => V.ty (tyName t)) (ts.map fun t => Value.type (tyName t))
  | [] => .nil
  | t :: ts => .cons (.ty _) (clsV_all ts)
theorem chkTys_ok {sc : Scope} : ∀ {ts : List Ty} {es : List Expr}, chkTys sc ts es = true → ts.all tyOk = true ∧ es.all notStar = true
  | [], [], _ => ⟨rfl, rfl⟩
  | [], _ :: _, h => by unfold chkTys at h; cases h
  | t :: ts, [], h => by unfold chkTys at h; cases h
  | t :: ts, e :: es, h => by
    cases e <;> try (unfold chkTys at h; cases h; done)
    simp only [chkTys, Bool.and_eq_true, beq_iff_eq] at h
    obtain ⟨i1, i2⟩ := chkTys_ok h.2
    rw [List.all_cons, List.all_cons, h.1.1.1, i1, i2]
    exact ⟨rfl, rfl⟩
theorem isi_many (hm : ∀ t, tyOk t = true → X.mg (tyStr t) = none) (hi : X.mg "isinstance" = none) {a : Expr} {es : List Expr} {ts : List Ty} {k : Nat} {p tpos pos : Pos} {ra run : Env → Store → E Vl} (ha : PE X a (tE cs G Wx ra)) (hst : notStar a = true) (hg : Gl X "isinstance") (hc : chkTys X.env.scope ts es = true) (hl : ts.length ≤ 100)
    (hr : ∀ e st, run e st = bnd (ra e st) fun x st => match snap st x with
      | some x => if isStrm x then .err else ret (.d (.bl (ts.any (isTy x)))) st
      | none => .err) : PE X (.Call (.Name "isinstance" p) [a, .Tuple es k tpos] [] pos) (tE cs G Wx run) := by
  obtain ⟨hok, hes⟩ := chkTys_ok hc
  refine PE.imp (pe_callB call_isiT hg hi boot_isinstance (pa_cons ha (pa_cons (pe_tup (pa_tys hm hc)) pa_nil) (star_cons hst)) (by decide) (by decide) (star_cons hst) (star_plain rfl)) fun σ H Q ⟨W, e', st, b, R, V, g⟩ => ?_
  rw [hr, EG_bnd] at g
  refine ⟨W, e', st, b, R, V, g.mono (fun x s b g W1 H1 v x1 R1 r1 => ?_) fun _ _ _ _ q => q⟩
  split at g
  · rename_i dx ex
    split at g
    · exact g.elim
    · rename_i hs
      refine ⟨by rw [List.length_map]; exact Nat.le_trans hl (Nat.le_trans (by decide) million), fun tp htp => ?_⟩
      obtain ⟨n, ty, kk⟩ := tyx_of (K := X.K) (snap_VT R1 r1 ex) (fun z => hs (by rw [z]; rfl))
      obtain ⟨n', ty', kk'⟩ := tyx_of (K := X.K) (snap_VT (R1.new (u := .tup (ts.map fun t => L2.V.ty (tyName t))) htp) (r1.ext (ext_new htp)) ex) (fun z => hs (by rw [z]; rfl))
      exact ⟨v, tp, _, .type n', _, ts.any (isTy dx), rfl, upd_same, clsV_all ts, ty', kitAny_of kk' hok, g W1 _ _ (x1.trans (ext_new htp)) (R1.new htp) VlR_bl⟩
  · exact g.elim
/-! ### built-ins by their values -/
def rBi (G : Gd) (f : List Vl → Store → E Vl) : List V → Hp → VK → Prop := fun us H Q => ∃ W st n vs, Rel G W st n H ∧ VlRs G W H vs us ∧ EG (KV' G W H Q) (fun _ _ _ _ => False) (f vs st) n
theorem pe_callBE {f : Value} (rule : CallR X f (rBi G run0)) {x : Str} {p pos : Pos} {a : Expr} {es : List Expr} {rs run : Env → Store → E Vl}
    (mk : ∀ {t : TA}, PA X (a :: es) t → PE X (.Call (.Name x p) (a :: es) [] pos) (tCB (rBi G run0) t)) (hs : PA X (a :: es) (tA cs G Wx rs)) (hx : ∀ vs st n K Kx, EG K Kx (run0 vs st) n → EG K (fun _ _ _ _ => False) (run0 vs st) n)
    (hr : ∀ e st, run e st = bnd (rs e st) fun vs st => match vs with
      | .its vs => run0 vs st
      | _ => .err) : PE X (.Call (.Name x p) (a :: es) [] pos) (tE cs G Wx run) := by
  refine PE.imp (mk hs) fun σ H Q ⟨W, e', st, b, R, V, g⟩ => ?_
  rw [hr, EG_bnd] at g
  refine ⟨W, e', st, b, R, V, g.mono (fun x s b g => ?_) fun _ _ _ _ q => q⟩
  cases x <;> first
    | exact g.elim
    | skip
  rename_i vs
  refine ⟨vs, rfl, fun W1 H1 us x1 R1 r1 => ⟨W1, s, b, vs, R1, r1, ?_⟩⟩
  exact (hx _ _ _ _ _ g).mono (fun a s b q => q.mono x1) fun _ _ _ _ q => q
end
end EV

end
section
set_option Elab.async false
set_option linter.all false
set_option maxRecDepth 100000
set_option maxHeartbeats 4000000
/-! EV 9: built-ins. -/
namespace EV
open PySem PySem.Spec PyProof.Rows L2
section
variable {cs : List ErrC} {G : Gd} {Wx : WX} {X : Cx}
theorem CallR.weak {f : Value} {r r' : List V → Hp → VK → Prop} (h : CallR X f r) (i : ∀ xs H Q, r' xs H Q → r xs H Q) : CallR X f r' :=
  fun pins s σ H xs us Q I rv q => h pins s σ H xs us Q I rv (i xs H Q q)
/-- no own error comes out of it -/
def NoX (f : List Vl → Store → E Vl) : Prop := ∀ vs st n K Kx, EG K Kx (f vs st) n → EG K (fun _ _ _ _ => False) (f vs st) n
theorem noX_lift {o : Option Vl} {s : Store} {n : Nat} {K : Vl → Store → Nat → Prop} {Kx Kx' : Nat → List D → Store → Nat → Prop} (h : EG K Kx (lift o s) n) : EG K Kx' (lift o s) n := by
  rw [EG_lift] at h ⊢; exact h
theorem noX_listm {v : Vl} {s : Store} {n : Nat} {K : Vl → Store → Nat → Prop} {Kx Kx' : Nat → List D → Store → Nat → Prop} (h : EG K Kx (listmE v s) n) : EG K Kx' (listmE v s) n := by
  unfold listmE at h ⊢
  cases e : (itemsOf s v).bind dats with
  | none => rw [e] at h; exact h
  | some l => rw [e] at h; exact h
theorem noX_bi (b : Bi) : NoX (biE b) := fun vs st n K Kx h => by
  unfold biE at h ⊢
  split at h <;> first | exact noX_lift h | exact noX_listm h | exact h
theorem one_of {W : Wd} {H : Hp} {a : Vl} {us : List V} (r : VlRs G W H [a] us) : ∃ u, us = [u] ∧ VlR G W H a u := by
  cases r with
  | cons r t => cases t; exact ⟨_, rfl, r⟩
theorem bl_all : ∀ {xs : List Vl} {us : List V} {W : Wd} {H : Hp} {t : Bool}, VlRs G W H xs us → allB xs = some t → ∃ bs : List Bool, us = bs.map V.bl ∧ t = bs.all id
  | [], _, _, _, _, .nil, h => by cases h; exact ⟨[], rfl, rfl⟩
  | x :: xs, _, W, H, t, .cons r q, h => by
    cases x with
    | d d =>
      cases d <;> simp only [allB, reduceCtorEq] at h
      case bl b =>
        obtain ⟨t', e, rfl⟩ := Option.map_eq_some_iff.mp h
        obtain ⟨bs, rfl, rfl⟩ := bl_all q e
        have ev := by unfold VlR VR at r; exact r
        rw [ev]
        exact ⟨b :: bs, rfl, by simp⟩
    | _ => simp only [allB, reduceCtorEq] at h
theorem bl_any : ∀ {xs : List Vl} {us : List V} {W : Wd} {H : Hp} {t : Bool}, VlRs G W H xs us → anyB xs = some t → ∃ bs : List Bool, us = bs.map V.bl ∧ t = bs.any id
  | [], _, _, _, _, .nil, h => by cases h; exact ⟨[], rfl, rfl⟩
  | x :: xs, _, W, H, t, .cons r q, h => by
    cases x with
    | d d =>
      cases d <;> simp only [anyB, reduceCtorEq] at h
      case bl b =>
        obtain ⟨t', e, rfl⟩ := Option.map_eq_some_iff.mp h
        obtain ⟨bs, rfl, rfl⟩ := bl_any q e
        have ev := by unfold VlR VR at r; exact r
        rw [ev]
        exact ⟨b :: bs, rfl, by simp⟩
    | _ => simp only [anyB, reduceCtorEq] at h
theorem ints_of : ∀ {xs : List D} {us : List V} {A : Addr → Prop} {H : Hp} {ns : List Int}, VRs G A H xs us → intsOf xs = some ns → us = ns.map V.int
  | [], _, _, _, _, r, h => by unfold VRs at r; cases h; rw [r]; rfl
  | x :: xs, _, _, _, _, r, h => by
    unfold VRs at r
    obtain ⟨w, ws, rfl, r1, r2⟩ := r
    cases x <;> simp only [intsOf, reduceCtorEq] at h
    case int i =>
      obtain ⟨ns, e, rfl⟩ := Option.map_eq_some_iff.mp h
      have ev : w = .int i := by unfold VR at r1; exact r1
      rw [ev, ints_of r2 e]; rfl
theorem VRs_ints {A : Addr → Prop} {H : Hp} : ∀ ns : List Int, VRs G A H (ns.map D.int) (ns.map V.int)
  | [] => VRs.nil
  | n :: ns => VRs.cons VR.int (VRs_ints ns)
theorem insI_perm (x : Int) : ∀ l : List Int, (insI x l).Perm (x :: l)
  | [] => .refl _
  | y :: ys => by
    unfold insI
    split
    · exact .refl _
    · exact ((insI_perm x ys).cons y).trans (List.Perm.swap x y ys)
theorem sortI_perm : ∀ l : List Int, (sortI l).Perm l
  | [] => .refl _
  | x :: xs => by
    unfold sortI
    exact (insI_perm x _).trans ((sortI_perm xs).cons x)
theorem insI_sorted (x : Int) : ∀ l : List Int, l.Pairwise (· ≤ ·) → (insI x l).Pairwise (· ≤ ·)
  | [], _ => by unfold insI; simp
  | y :: ys, h => by
    unfold insI
    rw [List.pairwise_cons] at h
    split
    · rename_i hxy
      rw [List.pairwise_cons]
      refine ⟨fun z hz => ?_, List.pairwise_cons.mpr h⟩
      rcases List.mem_cons.mp hz with rfl | hz
      · exact hxy
      · exact Int.le_trans hxy (h.1 z hz)
    · rename_i hxy
      rw [List.pairwise_cons]
      refine ⟨fun z hz => ?_, insI_sorted x ys h.2⟩
      rcases List.mem_cons.mp ((insI_perm x ys).mem_iff.mp hz) with rfl | hz
      · omega
      · exact h.1 z hz
theorem sortI_sorted : ∀ l : List Int, (sortI l).Pairwise (· ≤ ·)
  | [] => .nil
  | x :: xs => by unfold sortI; exact insI_sorted x _ (sortI_sorted xs)
theorem sorted_uniq : ∀ {a b : List Int}, a.Perm b → a.Pairwise (· ≤ ·) → b.Pairwise (· ≤ ·) → a = b
  | [], b, p, _, _ => by rw [List.nil_perm.mp p]
  | x :: xs, [], p, _, _ => by have := p.length_eq; simp at this
  | x :: xs, y :: ys, p, h1, h2 => by
    rw [List.pairwise_cons] at h1 h2
    have hx : x ≤ y := by
      rcases List.mem_cons.mp (p.mem_iff.mpr List.mem_cons_self) with e | e
      · omega
      · exact h1.1 y e
    have hy : y ≤ x := by
      rcases List.mem_cons.mp (p.mem_iff.mp (List.mem_cons_self (a := x) (l := xs))) with e | e
      · omega
      · exact h2.1 x e
    have e : x = y := by omega
    subst e
    rw [sorted_uniq p.cons_inv h1.2 h2.2]

theorem cr_len : CallR X (.builtin "len") (rBi G (biE .len)) := by
  have hd : CallR X (.builtin "len") (fun xs H Q => ∃ d kvs, xs = [.ref d] ∧ H d = some (.dK kvs) ∧ Q (.int kvs.length) H) := by
    refine CallR.weak call_lenD fun xs H Q h => ?_
    obtain ⟨d, kvs, rfl, h1, q⟩ := h
    exact ⟨d, kvs, rfl, h1, q⟩
  refine CallR.weak (CallR.or call_len_seq (CallR.or call_len_str hd)) fun xs H Q h => ?_
  obtain ⟨W, st, n, vs, R, r, g⟩ := h
  unfold biE at g
  split at g <;> try (rename_i h; cases h; done)
  all_goals try (exact g.elim)
  rename_i b vs' v hb
  rw [EG_lift] at g
  obtain ⟨a, ea, q⟩ := g
  obtain ⟨l, el, rfl⟩ := Option.map_eq_some_iff.mp ea
  obtain ⟨u, rfl, r1⟩ := one_of r
  unfold lenOf at el
  split at el
  · rename_i s'
    split at el
    · rename_i hz
      cases el
      have ev : u = .str (sOf s') := by unfold VlR VR at r1; exact r1
      subst ev
      refine .inr (.inl ⟨_, rfl, by rw [sOf_len]; exact Nat.le_trans hz million, ?_⟩)
      rw [sOf_len]
      exact q W H _ .refl R VlR_int
    · cases el
  · obtain ⟨ys, ey, rfl⟩ := Option.map_eq_some_iff.mp el
    rcases items_at R r1 ey with ⟨p, us, rfl, h1, h2⟩ | ⟨p, us, rfl, h1, h2⟩ | ⟨p, kvs, ks, rfl, h1, rfl, h2⟩
    · refine .inl ⟨p, us, rfl, .inl (SqL.of h1), ?_⟩
      rw [← Paired.length h2]
      exact q W H _ .refl R VlR_int
    · refine .inl ⟨p, us, rfl, .inr (SqT.of h1), ?_⟩
      rw [← Paired.length h2]
      exact q W H _ .refl R VlR_int
    · refine .inr (.inr ⟨p, kvs, rfl, h1, ?_⟩)
      rw [← h2.length]
      have := q W H _ .refl R VlR_int
      simpa using this
theorem lst_at {W : Wd} {st : Store} {b : Nat} {H : Hp} (R : Rel G W st b H) {a : Vl} {v : V} {xs : List Vl} (r : VlR G W H a v) (h : lstOf st a = some xs) : ∃ p us, v = .ref p ∧ H p = some (.lst us) ∧ VlRs G W H xs us := by
  cases a with
  | d d =>
    cases d <;> simp only [lstOf, reduceCtorEq] at h
    case lst ds =>
      cases h
      unfold VlR VR at r
      obtain ⟨p, us, rfl, h1, _, h2⟩ := r
      exact ⟨p, us, rfl, h1, VlRs_of h2⟩
  | ref i =>
    simp only [lstOf] at h
    split at h
    · rename_i ys z
      cases h
      obtain ⟨p, rfl, _, us, h1, h2⟩ := ref_cell R r z
      exact ⟨p, us, rfl, h1, h2⟩
    · cases h
  | thk => cases h
  | its ys => cases h
  | exn c fs => cases h
  | h x => cases h
  | hr i x => cases h
theorem seq_at {W : Wd} {st : Store} {b : Nat} {H : Hp} (R : Rel G W st b H) {a : Vl} {v : V} {xs : List Vl} (r : VlR G W H a v) (h : seqOf st a = some xs) :
    (∃ p us, v = .ref p ∧ H p = some (.lst us) ∧ VlRs G W H xs us) ∨ (∃ p us ds, v = .ref p ∧ H p = some (.tup us) ∧ xs = ds.map .d ∧ VRs G (Av G W) H ds us ∧ a = .d (.tup ds)) := by
  unfold seqOf at h
  split at h
  · rename_i ds
    cases h
    unfold VlR VR at r
    obtain ⟨p, us, rfl, h1, _, h2⟩ := r
    exact .inr ⟨p, us, ds, rfl, h1, rfl, h2, rfl⟩
  · exact .inl (lst_at R r h)
theorem cr_all (hc : X.calm = true) : CallR X (.builtin "all") (rBi G (biE .all)) := by
  refine CallR.weak (L2.cr_all hc) fun xs H Q h => ?_
  obtain ⟨W, st, n, vs, R, r, g⟩ := h
  unfold biE at g
  split at g <;> try (rename_i h; cases h; done)
  all_goals try (exact g.elim)
  rename_i b vs' v hb
  rw [EG_lift] at g
  obtain ⟨a, ea, q⟩ := g
  obtain ⟨t, et, rfl⟩ := Option.map_eq_some_iff.mp ea
  obtain ⟨ys, ey, et⟩ := Option.bind_eq_some_iff.mp et
  obtain ⟨u, rfl, r1⟩ := one_of r
  obtain ⟨p, us, rfl, h1, h2⟩ := lst_at R r1 ey
  obtain ⟨bs, rfl, rfl⟩ := bl_all h2 et
  exact ⟨p, bs, rfl, SqL.of h1, q W H _ .refl R VlR_bl⟩
theorem cr_any (hc : X.calm = true) : CallR X (.builtin "any") (rBi G (biE .any)) := by
  refine CallR.weak (L2.cr_any hc) fun xs H Q h => ?_
  obtain ⟨W, st, n, vs, R, r, g⟩ := h
  unfold biE at g
  split at g <;> try (rename_i h; cases h; done)
  all_goals try (exact g.elim)
  rename_i b vs' v hb
  rw [EG_lift] at g
  obtain ⟨a, ea, q⟩ := g
  obtain ⟨t, et, rfl⟩ := Option.map_eq_some_iff.mp ea
  obtain ⟨ys, ey, et⟩ := Option.bind_eq_some_iff.mp et
  obtain ⟨u, rfl, r1⟩ := one_of r
  obtain ⟨p, us, rfl, h1, h2⟩ := lst_at R r1 ey
  obtain ⟨bs, rfl, rfl⟩ := bl_any h2 et
  exact ⟨p, bs, rfl, SqL.of h1, q W H _ .refl R VlR_bl⟩
def pairAt (H : Hp) : V → Int × Int
  | .ref t => match H t with
    | some (.tup [.int i, .int j]) => (i, j)
    | _ => (0, 0)
  | _ => (0, 0)
theorem pairs_at {A : Addr → Prop} {H : Hp} : ∀ {ds : List D} {us : List V} {l : List (Int × Int)}, VRs G A H ds us → pairsOf ds = some l → us.map (pairAt H) = l ∧ ∀ x ∈ us, ∃ t, x = V.ref t ∧ H t = some (.tup [.int (pairAt H x).1, .int (pairAt H x).2])
  | [], us, l, r, h => by
    unfold VRs at r; cases h; subst r
    exact ⟨rfl, fun x hx => by cases hx⟩
  | d :: ds, us, l, r, h => by
    unfold VRs at r
    obtain ⟨w, ws, rfl, r1, r2⟩ := r
    unfold pairsOf at h
    split at h
    · rename_i he; cases he
    · rename_i i j r' he
      cases he
      obtain ⟨l', e, rfl⟩ := Option.map_eq_some_iff.mp h
      obtain ⟨h1, h2⟩ := pairs_at r2 e
      unfold VR at r1
      obtain ⟨p, vs, rfl, hp, _, r3⟩ := r1
      unfold VRs at r3
      obtain ⟨w1, ws1, rfl, q1, r3⟩ := r3
      unfold VRs at r3
      obtain ⟨w2, ws2, rfl, q2, r3⟩ := r3
      unfold VRs at r3
      unfold VR at q1 q2
      subst r3 q1 q2
      have ep : pairAt H (.ref p) = (i, j) := by unfold pairAt; dsimp only; rw [hp]
      refine ⟨by rw [List.map_cons, h1, ep], fun x hx => ?_⟩
      rcases List.mem_cons.mp hx with rfl | hx
      · exact ⟨p, rfl, by rw [ep]; exact hp⟩
      · exact h2 x hx
    · cases h
theorem leP_no {p q : Int × Int} (h : leP p q = true) : SrtO.lexB q p = false := by
  refine SrtO.lexB_no.mpr ?_
  unfold leP at h
  split at h
  · rename_i e
    rw [decide_eq_true_eq] at h
    omega
  · rename_i e
    rw [decide_eq_true_eq] at h
    omega
theorem asc_srtd {k : V → Int × Int} : ∀ {us : List V}, ascP (us.map k) = true → SrtO.Srtd (ltP k) us
  | [], _ => .nil
  | u :: us, h => by
    rw [List.map_cons] at h
    unfold ascP at h
    rw [Bool.and_eq_true, List.all_eq_true] at h
    refine List.pairwise_cons.mpr ⟨fun y hy => leP_no (h.1 _ (List.mem_map.mpr ⟨y, hy, rfl⟩)), asc_srtd h.2⟩
theorem cr_sorted : CallR X (.builtin "sorted") (rBi G (biE .sorted)) := by
  refine CallR.weak (CallR.or L2.cr_sorted cr_sortedPO) fun xs H Q h => ?_
  obtain ⟨W, st, n, vs, R, r, g⟩ := h
  unfold biE at g
  split at g <;> try (rename_i h; cases h; done)
  all_goals try (exact g.elim)
  rename_i b vs' v hb
  rw [EG_lift] at g
  obtain ⟨a, ea, q⟩ := g
  obtain ⟨l, el, rfl⟩ := Option.map_eq_some_iff.mp ea
  obtain ⟨ds, ed, es⟩ := Option.bind_eq_some_iff.mp el
  obtain ⟨ys, ey, ed⟩ := Option.bind_eq_some_iff.mp ed
  obtain ⟨u, rfl, r1⟩ := one_of r
  obtain ⟨p, us, rfl, h1, h2⟩ := lst_at R r1 ey
  have e1 := dats_mem ed
  subst e1
  have h2' := VlRs_d h2
  unfold sortD at es
  split at es
  · rename_i l0 ei
    split at es
    · rename_i hl
      cases es
      have e2 := ints_of h2' ei
      subst e2
      refine .inl ⟨p, l0, rfl, SqL.of h1, hl, fun ns' p' hp hs hn => ?_⟩
      have e3 : ns' = sortI l0 := sorted_uniq (hp.trans (sortI_perm l0).symm) hs (sortI_sorted l0)
      subst e3
      exact q W _ _ (ext_new hn) (R.new hn) (VR.newL R hn (VRs_ints _))
    · cases es
  · split at es
    · rename_i l0 ep
      split at es
      · rename_i ha
        cases es
        obtain ⟨k1, k2⟩ := pairs_at h2' ep
        refine .inr ⟨p, us, pairAt H, rfl, SqL.of h1, k2, fun zs p' s1 s2 hn => ?_⟩
        have e3 : zs = us := SrtO.stb_uniq (ltP_swo _) s1 (asc_srtd (by rw [k1]; exact ha)) s2
        subst e3
        exact q W _ _ (ext_new hn) (R.new hn) (VR.newL R hn h2')
      · cases es
    · cases es
theorem cr_tuple : CallR X (.type "tuple") (rBi G (biE .tuple)) := by
  refine CallR.weak call_tuple_of fun xs H Q h => ?_
  obtain ⟨W, st, n, vs, R, r, g⟩ := h
  unfold biE at g
  split at g <;> try (rename_i h; cases h; done)
  all_goals try (exact g.elim)
  rename_i b vs' v hb
  rw [EG_lift] at g
  obtain ⟨a, ea, q⟩ := g
  obtain ⟨l, el, rfl⟩ := Option.map_eq_some_iff.mp ea
  obtain ⟨ys, ey, ed⟩ := Option.bind_eq_some_iff.mp el
  obtain ⟨u, rfl, r1⟩ := one_of r
  have e1 := dats_mem ed
  subst e1
  rcases seq_at R r1 ey with ⟨p, us, rfl, h1, h2⟩ | ⟨p, us, ds, rfl, h1, e2, h2, rfl⟩
  · exact ⟨p, us, rfl, .inl ⟨SqL.of h1, fun a ha => q W _ _ (ext_new ha) (R.new ha) (VR.newT R ha (VlRs_d h2))⟩⟩
  · have e3 : l = ds := by
      have := congrArg dats e2
      have dm : ∀ z : List D, dats (z.map .d) = some z := fun z => by induction z with
        | nil => rfl
        | cons a z ih => simp [dats, ih]
      rw [dm, dm] at this
      exact Option.some.inj this
    subst e3
    exact ⟨p, us, rfl, .inr ⟨SqT.of h1, q W H _ .refl R r1⟩⟩
theorem dats_d : ∀ z : List D, dats (z.map .d) = some z
  | [] => rfl
  | a :: z => by simp [dats, dats_d z]
theorem keys_V {A : Addr → Prop} {H : Hp} : ∀ {ks : List D} {kvs : List (Key × V)}, KeysOk ks kvs → VRs G A H ks (kvs.map fun kv => kV kv.1)
  | [], [], _ => VRs.nil
  | [], _ :: _, h => False.elim h
  | _ :: _, [], h => False.elim h
  | k :: ks, p :: kvs, h => by
    refine VRs.cons ?_ (keys_V h.2)
    have h1 := h.1
    cases k <;> simp only [keyOf, reduceCtorEq] at h1
    case int i =>
      have := Option.some.inj h1
      show VR G A H (.int i) (kV p.1)
      rw [← this]; exact VR.int
    case str s =>
      have := Option.some.inj h1
      show VR G A H (.str s) (kV p.1)
      rw [← this]; exact VR.str
theorem cr_list (hc : X.calm = true) : CallR X (.type "list") (rBi G (biE .list)) := by
  refine CallR.weak (CallR.or call_list_of (call_list_dK hc)) fun xs H Q h => ?_
  obtain ⟨W, st, n, vs, R, r, g⟩ := h
  unfold biE at g
  split at g <;> try (rename_i h; cases h; done)
  all_goals try (exact g.elim)
  rename_i b vs' v hb
  rw [EG_lift] at g
  obtain ⟨a, ea, q⟩ := g
  obtain ⟨l, el, rfl⟩ := Option.map_eq_some_iff.mp ea
  obtain ⟨ys, ey, ed⟩ := Option.bind_eq_some_iff.mp el
  obtain ⟨u, rfl, r1⟩ := one_of r
  have e1 := dats_mem ed
  subst e1
  rcases items_at R r1 ey with ⟨p, us, rfl, h1, h2⟩ | ⟨p, us, rfl, h1, h2⟩ | ⟨p, kvs, ks, rfl, h1, e2, h2⟩
  · exact .inl ⟨p, us, rfl, .inl (SqL.of h1), fun a ha => q W _ _ (ext_new ha) (R.new ha) (VR.newL R ha (VlRs_d h2))⟩
  · exact .inl ⟨p, us, rfl, .inr (SqT.of h1), fun a ha => q W _ _ (ext_new ha) (R.new ha) (VR.newL R ha (VlRs_d h2))⟩
  · have e3 := congrArg dats e2
    rw [dats_d, dats_d] at e3
    cases e3
    exact .inr ⟨p, kvs, rfl, h1, fun a ha => q W _ _ (ext_new ha) (R.new ha) (VR.newL R ha (keys_V h2))⟩
/-! ### repr -/
theorem log_small {n : Nat} (h : n < 10 ^ 12) : n.log2 < 40 := by
  by_cases h0 : n = 0
  · subst h0; decide
  · exact (Nat.log2_lt h0).mpr (Nat.lt_of_lt_of_le h (by decide))
mutual
theorem rpI_py : ∀ d : D, rpI d = true → (toPy d).showable = true ∧ (toPy d).intsShort 13 = true ∧ (toPy d).weight ≤ rpW d
  | .non, _ => by simp [toPy, PyData.showable, PyData.intsShort, PyData.weight]
  | .bl _, _ => by simp [toPy, PyData.showable, PyData.intsShort, PyData.weight]
  | .int i, h => by
    have h' : i.natAbs < 10 ^ 12 := by simpa [rpI] using h
    have hl := log_small h'
    refine ⟨?_, ?_, ?_⟩
    · simp only [toPy, PyData.showable, decide_eq_true_eq]; omega
    · simp only [toPy, PyData.intsShort, decide_eq_true_eq]; exact PyData.shown_int_le h'
    · simp only [toPy, PyData.weight, rpW]; split <;> omega
  | .str s, _ => by
    refine ⟨by simp [toPy, PyData.showable], by simp [toPy, PyData.intsShort], ?_⟩
    simp only [toPy, PyData.weight, rpW, sOf, List.size_toArray, Nat.le_refl]
  | .tup xs, h => by
    have := rpIs_py xs (by simpa [rpI] using h)
    simp only [toPy, PyData.showable, PyData.intsShort, PyData.weight, rpW]
    exact this
  | .lst xs, h => by
    have := rpIs_py xs (by simpa [rpI] using h)
    simp only [toPy, PyData.showable, PyData.intsShort, PyData.weight, rpW]
    exact this
  | .dct _ _, h => by simp [rpI] at h
  | .ins _ _, h => by simp [rpI] at h
  | .fn _, h => by simp [rpI] at h
  | .strm, h => by simp [rpI] at h
  | .rp _, h => by simp [rpI] at h
theorem rpIs_py : ∀ ds : List D, rpIs ds = true → PyData.showableAll (toPys ds) = true ∧ PyData.intsShortAll 13 (toPys ds) = true ∧ PyData.weightAll (toPys ds) ≤ rpWs ds
  | [], _ => by simp [toPys, PyData.showableAll, PyData.intsShortAll, PyData.weightAll]
  | d :: ds, h => by
    have h' : rpI d = true ∧ rpIs ds = true := by simpa [rpIs] using h
    obtain ⟨a1, a2, a3⟩ := rpI_py d h'.1
    obtain ⟨b1, b2, b3⟩ := rpIs_py ds h'.2
    simp only [toPys, PyData.showableAll, PyData.intsShortAll, PyData.weightAll, rpWs, a1, a2, b1, b2, Bool.and_self]
    exact ⟨trivial, trivial, by omega⟩
end
theorem cr_repr (hg : X.A.guards = some []) (hu : X.A.units + 64 < cLine) : CallR X (.builtin "repr") (rBi G (biE .repr)) := by
  intro pins s σ H xs us Q I rv h
  obtain ⟨W, st, n, vs, R, r, g⟩ := h
  unfold biE at g
  split at g <;> try (rename_i h; cases h; done)
  all_goals try (exact g.elim)
  rename_i b vs' v hb
  rw [EG_lift] at g
  obtain ⟨a, ea, q⟩ := g
  obtain ⟨l, el, rfl⟩ := Option.map_eq_some_iff.mp ea
  obtain ⟨d, ed, er⟩ := Option.bind_eq_some_iff.mp el
  obtain ⟨u, rfl, r1⟩ := one_of r
  obtain ⟨w, rfl, ru⟩ := vals1 rv
  have hv := snap_VT R r1 ed
  unfold rpD at er
  split at er
  · rename_i c
    cases er
    rw [Bool.and_eq_true, Bool.and_eq_true, Bool.and_eq_true, decide_eq_true_eq] at c
    obtain ⟨⟨⟨c0, c1⟩, c2⟩, c3⟩ := c
    obtain ⟨p1, p2, p3⟩ := rpI_py d c2
    obtain ⟨k1, k2⟩ := ok_py d 62 c1
    obtain ⟨as, hr⟩ := Dp.reads I _ _ _ (VT.dp (K := X.K) (okB_mono d 62 64 (by decide) c1) hv) ru
    have href : ∃ p, u = .ref p := by
      cases d <;> simp only [isSeq, Bool.false_eq_true] at c0
      case tup ds =>
        obtain ⟨p, _, e, _⟩ := hv.ref_tup
        exact ⟨p, e⟩
      case lst ds =>
        obtain ⟨p, _, e, _⟩ := hv
        exact ⟨p, e⟩
    obtain ⟨p, rfl⟩ := href
    obtain rfl : w = Value.ref p := ru
    have hz : (toPy d).shown.length ≤ sizeLine := PyData.shown_fits (B := 13) (by decide) (by decide) (PyData.leavesShort_of_canLay0 13 _ k1 p2) (Nat.le_trans p3 c3)
    refine repr_of_reads' hr p1 (PyData.noDict_hsm (PyData.hasDict_of_canLay _ k1)) hg (by omega) (fun _ _ e => e) (fun h' u tk kp => ?_) hz
    exact ⟨.str _, H, I.kept kp, ⟨_, rfl⟩, q W H _ .refl R (by unfold VlR VR; rfl)⟩
  · cases er
theorem cr_listm (hc : X.calm = true) : CallR X (.type "list") (rBi G (biE .listm)) := by
  refine CallR.weak (CallR.or call_list_of (call_list_dK hc)) fun xs H Q h => ?_
  obtain ⟨W, st, n, vs, R, r, g⟩ := h
  unfold biE at g
  split at g <;> try (rename_i h; cases h; done)
  all_goals try (exact g.elim)
  rename_i b vs' v hb
  unfold listmE at g
  split at g
  · rename_i l el
    obtain ⟨ys, ey, ed⟩ := Option.bind_eq_some_iff.mp el
    obtain ⟨u, rfl, r1⟩ := one_of r
    have e1 := dats_mem ed
    subst e1
    have fin : ∀ us, VRs G (Av G W) H l us → ∀ a, H a = none → Q (.ref a) (upd H a (.lst us)) := fun us r2 a ha => by
      obtain ⟨y, R', rv⟩ := new_cell (u := .lst us) R ha (c := .lst (l.map .d)) fun W2 x2 => ⟨us, upd_same, (VlRs_of r2).ext x2⟩
      exact g _ _ _ y R' rv
    rcases items_at R r1 ey with ⟨p, us, rfl, h1, h2⟩ | ⟨p, us, rfl, h1, h2⟩ | ⟨p, kvs, ks, rfl, h1, e2, h2⟩
    · exact .inl ⟨p, us, rfl, .inl (SqL.of h1), fin us (VlRs_d h2)⟩
    · exact .inl ⟨p, us, rfl, .inr (SqT.of h1), fin us (VlRs_d h2)⟩
    · have e3 := congrArg dats e2
      rw [dats_d, dats_d] at e3
      cases e3
      exact .inr ⟨p, kvs, rfl, h1, fin _ (keys_V h2)⟩
  · exact g.elim
theorem cr_int : CallR X (.type "int") (rBi G (biE .int)) := by
  refine CallR.weak call_int1 fun xs H Q h => ?_
  obtain ⟨W, st, n, vs, R, r, g⟩ := h
  unfold biE at g
  split at g <;> try (rename_i h; cases h; done)
  all_goals try (exact g.elim)
  · rename_i i hb
    obtain ⟨u, rfl, r1⟩ := one_of r
    have ev := by unfold VlR VR at r1; exact r1
    subst ev
    exact .inl ⟨i, rfl, g W H _ .refl R VlR_int⟩
  · rename_i i hb
    obtain ⟨u, rfl, r1⟩ := one_of r
    have ev := by unfold VlR VR at r1; exact r1
    subst ev
    exact .inr ⟨i, rfl, g W H _ .refl R VlR_int⟩

/-! ### abs, gcd, max, min; list(d.items()) -/
theorem cr_absE : CallR X (.builtin "abs") (rBi G (biE .abs)) := by
  refine CallR.weak call_abs fun xs H Q h => ?_
  obtain ⟨W, st, n, vs, R, r, g⟩ := h
  unfold biE at g
  split at g <;> try (rename_i h; cases h; done)
  all_goals try (exact g.elim)
  rename_i b vs' i hb
  obtain ⟨u, rfl, r1⟩ := one_of r
  have ev : u = .int i := by unfold VlR VR at r1; exact r1
  subst ev
  exact ⟨i, rfl, g W H _ .refl R VlR_int⟩
theorem cr_gcdE : CallR X (.builtin "math.gcd") (rBi G (biE .gcd)) := by
  refine CallR.weak cr_gcd fun xs H Q h => ?_
  obtain ⟨W, st, n, vs, R, r, g⟩ := h
  unfold biE at g
  split at g <;> try (rename_i h; cases h; done)
  all_goals try (exact g.elim)
  rename_i b vs' i j hb
  cases r with
  | cons r1 r =>
    obtain ⟨u, rfl, r2⟩ := one_of r
    unfold VlR VR at r1 r2
    subst r1 r2
    exact ⟨i, j, rfl, g W H _ .refl R VlR_int⟩
theorem foldl_max (l : List Int) : ∀ x : Int, (l.foldl max x ∈ x :: l) ∧ ∀ y ∈ x :: l, y ≤ l.foldl max x := by
  induction l with
  | nil => intro x; exact ⟨List.mem_cons_self, fun y hy => by rcases List.mem_cons.mp hy with rfl | h; exact Int.le_refl _; cases h⟩
  | cons a l ih =>
    intro x
    obtain ⟨h1, h2⟩ := ih (max x a)
    rw [List.foldl_cons]
    refine ⟨?_, fun y hy => ?_⟩
    · rcases List.mem_cons.mp h1 with e | e
      · rw [e]
        rcases Int.le_total x a with c | c
        · rw [Int.max_eq_right c]; exact List.mem_cons_of_mem _ List.mem_cons_self
        · rw [Int.max_eq_left c]; exact List.mem_cons_self
      · exact List.mem_cons_of_mem _ (List.mem_cons_of_mem _ e)
    · have h3 := h2 (max x a) List.mem_cons_self
      rcases List.mem_cons.mp hy with rfl | hy
      · omega
      · rcases List.mem_cons.mp hy with rfl | hy
        · omega
        · exact h2 y (List.mem_cons_of_mem _ hy)
theorem foldl_min (l : List Int) : ∀ x : Int, (l.foldl min x ∈ x :: l) ∧ ∀ y ∈ x :: l, l.foldl min x ≤ y := by
  induction l with
  | nil => intro x; exact ⟨List.mem_cons_self, fun y hy => by rcases List.mem_cons.mp hy with rfl | h; exact Int.le_refl _; cases h⟩
  | cons a l ih =>
    intro x
    obtain ⟨h1, h2⟩ := ih (min x a)
    rw [List.foldl_cons]
    refine ⟨?_, fun y hy => ?_⟩
    · rcases List.mem_cons.mp h1 with e | e
      · rw [e]
        rcases Int.le_total x a with c | c
        · rw [Int.min_eq_left c]; exact List.mem_cons_self
        · rw [Int.min_eq_right c]; exact List.mem_cons_of_mem _ List.mem_cons_self
      · exact List.mem_cons_of_mem _ (List.mem_cons_of_mem _ e)
    · have h3 := h2 (min x a) List.mem_cons_self
      rcases List.mem_cons.mp hy with rfl | hy
      · omega
      · rcases List.mem_cons.mp hy with rfl | hy
        · omega
        · exact h2 y (List.mem_cons_of_mem _ hy)
theorem cr_maxE (hc : X.calm = true) : CallR X (.builtin "max") (rBi G (biE .max)) := by
  refine CallR.weak (L2.cr_max hc) fun xs H Q h => ?_
  obtain ⟨W, st, n, vs, R, r, g⟩ := h
  unfold biE at g
  split at g <;> try (rename_i h; cases h; done)
  all_goals try (exact g.elim)
  rename_i b vs' v hb
  rw [EG_lift] at g
  obtain ⟨a, ea, q⟩ := g
  obtain ⟨m, el, rfl⟩ := Option.map_eq_some_iff.mp ea
  obtain ⟨ns, en, em⟩ := Option.bind_eq_some_iff.mp el
  obtain ⟨ds, ed, ei⟩ := Option.bind_eq_some_iff.mp en
  obtain ⟨ys, ey, ed⟩ := Option.bind_eq_some_iff.mp ed
  obtain ⟨u, rfl, r1⟩ := one_of r
  obtain ⟨p, us, rfl, h1, h2⟩ := lst_at R r1 ey
  have e1 := dats_mem ed
  subst e1
  have e2 := ints_of (VlRs_d h2) ei
  subst e2
  cases ns with
  | nil => cases em
  | cons x ns =>
    cases em
    obtain ⟨k1, k2⟩ := foldl_max ns x
    refine ⟨p, x :: ns, rfl, SqL.of h1, by simp, fun m' m1 m2 => ?_⟩
    have e3 : m' = ns.foldl max x := Int.le_antisymm (k2 _ m1) (m2 _ k1)
    subst e3
    exact q W H _ .refl R VlR_int
theorem cr_minE (hc : X.calm = true) : CallR X (.builtin "min") (rBi G (biE .min)) := by
  refine CallR.weak (L2.cr_min hc) fun xs H Q h => ?_
  obtain ⟨W, st, n, vs, R, r, g⟩ := h
  unfold biE at g
  split at g <;> try (rename_i h; cases h; done)
  all_goals try (exact g.elim)
  rename_i b vs' v hb
  rw [EG_lift] at g
  obtain ⟨a, ea, q⟩ := g
  obtain ⟨m, el, rfl⟩ := Option.map_eq_some_iff.mp ea
  obtain ⟨ns, en, em⟩ := Option.bind_eq_some_iff.mp el
  obtain ⟨ds, ed, ei⟩ := Option.bind_eq_some_iff.mp en
  obtain ⟨ys, ey, ed⟩ := Option.bind_eq_some_iff.mp ed
  obtain ⟨u, rfl, r1⟩ := one_of r
  obtain ⟨p, us, rfl, h1, h2⟩ := lst_at R r1 ey
  have e1 := dats_mem ed
  subst e1
  have e2 := ints_of (VlRs_d h2) ei
  subst e2
  cases ns with
  | nil => cases em
  | cons x ns =>
    cases em
    obtain ⟨k1, k2⟩ := foldl_min ns x
    refine ⟨p, x :: ns, rfl, SqL.of h1, by simp, fun m' m1 m2 => ?_⟩
    have e3 : m' = ns.foldl min x := Int.le_antisymm (m2 _ k1) (k2 _ m1)
    subst e3
    exact q W H _ .refl R VlR_int
/-- all that stood stands -/
theorem ext_keep {W : Wd} {H H' : Hp} (k : ∀ b o, H b = some o → H' b = some o) : Ext G W H W H' :=
  ⟨fun q o h _ _ => k q o h, fun q h => h.kept (k q), Nat.le_refl _, fun _ _ _ h => h, fun _ h => .inl h, fun _ h => .inl h, fun _ h => h, rfl⟩
theorem Rel.keep {W : Wd} {st : Store} {b : Nat} {H H' : Hp} (R : Rel G W st b H) (k : ∀ b o, H b = some o → H' b = some o) : Rel G W st b H' := by
  have x := ext_keep (G := G) (W := W) k
  obtain ⟨ns, g, m, c, h1, h2, h3⟩ := R.spr
  refine ⟨R.len, R.inj, fun i c h => ?_, R.dead, ⟨ns, g, m, c, k _ _ h1, k _ _ h2, h3⟩, R.nosp, fun a h n => R.avt a h (x.there a n), R.avl, fun p hp => ?_⟩
  · obtain ⟨a, k1, k2⟩ := R.cell i c h
    refine ⟨a, k1, ?_⟩
    cases c with
    | lst xs => obtain ⟨vs, q, r⟩ := k2; exact ⟨vs, k _ _ q, r.ext x⟩
    | dct ks us => obtain ⟨vs, q, r1, r2⟩ := k2; exact ⟨vs, k _ _ q, r1, r2.ext x⟩
    | ins c vs => exact k2
  · obtain ⟨ps, t1, t2, t3⟩ := R.tabs p hp
    refine ⟨ps, k _ _ t1, t2, fun pos cv hc => ?_⟩
    obtain ⟨c', e1, e2⟩ := t3 pos cv hc
    exact ⟨c', e1, k _ _ e2⟩
theorem items_VRs {A : Addr → Prop} {H H' : Hp} (hk : ∀ b o, H b = some o → H' b = some o) (hA : ∀ a, H a = none → ¬ A a) : ∀ {ks us : List D} {kvs : List (Key × V)} {ts : List Addr}, KeysOk ks kvs → VRs G A H' us (kvs.map (·.2)) → (∀ t ∈ ts, H t = none) → Paired (fun (t : Addr) (q : Key × V) => H' t = some (.tup [kV q.1, q.2])) ts kvs →
    VRs G A H' (List.zipWith (fun k v => D.tup [k, v]) ks us) (ts.map V.ref)
  | [], us, [], [], _, _, _, _ => by unfold List.zipWith; exact VRs.nil
  | _ :: _, _, [], _, h, _, _, _ => False.elim h
  | [], _, _ :: _, _, h, _, _, _ => False.elim h
  | k :: ks, us, p :: kvs, t :: ts, h, r, hn, .cons q qs => by
    rw [List.map_cons] at r
    cases us with
    | nil => unfold VRs at r; cases r
    | cons u us =>
      unfold VRs at r
      obtain ⟨w, ws, e, r1, r2⟩ := r
      cases e
      refine VRs.cons ?_ (items_VRs hk hA h.2 r2 (fun t ht => hn t (List.mem_cons_of_mem _ ht)) qs)
      unfold VR
      refine ⟨t, _, rfl, q, hA t (hn t List.mem_cons_self), VRs.cons ?_ (VRs.cons r1 VRs.nil)⟩
      have h1 := h.1
      cases k <;> simp only [keyOf, reduceCtorEq] at h1
      case int i =>
        have := Option.some.inj h1
        rw [← this]; exact VR.int
      case str s =>
        have := Option.some.inj h1
        rw [← this]; exact VR.str
theorem new_Av {W : Wd} {st : Store} {b : Nat} {H : Hp} (R : Rel G W st b H) {a : Addr} (h : H a = none) : ¬ Av G W a := by
  have n := Nn.none h
  rintro ((m | m | m) | m)
  · obtain ⟨i, hi⟩ := m
    have hb : i < st.length := by rw [← R.len]; exact (List.getElem?_eq_some_iff.mp hi).1
    cases e : st[i]? with
    | none => rw [List.getElem?_eq_none_iff] at e; omega
    | some o =>
      cases o with
      | none => rw [R.dead i e] at hi; cases hi
      | some c =>
        obtain ⟨a', h', r⟩ := R.cell i c e
        rw [hi] at h'
        cases h'
        cases c with
        | lst xs => obtain ⟨vs, q, _⟩ := r; rw [h] at q; cases q
        | dct ks us => obtain ⟨vs, q, _⟩ := r; rw [h] at q; cases q
        | ins c vs => exact False.elim r
  · obtain ⟨_, _, _, _, h1, _⟩ := R.spr
    rw [m, h1] at h; cases h
  · obtain ⟨_, _, _, _, _, h1, _⟩ := R.spr
    rw [m, h1] at h; cases h
  · exact R.avt a m n
theorem pe_litmE {e : Expr} {p apos cpos pos : Pos} {ra run : Env → Store → E Vl} (hc : X.calm = true) (hg : Gl X "list") (hm : X.mg "list" = none) (he : PE X e (tE cs G Wx ra)) (hbase : attributeBase e "items" X.env (eval e X.env) = eval e X.env) (hline : (apos.endLine == cpos.line) = true)
    (hr : ∀ e st, run e st = bnd (ra e st) fun x st => match snap st x with
      | some (.dct ks vs) => ret (.d (.lst (List.zipWith (fun k v => D.tup [k, v]) ks vs))) st
      | _ => .err) :
    PE X (.Call (.Name "list" p) [.Call (.Attribute e "items" apos) [] [] cpos] [] pos) (tE cs G Wx run) := by
  refine PE.imp (LiI.pe_listItems hc he hg hm PyProof.Rows.Boot.«list» hbase hline rfl) fun σ H Q ⟨W, en, st, b, R, V, g⟩ => ?_
  rw [hr, EG_bnd] at g
  refine ⟨W, en, st, b, R, V, g.mono (fun x s b g W1 H1 v x1 R1 r1 => ?_) fun _ _ _ _ q => q⟩
  split at g
  · rename_i ks us es
    have r2 := snap_VT R1 r1 es
    obtain ⟨p, kvs, rfl, h1, h2, h3⟩ := r2
    refine ⟨p, kvs, rfl, h1, fun H' p' ts hk hp ht hpt hl hP => ?_⟩
    have x2 := ext_keep (G := G) (W := W1) hk
    have R2 := R1.keep hk
    refine g W1 H' _ (x1.trans x2) R2 ?_
    unfold VlR VR
    exact ⟨p', _, rfl, hl, new_Av R1 hp, items_VRs hk (fun a ha => new_Av R1 ha) h2 (VRs.ext0 x2.ext0 h3) ht hP⟩
  · exact g.elim
end
end EV

end
section
set_option Elab.async false
set_option linter.all false
set_option maxRecDepth 100000
set_option maxHeartbeats 4000000
/-! EV 10: what is walked. -/
namespace EV
open PySem PySem.Spec PyProof.Rows L2
section
variable {cs : List ErrC} {G : Gd} {Wx : WX} {X : Cx}
theorem pure_ext {W : Wd} {H H' : Hp} (h : ∀ q o, H q = some o → H' q = some o) : Ext G W H W H' where
  keep := fun q o e _ _ => h q o e
  there := fun q n => n.kept (h q)
  grow := Nat.le_refl _
  back := fun _ _ _ h => h
  fresh := fun q h => .inl h
  av := fun _ h => .inl h
  avm := fun _ h => h
  hc := rfl
theorem pure_rel {W : Wd} {st : Store} {b : Nat} {H H' : Hp} (R : Rel G W st b H) (h : ∀ q o, H q = some o → H' q = some o) : Rel G W st b H' :=
  R.same (pure_ext h) (fun a m => by
    cases z : H a with
    | none => exact absurd z (R.av_there (.inl m))
    | some o => exact h a o z) h
theorem vl_get_d {ds : List D} {i : Nat} {a : Vl} (h : (ds.map Vl.d)[i]? = some a) : ∃ d, ds[i]? = some d ∧ a = .d d := by
  rw [List.getElem?_map] at h
  cases z : ds[i]? with
  | none => rw [z] at h; cases h
  | some d => rw [z] at h; cases h; exact ⟨d, rfl, rfl⟩
theorem itOk_lst {K : PySem.W.Frag} {W : Wd} {H : Hp} {p : Addr} {us : List V} {ds : List D} (h1 : H p = some (.lst us)) (n : ¬ Av G W p) (h2 : VRs G (Av G W) H ds us)  : ItOk G W H (ds.map .d) (Itl K p) where
  go := fun W2 H2 i a st2 b2 x R2 e => by
    obtain ⟨d, ed, rfl⟩ := vl_get_d e
    have h1' := x.keep _ _ h1 nofun n
    obtain ⟨u, eu, ru⟩ := (VRs.ext0 x.ext0 h2).get ed
    refine ⟨⟨us, u, SqL.of h1', eu⟩, fun y H3 q => ?_⟩
    obtain ⟨rfl, q⟩ := q
    have := q us (SqL.of h1')
    rw [eu] at this
    cases this
    exact ⟨fun _ _ h => h, ru⟩
  stop := fun W2 H2 x => ⟨us, SqL.of (x.keep _ _ h1 nofun n), by rw [List.length_map, h2.length]; exact Nat.le_refl _⟩
theorem itOk_tup {K : PySem.W.Frag} {W : Wd} {H : Hp} {p : Addr} {us : List V} {ds : List D} (h1 : H p = some (.tup us)) (n : ¬ Av G W p) (h2 : VRs G (Av G W) H ds us) : ItOk G W H (ds.map .d) (Itt K p) where
  go := fun W2 H2 i a st2 b2 x R2 e => by
    obtain ⟨d, ed, rfl⟩ := vl_get_d e
    have h1' := x.keep _ _ h1 nofun n
    obtain ⟨u, eu, ru⟩ := (VRs.ext0 x.ext0 h2).get ed
    refine ⟨⟨us, u, SqT.of h1', eu⟩, fun y H3 q => ?_⟩
    obtain ⟨rfl, q⟩ := q
    have := q us (SqT.of h1')
    rw [eu] at this
    cases this
    exact ⟨fun _ _ h => h, ru⟩
  stop := fun W2 H2 x => ⟨us, SqT.of (x.keep _ _ h1 nofun n), by rw [List.length_map, h2.length]; exact Nat.le_refl _⟩
theorem itOk_rng {W : Wd} {H : Hp} {lo hi : Int} : ItOk G W H (range lo hi) (Itr lo (hi - lo).toNat) where
  go := fun W2 H2 i a st2 b2 x R2 e => by
    unfold range at e
    rw [List.getElem?_map] at e
    cases z : (List.range (hi - lo).toNat)[i]? with
    | none => rw [z] at e; cases e
    | some j =>
      rw [z] at e
      cases e
      obtain ⟨hi', e'⟩ := List.getElem?_eq_some_iff.mp z
      rw [List.length_range] at hi'
      rw [List.getElem_range] at e'
      subst e'
      refine ⟨hi', fun y H3 q => ?_⟩
      obtain ⟨rfl, rfl⟩ := q
      exact ⟨fun _ _ h => h, VlR_int⟩
  stop := fun W2 H2 x => by
    unfold range
    rw [List.length_map, List.length_range]
    exact Nat.le_refl _
theorem new_pair {W : Wd} {H : Hp} {d e : D} {u v : V} (r1 : VR G (Av G W) H d u) (r2 : VR G (Av G W) H e v) {T : Addr} (hT : H T = none) (hav : ∀ a, Av G W a → H a ≠ none) : VlR G W (upd H T (.tup [u, v])) (.d (.tup [d, e])) (.ref T) := by
  unfold VlR VR
  exact ⟨T, [u, v], rfl, upd_same, fun a => hav T a hT, VRs.cons (VR.ext0 (ext_new hT).ext0 r1) (VRs.cons (VR.ext0 (ext_new hT).ext0 r2) VRs.nil)⟩
/-- an enumeration, a zip: the items in new pairs -/
theorem zipWith_get {α β γ : Type} (f : α → β → γ) : ∀ {xs : List α} {ys : List β} {i : Nat} {c : γ}, (List.zipWith f xs ys)[i]? = some c → ∃ a b, xs[i]? = some a ∧ ys[i]? = some b ∧ c = f a b
  | [], _, _, _, h => by simp at h
  | _ :: _, [], _, _, h => by simp at h
  | x :: xs, y :: ys, 0, c, h => by simp at h; exact ⟨x, y, rfl, rfl, h.symm⟩
  | x :: xs, y :: ys, i + 1, c, h => by simpa using zipWith_get f (i := i) (xs := xs) (ys := ys) (by simpa using h)
theorem itOk_enum {K : PySem.W.Frag} {W : Wd} {H : Hp} {p : Addr} {us : List V} {ds : List D} (h1 : H p = some (.lst us)) (n : ¬ Av G W p) (h2 : VRs G (Av G W) H ds us) : ItOk G W H (enum ds) (Ite K p) where
  go := fun W2 H2 i a st2 b2 x R2 e => by
    obtain ⟨j, d, e1, ed, rfl⟩ := zipWith_get _ e
    have ej : j = i := by
      obtain ⟨hi', e'⟩ := List.getElem?_eq_some_iff.mp e1
      rw [List.getElem_range] at e'
      exact e'.symm
    subst ej
    have h1' := x.keep _ _ h1 nofun n
    obtain ⟨u, eu, ru⟩ := (VRs.ext0 x.ext0 h2).get ed
    refine ⟨⟨us, u, SqL.of h1', eu⟩, fun y H3 q => ?_⟩
    obtain ⟨T, z, rfl, hT, rfl, q⟩ := q
    have := q us (SqL.of h1')
    rw [eu] at this
    cases this
    exact ⟨fun _ _ h => upd_keep hT h, new_pair VR.int ru hT fun a h => R2.av_there h⟩
  stop := fun W2 H2 x => ⟨us, SqL.of (x.keep _ _ h1 nofun n), by unfold enum; rw [List.length_zipWith, List.length_range, h2.length]; omega⟩
theorem itOk_zipL {K : PySem.W.Frag} {W : Wd} {H : Hp} {p p2 : Addr} {us us2 : List V} {ds ds2 : List D} (h1 : H p = some (.lst us)) (n : ¬ Av G W p) (h2 : VRs G (Av G W) H ds us) (k1 : H p2 = some (.lst us2)) (m : ¬ Av G W p2) (k2 : VRs G (Av G W) H ds2 us2) :
    ItOk G W H (zip2 ds ds2) (Itz K p p2) where
  go := fun W2 H2 i a st2 b2 x R2 e => by
    obtain ⟨d, d2, ed, ed2, rfl⟩ := zipWith_get _ e
    have h1' := x.keep _ _ h1 nofun n
    have k1' := x.keep _ _ k1 nofun m
    obtain ⟨u, eu, ru⟩ := (VRs.ext0 x.ext0 h2).get ed
    obtain ⟨u2, eu2, ru2⟩ := (VRs.ext0 x.ext0 k2).get ed2
    refine ⟨⟨us, us2, u, u2, SqL.of h1', SqL.of k1', eu, eu2⟩, fun y H3 q => ?_⟩
    obtain ⟨T, z, z2, rfl, hT, rfl, q, q2⟩ := q
    have e1 := q us (SqL.of h1')
    rw [eu] at e1
    cases e1
    have e2 := q2 us2 (SqL.of k1')
    rw [eu2] at e2
    cases e2
    exact ⟨fun _ _ h => upd_keep hT h, new_pair ru ru2 hT fun a h => R2.av_there h⟩
  stop := fun W2 H2 x => ⟨us, us2, SqL.of (x.keep _ _ h1 nofun n), SqL.of (x.keep _ _ k1 nofun m), by unfold zip2; rw [List.length_zipWith, h2.length, k2.length]; omega⟩
theorem itOk_zipT {K : PySem.W.Frag} {W : Wd} {H : Hp} {p p2 : Addr} {us us2 : List V} {ds ds2 : List D} (h1 : H p = some (.tup us)) (n : ¬ Av G W p) (h2 : VRs G (Av G W) H ds us) (k1 : H p2 = some (.tup us2)) (m : ¬ Av G W p2) (k2 : VRs G (Av G W) H ds2 us2) :
    ItOk G W H (zip2 ds ds2) (RZ.ItzT K p p2) where
  go := fun W2 H2 i a st2 b2 x R2 e => by
    obtain ⟨d, d2, ed, ed2, rfl⟩ := zipWith_get _ e
    have h1' := x.keep _ _ h1 nofun n
    have k1' := x.keep _ _ k1 nofun m
    obtain ⟨u, eu, ru⟩ := (VRs.ext0 x.ext0 h2).get ed
    obtain ⟨u2, eu2, ru2⟩ := (VRs.ext0 x.ext0 k2).get ed2
    refine ⟨⟨us, us2, u, u2, SqT.of h1', SqT.of k1', eu, eu2⟩, fun y H3 q => ?_⟩
    obtain ⟨T, z, z2, rfl, hT, rfl, q, q2⟩ := q
    have e1 := q us (SqT.of h1')
    rw [eu] at e1
    cases e1
    have e2 := q2 us2 (SqT.of k1')
    rw [eu2] at e2
    cases e2
    exact ⟨fun _ _ h => upd_keep hT h, new_pair ru ru2 hT fun a h => R2.av_there h⟩
  stop := fun W2 H2 x => ⟨us, us2, SqT.of (x.keep _ _ h1 nofun n), SqT.of (x.keep _ _ k1 nofun m), by unfold zip2; rw [List.length_zipWith, h2.length, k2.length]; omega⟩
/-! ### the walks of the text -/
/-- a list or a tuple, by its value -/
theorem pi_seq {tg l : Expr} {tl : TE} (hl : PE X l tl) : PI X tg l (fun σ H R => tl σ H fun x H1 => ∃ a, x = .ref a ∧ ((∃ xs, SqL X.K H1 a xs ∧ R (Itl X.K a) H1) ∨ (∃ xs, SqT X.K H1 a xs ∧ R (Itt X.K a) H1))) := by
  refine ⟨fun pins s σ H R I h => ?_⟩
  refine thn (hl.run pins s σ H _ I h) fun v s1 ⟨x, H1, I1, r1, q1⟩ => ?_
  obtain ⟨a, e, q1⟩ := q1
  subst e
  cases r1
  rcases q1 with ⟨xs, hq, q⟩ | ⟨xs, hq, q⟩
  · obtain ⟨its, rv, p, hz⟩ := I1.list hq
    refine wpAny_pyIter_list p.isList ?_
    refine ⟨s1.heap.objs.size, [s1.heap.objs.size], _, _, H1, rfl, I1.kept (t' := s1.toks) fun b o e => Heap.get?_push_of_some _ e, turn_list a _, ⟨_, Heap.get?_push_size _ rfl, rfl, rfl⟩, fun b hb => ?_, q⟩
    have e : b = s1.heap.objs.size := by simpa using hb
    subst e
    exact I1.fpOk (Nat.le_refl _) (I1.hok.fresh (Nat.le_refl _))
  · obtain ⟨its, rv, p, hz⟩ := I1.tuple hq
    refine wpAny_pyIter_tuple (show s1.heap.IsTuple a its.toArray from p) ?_
    refine ⟨s1.heap.objs.size, [s1.heap.objs.size], _, _, H1, rfl, I1.kept (t' := s1.toks) fun b o e => Heap.get?_push_of_some _ e, turn_tuple a _, ⟨_, Heap.get?_push_size _ rfl, rfl, rfl⟩, fun b hb => ?_, q⟩
    have e : b = s1.heap.objs.size := by simpa using hb
    subst e
    exact I1.fpOk (Nat.le_refl _) (I1.hok.fresh (Nat.le_refl _))
theorem pi_valE {tg l : Expr} {run : Env → Store → E Vl} (hl : PE X l (tE cs G Wx run)) : PI X tg l (tI cs G Wx run) := by
  refine PI.imp (pi_seq hl) fun σ H R ⟨W, e, st, b, R0, V, g⟩ => ?_
  refine ⟨W, e, st, b, R0, V, g.mono (fun a s b g W1 H1 v x1 R1 r1 => ?_) fun _ _ _ _ q => q⟩
  obtain ⟨vs, ev, q⟩ := g
  cases a with
  | d d =>
    cases d <;> simp only [itsOf, reduceCtorEq] at ev
    case lst ds =>
      cases ev
      unfold VlR VR at r1
      obtain ⟨p, us, rfl, h1, n, h2⟩ := r1
      exact ⟨p, rfl, .inl ⟨us, SqL.of h1, q W1 H1 _ x1 R1 (itOk_lst h1 n h2)⟩⟩
    case tup ds =>
      cases ev
      unfold VlR VR at r1
      obtain ⟨p, us, rfl, h1, n, h2⟩ := r1
      exact ⟨p, rfl, .inr ⟨us, SqT.of h1, q W1 H1 _ x1 R1 (itOk_tup h1 n h2)⟩⟩
  | its ys => exact r1.elim
  | ref i => cases ev
  | thk => cases ev
  | exn c fs => cases ev
  | h x => cases ev
  | hr i x => cases ev
/-- a walk's arguments -/
theorem wk_args {rs run : Env → Store → E Vl} {f : List Vl → Store → E Vl} (hr : ∀ e st, run e st = bnd (rs e st) fun vs st => match vs with
      | .its vs => f vs st
      | _ => .err) {σ : L2.St} {H : Hp} {R : It → Hp → Prop} (h : tI cs G Wx run σ H R) {Q : List V → Hp → Prop}
    (fin : ∀ W1 H1 vs us s b, Rel G W1 s b H1 → VlRs G W1 H1 vs us → EG (KI G W1 H1 R) (fun _ _ _ _ => True) (f vs s) b → Q us H1) : tA cs G Wx rs σ H Q := by
  obtain ⟨W, e, st, b, R0, V, g⟩ := h
  rw [hr, EG_bnd] at g
  refine ⟨W, e, st, b, R0, V, g.mono (fun a s b g => ?_) fun _ _ _ _ q => q⟩
  cases a <;> first
    | exact g.elim
    | skip
  rename_i vs
  refine ⟨vs, rfl, fun W1 H1 us x1 R1 r1 => fin W1 H1 vs us s b R1 r1 (g.mono (fun a s b q => ?_) fun _ _ _ _ _ => trivial)⟩
  obtain ⟨ys, ey, q⟩ := q
  exact ⟨ys, ey, fun W' H' J x' R' i => q W' H' J (x1.trans x') R' i⟩
theorem VlR_int_eq {W : Wd} {H : Hp} {i : Int} {v : V} (h : VlR G W H (.d (.int i)) v) : v = .int i := by unfold VlR VR at h; exact h
theorem pi_rangeE1 {tg a : Expr} {p pos : Pos} {rs run : Env → Store → E Vl} (hg : Gl X "range") (hm : X.mg "range" = none) (hs : PA X [a] (tA cs G Wx rs)) (hst : notStar a = true)
    (hr : ∀ e st, run e st = bnd (rs e st) fun vs st => match vs with
      | .its vs => wkE .range vs st
      | _ => .err) : PI X tg (.Call (.Name "range" p) [a] [] pos) (tI cs G Wx run) := by
  refine PI.imp (pi_range1 hg hm hs (star_cons hst)) fun σ H R h => wk_args (f := wkE .range) hr h fun W1 H1 vs us s b R1 r1 g => ?_
  unfold wkE at g
  split at g <;> try (rename_i h; cases h; done)
  all_goals try (exact g.elim)
  · rename_i i _
    split at g
    · rename_i hb
      cases r1 with
      | cons r t =>
        cases t
        rw [VlR_int_eq r]
        obtain ⟨ys, ey, q⟩ := g
        cases ey
        have ok := itOk_rng (G := G) (W := W1) (H := H1) (lo := 0) (hi := i)
        rw [Int.sub_zero] at ok
        exact ⟨i, rfl, by omega, by omega, q W1 H1 _ .refl R1 ok⟩
    · exact g.elim
theorem pi_rangeE2 {tg a c : Expr} {p pos : Pos} {rs run : Env → Store → E Vl} (hg : Gl X "range") (hm : X.mg "range" = none) (hs : PA X [a, c] (tA cs G Wx rs)) (hst : notStar a = true) (hst2 : notStar c = true)
    (hr : ∀ e st, run e st = bnd (rs e st) fun vs st => match vs with
      | .its vs => wkE .range2 vs st
      | _ => .err) : PI X tg (.Call (.Name "range" p) [a, c] [] pos) (tI cs G Wx run) := by
  refine PI.imp (pi_range2 hg hm hs (by rw [star_cons hst, star_cons hst2]; rfl) (by rw [star_cons hst2]; rfl)) fun σ H R h => wk_args (f := wkE .range2) hr h fun W1 H1 vs us s b R1 r1 g => ?_
  unfold wkE at g
  split at g <;> try (rename_i h; cases h; done)
  all_goals try (exact g.elim)
  rename_i i j _
  split at g
  · rename_i hb
    cases r1 with
    | cons r t =>
      cases t with
      | cons r2 t =>
        cases t
        rw [VlR_int_eq r, VlR_int_eq r2]
        obtain ⟨ys, ey, q⟩ := g
        cases ey
        exact ⟨i, j, rfl, ⟨by omega, by omega, by omega, by omega⟩, q W1 H1 _ .refl R1 itOk_rng⟩
  · exact g.elim
def isTupT : Expr → Bool
  | .Tuple _ _ _ => true
  | _ => false
theorem pi_zipE {tg a c : Expr} {p pos : Pos} {rs run : Env → Store → E Vl} (ht : isTupT tg = true) (hg : Gl X "zip") (hm : X.mg "zip" = none) (hs : PA X [a, c] (tA cs G Wx rs)) (hst : notStar a = true) (hst2 : notStar c = true)
    (hr : ∀ e st, run e st = bnd (rs e st) fun vs st => match vs with
      | .its vs => wkE .zip vs st
      | _ => .err) : PI X tg (.Call (.Name "zip" p) [a, c] [] pos) (tI cs G Wx run) := by
  cases tg <;> try (cases ht; done)
  refine PI.imp (RZ.pi_zipA hg hm hs (star_cons hst) (star_plain (by simp [hst2]))) fun σ H R h => wk_args (f := wkE .zip) hr h fun W1 H1 vs us s b R1 r1 g => ?_
  unfold wkE at g
  split at g <;> try (rename_i h; cases h; done)
  all_goals try (exact g.elim)
  · rename_i l k _
    cases r1 with
    | cons r t =>
      cases t with
      | cons r2 t =>
        cases t
        unfold VlR VR at r r2
        obtain ⟨pp, us, rfl, h1, n, h2⟩ := r
        obtain ⟨pp2, us2, rfl, k1, m, k2⟩ := r2
        obtain ⟨ys, ey, q⟩ := g
        cases ey
        exact ⟨pp, pp2, us, us2, rfl, .inl ⟨SqL.of h1, SqL.of k1, q W1 H1 _ .refl R1 (itOk_zipL h1 n h2 k1 m k2)⟩⟩
  · rename_i l k _
    cases r1 with
    | cons r t =>
      cases t with
      | cons r2 t =>
        cases t
        unfold VlR VR at r r2
        obtain ⟨pp, us, rfl, h1, n, h2⟩ := r
        obtain ⟨pp2, us2, rfl, k1, m, k2⟩ := r2
        obtain ⟨ys, ey, q⟩ := g
        cases ey
        exact ⟨pp, pp2, us, us2, rfl, .inr ⟨SqT.of h1, SqT.of k1, q W1 H1 _ .refl R1 (itOk_zipT h1 n h2 k1 m k2)⟩⟩
end
end EV

end
section
set_option Elab.async false
set_option linter.all false
set_option maxRecDepth 100000
set_option maxHeartbeats 4000000
/-! EV 11: targets, list comprehensions. -/
namespace EV
open PySem PySem.Spec PyProof.Rows L2
section
variable {cs : List ErrC} {G : Gd} {Wx : WX} {X : Cx}
/-! ### targets -/
def tgIn : Tg → List Nat → Bool
  | .nm i, own => own.contains i
  | .tp t, own => tgIn t own
  | .nil, _ => true
  | .cons a b, own => tgIn a own && tgIn b own
theorem wipe_in {σ : L2.St} {i : Nat} : ∀ {vs : List Nat}, i ∈ vs → (wipe σ vs)[i]? = if i < σ.length then some none else none
  | v :: vs, h => by
    unfold wipe
    by_cases e : v = i
    · subst e
      by_cases hl : v < σ.length
      · rw [if_pos hl, List.getElem?_set_self (by rw [wipe_length]; exact hl)]
      · rw [if_neg hl, List.getElem?_eq_none]
        rw [List.length_set, wipe_length]; omega
    · rw [List.getElem?_set_ne e]
      exact wipe_in ((List.mem_cons.mp h).resolve_left fun z => e z.symm)
theorem wipe_get {σ : L2.St} {i : Nat} {vs : List Nat} : (wipe σ vs)[i]? = if i ∈ vs then (if i < σ.length then some none else none) else σ[i]? := by
  by_cases h : i ∈ vs
  · rw [if_pos h, wipe_in h]
  · rw [if_neg h, wipe_out h]
theorem wipe_set {σ : L2.St} {i : Nat} {x : Option V} {vs : List Nat} (h : i ∈ vs) : wipe (σ.set i x) vs = wipe σ vs := by
  apply List.ext_getElem?
  intro j
  rw [wipe_get, wipe_get, List.length_set]
  by_cases hj : j ∈ vs
  · rw [if_pos hj, if_pos hj]
  · rw [if_neg hj, if_neg hj, List.getElem?_set_ne (by rintro rfl; exact hj h)]
theorem wipe_wipe {σ : L2.St} {vs : List Nat} : wipe (wipe σ vs) vs = wipe σ vs := by
  apply List.ext_getElem?
  intro j
  rw [wipe_get, wipe_get, wipe_length]
  by_cases hj : j ∈ vs
  · rw [if_pos hj, if_pos hj]
  · rw [if_neg hj, if_neg hj]
theorem EnvR.wipe {W : Wd} {H : Hp} {e : Env} {σ : L2.St} (h : EnvR G W H e σ) : ∀ vs : List Nat, EnvR G W H (wipeE e vs) (L2.wipe σ vs)
  | [] => h
  | v :: vs => by
    have i := EnvR.wipe h vs
    unfold wipeE L2.wipe
    refine ⟨by simp [i.len], fun j a q => ?_⟩
    by_cases hj : v = j
    · subst hj
      by_cases hl : v < (wipeE e vs).length
      · rw [List.getElem?_set_self hl] at q; cases q
      · rw [List.getElem?_eq_none (by simpa using hl)] at q; cases q
    · rw [List.getElem?_set_ne hj] at q ⊢
      exact i.get0 j a q
/-- a target's reading -/
def tG (G : Gd) (t : Tg) : TG := fun v σ H Q => ∃ W e a e', EnvR G W H e σ ∧ VlR G W H a v ∧ setTg t a e = some e' ∧ ∀ σ', EnvR G W H e' σ' → (∀ own, tgIn t own = true → wipe σ' own = wipe σ own) → Q σ' H
def tGs (G : Gd) (t : Tg) : TGs := fun vs σ H Q => ∃ W e as e', EnvR G W H e σ ∧ VlRs G W H as vs ∧ setTg.setTgs t as e = some e' ∧ ∀ σ', EnvR G W H e' σ' → (∀ own, tgIn t own = true → wipe σ' own = wipe σ own) → Q σ' H
theorem PG.imp {e : Expr} {t t' : TG} (h : PG X e t) (i : ∀ v σ H Q, t' v σ H Q → t v σ H Q) : PG X e t' := ⟨fun pins s σ H v u Q I r q => h.run pins s σ H v u Q I r (i v σ H Q q)⟩
theorem PGs.imp {e : List Expr} {t t' : TGs} (h : PGs X e t) (i : ∀ v σ H Q, t' v σ H Q → t v σ H Q) : PGs X e t' := ⟨fun pins s σ H v u Q I r q => h.run pins s σ H v u Q I r (i v σ H Q q)⟩
theorem PG.or {e : Expr} {t t' : TG} (h : PG X e t) (h' : PG X e t') : PG X e (fun v σ H Q => t v σ H Q ∨ t' v σ H Q) := ⟨fun pins s σ H v u Q I r q => by
  rcases q with q | q
  · exact h.run pins s σ H v u Q I r q
  · exact h'.run pins s σ H v u Q I r q⟩
/-- the checker of a name that is stored: fn tells the names whose cells are the block's own -/
def chkNm (N : List Str) (sc : Scope) (fn : Str → Bool) (i : Nat) : Expr → Bool
  | .Name x _ => N[i]? == some x && (sc.names.lookup x == some .local || sc.names.lookup x == some .cell && fn x)
  | _ => false
def chkTgs (N : List Str) (sc : Scope) (fn : Str → Bool) : Tg → List Expr → Bool
  | .nil, [] => true
  | .cons (.nm i) b, e :: es => chkNm N sc fn i e && chkTgs N sc fn b es
  | _, _ => false
def chkTg (N : List Str) (sc : Scope) (fn : Str → Bool) : Tg → Expr → Bool
  | .nm i, e => chkNm N sc fn i e
  | .tp t, .Tuple es _ _ => chkTgs N sc fn t es
  | _, _ => false
theorem pg_nm {i : Nat} {e : Expr} (hN : X.N.Nodup) (h : chkNm X.N X.env.scope X.fn i e = true) : PG X e (tG G (.nm i)) := by
  cases e <;> try (unfold chkNm at h; cases h; done)
  rename_i x pos
  simp only [chkNm, Bool.and_eq_true, Bool.or_eq_true, beq_iff_eq] at h
  obtain ⟨h1, h2⟩ := h
  have hl : Loc X.env.scope x := by
    rcases h2 with h2 | ⟨h2, _⟩
    · exact .inl h2
    · exact .inr h2
  have hf : X.fn x = true ∨ X.env.scope.names.lookup x = some .local := by
    rcases h2 with h2 | ⟨_, h2⟩
    · exact .inr h2
    · exact .inl h2
  refine PG.imp (pg_name hN h1 hl hf) fun v σ H Q ⟨W, e, a, e', V, r, es, q⟩ => ?_
  cases es
  refine q _ (V.set i r) fun own ho => wipe_set ?_
  simpa [tgIn] using ho
theorem assignEach_nm {N : List Str} {sc : Scope} {fn : Str → Bool} {i : Nat} {e : Expr} {es : List Expr} {env : PySem.Env} (h : chkNm N sc fn i e = true) : assignEach (e :: es) env = (false, assign e env) :: assignEach es env := by
  cases e <;> first | rfl | (unfold chkNm at h; cases h)
theorem pgs_nms (hN : X.N.Nodup) : ∀ {t : Tg} {es : List Expr}, chkTgs X.N X.env.scope X.fn t es = true → PGs X es (tGs G t) ∧ (assignEach es X.env).length = es.length ∧ (assignEach es X.env).findIdx? (·.1) = none
  | .nil, [], _ => by
    refine ⟨PGs.imp pgs_nil fun v σ H Q ⟨W, e, as, e', V, r, h, q⟩ => ?_, rfl, rfl⟩
    cases r with
    | nil =>
      cases h
      exact ⟨rfl, q σ V fun _ _ => rfl⟩
    | cons _ _ => cases h
  | .cons (.nm i) b, e :: es, h => by
    simp only [chkTgs, Bool.and_eq_true] at h
    obtain ⟨h1, h2⟩ := h
    obtain ⟨i1, i2, i3⟩ := pgs_nms (t := b) hN h2
    have ea := assignEach_nm (es := es) (env := X.env) h1
    refine ⟨PGs.imp (pgs_cons (pg_nm (G := G) hN h1) i1 (by rw [ea]; rfl)) fun v σ H Q ⟨W, e0, as, e', V, r, hs, q⟩ => ?_, by rw [ea]; simp [i2], by rw [ea]; simpa [List.findIdx?_cons] using i3⟩
    cases r with
    | nil => cases hs
    | cons r rr =>
      obtain ⟨e1, he1, he2⟩ := Option.bind_eq_some_iff.mp hs
      refine ⟨_, _, rfl, W, e0, _, e1, V, r, he1, fun σ1 V1 k1 => ?_⟩
      refine ⟨W, e1, _, e', V1, rr, he2, fun σ2 V2 k2 => q σ2 V2 fun own ho => ?_⟩
      have ho' : tgIn (.nm i) own = true ∧ tgIn b own = true := by simpa [tgIn] using ho
      rw [k2 own ho'.2, k1 own ho'.1]
  | .nil, _ :: _, h => by unfold chkTgs at h; cases h
  | .nm _, [], h => by unfold chkTgs at h; cases h
  | .nm _, _ :: _, h => by unfold chkTgs at h; cases h
  | .tp _, [], h => by unfold chkTgs at h; cases h
  | .tp _, _ :: _, h => by unfold chkTgs at h; cases h
  | .cons a _, [], h => by cases a <;> simp [chkTgs] at h
  | .cons .nil _, _ :: _, h => by unfold chkTgs at h; cases h
  | .cons (.tp _) _, _ :: _, h => by unfold chkTgs at h; cases h
  | .cons (.cons _ _) _, _ :: _, h => by unfold chkTgs at h; cases h
theorem setTgs_len : ∀ {t : Tg} {es : List Expr} {N : List Str} {sc : Scope} {fn : Str → Bool} {as : List Vl} {e e' : Env}, chkTgs N sc fn t es = true → setTg.setTgs t as e = some e' → as.length = es.length
  | .nil, [], _, _, _, as, _, _, _, h => by
    cases as with
    | nil => rfl
    | cons _ _ => cases h
  | .cons (.nm i) b, e :: es, N, sc, fn, as, _, _, hc, h => by
    simp only [chkTgs, Bool.and_eq_true] at hc
    cases as with
    | nil => cases h
    | cons a as =>
      obtain ⟨e1, _, he2⟩ := Option.bind_eq_some_iff.mp h
      simp [setTgs_len hc.2 he2]
  | .nil, _ :: _, _, _, _, _, _, _, h, _ => by unfold chkTgs at h; cases h
  | .nm _, [], _, _, _, _, _, _, h, _ => by unfold chkTgs at h; cases h
  | .nm _, _ :: _, _, _, _, _, _, _, h, _ => by unfold chkTgs at h; cases h
  | .tp _, [], _, _, _, _, _, _, h, _ => by unfold chkTgs at h; cases h
  | .tp _, _ :: _, _, _, _, _, _, _, h, _ => by unfold chkTgs at h; cases h
  | .cons a _, [], _, _, _, _, _, _, h, _ => by cases a <;> simp [chkTgs] at h
  | .cons .nil _, _ :: _, _, _, _, _, _, _, h, _ => by unfold chkTgs at h; cases h
  | .cons (.tp _) _, _ :: _, _, _, _, _, _, _, h, _ => by unfold chkTgs at h; cases h
  | .cons (.cons _ _) _, _ :: _, _, _, _, _, _, _, h, _ => by unfold chkTgs at h; cases h
theorem pg_tgE (hc : X.calm = true) {t : Tg} {e : Expr} (hN : X.N.Nodup) (h : chkTg X.N X.env.scope X.fn t e = true) : PG X e (tG G t) := by
  cases t with
  | nm i => exact pg_nm hN h
  | nil => cases e <;> (unfold chkTg at h; cases h)
  | cons a b => cases e <;> (unfold chkTg at h; cases h)
  | tp t =>
    cases e <;> try (unfold chkTg at h; cases h; done)
    rename_i es k pos
    have h' : chkTgs X.N X.env.scope X.fn t es = true := h
    obtain ⟨i1, i2, i3⟩ := pgs_nms (G := G) hN h'
    refine PG.imp (PG.or (pg_tup hc i1 i2 i3) (pg_lst hc i1 i2 i3)) fun v σ H Q ⟨W, e0, a, e', V, r, hs, q⟩ => ?_
    cases a with
    | d d =>
      cases d <;> try (unfold setTg at hs; cases hs; done)
      case tup ds =>
        unfold VlR VR at r
        obtain ⟨p, us, rfl, h1, n, h2⟩ := r
        have hl := setTgs_len h' hs
        refine .inl ⟨p, us, rfl, SqT.of h1, ?_, W, e0, _, e', V, VlRs_of h2, hs, q⟩
        rw [← hl, List.length_map, h2.length]
      case lst ds =>
        unfold VlR VR at r
        obtain ⟨p, us, rfl, h1, n, h2⟩ := r
        have hl := setTgs_len h' hs
        refine .inr ⟨p, us, rfl, SqL.of h1, ?_, W, e0, _, e', V, VlRs_of h2, hs, q⟩
        rw [← hl, List.length_map, h2.length]
    | _ => unfold setTg at hs; cases hs
end
end EV

end
section
set_option Elab.async false
set_option linter.all false
set_option maxRecDepth 100000
set_option maxHeartbeats 4000000
/-! EV 12: list comprehensions. -/
namespace EV
open PySem PySem.Spec PyProof.Rows L2
open LamX (Tabs TabS CodeO)
section
variable {cs : List ErrC} {G : Gd} {Wx : WX} {X : Cx}
theorem paired_len {α β : Type} {F : α → β → Prop} : ∀ {l : List α} {k : List β}, Paired F l k → l.length = k.length
  | _, _, .nil => rfl
  | _, _, .cons _ t => by simp [paired_len t]
theorem paired_snoc {α β : Type} {F : α → β → Prop} {a : α} {c : β} (r : F a c) : ∀ {l : List α} {k : List β}, Paired F l k → Paired F (l ++ [a]) (k ++ [c])
  | _, _, .nil => .cons r .nil
  | _, _, .cons q t => .cons q (paired_snoc r t)
/-- data lies nowhere at D besides -/
def Wd.plus (W : Wd) (D : Addr) : Wd := ⟨W.cells, fun q => W.av q ∨ q = D, W.hc⟩
def Wd.drop (W : Wd) (D : Addr) : Wd := ⟨W.cells, fun q => W.av q ∧ q ≠ D, W.hc⟩
theorem live_iff {W W' : Wd} (h : W.cells = W'.cells) {a : Addr} : W.live a ↔ W'.live a := by unfold Wd.live; rw [h]
theorem mv_iff {W W' : Wd} (h : W.cells = W'.cells) {a : Addr} : Mv G W a ↔ Mv G W' a := by unfold Mv; rw [live_iff h]
theorem ext0_h {W W' : Wd} {H H' : Hp} (e : W'.hc = W.hc) (x0 : Ext0 (Av G W) H (Av G W') H') : Ext0 (Ah G W) H (Ah G W') H' := ⟨fun q o h nt n => by
  obtain ⟨h1, h2⟩ := x0.keep q o h nt fun m => n (.inl m)
  refine ⟨h1, fun m => ?_⟩
  rcases m with m | m
  · exact h2 m
  · exact n (.inr (by rw [← e]; exact m))⟩
theorem VlR.sub {W W' : Wd} {H H' : Hp} (e : W'.hc = W.hc) (hc : W.cells.length ≤ W'.cells.length) (hb : ∀ (i : Nat) a, i < W.cells.length → W'.cells[i]? = some (some a) → W.cells[i]? = some (some a)) (x0 : Ext0 (Av G W) H (Av G W') H') {a : Vl} {v : V} (r : VlR G W H a v) : VlR G W' H' a v := by
  cases a with
  | d x => exact VR.ext0 x0 r
  | ref i => exact ⟨Nat.lt_of_lt_of_le r.1 hc, fun a e => r.2 a (hb i a r.1 e)⟩
  | thk => exact r
  | its xs => exact r
  | exn c fs => exact r
  | h x => exact VR.ext0 (ext0_h e x0) r
  | hr i x =>
    obtain ⟨a, h1, h2, h3⟩ := r
    exact ⟨a, by rw [e]; exact h1, h2, VR.ext0 x0 h3⟩
/-- entering: D is new, nothing lies at it -/
theorem ext_plus {W : Wd} {H : Hp} {D : Addr} {u : HO} (hD : H D = none) : Ext G W H (W.plus D) (upd H D u) where
  keep := fun q o h _ _ => upd_keep hD h
  there := fun q h => h.kept fun o e => upd_keep hD e
  grow := Nat.le_refl _
  back := fun _ _ _ h => h
  fresh := fun q h => .inl ((live_iff rfl).mp h)
  av := fun q h => by
    rcases h with h | h
    · exact .inl h
    · exact .inr (by rw [h]; exact .none hD)
  avm := fun q h => .inl h
  hc := rfl
theorem rel_plus {W : Wd} {st : Store} {b : Nat} {H : Hp} (R : Rel G W st b H) {D : Addr} {u : HO} (hD : H D = none) (hu : ∀ ps, u ≠ .tbl ps) : Rel G (W.plus D) st b (upd H D u) := by
  have x := ext_plus (G := G) (W := W) (u := u) hD
  have ndl : ∀ a, W.live a → a ≠ D := fun a l e => R.av_there (.inl (.inl l)) (by rw [e]; exact hD)
  refine ⟨R.len, R.inj, fun i c h => ?_, R.dead, R.spr.keeps ?_ ?_, R.nosp, fun a h => ?_, fun a l h => ?_, R.tabs.ext fun q o h => upd_keep hD h⟩
  · obtain ⟨a, h1, r⟩ := R.cell i c h
    exact ⟨a, h1, r.keeps x (upd_ne (ndl a ⟨i, h1⟩))⟩
  · exact upd_ne (by rintro e; exact R.av_there (.inl (.inr (.inl e.symm))) hD)
  · exact upd_ne (by rintro e; exact R.av_there (.inl (.inr (.inr e.symm))) hD)
  · rcases h with h | h
    · exact fun n => R.avt a h (x.there a n)
    · rw [h]; exact Nn.no upd_same hu
  · rcases h with h | h
    · exact R.avl a l h
    · exact ndl a l h
/-- what stands at D changes -/
theorem ext_at {W W' : Wd} {H H' : Hp} {D : Addr} {u : HO} (hD : H D = none) (x : Ext G W H W' H') : Ext G W H W' (upd H' D u) where
  keep := fun q o h nt n => by
    rw [upd_ne]
    · exact x.keep q o h nt n
    · rintro rfl; rw [hD] at h; cases h
  there := fun q h => by
    by_cases e : q = D
    · rw [e]; exact .none hD
    · refine x.there q fun o ho => h o ?_
      rw [upd_ne e]; exact ho
  grow := x.grow
  back := x.back
  fresh := x.fresh
  av := x.av
  avm := x.avm
  hc := x.hc
theorem extA_at {W W' : Wd} {H H' : Hp} {D : Addr} {u : HO} (hD : W.av D) (hu : ∀ ps, u ≠ .tbl ps) (x : ExtA G W H W' H') : ExtA G W H W' (upd H' D u) := ⟨fun q o h nt n => by
    rw [upd_ne]
    · exact x.keep q o h nt n
    · rintro rfl; exact n (.inr hD), fun q h => by
    by_cases e : q = D
    · rw [e] at h; exact absurd h (Nn.no upd_same hu)
    · exact x.there q fun o ho => h o (by rw [upd_ne e]; exact ho), x.fresh, x.av, x.grow, x.back, x.hc⟩
theorem extA_next {W W1 W2 : Wd} {H H1 H2 : Hp} (a : ExtA G W H W1 H1) (b : Ext G W1 H1 W2 H2) (hm : ∀ q o, H q = some o → (∀ ps, o ≠ .tbl ps) → ¬ Av G W q → ¬ Mv G W1 q) : ExtA G W H W2 H2 :=
  ⟨fun q o h nt n => b.keep q o (a.keep q o h nt n) nt (hm q o h nt n), fun q h => a.there q (b.there q h), fun q h => by
    rcases b.fresh q h with l | l
    · exact a.fresh q l
    · exact .inr (a.there q l), fun q h => by
    rcases b.av q h with l | l
    · exact a.av q l
    · exact .inr (a.there q l), Nat.le_trans a.grow b.grow, fun i c hi h => a.back i c hi (b.back i c (Nat.lt_of_lt_of_le hi a.grow) h), b.hc.trans a.hc⟩
theorem ExtA.trans {W W1 W2 : Wd} {H H1 H2 : Hp} (a : ExtA G W H W1 H1) (b : Ext G W1 H1 W2 H2) : ExtA G W H W2 H2 := extA_next a b fun q o h nt n m => by
  rcases m with m | m
  · rcases a.fresh q m with l | l
    · exact n (.inl (.inl l))
    · exact Nn.no h nt l
  · exact n (.inl (.inr m))
theorem ext0_at {W : Wd} {H : Hp} {D : Addr} {u : HO} (hD : W.av D) : Ext0 (Av G W) H (Av G W) (upd H D u) := ⟨fun q o h _ n => ⟨by
  rw [upd_ne]
  · exact h
  · rintro rfl; exact n (.inr hD), n⟩⟩
theorem tabs_at {T : List (Addr × Str)} {H : Hp} {D : Addr} {o u : HO} (t : Tabs T H) (hD : H D = some o) (h1 : ∀ ps, o ≠ .tbl ps) (h2 : ∀ c q, o ≠ CodeO c q) : Tabs T (upd H D u) := fun p hp => by
  obtain ⟨ps, k1, k2, k3⟩ := t p hp
  refine ⟨ps, ?_, k2, fun pos cv hc => ?_⟩
  · rw [upd_ne]
    · exact k1
    · rintro e; rw [e, hD] at k1; cases k1; exact h1 _ rfl
  · obtain ⟨c, e1, e2⟩ := k3 pos cv hc
    refine ⟨c, e1, ?_⟩
    rw [upd_ne]
    · exact e2
    · rintro e; rw [e, hD] at e2; cases e2; exact h2 _ _ rfl
theorem tabs_lst {T : List (Addr × Str)} {H : Hp} {D : Addr} {us : List V} {u : HO} (t : Tabs T H) (hD : H D = some (.lst us)) : Tabs T (upd H D u) := tabs_at t hD nofun fun c q => by unfold CodeO; exact nofun
theorem rel_at {W : Wd} {st : Store} {b : Nat} {H : Hp} {D : Addr} {u : HO} (R : Rel G W st b H) (hD : W.av D) (h1 : G.sp ≠ D) (h2 : G.sc ≠ D) (hu : ∀ ps, u ≠ .tbl ps) (ht : Tabs G.T (upd H D u)) : Rel G W st b (upd H D u) := by
  refine ⟨R.len, R.inj, fun i c h => ?_, R.dead, R.spr.keeps (upd_ne h1) (upd_ne h2), R.nosp, fun a h => ?_, R.avl, ht⟩
  · obtain ⟨a, k, r⟩ := R.cell i c h
    refine ⟨a, k, ?_⟩
    have e : upd H D u a = H a := upd_ne (by rintro rfl; exact R.avl _ ⟨i, k⟩ hD)
    have vl : ∀ {a : Vl} {v : V}, VlR G W H a v → VlR G W (upd H D u) a v := fun r => r.sub rfl (Nat.le_refl _) (fun _ _ _ h => h) (ext0_at hD)
    cases c with
    | lst xs => obtain ⟨vs, q, k⟩ := r; exact ⟨vs, e.trans q, Paired.mapP k fun _ _ => vl⟩
    | dct ks us => obtain ⟨vs, q, k1, k2⟩ := r; exact ⟨vs, e.trans q, k1, Paired.mapP k2 fun _ _ => vl⟩
    | ins c vs => exact r
  · by_cases e : a = D
    · rw [e]; exact Nn.no upd_same hu
    · exact fun n => R.avt a h fun o ho => n o (by rw [upd_ne e]; exact ho)
/-- leaving -/
theorem ext_drop {W W' : Wd} {H H' : Hp} {D : Addr} (x : Ext G W H W' H') (n : ¬ W.av D) : Ext G W H (W'.drop D) H' where
  keep := x.keep
  there := x.there
  grow := x.grow
  back := x.back
  fresh := x.fresh
  av := fun q h => x.av q h.1
  avm := fun q h => ⟨x.avm q h, by rintro rfl; exact n h⟩
  hc := x.hc
theorem ext0_drop {W : Wd} {D : Addr} {H : Hp} : Ext0 (Av G W) H (Av G (W.drop D)) H := ⟨fun q o h _ n => ⟨h, fun m => by
  rcases m with m | m
  · exact n (.inl ((mv_iff rfl).mp m))
  · exact n (.inr m.1)⟩⟩
theorem vlR_drop {W : Wd} {D : Addr} {H : Hp} {a : Vl} {v : V} (r : VlR G W H a v) : VlR G (W.drop D) H a v := VlR.sub (W := W) (W' := W.drop D) (H := H) (H' := H) rfl (Nat.le_refl _) (fun _ _ _ h => h) ext0_drop r
theorem rel_drop {W : Wd} {D : Addr} {st : Store} {b : Nat} {H : Hp} (R : Rel G W st b H) : Rel G (W.drop D) st b H where
  len := R.len
  inj := R.inj
  cell := fun i c h => by
    obtain ⟨a, h1, r⟩ := R.cell i c h
    refine ⟨a, h1, ?_⟩
    cases c with
    | lst xs => obtain ⟨vs, q, k⟩ := r; exact ⟨vs, q, Paired.mapP k fun _ _ => vlR_drop⟩
    | dct ks us => obtain ⟨vs, q, k1, k2⟩ := r; exact ⟨vs, q, k1, Paired.mapP k2 fun _ _ => vlR_drop⟩
    | ins c vs => exact r
  dead := R.dead
  spr := R.spr
  nosp := R.nosp
  avt := fun a h => R.avt a h.1
  avl := fun a l h => R.avl a l h.1
  tabs := R.tabs
/-- the list at D, kept away so far, becomes a mutable thing -/
theorem adopt {W W' : Wd} {H H' : Hp} {D : Addr} {c : Cell} {st : Store} {b : Nat} (hD : Nn H D) (x : Ext G W H W' H') (R : Rel G W' st b H') (hd : W'.av D) (n : ¬ W.av D) (h1 : G.sp ≠ D) (h2 : G.sc ≠ D)
    (r : ∀ W2, W2.hc = W'.hc → Ext0 (Av G W') H' (Av G W2) H' → W'.cells.length ≤ W2.cells.length → (∀ (i : Nat) a, i < W'.cells.length → W2.cells[i]? = some (some a) → W'.cells[i]? = some (some a)) → CellR G W2 H' D c) :
    Ext G W H ⟨W'.cells ++ [some D], (W'.drop D).av, W'.hc⟩ H' ∧ Rel G ⟨W'.cells ++ [some D], (W'.drop D).av, W'.hc⟩ (st ++ [some c]) b H' ∧ VlR G ⟨W'.cells ++ [some D], (W'.drop D).av, W'.hc⟩ H' (.ref st.length) (.ref D) := by
  have nl : ¬ W'.live D := fun l => R.avl D l hd
  have at_ : ∀ (i : Nat) a, (W'.cells ++ [some D])[i]? = some (some a) → W'.cells[i]? = some (some a) ∨ (i = W'.cells.length ∧ a = D) := fun i a h => by
    by_cases hi : i < W'.cells.length
    · rw [List.getElem?_append_left hi] at h; exact .inl h
    · rw [List.getElem?_append_right (by omega)] at h
      have : i - W'.cells.length = 0 := by
        cases z : i - W'.cells.length with
        | zero => rfl
        | succ n => rw [z] at h; simp at h
      rw [this] at h
      simp at h
      exact .inr ⟨by omega, h.symm⟩
  have hb : ∀ (i : Nat) a, i < W'.cells.length → (W'.cells ++ [some D])[i]? = some (some a) → W'.cells[i]? = some (some a) := fun i a hi h => by rwa [List.getElem?_append_left hi] at h
  have x0 : Ext0 (Av G W') H' (Av G ⟨W'.cells ++ [some D], (W'.drop D).av, W'.hc⟩) H' := ⟨fun q o h _ n => ⟨h, fun m => by
    rcases m with (⟨i, m⟩ | m) | m
    · rcases at_ i q m with m | ⟨_, e⟩
      · exact n (.inl (.inl ⟨i, m⟩))
      · rw [e] at n; exact n (.inr hd)
    · exact n (.inl (.inr m))
    · exact n (.inr m.1)⟩⟩
  have vl : ∀ {a : Vl} {v : V}, VlR G W' H' a v → VlR G ⟨W'.cells ++ [some D], (W'.drop D).av, W'.hc⟩ H' a v := fun r => VlR.sub (W := W') (W' := ⟨W'.cells ++ [some D], (W'.drop D).av, W'.hc⟩) rfl (by simp) hb x0 r
  refine ⟨⟨x.keep, x.there, by have := x.grow; simp at this ⊢; omega, fun i a hi h => ?_, fun q ⟨i, h⟩ => ?_, fun q h => x.av q h.1, fun q h => ⟨x.avm q h, by rintro rfl; exact n h⟩, x.hc⟩,
    ⟨by simp [R.len], fun i j a h1 h2 => ?_, fun i c h => ?_, fun i h => ?_, R.spr, ⟨fun ⟨i, h⟩ => ?_, fun ⟨i, h⟩ => ?_⟩, fun a h => R.avt a h.1, fun a ⟨i, l⟩ h => ?_, R.tabs⟩, ?_⟩
  · exact x.back i a hi (hb i a (Nat.lt_of_lt_of_le hi x.grow) h)
  · rcases at_ i q h with h | ⟨_, e⟩
    · exact x.fresh q ⟨i, h⟩
    · rw [e]; exact .inr hD
  · rcases at_ i a h1 with k1 | ⟨k1, e1⟩ <;> rcases at_ j a h2 with k2 | ⟨k2, e2⟩
    · exact R.inj i j a k1 k2
    · subst e2; exact absurd ⟨i, k1⟩ nl
    · subst e1; exact absurd ⟨j, k2⟩ nl
    · omega
  · by_cases hi : i < st.length
    · rw [List.getElem?_append_left hi] at h
      obtain ⟨a, h1, r'⟩ := R.cell i c h
      refine ⟨a, by rw [List.getElem?_append_left (by rw [R.len]; exact hi)]; exact h1, ?_⟩
      cases c with
      | lst xs => obtain ⟨vs, q, k⟩ := r'; exact ⟨vs, q, Paired.mapP k fun _ _ => vl⟩
      | dct ks us => obtain ⟨vs, q, k1, k2⟩ := r'; exact ⟨vs, q, k1, Paired.mapP k2 fun _ _ => vl⟩
      | ins c vs => exact r'
    · rw [List.getElem?_append_right (by omega)] at h
      have z : i - st.length = 0 := by
        cases z : i - st.length with
        | zero => rfl
        | succ n => rw [z] at h; simp at h
      rw [z] at h
      simp at h
      subst h
      have e : i = W'.cells.length := by rw [R.len]; omega
      exact ⟨D, by rw [e]; simp, r _ rfl x0 (by simp) hb⟩
  · by_cases hi : i < st.length
    · rw [List.getElem?_append_left hi] at h
      rw [List.getElem?_append_left (by rw [R.len]; exact hi)]
      exact R.dead i h
    · rw [List.getElem?_append_right (by omega)] at h
      cases z : i - st.length with
      | zero => rw [z] at h; simp at h
      | succ n => rw [z] at h; simp at h
  · rcases at_ i _ h with h | ⟨_, e⟩
    · exact R.nosp.1 ⟨i, h⟩
    · exact h1 e
  · rcases at_ i _ h with h | ⟨_, e⟩
    · exact R.nosp.2 ⟨i, h⟩
    · exact h2 e
  · rcases at_ i a l with l | ⟨_, e⟩
    · exact R.avl a ⟨i, l⟩ h.1
    · exact h.2 e
  · refine ⟨by simp [R.len], fun a h => ?_⟩
    rcases at_ _ a h with h | ⟨_, e⟩
    · have := (List.getElem?_eq_some_iff.mp h).1
      rw [R.len] at this; omega
    · rw [e]
/-! ### the loop -/
def noX : Nat → List D → Store → Nat → Prop := fun _ _ _ _ => False
def Wn : WX := fun _ _ _ _ => False
theorem compL_cons {f : Vl → Store → E (Option Vl)} {x : Vl} {xs acc : List Vl} {s : Store} {b : Nat} {K : List Vl → Store → Nat → Prop} {Kx : Nat → List D → Store → Nat → Prop} (h : EG K Kx (compL f (x :: xs) acc s) b) :
    EG (fun o s' b' => match o with
      | some v => acc.length < 1000000 ∧ EG K Kx (compL f xs (acc ++ [v]) s') b'
      | none => EG K Kx (compL f xs acc s') b') noX (f x s) b := by
  unfold compL at h
  unfold EG at h ⊢
  rw [good_bind] at h
  refine good_mono (fun o b q => ?_) h
  cases o with
  | x c fs s' => exact q.elim
  | v o s' =>
    cases o with
    | none => exact q
    | some v =>
      dsimp only at q
      split at q
      · rename_i hl; exact ⟨hl, q⟩
      · exact q.elim
theorem noX_KX {W : Wd} {H : Hp} {σ : L2.St} {K : Vl → Store → Nat → Prop} {r : E Vl} {b : Nat} (h : EG K noX r b) : EG K (KX cs G Wn W H σ) r b := h.mono (fun _ _ _ q => q) fun _ _ _ _ q => q.elim
/-- what a comprehension's turns keep -/
def LcInv (G : Gd) (f : Vl → Store → E (Option Vl)) (W : Wd) (H : Hp) (p : Addr) (K : List Vl → Store → Nat → Prop) (Kx : Nat → List D → Store → Nat → Prop) (vs : List Vl) (H' : Hp) : Prop :=
  ∃ W' s b acc us, Ext G W H W' H' ∧ W'.av p ∧ Rel G W' s b H' ∧ H' p = some (.lst us) ∧ VlRs G W' H' acc us ∧ EG K Kx (compL f vs acc s) b
def lcF (re rc : Env → Store → E Vl) (t : Tg) (own : List Nat) (e : Env) : Vl → Store → E (Option Vl) := fun v st => match setTg t v (wipeE e own) with
  | some e' => bnd (rc e' st) fun t st => match truth t with
    | some true => bnd (re e' st) fun y st => ret (some y) st
    | some false => ret none st
    | none => .err
  | none => .err
def lcE (ri rc re : Env → Store → E Vl) (m : Bool) (t : Tg) (own : List Nat) : Env → Store → E Vl := fun e st => bnd (ri e st) fun w st => match itsOf w with
  | none => .err
  | some vs => bnd (compL (lcF re rc t own e) vs [] st) fun ys st =>
    if m then ret (.ref st.length) (st ++ [some (.lst ys)]) else lift ((dats ys).map fun l => .d (.lst l)) st
theorem lc_read {ri rc re : Env → Store → E Vl} {m : Bool} {t : Tg} {own : List Nat} (hown : tgIn t own = true) {σ : L2.St} {H : Hp} {Q : VK} (h : tE cs G Wx (lcE ri rc re m t own) σ H Q) :
    tLc (tI cs G Wx ri) (tG G t) (tT cs G Wn rc) (tE cs G Wn re) own σ H Q := by
  obtain ⟨W, e, st, b, R, V, g⟩ := h
  unfold lcE at g
  rw [EG_bnd] at g
  refine ⟨W, e, st, b, R, V, g.mono (fun a s b g => ?_) fun _ _ _ _ q => q⟩
  cases ev : itsOf a with
  | none => rw [ev] at g; exact g.elim
  | some vs =>
    rw [ev] at g
    refine ⟨vs, ev, fun W1 H1 J x1 R1 J1 D hD => ?_⟩
    have V1 := V.ext x1
    have nsp : G.sp ≠ D := fun e => R1.av_there (.inl (.inr (.inl rfl))) (by rw [e]; exact hD)
    have nsc : G.sc ≠ D := fun e => R1.av_there (.inl (.inr (.inr rfl))) (by rw [e]; exact hD)
    have nav : ¬ W1.av D := fun h => R1.avt D h (.none hD)
    have g' : EG (fun ys s b => EG (KV' G W H Q) (KX cs G Wx W H σ) (if m then ret (.ref s.length) (s ++ [some (.lst ys)]) else lift ((dats ys).map fun l => .d (.lst l)) s) b) (KX cs G Wx W H σ) (compL (lcF re rc t own e) vs [] s) b := EG_bnd.mp g
    generalize hK : (fun (ys : List Vl) s b => EG (KV' G W H Q) (KX cs G Wx W H σ) (if m then ret (.ref s.length) (s ++ [some (.lst ys)]) else lift ((dats ys).map fun l => .d (.lst l)) s) b) = K at g'
    refine ⟨fun i n H' => n = vs.length - i ∧ i ≤ vs.length ∧ LcInv G (lcF re rc t own e) W1 H1 D K (KX cs G Wx W H σ) (vs.drop i) H', ⟨_, rfl, Nat.zero_le _, W1.plus D, s, b, [], [], ext_plus hD, .inr rfl, rel_plus R1 hD nofun, upd_same, .nil, g'⟩, ?_⟩
    rintro i n H' ⟨rfl, hi, W', s', b', acc, us, x', hav, R', hl, ra, g2⟩
    by_cases hlt : i < vs.length
    · refine .inr ?_
      obtain ⟨a, ea⟩ : ∃ a, vs[i]? = some a := ⟨vs[i], List.getElem?_eq_getElem hlt⟩
      obtain ⟨go, yl⟩ := J1.go W' H' i a s' b' x'.toA R' ea
      have ed : vs.drop i = a :: vs.drop (i + 1) := by
        rw [List.drop_eq_getElem_cons hlt]
        rw [List.getElem?_eq_getElem hlt] at ea
        cases ea; rfl
      rw [ed] at g2
      have g3 := compL_cons g2
      refine ⟨go, LcInv G (lcF re rc t own e) W1 H1 D K (KX cs G Wx W H σ) (vs.drop (i + 1)), fun H2 q => ⟨_, ?_, rfl, hlt, q⟩, fun x H3 y => ?_⟩
      · omega
      · obtain ⟨kp, rx⟩ := yl x H3 y
        have x3 := x'.trans (pure_ext (G := G) (W := W') kp)
        have R3 := pure_rel R' kp
        unfold lcF at g3
        cases es : setTg t a (wipeE e own) with
        | none => rw [es] at g3; exact g3.elim
        | some e' =>
          rw [es] at g3
          refine ⟨W', wipeE e own, a, e', (V1.ext x3).wipe own, rx, es, fun σ2 V2 hw => ⟨by rw [hw own hown, wipe_wipe], ?_⟩⟩
          have g4 := noX_KX (cs := cs) (G := G) (W := W') (H := H3) (σ := σ2) (EG_bnd.mp g3)
          refine ⟨W', e', s', b', R3, V2, g4.mono (fun tv s4 b4 g5 => ?_) fun _ _ _ _ q => q⟩
          cases et : truth tv with
          | none => rw [et] at g5; exact g5.elim
          | some tb =>
            rw [et] at g5
            refine ⟨tb, et, fun W4 H4 x4 R4 => ?_⟩
            have x14 := x3.trans x4
            have kpD : ∀ {W5 H5}, Ext G W' H3 W5 H5 → H5 D = some (.lst us) := fun x5 => x5.keep D _ (kp D _ hl) nofun fun mv => by
              rcases mv with mv | mv | mv
              · exact R'.avl D mv hav
              · exact nsp mv.symm
              · exact nsc mv.symm
            cases tb with
            | false =>
              simp only [Bool.false_eq_true, if_false]
              exact ⟨W4, s4, b4, acc, us, x14, x4.avm D hav, R4, kpD x4, Paired.mapP ra fun _ _ q => (q.ext (pure_ext kp)).ext x4, g5⟩
            | true =>
              simp only [if_true]
              have g6 := noX_KX (cs := cs) (G := G) (W := W4) (H := H4) (σ := σ2) (EG_bnd.mp g5)
              refine ⟨W4, e', s4, b4, R4, V2.ext x4, g6.mono (fun yv s5 b5 g7 => ?_) fun _ _ _ _ q => q⟩
              intro W5 H5 v x5 R5 r5
              obtain ⟨hlen, g7⟩ := g7
              have x35 := x4.trans x5
              have hl5 := kpD x35
              have av5 := x35.avm D hav
              have ra5 : VlRs G W5 H5 acc us := Paired.mapP ra fun _ _ q => (q.ext (pure_ext kp)).ext x35
              refine ⟨us, hl5, by rw [← paired_len ra]; exact Nat.lt_of_lt_of_le hlen million, W5, s5, b5, acc ++ [yv], us ++ [v], ext_at hD (x14.trans x5), av5, rel_at R5 av5 nsp nsc nofun (tabs_lst R5.tabs hl5), upd_same, ?_, g7⟩
              exact paired_snoc (r5.sub rfl (Nat.le_refl _) (fun _ _ _ h => h) (ext0_at av5)) (Paired.mapP ra5 fun _ _ q => q.sub rfl (Nat.le_refl _) (fun _ _ _ h => h) (ext0_at av5))
    · have e : i = vs.length := by omega
      subst e
      refine .inl ⟨J1.stop W' H' x'.toA, ?_⟩
      rw [List.drop_length] at g2
      have g3 : K acc s' b' := g2
      subst hK
      cases m with
      | true =>
        obtain ⟨y1, y2, y3⟩ := adopt (c := .lst acc) (.none hD) x' R' hav nav nsp nsc fun W2 eh x0 hc hb => ⟨us, hl, Paired.mapP ra fun _ _ q => q.sub eh hc hb x0⟩
        exact g3 _ H' _ (x1.trans y1) y2 y3
      | false =>
        have g3 := EG_lift.mp g3
        obtain ⟨o, eo, q⟩ := g3
        obtain ⟨ds, ed, rfl⟩ := Option.map_eq_some_iff.mp eo
        have ea := dats_mem ed
        subst ea
        refine q (W'.drop D) H' _ (x1.trans (ext_drop x' nav)) (rel_drop R') ?_
        have rr := VlRs_d ra
        unfold VlR VR
        refine ⟨D, us, rfl, hl, fun av => ?_, VRs.ext0 ext0_drop rr⟩
        rcases av with (av | av | av) | av
        · exact R'.avl D ((live_iff rfl).mp av) hav
        · exact nsp av.symm
        · exact nsc av.symm
        · exact av.2 rfl
theorem pe_lcE {elt tg iter : Expr} {ifs : List Expr} {scope : Scope} {own : List (Str × Nat)} {pos : Pos} {ri rc re run : Env → Store → E Vl} {m : Bool} {t : Tg} (hc : X.calm = true) (hN : X.N.Nodup) (hi : PI X tg iter (tI cs G Wx ri)) (ok : BlkOk X.N X.env.scope scope own)
    (hg : ∀ (s : Shared) (H : Hp) (C : Addr) (cl : List (Str × Addr)) (fp : List Addr), PG (X.blk s H scope (compEnvC scope cl C X.env) fp) tg (tG G t)) (ht : ∀ (s : Shared) (H : Hp) (C : Addr) (cl : List (Str × Addr)) (fp : List Addr), PTs (X.blk s H scope (compEnvC scope cl C X.env) fp) ifs (tT cs G Wn rc))
    (he : ∀ (s : Shared) (H : Hp) (C : Addr) (cl : List (Str × Addr)) (fp : List Addr), PE (X.blk s H scope (compEnvC scope cl C X.env) fp) elt (tE cs G Wn re)) (hs : ∀ x, foldedSetIterable iter X.env x = pure x)
    (hown : tgIn t (own.map (·.2)) = true) (hr : ∀ e st, run e st = lcE ri rc re m t (own.map (·.2)) e st) : PE X (.ListComp elt [⟨tg, iter, ifs, 0⟩] scope pos) (tE cs G Wx run) := by
  have er : run = lcE ri rc re m t (own.map (·.2)) := funext fun e => funext fun st => hr e st
  subst er
  exact PE.imp (pe_lc hc hN hi ok hg ht he hs) fun σ H Q h => lc_read hown h
end
end EV

end
section
set_option Elab.async false
set_option linter.all false
set_option maxRecDepth 100000
set_option maxHeartbeats 4000000
/-! EV 12b: list comprehensions with two sources. -/
namespace EV
open PySem PySem.Spec PyProof.Rows L2
open LamX (Tabs TabS CodeO)
section
variable {cs : List ErrC} {G : Gd} {Wx : WX} {X : Cx}
theorem EnvR.extA {W W' : Wd} {H H' : Hp} (x : ExtA G W H W' H') {e : Env} {σ : L2.St} (h : EnvR G W H e σ) : EnvR G W' H' e σ :=
  ⟨h.len, fun i a q => let ⟨v, h1, h2⟩ := h.get0 i a q; ⟨v, h1, h2.sub x.hc x.grow x.back x.ext0⟩⟩
theorem outL_cons {g : Vl → List Vl → Store → E (List Vl)} {x : Vl} {xs acc : List Vl} {s : Store} {b : Nat} {K : List Vl → Store → Nat → Prop} {Kx : Nat → List D → Store → Nat → Prop} (h : EG K Kx (outL g (x :: xs) acc s) b) :
    EG (fun acc s b => EG K Kx (outL g xs acc s) b) noX (g x acc s) b := by
  unfold outL at h
  unfold EG at h ⊢
  rw [good_bind] at h
  refine good_mono (fun o b q => ?_) h
  cases o with
  | x c fs s' => exact q.elim
  | v acc s' => exact q
def lc2G (rc ri1 rc1 re : Env → Store → E Vl) (t : Tg) (own : List Nat) (t1 : Tg) (own1 : List Nat) (e : Env) : Vl → List Vl → Store → E (List Vl) := fun v acc st => match setTg t v (wipeE e own) with
  | none => .err
  | some e2 => bnd (rc e2 st) fun tv st => match truth tv with
    | none => .err
    | some false => ret acc st
    | some true => bnd (ri1 e2 st) fun w1 st => match itsOf w1 with
      | none => .err
      | some vs1 => compL (lcF re rc1 t1 own1 e2) vs1 acc st
def lc2E (ri rc ri1 rc1 re : Env → Store → E Vl) (m : Bool) (t : Tg) (own : List Nat) (t1 : Tg) (own1 : List Nat) : Env → Store → E Vl := fun e st => bnd (ri e st) fun w st => match itsOf w with
  | none => .err
  | some vs => bnd (outL (lc2G rc ri1 rc1 re t own t1 own1 e) vs [] st) fun ys st =>
    if m then ret (.ref st.length) (st ++ [some (.lst ys)]) else lift ((dats ys).map fun l => .d (.lst l)) st
/-- what the outer turns keep -/
def OutInv (G : Gd) (g : Vl → List Vl → Store → E (List Vl)) (W : Wd) (H : Hp) (p : Addr) (K : List Vl → Store → Nat → Prop) (Kx : Nat → List D → Store → Nat → Prop) (vs : List Vl) (H' : Hp) : Prop :=
  ∃ W' s b acc us, Ext G W H W' H' ∧ W'.av p ∧ Rel G W' s b H' ∧ H' p = some (.lst us) ∧ VlRs G W' H' acc us ∧ EG K Kx (outL g vs acc s) b
theorem lc2_read {ri rc ri1 rc1 re : Env → Store → E Vl} {m : Bool} {t t1 : Tg} {own own1 : List Nat} (hown : tgIn t own = true) (hown1 : tgIn t1 own1 = true) {σ : L2.St} {H : Hp} {Q : VK} (h : tE cs G Wx (lc2E ri rc ri1 rc1 re m t own t1 own1) σ H Q) :
    tLc2 (tI cs G Wx ri) (tG G t) (tT cs G Wn rc) (tI cs G Wn ri1) (tG G t1) (tT cs G Wn rc1) (tE cs G Wn re) own own1 σ H Q := by
  obtain ⟨W, e, st, b, R, V, g⟩ := h
  unfold lc2E at g
  rw [EG_bnd] at g
  refine ⟨W, e, st, b, R, V, g.mono (fun a s b g => ?_) fun _ _ _ _ q => q⟩
  cases ev : itsOf a with
  | none => rw [ev] at g; exact g.elim
  | some vs =>
    rw [ev] at g
    refine ⟨vs, ev, fun W1 H1 J x1 R1 J1 D hD => ?_⟩
    have V1 := V.ext x1
    have nsp : G.sp ≠ D := fun e => R1.av_there (.inl (.inr (.inl rfl))) (by rw [e]; exact hD)
    have nsc : G.sc ≠ D := fun e => R1.av_there (.inl (.inr (.inr rfl))) (by rw [e]; exact hD)
    have nav : ¬ W1.av D := fun h => R1.avt D h (.none hD)
    have g' : EG (fun ys s b => EG (KV' G W H Q) (KX cs G Wx W H σ) (if m then ret (.ref s.length) (s ++ [some (.lst ys)]) else lift ((dats ys).map fun l => .d (.lst l)) s) b) (KX cs G Wx W H σ) (outL (lc2G rc ri1 rc1 re t own t1 own1 e) vs [] s) b := EG_bnd.mp g
    generalize hK : (fun (ys : List Vl) s b => EG (KV' G W H Q) (KX cs G Wx W H σ) (if m then ret (.ref s.length) (s ++ [some (.lst ys)]) else lift ((dats ys).map fun l => .d (.lst l)) s) b) = K at g'
    have kpD : ∀ {W' s' b' H' us}, Rel G W' s' b' H' → W'.av D → H' D = some (.lst us) → ∀ {W5 H5}, Ext G W' H' W5 H5 → H5 D = some (.lst us) := fun {W' s' b' H' us} R' hav hl {W5 H5} x5 => x5.keep D _ hl nofun fun mv => by
      rcases mv with mv | mv | mv
      · exact R'.avl D mv hav
      · exact nsp mv.symm
      · exact nsc mv.symm
    refine ⟨fun i n H' => n = vs.length - i ∧ i ≤ vs.length ∧ OutInv G (lc2G rc ri1 rc1 re t own t1 own1 e) W1 H1 D K (KX cs G Wx W H σ) (vs.drop i) H', ⟨_, rfl, Nat.zero_le _, W1.plus D, s, b, [], [], ext_plus hD, .inr rfl, rel_plus R1 hD nofun, upd_same, .nil, g'⟩, ?_⟩
    rintro i n H' ⟨rfl, hi, W', s', b', acc, us, x', hav, R', hl, ra, g2⟩
    by_cases hlt : i < vs.length
    · refine .inr ?_
      obtain ⟨a, ea⟩ : ∃ a, vs[i]? = some a := ⟨vs[i], List.getElem?_eq_getElem hlt⟩
      obtain ⟨go, yl⟩ := J1.go W' H' i a s' b' x'.toA R' ea
      have ed : vs.drop i = a :: vs.drop (i + 1) := by
        rw [List.drop_eq_getElem_cons hlt]
        rw [List.getElem?_eq_getElem hlt] at ea
        cases ea; rfl
      rw [ed] at g2
      have g3 := outL_cons g2
      generalize hK1 : (fun acc s b => EG K (KX cs G Wx W H σ) (outL (lc2G rc ri1 rc1 re t own t1 own1 e) (vs.drop (i + 1)) acc s) b) = K1 at g3
      refine ⟨go, OutInv G (lc2G rc ri1 rc1 re t own t1 own1 e) W1 H1 D K (KX cs G Wx W H σ) (vs.drop (i + 1)), fun H2 q => ⟨_, ?_, rfl, hlt, q⟩, fun x H3 y => ?_⟩
      · omega
      · obtain ⟨kp, rx⟩ := yl x H3 y
        have x3 := x'.trans (pure_ext (G := G) (W := W') kp)
        have R3 := pure_rel R' kp
        have hl3 := kp D _ hl
        have ra3 : VlRs G W' H3 acc us := Paired.mapP ra fun _ _ q => q.ext (pure_ext kp)
        unfold lc2G at g3
        cases es : setTg t a (wipeE e own) with
        | none => rw [es] at g3; exact g3.elim
        | some e2 =>
          rw [es] at g3
          refine ⟨W', wipeE e own, a, e2, (V1.ext x3).wipe own, rx, es, fun σ2 V2 hw => ⟨by rw [hw own hown, wipe_wipe], ?_⟩⟩
          have g4 := noX_KX (cs := cs) (G := G) (W := W') (H := H3) (σ := σ2) (EG_bnd.mp g3)
          refine ⟨W', e2, s', b', R3, V2, g4.mono (fun tv s4 b4 g5 => ?_) fun _ _ _ _ q => q⟩
          cases et : truth tv with
          | none => rw [et] at g5; exact g5.elim
          | some tb =>
            rw [et] at g5
            refine ⟨tb, et, fun W4 H4 x4 R4 => ?_⟩
            have x14 := x3.trans x4
            have hl4 := kpD R3 hav hl3 x4
            have ra4 : VlRs G W4 H4 acc us := Paired.mapP ra3 fun _ _ q => q.ext x4
            cases tb with
            | false =>
              simp only [Bool.false_eq_true, if_false]
              have g5' : K1 acc s4 b4 := g5
              rw [← hK1] at g5'
              exact ⟨W4, s4, b4, acc, us, x14, x4.avm D hav, R4, hl4, ra4, g5'⟩
            | true =>
              simp only [if_true]
              dsimp only at g5
              have g6 := noX_KX (cs := cs) (G := G) (W := W4) (H := H4) (σ := σ2) (EG_bnd.mp g5)
              refine ⟨W4, e2, s4, b4, R4, V2.ext x4, g6.mono (fun wv s5 b5 g7 => ?_) fun _ _ _ _ q => q⟩
              cases ew : itsOf wv with
              | none => rw [ew] at g7; exact g7.elim
              | some vs1 =>
                rw [ew] at g7
                dsimp only at g7
                refine ⟨vs1, ew, fun W5 H5 J5 x5 R5 K5 => ?_⟩
                have V5 := (V2.ext x4).ext x5
                refine ⟨fun j k H' => k = vs1.length - j ∧ j ≤ vs1.length ∧ ∃ W' s b acc us, ExtA G W5 H5 W' H' ∧ Ext G W1 H1 W' H' ∧ W'.av D ∧ Rel G W' s b H' ∧ H' D = some (.lst us) ∧ VlRs G W' H' acc us ∧ EG K1 noX (compL (lcF re rc1 t1 own1 e2) (vs1.drop j) acc s) b,
                  ⟨_, rfl, Nat.zero_le _, W5, s5, b5, acc, us, Ext.refl.toA, x14.trans x5, x5.avm D (x4.avm D hav), R5, kpD R4 (x4.avm D hav) hl4 x5, Paired.mapP ra4 fun _ _ q => q.ext x5, g7⟩, ?_⟩
                rintro j k H6 ⟨rfl, hj, W6, s6, b6, acc6, us6, x56, x16, av6, R6, hl6, ra6, g8⟩
                by_cases hlt1 : j < vs1.length
                · refine .inr ?_
                  obtain ⟨a1, ea1⟩ : ∃ a, vs1[j]? = some a := ⟨vs1[j], List.getElem?_eq_getElem hlt1⟩
                  obtain ⟨go1, yl1⟩ := K5.go W6 H6 j a1 s6 b6 x56 R6 ea1
                  have ed1 : vs1.drop j = a1 :: vs1.drop (j + 1) := by
                    rw [List.drop_eq_getElem_cons hlt1]
                    rw [List.getElem?_eq_getElem hlt1] at ea1
                    cases ea1; rfl
                  rw [ed1] at g8
                  have h3 := compL_cons g8
                  refine ⟨go1, fun H' => j + 1 ≤ vs1.length ∧ ∃ W' s b acc us, ExtA G W5 H5 W' H' ∧ Ext G W1 H1 W' H' ∧ W'.av D ∧ Rel G W' s b H' ∧ H' D = some (.lst us) ∧ VlRs G W' H' acc us ∧ EG K1 noX (compL (lcF re rc1 t1 own1 e2) (vs1.drop (j + 1)) acc s) b, fun H2 q => ⟨_, ?_, rfl, q⟩, fun x H7 y => ?_⟩
                  · have := q.1; omega
                  · obtain ⟨kp7, rx7⟩ := yl1 x H7 y
                    have p7 := pure_ext (G := G) (W := W6) kp7
                    have R7 := pure_rel R6 kp7
                    have hl7 := kp7 D _ hl6
                    have ra7 : VlRs G W6 H7 acc6 us6 := Paired.mapP ra6 fun _ _ q => q.ext p7
                    unfold lcF at h3
                    cases es1 : setTg t1 a1 (wipeE e2 own1) with
                    | none => rw [es1] at h3; exact h3.elim
                    | some e3 =>
                      rw [es1] at h3
                      refine ⟨W6, wipeE e2 own1, a1, e3, ((EnvR.extA x56 V5).ext p7).wipe own1, rx7, es1, fun σ3 V3 hw3 => ⟨by rw [hw3 own1 hown1, wipe_wipe], ?_⟩⟩
                      have h4 := noX_KX (cs := cs) (G := G) (W := W6) (H := H7) (σ := σ3) (EG_bnd.mp h3)
                      refine ⟨W6, e3, s6, b6, R7, V3, h4.mono (fun tv1 s8 b8 h5 => ?_) fun _ _ _ _ q => q⟩
                      cases et1 : truth tv1 with
                      | none => rw [et1] at h5; exact h5.elim
                      | some tb1 =>
                        rw [et1] at h5
                        refine ⟨tb1, et1, fun W8 H8 x8 R8 => ?_⟩
                        cases tb1 with
                        | false =>
                          simp only [Bool.false_eq_true, if_false]
                          exact ⟨hlt1, W8, s8, b8, acc6, us6, (x56.trans p7).trans x8, (x16.trans p7).trans x8, x8.avm D av6, R8, kpD R7 av6 hl7 x8, Paired.mapP ra7 fun _ _ q => q.ext x8, h5⟩
                        | true =>
                          simp only [if_true]
                          have h6 := noX_KX (cs := cs) (G := G) (W := W8) (H := H8) (σ := σ3) (EG_bnd.mp h5)
                          refine ⟨W8, e3, s8, b8, R8, V3.ext x8, h6.mono (fun yv s9 b9 h7 => ?_) fun _ _ _ _ q => q⟩
                          intro W9 H9 v9 x9 R9 r9
                          obtain ⟨hlen, h7⟩ := h7
                          have x79 := x8.trans x9
                          have hl9 := kpD R7 av6 hl7 x79
                          have av9 := x79.avm D av6
                          have ra9 : VlRs G W9 H9 acc6 us6 := Paired.mapP ra7 fun _ _ q => q.ext x79
                          refine ⟨us6, hl9, by rw [← paired_len ra6]; exact Nat.lt_of_lt_of_le hlen million, hlt1, W9, s9, b9, acc6 ++ [yv], us6 ++ [v9], ?_, ext_at hD ((x16.trans p7).trans x79), av9, rel_at R9 av9 nsp nsc nofun (tabs_lst R9.tabs hl9), upd_same, ?_, h7⟩
                          · exact extA_at (x5.avm D (x4.avm D hav)) nofun ((x56.trans p7).trans x79)
                          · exact paired_snoc (r9.sub rfl (Nat.le_refl _) (fun _ _ _ h => h) (ext0_at av9)) (Paired.mapP ra9 fun _ _ q => q.sub rfl (Nat.le_refl _) (fun _ _ _ h => h) (ext0_at av9))
                · have e0 : j = vs1.length := by omega
                  subst e0
                  refine .inl ⟨K5.stop W6 H6 x56, ?_⟩
                  rw [List.drop_length] at g8
                  have g9 : K1 acc6 s6 b6 := g8
                  rw [← hK1] at g9
                  exact ⟨W6, s6, b6, acc6, us6, x16, av6, R6, hl6, ra6, g9⟩
    · have e : i = vs.length := by omega
      subst e
      refine .inl ⟨J1.stop W' H' x'.toA, ?_⟩
      rw [List.drop_length] at g2
      have g3 : K acc s' b' := g2
      subst hK
      cases m with
      | true =>
        obtain ⟨y1, y2, y3⟩ := adopt (c := .lst acc) (.none hD) x' R' hav nav nsp nsc fun W2 eh x0 hc hb => ⟨us, hl, Paired.mapP ra fun _ _ q => q.sub eh hc hb x0⟩
        exact g3 _ H' _ (x1.trans y1) y2 y3
      | false =>
        have g3 := EG_lift.mp g3
        obtain ⟨o, eo, q⟩ := g3
        obtain ⟨ds, ed, rfl⟩ := Option.map_eq_some_iff.mp eo
        have ea := dats_mem ed
        subst ea
        refine q (W'.drop D) H' _ (x1.trans (ext_drop x' nav)) (rel_drop R') ?_
        have rr := VlRs_d ra
        unfold VlR VR
        refine ⟨D, us, rfl, hl, fun av => ?_, VRs.ext0 ext0_drop rr⟩
        rcases av with (av | av | av) | av
        · exact R'.avl D ((live_iff rfl).mp av) hav
        · exact nsp av.symm
        · exact nsc av.symm
        · exact av.2 rfl
theorem pe_lc2E {elt tg iter tg1 iter1 : Expr} {ifs ifs1 : List Expr} {scope : Scope} {own : List (Str × Nat)} {own1 : List Nat} {pos : Pos} {ri rc ri1 rc1 re run : Env → Store → E Vl} {m : Bool} {t t1 : Tg} (hc : X.calm = true) (hN : X.N.Nodup) (hi : PI X tg iter (tI cs G Wx ri)) (ok : BlkOk X.N X.env.scope scope own) (hv : ∀ i ∈ own1, i ∈ own.map (·.2))
    (hg : ∀ (s : Shared) (H : Hp) (C : Addr) (cl : List (Str × Addr)) (fp : List Addr), PG (X.blk s H scope (compEnvC scope cl C X.env) fp) tg (tG G t)) (ht : ∀ (s : Shared) (H : Hp) (C : Addr) (cl : List (Str × Addr)) (fp : List Addr), PTs (X.blk s H scope (compEnvC scope cl C X.env) fp) ifs (tT cs G Wn rc))
    (hi1 : ∀ (s : Shared) (H : Hp) (C : Addr) (cl : List (Str × Addr)) (fp : List Addr), PI (X.blk s H scope (compEnvC scope cl C X.env) fp) tg1 iter1 (tI cs G Wn ri1))
    (hg1 : ∀ (s : Shared) (H : Hp) (C : Addr) (cl : List (Str × Addr)) (fp : List Addr), PG (X.blk s H scope (compEnvC scope cl C X.env) fp) tg1 (tG G t1)) (ht1 : ∀ (s : Shared) (H : Hp) (C : Addr) (cl : List (Str × Addr)) (fp : List Addr), PTs (X.blk s H scope (compEnvC scope cl C X.env) fp) ifs1 (tT cs G Wn rc1))
    (he : ∀ (s : Shared) (H : Hp) (C : Addr) (cl : List (Str × Addr)) (fp : List Addr), PE (X.blk s H scope (compEnvC scope cl C X.env) fp) elt (tE cs G Wn re)) (hs : ∀ x, foldedSetIterable iter X.env x = pure x) (hs1 : ∀ env x, foldedSetIterable iter1 env x = pure x)
    (hown : tgIn t (own.map (·.2)) = true) (hown1 : tgIn t1 own1 = true) (hr : ∀ e st, run e st = lc2E ri rc ri1 rc1 re m t (own.map (·.2)) t1 own1 e st) : PE X (.ListComp elt [⟨tg, iter, ifs, 0⟩, ⟨tg1, iter1, ifs1, 0⟩] scope pos) (tE cs G Wx run) := by
  have er : run = lc2E ri rc ri1 rc1 re m t (own.map (·.2)) t1 own1 := funext fun e => funext fun st => hr e st
  subst er
  exact PE.imp (pe_lc2 hc hN hi ok hv hg ht hi1 hg1 ht1 he hs hs1) fun σ H Q h => lc2_read hown hown1 h
end
end EV

end
section
set_option Elab.async false
set_option linter.all false
set_option maxRecDepth 100000
set_option maxHeartbeats 4000000
/-! EV 13: enumerate over a tuple. -/
namespace EV
open PySem PySem.Spec PyProof.Rows L2

theorem meets_enumerate_newB1 {v : Value} {o : Obj} {H : Heap → Prop} (B : Begins v o H) :
    Meets (Builtin.«enumerate.__new__» ⟨[.type "enumerate", v], []⟩) (fun _ R s => H s.heap ∧
      R (.ok (.ret (.ref (s.heap.push o).objs.size))) { s with heap := (s.heap.push o).push { cls := .type "enumerate", data := .fields #[.none, .bool false, .ref s.heap.objs.size, rawInt 0, .none, .none] } }) :=
  .of_wp fun prog w A R s h => by
    obtain ⟨hp, g, d, tk, os⟩ := s; obtain ⟨h1, h⟩ := h
    have hsub := sub_enumerate
    have q1 : ∀ {A' : Around} {E : Value → Shared → Prop} {Q : Value → Shared → Prop}, Q (.ref hp.objs.size) ⟨hp.push o, g, d, tk, os⟩ → wpAny (model prog w) A' (pyIter v) Q E ⟨hp, g, d, tk, os⟩ :=
      fun q => B.iter prog w _ _ ⟨hp, g, d, tk, os⟩ _ h1 q
    wp_walk using q1
    refine wpAny_stack_any fun st => wpAny_pure ?_
    split
    · rename_i c _ _ _ _ _
      cases (c == Value.type "enumerate")
      · wp_walk using q1
        exact ⟨_, rfl, h⟩
      · wp_walk using q1
        exact ⟨_, rfl, h⟩
    · wp_walk using q1
      exact ⟨_, rfl, h⟩
section
variable {prog : Program} {w : World} {A : Around} {E : Value → Shared → Prop} {s : Shared}
theorem enum_begins1 {v : Value} {o : Obj} {H : Heap → Prop} {Q : Value → Shared → Prop} (B : Begins v o H) (h1 : H s.heap)
    (h : ∀ h', IsEnum h' (s.heap.objs.size + 1) s.heap.objs.size 0 .none → h'.get? s.heap.objs.size = some o → h'.objs.size = s.heap.objs.size + 2 →
      (∀ b o, s.heap.get? b = some o → h'.get? b = some o) → Q (.ref (s.heap.objs.size + 1)) { s with heap := h' }) :
    wpAny (model prog w) A (call (.type "enumerate") [v]) Q E s := by
  refine callType_new F.called_enumerate (by decide) (F.typeCall_enumerate_1 _) (F.newCall_enumerate_1 _) (fun obj => F.args_object_init_2 obj _) F.entry_enumerate_new
    (meets_enumerate_newB1 B) ⟨h1, ?_⟩
  have hz : (s.heap.push o).objs.size = s.heap.objs.size + 1 := Heap.size_push ..
  show _ ∧ _
  rw [hz]
  have he : IsEnum ((s.heap.push o).push { cls := .type "enumerate", data := .fields #[.none, .bool false, .ref s.heap.objs.size, rawInt 0, .none, .none] }) (s.heap.objs.size + 1) s.heap.objs.size 0 .none := by
    have := Heap.get?_push_size (s.heap.push o) (o := { cls := .type "enumerate", data := .fields #[.none, .bool false, .ref s.heap.objs.size, rawInt 0, .none, .none] }) rfl
    rw [hz] at this; exact this
  refine ⟨⟨_, he, rfl⟩, h _ he (Heap.get?_push_of_some _ (Heap.get?_push_size _ B.free)) (by rw [Heap.size_push, hz]) fun b o x => Heap.get?_push_of_some _ (Heap.get?_push_of_some _ x)⟩
end
/-- the tuple at a -/
def IteT (K : PySem.W.Frag) (a : Addr) : It :=
  ⟨fun i H => ∃ (xs : List V) (x : V), SqT K H a xs ∧ xs[i]? = some x, fun i H v H' => ∃ T x, v = .ref T ∧ H T = none ∧ H' = upd H T (.tup [.int (i : Nat), x]) ∧ ∀ xs, SqT K H a xs → xs[i]? = some x, fun i H => ∃ xs : List V, SqT K H a xs ∧ xs.length ≤ i⟩
theorem turn_enumT {P : Program} {w : World} {K : PySem.W.Frag} {elts : List Expr} {kk : Nat} {tpos : Pos} (a e it : Addr) (hai : a ≠ it) (hae : a ≠ e) :
    Turn P w K (.Tuple elts kk tpos) (IteT K a) [e, it] e (fun i h => (∃ old, IsEnum h e it ((i : Nat) : Int) old) ∧ h.IsTupleIter it a i ∧ e ≠ it) where
  mem := by simp
  obj := fun i h st b hb => by
    obtain ⟨⟨old, he⟩, ⟨o, ho, hc, hd⟩, _⟩ := st
    have e' : b = e ∨ b = it := by simpa using hb
    rcases e' with z | z
    · rw [z]; exact ⟨_, he, fun v q => nomatch q⟩
    · rw [z]; exact ⟨o, ho, fun v q => by rw [hd] at q; cases q⟩
  keep := fun i h h' st k => let ⟨⟨old, he⟩, hi, hne⟩ := st; ⟨⟨old, k e (by simp) _ he⟩, hi.at fun o q => k it (by simp) o q, hne⟩
  item := by
    intro X hP hw hK hc i pins s σ H E I hf st hg
    subst hP hw hK
    obtain ⟨⟨old, he⟩, hit, hne⟩ := st
    obtain ⟨xs, x, hq, hx⟩ := hg
    obtain ⟨its, rv, p, hz⟩ := I.tuple hq
    obtain ⟨u, hu, ru⟩ := rv.get hx
    have hel : e < s.heap.objs.size := Heap.lt_size he
    have hil : it < s.heap.objs.size := by obtain ⟨_, q, _⟩ := hit; exact Heap.lt_size q
    have pt : s.heap.IsTuple a its.toArray := p
    have hlt : i < its.toArray.size := by
      have := (List.getElem?_eq_some_iff.mp hu).1
      simpa using this
    refine wpAny_pyNext_enum_itemD (Draws.tuple (A := X.A.in1) (I.ok.hd hc) it a hai its.toArray) he ⟨hit, pt⟩ hlt hne (by simp [hne, Ne.symm hae]) fun x' h' tk hx' ho hit' hT hsz hk => ?_
    have hxu : x' = u := by
      have hx' : its.toArray[i]? = some x' := hx'
      have : its[i]? = some x' := by simpa using hx'
      rw [hu] at this; cases this; rfl
    subst hxu
    refine ⟨_, rfl, wpAny_letOwnedTupleGo_enum (s := { s with heap := h', toks := tk + 1 }) ho fun h'' he' sb => ?_⟩
    have hT2 : h''.get? s.heap.objs.size = some { cls := .type "tuple", data := .seq #[.int i tk, x'] } := (sb.2 _ (Nat.ne_of_gt hel)).trans hT
    have new : ObjOk X.prog X.w (upd H s.heap.objs.size (.tup [.int (i : Nat), x])) h'' s.heap.objs.size (.tup [.int (i : Nat), x]) :=
      ⟨by show 2 ≤ sizeLine; decide, [.int i tk, x'], .cons ⟨_, rfl⟩ (.cons ru .nil), ⟨_, hT2, rfl, _, rfl⟩⟩
    have I1 : Inv X pins σ (upd H s.heap.objs.size (.tup [.int (i : Nat), x])) { s with heap := h'', toks := tk + 1 } :=
      I.turnedNew (ch := [e, it]) (fun b ob hb q => (sb.2 b (fun z => hb (by simp [z]))).trans (hk b ob (fun z => hb (by simp [z])) (fun z => hb (by simp [z])) q)) hf (Nat.le_refl _) new
    refine ⟨.ref s.heap.objs.size, _, I1, rfl, ⟨_, x, rfl, I.hok.fresh (Nat.le_refl _), rfl, fun ys hy => by rw [I.tuple_inj hy hq]; exact hx⟩, ⟨⟨x', ?_⟩, hit'.1.at fun o q => (sb.2 it (Ne.symm hne)).trans q, hne⟩, fun b hb => ?_⟩
    · have e1 : ((i + 1 : Nat) : Int) = (i : Int) + 1 := by omega
      rw [e1]; exact he'
    · have hb' : b < s.heap.objs.size := by
        have e' : b = e ∨ b = it := by simpa using hb
        rcases e' with z | z
        · rw [z]; exact hel
        · rw [z]; exact hil
      rw [upd_ne (Nat.ne_of_lt hb')]
      exact (hf b hb).1
  done := by
    intro X hP hw hK hc i pins s σ H E I hf st hg
    subst hP hw hK
    obtain ⟨⟨old, he⟩, hit, hne⟩ := st
    obtain ⟨xs, hq, hx⟩ := hg
    obtain ⟨its, rv, p, hz⟩ := I.tuple hq
    have pt : s.heap.IsTuple a its.toArray := p
    obtain ⟨f0, f1, f2, f3, f4, f5⟩ := hf it (by simp)
    have hl := rv.length
    have hT : s.TypeIs (.ref e) "enumerate" := ⟨_, he, rfl⟩
    unfold pyNext
    refine wpAny_bind (wpAny_attempt (wpAny_callSpecial?_slot (name := Str.ofString "__next__") hT F.slot_enumerate_next
      (wpAny_call_entry F.slot_enumerate_next hT F.entry_enumerate_next ?_ (F.args_enumerate_next_1 _))))
    show wpAny _ _ (field (.ref e) 2 >>= _) _ _ _
    refine wpAny_bind (wpAny_field he rfl (x := .ref it) rfl ?_)
    refine wpAny_bind (RZ.nextOf_tuple_end (I.ok.hd hc) hit pt (by simp; omega) fun h' x he' hx' => ?_)
    obtain ⟨o, ho, hc'⟩ := hx'
    refine wpAny_bind (wpAny_isInstance (T := "StopIteration") (b := true) ⟨o, ho, hc'⟩ isSubtype_stop ?_)
    exact wpAny_pure ⟨rfl, I.turned (t' := s.toks) (fun b o hb q => he' b o hb q) f0 f1 f3 f4 f5⟩
  self := fun A i s Q E st h => let ⟨⟨_, he⟩, _⟩ := st; wpAny_pyIter_enum he h
def iEnumA (K : PySem.W.Frag) (ta : TA) : TI := fun σ H R => ta σ H fun vs H1 => ∃ a xs, vs = [.ref a] ∧ ((SqL K H1 a xs ∧ R (Ite K a) H1) ∨ (SqT K H1 a xs ∧ R (IteT K a) H1))
theorem pi_enumA {X : Cx} {e : Expr} {ta : TA} {p pos tpos : Pos} {elts : List Expr} {kk : Nat} (hg : Gl X "enumerate") (hm : X.mg "enumerate" = none) (ha : PA X [e] ta) (hs : starEach [e] X.env = [(false, eval e X.env)] := by rfl) :
    PI X (.Tuple elts kk tpos) (.Call (.Name "enumerate" p) [e] [] pos) (iEnumA X.K ta) := by
  refine ⟨fun pins s σ H R I h => ?_⟩
  refine Call_ (ld_blt I hg hm boot_enumerate (PyProof.Rows.callWith_type1 (thn (ha.run pos pins s σ H _ I h) fun us s1 ⟨vs, H1, I1, r1, q1⟩ => ?_) hs rfl))
  obtain ⟨a, xs, ex, q⟩ := q1
  subst ex
  cases r1 with
  | cons r rr =>
    cases rr
    cases r
    have fin : ∀ b, b ∈ [s1.heap.objs.size + 1, s1.heap.objs.size] → FpOk X pins H1 b := fun b hb => by
      have e' : b = s1.heap.objs.size + 1 ∨ b = s1.heap.objs.size := by simpa using hb
      have hle : s1.heap.objs.size ≤ b := by
        rcases e' with z | z
        · rw [z]; exact Nat.le_add_right _ _
        · rw [z]; exact Nat.le_refl _
      exact I1.fpOk hle (I1.hok.fresh hle)
    rcases q with ⟨hq, q⟩ | ⟨hq, q⟩
    · obtain ⟨its, rv, p', hz⟩ := I1.list hq
      refine call_enumerate_list p'.isList fun h' he hit hsz hk => wpAny_pyIter_enum he ?_
      have I2 : Inv X pins σ H1 { s1 with heap := h' } := I1.kept (t' := s1.toks) hk
      exact ⟨s1.heap.objs.size + 1, [s1.heap.objs.size + 1, s1.heap.objs.size], _, _, H1, rfl, I2, turn_enum a (s1.heap.objs.size + 1) s1.heap.objs.size, ⟨⟨.none, he⟩, hit, Nat.succ_ne_self _⟩, fin, q⟩
    · obtain ⟨its, rv, p', hz⟩ := I1.tuple hq
      have pt : s1.heap.IsTuple a its.toArray := p'
      have hlt : a < s1.heap.objs.size := by obtain ⟨o, ho, _⟩ := id pt; exact Heap.lt_size ho
      refine enum_begins1 (begins_tuple a its.toArray) pt fun h' he hit hsz hk => wpAny_pyIter_enum he ?_
      have I2 : Inv X pins σ H1 { s1 with heap := h' } := I1.kept (t' := s1.toks) hk
      exact ⟨s1.heap.objs.size + 1, [s1.heap.objs.size + 1, s1.heap.objs.size], _, _, H1, rfl, I2, turn_enumT a (s1.heap.objs.size + 1) s1.heap.objs.size (Nat.ne_of_lt hlt) (Nat.ne_of_lt (Nat.lt_succ_of_lt hlt)), ⟨⟨.none, he⟩, ⟨_, hit, rfl, rfl⟩, Nat.succ_ne_self _⟩, fin, q⟩
end EV

end
section
set_option Elab.async false
set_option linter.all false
set_option maxRecDepth 100000
set_option maxHeartbeats 4000000
/-! EV 14: enumerate; methods of lists. -/
namespace EV
open PySem PySem.Spec PyProof.Rows L2
open LamX (Tabs TabS CodeO)
section
variable {cs : List ErrC} {G : Gd} {Wx : WX} {X : Cx}
theorem itOk_enumT {K : PySem.W.Frag} {W : Wd} {H : Hp} {p : Addr} {us : List V} {ds : List D} (h1 : H p = some (.tup us)) (n : ¬ Av G W p) (h2 : VRs G (Av G W) H ds us) : ItOk G W H (enum ds) (IteT K p) where
  go := fun W2 H2 i a st2 b2 x R2 e => by
    obtain ⟨j, d, e1, ed, rfl⟩ := zipWith_get _ e
    have ej : j = i := by
      obtain ⟨hi', e'⟩ := List.getElem?_eq_some_iff.mp e1
      rw [List.getElem_range] at e'
      exact e'.symm
    subst ej
    have h1' := x.keep _ _ h1 nofun n
    obtain ⟨u, eu, ru⟩ := (VRs.ext0 x.ext0 h2).get ed
    refine ⟨⟨us, u, SqT.of h1', eu⟩, fun y H3 q => ?_⟩
    obtain ⟨T, z, rfl, hT, rfl, q⟩ := q
    have := q us (SqT.of h1')
    rw [eu] at this
    cases this
    exact ⟨fun _ _ h => upd_keep hT h, new_pair VR.int ru hT fun a h => R2.av_there h⟩
  stop := fun W2 H2 x => ⟨us, SqT.of (x.keep _ _ h1 nofun n), by unfold enum; rw [List.length_zipWith, List.length_range, h2.length]; omega⟩
theorem pi_enumE {tg a : Expr} {p pos : Pos} {rs run : Env → Store → E Vl} (ht : isTupT tg = true) (hg : Gl X "enumerate") (hm : X.mg "enumerate" = none) (hs : PA X [a] (tA cs G Wx rs)) (hst : notStar a = true)
    (hr : ∀ e st, run e st = bnd (rs e st) fun vs st => match vs with
      | .its vs => wkE .enumr vs st
      | _ => .err) : PI X tg (.Call (.Name "enumerate" p) [a] [] pos) (tI cs G Wx run) := by
  cases tg <;> try (cases ht; done)
  refine PI.imp (pi_enumA hg hm hs (star_cons hst)) fun σ H R h => wk_args (f := wkE .enumr) hr h fun W1 H1 vs us s b R1 r1 g => ?_
  unfold wkE at g
  split at g <;> try (rename_i h; cases h; done)
  all_goals try (exact g.elim)
  · rename_i l _
    cases r1 with
    | cons r t =>
      cases t
      unfold VlR VR at r
      obtain ⟨pp, us, rfl, h1, n, h2⟩ := r
      obtain ⟨ys, ey, q⟩ := g
      cases ey
      exact ⟨pp, us, rfl, .inl ⟨SqL.of h1, q W1 H1 _ .refl R1 (itOk_enum h1 n h2)⟩⟩
  · rename_i l _
    cases r1 with
    | cons r t =>
      cases t
      unfold VlR VR at r
      obtain ⟨pp, us, rfl, h1, n, h2⟩ := r
      obtain ⟨ys, ey, q⟩ := g
      cases ey
      exact ⟨pp, us, rfl, .inr ⟨SqT.of h1, q W1 H1 _ .refl R1 (itOk_enumT h1 n h2)⟩⟩
/-! ### a mutable thing is written -/
theorem cell_set {W : Wd} {st : Store} {b : Nat} {H : Hp} {i : Nat} {p : Addr} {o u : HO} {c c0 : Cell} (R : Rel G W st b H) (hi : W.cells[i]? = some (some p)) (h0 : st[i]? = some (some c0)) (ho : H p = some o) (n1 : ∀ ps, o ≠ .tbl ps) (n2 : ∀ c q, o ≠ CodeO c q) (hu : ∀ ps, u ≠ .tbl ps)
    (hc : Ext G W H W (upd H p u) → CellR G W (upd H p u) p c) : Ext G W H W (upd H p u) ∧ Rel G W (st.set i (some c)) b (upd H p u) := by
  have hb : i < st.length := (List.getElem?_eq_some_iff.mp h0).1
  have lp : W.live p := ⟨i, hi⟩
  have x : Ext G W H W (upd H p u) := ⟨fun q o h nt n => by
      rw [upd_ne]
      · exact h
      · rintro rfl; exact n (.inl lp), fun q h => by
      by_cases e : q = p
      · rw [e] at h; exact absurd h (Nn.no upd_same hu)
      · exact fun o ho => h o (by rw [upd_ne e]; exact ho), Nat.le_refl _, fun _ _ _ h => h, fun _ h => .inl h, fun _ h => .inl h, fun _ h => h, rfl⟩
  refine ⟨x, ⟨by rw [List.length_set]; exact R.len, R.inj, fun j c' h => ?_, fun j h => ?_, R.spr.keeps (upd_ne ?_) (upd_ne ?_), R.nosp, fun a h n => R.avt a h (x.there a n), R.avl, tabs_at R.tabs ho n1 n2⟩⟩
  · by_cases e : i = j
    · subst e
      rw [List.getElem?_set_self hb] at h
      cases h
      exact ⟨p, hi, hc x⟩
    · rw [List.getElem?_set_ne e] at h
      obtain ⟨a, h1, r⟩ := R.cell j c' h
      refine ⟨a, h1, r.keeps x (upd_ne ?_)⟩
      rintro rfl
      exact e (R.inj _ _ _ hi h1)
  · by_cases e : i = j
    · subst e
      rw [List.getElem?_set_self hb] at h
      cases h
    · rw [List.getElem?_set_ne e] at h
      exact R.dead j h
  · rintro e; exact R.nosp.1 (e ▸ lp)
  · rintro e; exact R.nosp.2 (e ▸ lp)
theorem lst_no (us : List V) : (∀ ps, (HO.lst us) ≠ .tbl ps) ∧ ∀ c q, (HO.lst us) ≠ CodeO c q := ⟨nofun, fun c q => by unfold CodeO; exact nofun⟩
theorem dK_no (us : List (Key × V)) : (∀ ps, (HO.dK us) ≠ .tbl ps) ∧ ∀ c q, (HO.dK us) ≠ CodeO c q := ⟨nofun, fun c q => by unfold CodeO; exact nofun⟩
theorem VlRs.set {W : Wd} {H : Hp} {a : Vl} {v : V} (r : VlR G W H a v) : ∀ {as : List Vl} {vs : List V}, VlRs G W H as vs → ∀ j : Nat, VlRs G W H (as.set j a) (vs.set j v)
  | _, _, .nil, _ => .nil
  | _, _, .cons q t, 0 => .cons r t
  | _, _, .cons q t, j + 1 => .cons q (VlRs.set r t j)
theorem VlRs.erase {W : Wd} {H : Hp} : ∀ {as : List Vl} {vs : List V}, VlRs G W H as vs → ∀ j : Nat, VlRs G W H (as.eraseIdx j) (vs.eraseIdx j)
  | _, _, .nil, _ => .nil
  | _, _, .cons q t, 0 => t
  | _, _, .cons q t, j + 1 => .cons q (VlRs.erase t j)
theorem VlRs.app {W : Wd} {H : Hp} : ∀ {as bs : List Vl} {vs us : List V}, VlRs G W H as vs → VlRs G W H bs us → VlRs G W H (as ++ bs) (vs ++ us)
  | _, _, _, _, .nil, q => q
  | _, _, _, _, .cons r t, q => .cons r (VlRs.app t q)
theorem isLst_of {W : Wd} {st : Store} {b : Nat} {H : Hp} {x : Vl} {v : V} {K : PySem.W.Frag} (R : Rel G W st b H) (r : VlR G W H x v) (h : isLstV st x = true) : ∃ i, x = .ref i ∧ tyV K "list" v H := by
  cases x <;> try (cases h; done)
  rename_i i
  unfold isLstV at h
  dsimp only at h
  split at h
  · rename_i xs e
    obtain ⟨p, rfl, _, us, h1, _⟩ := ref_cell R r e
    exact ⟨i, rfl, .inl ⟨rfl, us, SqL.of h1⟩⟩
  · cases h
/-- a method's reading: by values, the things of the store changed -/
def rM (cs : List ErrC) (G : Gd) (m : Mt) : V → List V → Hp → VK → Prop := fun x xs H Q => ∃ W st b a as, Rel G W st b H ∧ VlR G W H a x ∧ VlRs G W H as xs ∧ EG (KV' G W H Q) (fun _ _ _ _ => True) (mtE m a as st) b
theorem noX_mt {K : Vl → Store → Nat → Prop} {Kx : Nat → List D → Store → Nat → Prop} {m : Mt} {x : Vl} {vs : List Vl} {st : Store} {b : Nat} (h : EG K Kx (mtE m x vs st) b) : EG K (fun _ _ _ _ => True) (mtE m x vs st) b := h.mono (fun _ _ _ q => q) fun _ _ _ _ _ => trivial
theorem mt_appendE : MtR X "list.append" (rM cs G .append) := by
  intro pins s σ H x xs v us Q I rx rxs ⟨W, st, b, a, as, R, ra, ras, g⟩
  refine mt_append pins s σ H x xs v us Q I rx rxs ?_
  cases a <;> (try (unfold mtE at g; exact g.elim))
  rename_i r
  cases ras with
  | nil => unfold mtE at g; exact g.elim
  | cons q t =>
    cases t with
    | cons _ _ => unfold mtE at g; exact g.elim
    | nil =>
      unfold mtE at g
      dsimp only at g
      split at g
      · rename_i ys e
        split at g
        · rename_i hl
          obtain ⟨p, rfl, hi, us', h1, h2⟩ := ref_cell R ra e
          obtain ⟨x', R'⟩ := cell_set (u := .lst (us' ++ [_])) (c := .lst (ys ++ [_])) R hi (geti_some e) h1 (lst_no _).1 (lst_no _).2 nofun fun x' => ⟨_, upd_same, paired_snoc (q.ext x') (h2.ext x')⟩
          exact ⟨p, us', _, rfl, rfl, h1, by rw [← paired_len h2]; exact Nat.lt_of_lt_of_le hl million, g W _ _ x' R' VlR_non⟩
        · exact g.elim
      · exact g.elim
theorem mt_extendE : MtR X "list.extend" (rM cs G .extend) := by
  intro pins s σ H x xs v us Q I rx rxs ⟨W, st, b, a, as, R, ra, ras, g⟩
  refine mt_extend pins s σ H x xs v us Q I rx rxs ?_
  cases a <;> (try (unfold mtE at g; exact g.elim))
  rename_i r
  cases ras with
  | nil => unfold mtE at g; exact g.elim
  | cons q t =>
    cases t with
    | cons _ _ => unfold mtE at g; exact g.elim
    | nil =>
      unfold mtE at g
      dsimp only at g
      split at g
      · rename_i ys zs e e2
        split at g
        · rename_i hl
          obtain ⟨p, rfl, hi, us', h1, h2⟩ := ref_cell R ra e
          obtain ⟨p2, us2, rfl, k1, k2⟩ := lst_at R q e2
          obtain ⟨x', R'⟩ := cell_set (u := .lst (us' ++ us2)) (c := .lst (ys ++ zs)) R hi (geti_some e) h1 (lst_no _).1 (lst_no _).2 nofun fun x' => ⟨_, upd_same, VlRs.app (h2.ext x') (k2.ext x')⟩
          exact ⟨p, p2, us', us2, rfl, rfl, h1, k1, by rw [← paired_len h2, ← paired_len k2]; exact Nat.le_trans hl million, g W _ _ x' R' VlR_non⟩
        · exact g.elim
      · exact g.elim
theorem mt_popE : MtR X "list.pop" (rM cs G .pop) := by
  intro pins s σ H x xs v us Q I rx rxs ⟨W, st, b, a, as, R, ra, ras, g⟩
  refine mt_popAt pins s σ H x xs v us Q I rx rxs ?_
  cases a <;> (try (unfold mtE at g; exact g.elim))
  rename_i r
  cases ras with
  | nil => unfold mtE at g; exact g.elim
  | cons q t =>
    rename_i a2 _ _ _
    cases t with
    | cons _ _ => unfold mtE at g; cases a2 <;> first | exact g.elim | (rename_i d; cases d <;> exact g.elim)
    | nil =>
      cases a2 <;> (try (unfold mtE at g; exact g.elim))
      rename_i d
      cases d <;> (try (unfold mtE at g; exact g.elim))
      rename_i k
      unfold mtE at g
      dsimp only at g
      cases e : geti st r with
      | none => rw [e] at g; exact g.elim
      | some c =>
        cases c with
        | dct ks vs => rw [e] at g; exact g.elim
        | ins c vs => rw [e] at g; exact g.elim
        | lst ys =>
          rw [e] at g
          dsimp only at g
          cases ej : EV.ixN ys.length k with
          | none => rw [ej] at g; exact g.elim
          | some j =>
            rw [ej] at g
            cases ey : ys[j]? with
            | none => simp only [Option.bind_some, ey, Option.map_none] at g; exact g.elim
            | some y =>
              simp only [Option.bind_some, ey, Option.map_some] at g
              obtain ⟨p, rfl, hi, us', h1, h2⟩ := ref_cell R ra e
              obtain ⟨z, hz, rz⟩ := VlRs.get h2 ey
              obtain ⟨x', R'⟩ := cell_set (u := .lst (us'.eraseIdx j)) (c := .lst (ys.eraseIdx j)) R hi (geti_some e) h1 (lst_no _).1 (lst_no _).2 nofun fun x' => ⟨_, upd_same, VlRs.erase (h2.ext x') _⟩
              rw [VlR_int_eq q]
              have hl := paired_len h2
              have ej' : L2.ixN us'.length k = some j := by rw [← hl, ← ixN_eq]; exact ej
              obtain ⟨k1, k2, k3, k4⟩ := ixN_seq ej'
              have hz63 := (I.lstM h1).1
              have l63 := line63
              exact ⟨p, us', k, j, z, rfl, rfl, h1, by omega, by omega, k1, hz, g W _ _ x' R' (rz.ext x')⟩
def mtName : Mt → Str
  | .append => "append"
  | .extend => "extend"
  | .pop => "pop"
  | _ => ""
def mtIs : Mt → Bool
  | .append => true
  | .extend => true
  | .pop => true
  | _ => false
theorem pe_mtE {o a : Expr} {apos cpos : Pos} {ro rs run : Env → Store → E Vl} (m : Mt) (hmt : mtIs m = true) (ho : PE X o (tE cs G Wx ro)) (hs : PA X [a] (tA cs G Wx rs)) (hst : notStar a = true)
    (hbase : attributeBase o (mtName m) X.env (eval o X.env) = eval o X.env) (hline : (apos.endLine == cpos.line) = true)
    (hr : ∀ e st, run e st = bnd (ro e st) fun x st => if isLstV st x then bnd (rs e st) fun vs st => match vs with
      | .its vs => mtE m x vs st
      | _ => .err
    else .err) : PE X (.Call (.Attribute o (mtName m) apos) [a] [] cpos) (tE cs G Wx run) := by
  have fin : ∀ σ H Q, tE cs G Wx run σ H Q → tBM X.K "list" (rM cs G m) (tE cs G Wx ro) (tA cs G Wx rs) σ H Q := fun σ H Q ⟨W, e, st, b, R, V, g⟩ => by
    rw [hr, EG_bnd] at g
    refine ⟨W, e, st, b, R, V, g.mono (fun x s b g W1 H1 v x1 R1 r1 => ?_) fun _ _ _ _ q => q⟩
    cases hl : isLstV s x with
    | false => rw [hl] at g; exact g.elim
    | true =>
      rw [hl] at g
      simp only [if_true] at g
      rw [EG_bnd] at g
      obtain ⟨i, ei, ty⟩ := isLst_of (K := X.K) R1 r1 hl
      refine ⟨ty, Here.next x1 R1 V g fun a2 s2 b2 g => ?_⟩
      cases a2 <;> first
        | exact g.elim
        | skip
      rename_i vs
      refine ⟨vs, rfl, fun W2 H2 us x2 R2 r2 => ⟨W2, s2, b2, x, vs, R2, r1.ext x2, r2, noX_mt (g.mono (fun a s b q => ?_) fun _ _ _ _ q => q)⟩⟩
      exact fun W' H' v' x' R' r' => q W' H' v' ((x1.trans x2).trans x') R' r'
  have few : ((backTo cpos (starEach [a] X.env)).all (fun x => !x.1) && (backToKw cpos (keywordEach [] X.env)).all (fun x => x.1.isSome)
      && decide ([a].length + ([] : List Keyword).length + (if ([] : List Keyword).isEmpty then 0 else 1) < 30)) = true := by rw [star_cons hst]; rfl
  have hpl : (backTo cpos (starEach [] X.env)).any (·.1) = false := rfl
  cases m <;> (try (cases hmt; done))
  · exact PE.imp (pe_bm PySem.F.plainAttrs_list PySem.F.slot_list_append (by rfl) mt_appendE ho hs hbase few hline (star_cons hst) hpl) fin
  · exact PE.imp (pe_bm PySem.F.plainAttrs_list PySem.F.slot_list_extend (by rfl) mt_extendE ho hs hbase few hline (star_cons hst) hpl) fin
  · exact PE.imp (pe_bm PySem.F.plainAttrs_list PySem.F.slot_list_pop (by rfl) mt_popE ho hs hbase few hline (star_cons hst) hpl) fin
end
end EV

end
section
set_option Elab.async false
set_option linter.all false
set_option maxRecDepth 100000
set_option maxHeartbeats 4000000
/-! EV 15: statements. -/
namespace EV
open PySem PySem.Spec PyProof.Rows L2
open LamX (Tabs TabS CodeO)
section
variable (cs : List ErrC) (G : Gd) (Wx : WX)
def KOut (W : Wd) (H : Hp) (Dn : Ends) : Out → Nat → Prop
  | .nx e s, b => ∀ W' H' σ', Ext G W H W' H' → Rel G W' s b H' → EnvR G W' H' e σ' → Dn.nx σ' H'
  | .bk e s, b => ∀ W' H' σ', Ext G W H W' H' → Rel G W' s b H' → EnvR G W' H' e σ' → Dn.bk σ' H'
  | .ct e s, b => ∀ W' H' σ', Ext G W H W' H' → Rel G W' s b H' → EnvR G W' H' e σ' → Dn.ct σ' H'
  | .rt v s, b => ∀ W' H' u, Ext G W H W' H' → Rel G W' s b H' → VlR G W' H' v u → Dn.rt u H'
  | .x c fs e s, b => ∀ W' H' σ' cls d, Ext G W H W' H' → Rel G W' s b H' → EnvR G W' H' e σ' → ErrR cs G W' H' c fs cls d → Wx cls d σ' H'
def tS (run : Env → Store → R Out) : TS := fun Dn σ H => ∃ W e st b, Rel G W st b H ∧ EnvR G W H e σ ∧ good (KOut cs G Wx W H Dn) (run e st) b
end
section
variable {cs : List ErrC} {G : Gd} {Wx : WX} {X : Cx}
theorem KOut.ext {W W1 : Wd} {H H1 : Hp} {Dn : Ends} (x : Ext G W H W1 H1) : ∀ {o : Out} {b : Nat}, KOut cs G Wx W H Dn o b → KOut cs G Wx W1 H1 Dn o b
  | .nx e s, b, h => fun W' H' σ' y => h W' H' σ' (x.trans y)
  | .bk e s, b, h => fun W' H' σ' y => h W' H' σ' (x.trans y)
  | .ct e s, b, h => fun W' H' σ' y => h W' H' σ' (x.trans y)
  | .rt v s, b, h => fun W' H' u y => h W' H' u (x.trans y)
  | .x c fs e s, b, h => fun W' H' σ' cls d y => h W' H' σ' cls d (x.trans y)
theorem KOut.mono {W : Wd} {H : Hp} {D1 D2 : Ends} (h1 : ∀ σ H, D1.nx σ H → D2.nx σ H) (h2 : ∀ σ H, D1.bk σ H → D2.bk σ H) (h3 : ∀ σ H, D1.ct σ H → D2.ct σ H) (h4 : ∀ v H, D1.rt v H → D2.rt v H) : ∀ {o : Out} {b : Nat}, KOut cs G Wx W H D1 o b → KOut cs G Wx W H D2 o b
  | .nx e s, b, h => fun W' H' σ' y r v => h1 _ _ (h W' H' σ' y r v)
  | .bk e s, b, h => fun W' H' σ' y r v => h2 _ _ (h W' H' σ' y r v)
  | .ct e s, b, h => fun W' H' σ' y r v => h3 _ _ (h W' H' σ' y r v)
  | .rt v s, b, h => fun W' H' u y r v => h4 _ _ (h W' H' u y r v)
  | .x c fs e s, b, h => h
theorem PS.imp {st : Stmt} {t t' : TS} (h : PS X st t) (i : ∀ D σ H, t' D σ H → t D σ H) : PS X st t' := ⟨fun pins s σ H D I q => h.run pins s σ H D I (i D σ H q)⟩
theorem PSs.imp {st : List Stmt} {t t' : TS} (h : PSs X st t) (i : ∀ D σ H, t' D σ H → t D σ H) : PSs X st t' := ⟨fun pins s σ H D I q => h.run pins s σ H D I (i D σ H q)⟩
theorem good_sB {α : Type} {P : Out → Nat → Prop} {m : E α} {e : Env} {f : α → Store → R Out} {b : Nat} (h : good P (sBnd m e f) b) : EG (fun a s b => good P (f a s) b) (fun c fs s b => P (.x c fs e s) b) m b := by
  unfold sBnd at h
  rw [good_bind] at h
  refine good_mono (fun o b q => ?_) h
  cases o <;> exact q
/-- an expression ahead of what comes -/
theorem tS_E {re : Env → Store → E Vl} {f : Env → Vl → Store → R Out} {run : Env → Store → R Out} (hr : ∀ e st, run e st = sBnd (re e st) e (f e)) {Dn : Ends} {σ : L2.St} {H : Hp} {K : Wd → Hp → Vl → Store → Nat → Prop} (h : tS cs G Wx run Dn σ H)
    (fin : ∀ W e a s b, EnvR G W H e σ → good (KOut cs G Wx W H Dn) (f e a s) b → K W H a s b) : Here cs G Wx re σ H K := by
  obtain ⟨W, e, st, b, R, V, g⟩ := h
  rw [hr] at g
  exact ⟨W, e, st, b, R, V, (good_sB g).mono (fun a s b q => fin W e a s b V q) fun c fs s b q W' H' cls d x r k => q W' H' σ cls d x r (V.ext x) k⟩
theorem tS_V {re : Env → Store → E Vl} {f : Env → Vl → Store → R Out} {run : Env → Store → R Out} (hr : ∀ e st, run e st = sBnd (re e st) e (f e)) {Dn : Ends} {σ : L2.St} {H : Hp} {Q : VK} (h : tS cs G Wx run Dn σ H)
    (fin : ∀ W e a s b H1 v, Rel G W s b H1 → EnvR G W H1 e σ → VlR G W H1 a v → good (KOut cs G Wx W H1 Dn) (f e a s) b → Q v H1) : tE cs G Wx re σ H Q :=
  tS_E hr h fun W e a s b V g W' H' v x R r => fin W' e a s b H' v R (V.ext x) r (good_mono (fun _ _ q => q.ext x) g)
theorem ps_setE {tg e : Expr} {pos : Pos} {t : Tg} {re : Env → Store → E Vl} {run : Env → Store → R Out} (he : PE X e (tE cs G Wx re)) (hg : PG X tg (tG G t)) (hs : swapsWithSole [tg] e pos.line X.env = pure false) (hw : swappedStores [tg] e X.env = pure none)
    (h1 : (assignEach [tg] X.env).map (·.2) = [assign tg X.env]) (hr : ∀ e st, run e st = sBnd (re e st) e fun v st => match setTg t v e with
      | some e => .ok (.nx e st)
      | none => .err) : PS X (.Assign [tg] e pos) (tS cs G Wx run) := by
  refine PS.imp (ps_asg he hg hs hw h1) fun Dn σ H h => tS_V (f := fun e v st => match setTg t v e with
      | some e => .ok (.nx e st)
      | none => .err) hr h fun W e a s b H1 v R V r g => ?_
  cases et : setTg t a e with
  | none => rw [et] at g; exact g.elim
  | some e' =>
    rw [et] at g
    exact ⟨W, e, a, e', V, r, et, fun σ' V' _ => g W H1 σ' .refl R V'⟩
/-- name = [.. for ..] on one line -/
theorem ps_setLcE {elt tg iter : Expr} {ifs : List Expr} {scope : Scope} {own : List (Str × Nat)} {pos spos py : Pos} {i : Nat} {y : Str} {ri rc re : Env → Store → E Vl} {m : Bool} {t : Tg} {run : Env → Store → R Out} (hc : X.calm = true) (hN : X.N.Nodup) (hy : X.N[i]? = some y) (hyl : X.env.scope.names.lookup y = some .local)
    (hsw : swapsWith (.ListComp elt [⟨tg, iter, ifs, 0⟩] scope pos) (some (.Name y py)) spos.line X.env = pure true) (hi : PI X tg iter (tI cs G Wx ri)) (ok : BlkOk X.N X.env.scope scope own)
    (hg : ∀ (s : Shared) (H : Hp) (C : Addr) (cl : List (Str × Addr)) (fp : List Addr), PG (X.blk s H scope (compEnvC scope cl C X.env) fp) tg (tG G t)) (ht : ∀ (s : Shared) (H : Hp) (C : Addr) (cl : List (Str × Addr)) (fp : List Addr), PTs (X.blk s H scope (compEnvC scope cl C X.env) fp) ifs (tT cs G Wn rc))
    (he : ∀ (s : Shared) (H : Hp) (C : Addr) (cl : List (Str × Addr)) (fp : List Addr), PE (X.blk s H scope (compEnvC scope cl C X.env) fp) elt (tE cs G Wn re)) (hs : ∀ x, foldedSetIterable iter X.env x = pure x)
    (hown : tgIn t (own.map (·.2)) = true) (hr : ∀ e st, run e st = sBnd (lcE ri rc re m t (own.map (·.2)) e st) e fun v st => match setTg (.nm i) v e with
      | some e => .ok (.nx e st)
      | none => .err) : PS X (.Assign [.Name y py] (.ListComp elt [⟨tg, iter, ifs, 0⟩] scope pos) spos) (tS cs G Wx run) := by
  refine PS.imp (ps_setLc hc hN hy hyl hsw hi ok hg ht he hs) fun Dn σ H h => lc_read hown (tS_V (f := fun e v st => match setTg (.nm i) v e with
      | some e => .ok (.nx e st)
      | none => .err) hr h fun W e a s b H1 v R V r g => g W H1 _ .refl R (V.set i r))
theorem ps_retE {e : Expr} {pos : Pos} {re : Env → Store → E Vl} {run : Env → Store → R Out} (he : PE X e (tE cs G Wx re)) (hr : ∀ e st, run e st = sBnd (re e st) e fun v st => .ok (.rt v st)) : PS X (.Return (some e) pos) (tS cs G Wx run) :=
  PS.imp (ps_ret he) fun Dn σ H h => tS_V (f := fun _ v st => .ok (.rt v st)) hr h fun W e a s b H1 v R V r g => g W H1 v .refl R r
theorem ps_retNE {pos : Pos} {run : Env → Store → R Out} (hr : ∀ e st, run e st = .ok (.rt (.d .non) st)) : PS X (.Return none pos) (tS cs G Wx run) :=
  PS.imp ps_retN fun Dn σ H ⟨W, e, st, b, R, V, g⟩ => by rw [hr] at g; exact g W H _ .refl R VlR_non
theorem ps_exprE {e : Expr} {pos : Pos} {re : Env → Store → E Vl} {run : Env → Store → R Out} (he : PE X e (tE cs G Wx re)) (hs : swapsWith e none pos.line X.env = pure false) (hr : ∀ e st, run e st = sBnd (re e st) e fun _ st => .ok (.nx e st)) : PS X (.Expr e pos) (tS cs G Wx run) :=
  PS.imp (ps_expr he hs) fun Dn σ H h => tS_V (f := fun e _ st => .ok (.nx e st)) hr h fun W e a s b H1 v R V r g => g W H1 σ .refl R V
theorem ps_brkE {pos : Pos} {run : Env → Store → R Out} (hr : ∀ e st, run e st = .ok (.bk e st)) : PS X (.Break pos) (tS cs G Wx run) :=
  PS.imp ps_break fun Dn σ H ⟨W, e, st, b, R, V, g⟩ => by rw [hr] at g; exact g W H σ .refl R V
theorem ps_contE {pos : Pos} {run : Env → Store → R Out} (hr : ∀ e st, run e st = .ok (.ct e st)) : PS X (.Continue pos) (tS cs G Wx run) :=
  PS.imp ps_continue fun Dn σ H ⟨W, e, st, b, R, V, g⟩ => by rw [hr] at g; exact g W H σ .refl R V
theorem ps_passE {pos : Pos} {run : Env → Store → R Out} (hr : ∀ e st, run e st = .ok (.nx e st)) : PS X (.Pass pos) (tS cs G Wx run) :=
  PS.imp ps_pass fun Dn σ H ⟨W, e, st, b, R, V, g⟩ => by rw [hr] at g; exact g W H σ .refl R V
theorem ps_docE {x j pos pos'} {run : Env → Store → R Out} (hr : ∀ e st, run e st = .ok (.nx e st)) : PS X (.Expr (.Constant (.str x) j pos) pos') (tS cs G Wx run) :=
  PS.imp ps_doc fun Dn σ H ⟨W, e, st, b, R, V, g⟩ => by rw [hr] at g; exact g W H σ .refl R V
theorem pss_nilE {run : Env → Store → R Out} (hr : ∀ e st, run e st = .ok (.nx e st)) : PSs X [] (tS cs G Wx run) :=
  PSs.imp pss_nil fun Dn σ H ⟨W, e, st, b, R, V, g⟩ => by rw [hr] at g; exact g W H σ .refl R V
/-- what stands behind -/
def seqR (ra rb : Env → Store → R Out) : Env → Store → R Out := fun e st => R.bind (ra e st) fun
  | .nx e st => rb e st
  | o => .ok o
theorem seq_read {ra rb : Env → Store → R Out} {Dn : Ends} {σ : L2.St} {H : Hp} (h : tS cs G Wx (seqR ra rb) Dn σ H) : tSeq (tS cs G Wx ra) (tS cs G Wx rb) Dn σ H := by
  obtain ⟨W, e, st, b, R, V, g⟩ := h
  unfold seqR at g
  rw [good_bind] at g
  refine ⟨W, e, st, b, R, V, good_mono (fun o b q => ?_) g⟩
  cases o with
  | nx e s => exact fun W' H' σ' x R' V' => ⟨W', e, s, b, R', V', good_mono (fun _ _ k => k.ext x) q⟩
  | bk e s => exact q
  | ct e s => exact q
  | rt v s => exact q
  | x c fs e s => exact q
theorem ps_ifE {c : Expr} {a b : List Stmt} {pos : Pos} {rt : Env → Store → E Vl} {ra rb run : Env → Store → R Out} (hc : PT X c (tT cs G Wx rt)) (ha : PSs X a (tS cs G Wx ra)) (hb : PSs X b (tS cs G Wx rb))
    (hr : ∀ e st, run e st = sBnd (rt e st) e fun v st => match truth v with
      | some true => ra e st
      | some false => rb e st
      | none => .err) : PS X (.If c a b pos) (tS cs G Wx run) := by
  refine PS.imp (ps_if hc ha hb) fun Dn σ H h => ?_
  show Here cs G Wx rt σ H (fun W H => KT G W H _)
  refine tS_E (f := fun e v st => match truth v with
      | some true => ra e st
      | some false => rb e st
      | none => .err) hr h fun W e v s b V g => ?_
  cases et : truth v with
  | none => rw [et] at g; exact g.elim
  | some t =>
    rw [et] at g
    refine ⟨t, et, fun W' H' x R' => ?_⟩
    cases t with
    | true => exact ⟨W', e, s, b, R', V.ext x, good_mono (fun _ _ k => k.ext x) g⟩
    | false => exact ⟨W', e, s, b, R', V.ext x, good_mono (fun _ _ k => k.ext x) g⟩
theorem ps_forE {tg iter : Expr} {body : List Stmt} {pos : Pos} {t : Tg} {ri : Env → Store → E Vl} {rb run : Env → Store → R Out} (hp : PassesOwn (model X.prog X.w) X.A X.env X.xe) (hc : X.calm = true) (hi : PI X tg iter (tI cs G Wx ri)) (hg : PG X tg (tG G t)) (hb : PSs X body (tS cs G Wx rb))
    (hs : ∀ x, foldedSetIterable iter X.env x = pure x) (hr : ∀ e st, run e st = sBnd (ri e st) e fun w st => match itsOf w with
      | some vs => forL t rb vs e st
      | none => .err) : PS X (.For tg iter body [] pos) (tS cs G Wx run) := by
  refine PS.imp (L2.ps_for hp hc hi hg hb hs) fun Dn σ H h => ?_
  show Here cs G Wx ri σ H (fun W H => KI G W H _)
  refine tS_E (f := fun e w st => match itsOf w with
      | some vs => forL t rb vs e st
      | none => .err) hr h fun W e w s b V g => ?_
  cases ev : itsOf w with
  | none => rw [ev] at g; exact g.elim
  | some vs =>
    rw [ev] at g
    refine ⟨vs, ev, fun W1 H1 J x1 R1 J1 => ?_⟩
    refine ⟨fun i n σ' H' => n = vs.length - i ∧ i ≤ vs.length ∧ ∃ W' e' s' b', Ext G W1 H1 W' H' ∧ Rel G W' s' b' H' ∧ EnvR G W' H' e' σ' ∧ good (KOut cs G Wx W H Dn) (forL t rb (vs.drop i) e' s') b', ⟨_, rfl, Nat.zero_le _, W1, e, s, b, .refl, R1, V.ext x1, g⟩, ?_⟩
    rintro i n σ' H' ⟨rfl, hi', W', e', s', b', x', R', V', g'⟩
    by_cases hlt : i < vs.length
    · refine .inr ?_
      obtain ⟨a, ea⟩ : ∃ a, vs[i]? = some a := ⟨vs[i], List.getElem?_eq_getElem hlt⟩
      obtain ⟨go, yl⟩ := J1.go W' H' i a s' b' x'.toA R' ea
      have ed : vs.drop i = a :: vs.drop (i + 1) := by
        rw [List.drop_eq_getElem_cons hlt]
        rw [List.getElem?_eq_getElem hlt] at ea
        cases ea; rfl
      rw [ed] at g'
      unfold forL at g'
      cases es : setTg t a e' with
      | none => rw [es] at g'; exact g'.elim
      | some e2 =>
        rw [es] at g'
        dsimp only at g'
        rw [good_bind] at g'
        refine ⟨go, fun σ2 H2 => i + 1 ≤ vs.length ∧ ∃ W2 e2 s2 b2, Ext G W1 H1 W2 H2 ∧ Rel G W2 s2 b2 H2 ∧ EnvR G W2 H2 e2 σ2 ∧ good (KOut cs G Wx W H Dn) (forL t rb (vs.drop (i + 1)) e2 s2) b2, fun σ2 H2 q => ⟨_, ?_, rfl, q⟩, fun x H3 y => ?_⟩
        · have := q.1; omega
        · obtain ⟨kp, rx⟩ := yl x H3 y
          have x3 := x'.trans (pure_ext (G := G) (W := W') kp)
          have R3 := pure_rel R' kp
          refine ⟨W', e', a, e2, V'.ext (pure_ext kp), rx, es, fun σ3 V3 _ => ⟨W', e2, s', b', R3, V3, good_mono (fun o b3 q => ?_) g'⟩⟩
          cases o with
          | nx e4 s4 => exact fun W4 H4 σ4 x4 R4 V4 => ⟨hlt, W4, e4, s4, b3, x3.trans x4, R4, V4, q⟩
          | ct e4 s4 => exact fun W4 H4 σ4 x4 R4 V4 => ⟨hlt, W4, e4, s4, b3, x3.trans x4, R4, V4, q⟩
          | bk e4 s4 => exact fun W4 H4 σ4 x4 R4 V4 => q W4 H4 σ4 ((x1.trans x3).trans x4) R4 V4
          | rt v4 s4 => exact fun W4 H4 u x4 R4 r4 => q W4 H4 u ((x1.trans x3).trans x4) R4 r4
          | x c fs e4 s4 => exact fun W4 H4 σ4 cls d x4 R4 V4 k4 => q W4 H4 σ4 cls d ((x1.trans x3).trans x4) R4 V4 k4
    · have e0 : i = vs.length := by omega
      subst e0
      refine .inl ⟨J1.stop W' H' x'.toA, ?_⟩
      rw [List.drop_length] at g'
      exact g' W' H' σ' (x1.trans x') R' V'
theorem ps_whlE {c : Expr} {body : List Stmt} {pos : Pos} {rt : Env → Store → E Vl} {rb run : Env → Store → R Out} {turns : Nat} (hp : PassesOwn (model X.prog X.w) X.A X.env X.xe) (hc : PT X c (tT cs G Wx rt)) (hb : PSs X body (tS cs G Wx rb))
    (hr : ∀ e st, run e st = whlL rt rb turns e st) : PS X (.While c body [] pos) (tS cs G Wx run) := by
  refine PS.imp (ps_while hp hc hb) fun Dn σ H ⟨W, e, st, b, R, V, g⟩ => ?_
  rw [hr] at g
  refine ⟨fun n σ' H' => ∃ W' e' s' b', Ext G W H W' H' ∧ Rel G W' s' b' H' ∧ EnvR G W' H' e' σ' ∧ good (KOut cs G Wx W H Dn) (whlL rt rb n e' s') b', ⟨turns, W, e, st, b, .refl, R, V, g⟩, ?_⟩
  rintro n σ' H' ⟨W', e', s', b', x', R', V', g'⟩
  cases n with
  | zero => exact g'.elim
  | succ n =>
    unfold whlL at g'
    have g1 := good_sB g'
    refine ⟨W', e', s', b', R', V', g1.mono (fun v s2 b2 q => ?_) fun c fs s b q W2 H2 cls d x2 r2 k => q W2 H2 σ' cls d (x'.trans x2) r2 (V'.ext x2) k⟩
    cases et : truth v with
    | none => rw [et] at q; exact q.elim
    | some tb =>
      rw [et] at q
      refine ⟨tb, et, fun W2 H2 x2 R2 => ?_⟩
      cases tb with
      | false =>
        simp only [Bool.false_eq_true, if_false]
        exact q W2 H2 σ' (x'.trans x2) R2 (V'.ext x2)
      | true =>
        simp only [if_true]
        dsimp only at q
        rw [good_bind] at q
        refine ⟨fun σ3 H3 => ∃ W3 e3 s3 b3, Ext G W H W3 H3 ∧ Rel G W3 s3 b3 H3 ∧ EnvR G W3 H3 e3 σ3 ∧ good (KOut cs G Wx W H Dn) (whlL rt rb n e3 s3) b3, fun σ3 H3 k => ⟨n, Nat.lt_succ_self n, k⟩, W2, e', s2, b2, R2, V'.ext x2, good_mono (fun o b3 k => ?_) q⟩
        have x12 := x'.trans x2
        cases o with
        | nx e4 s4 => exact fun W4 H4 σ4 x4 R4 V4 => ⟨W4, e4, s4, b3, x12.trans x4, R4, V4, k⟩
        | ct e4 s4 => exact fun W4 H4 σ4 x4 R4 V4 => ⟨W4, e4, s4, b3, x12.trans x4, R4, V4, k⟩
        | bk e4 s4 => exact fun W4 H4 σ4 x4 R4 V4 => k W4 H4 σ4 (x12.trans x4) R4 V4
        | rt v4 s4 => exact fun W4 H4 u x4 R4 r4 => k W4 H4 u (x12.trans x4) R4 r4
        | x c fs e4 s4 => exact fun W4 H4 σ4 cls d x4 R4 V4 k4 => k W4 H4 σ4 cls d (x12.trans x4) R4 V4 k4
/-! ### o[i] = v -/
theorem keysOk_len : ∀ {ks : List D} {kvs : List (Key × V)}, KeysOk ks kvs → ks.length = kvs.length
  | [], [], _ => rfl
  | [], _ :: _, h => h.elim
  | _ :: _, [], h => h.elim
  | _ :: _, _ :: _, h => by simp [keysOk_len h.2]
theorem pset_or {t t' : TSet} (h : PSet X t) (h' : PSet X t') : PSet X (fun o i v H Q => t o i v H Q ∨ t' o i v H Q) := fun pins s σ H o i v ov iv u Q I r1 r2 r3 q => by
  rcases q with q | q
  · exact h pins s σ H o i v ov iv u Q I r1 r2 r3 q
  · exact h' pins s σ H o i v ov iv u Q I r1 r2 r3 q
theorem ps_setixE {o i e : Expr} {pos tpos : Pos} {ro ri re : Env → Store → E Vl} {run : Env → Store → R Out} (hu : X.A.units + 1 < cLine) (he : PE X e (tE cs G Wx re)) (ho : PE X o (tE cs G Wx ro)) (hi : PE X i (tE cs G Wx ri))
    (ha : ∀ v, assign (.Subscript o i tpos) X.env v = (do
      let ov ← holding [v] (eval o X.env)
      let iv ← holding [v, ov] (eval i X.env)
      standAt tpos
      holding [v, ov, iv] (setItem ov iv v)
      release [v, ov, iv] []))
    (hs : swapsWithSole [.Subscript o i tpos] e pos.line X.env = pure false) (hw : swappedStores [.Subscript o i tpos] e X.env = pure none)
    (hr : ∀ e st, run e st = sBnd (re e st) e fun v st => sBnd (ro e st) e fun o st => sBnd (ri e st) e fun i st => match setIx st o i v with
      | some st => .ok (.nx e st)
      | none => .err) : PS X (.Assign [.Subscript o i tpos] e pos) (tS cs G Wx run) := by
  refine PS.imp (ps_asg he (pg_sub ho hi (pset_or set_list (set_dict hu)) ha) hs hw rfl) fun Dn σ H h => tS_V (f := fun e v st => sBnd (ro e st) e fun o st => sBnd (ri e st) e fun i st => match setIx st o i v with
      | some st => .ok (.nx e st)
      | none => .err) hr h fun W e a s b H1 v R V r g => ?_
  have g1 := good_sB g
  refine ⟨W, e, s, b, R, V, g1.mono (fun ov s2 b2 g2 W2 H2 ou x2 R2 r2 => ?_) fun c fs s b q W2 H2 cls d x2 r2 k => q W2 H2 σ cls d x2 r2 (V.ext x2) k⟩
  have g3 := good_sB g2
  refine ⟨W2, e, s2, b2, R2, V.ext x2, g3.mono (fun iv s3 b3 g4 W3 H3 iu x3 R3 r3 => ?_) fun c fs s b q W3 H3 cls d x3 r3 k => q W3 H3 σ cls d (x2.trans x3) r3 ((V.ext x2).ext x3) k⟩
  cases es : setIx s3 ov iv a with
  | none => rw [es] at g4; exact g4.elim
  | some s4 =>
    rw [es] at g4
    have rv := (r.ext x2).ext x3
    have ro' := r2.ext x3
    have V3 := (V.ext x2).ext x3
    cases ov <;> (try (unfold setIx at es; cases es; done))
    rename_i rr
    cases iv <;> (try (unfold setIx at es; cases es; done))
    rename_i k
    unfold setIx at es
    dsimp only at es
    cases ec : geti s3 rr with
    | none => rw [ec] at es; cases es
    | some c =>
      rw [ec] at es
      obtain ⟨p, rfl, hi', cr⟩ := ref_cell R3 ro' ec
      cases c with
      | ins c vs => cases es
      | lst ys =>
        cases k <;> try (cases es; done)
        rename_i n
        obtain ⟨j, ej, rfl⟩ := Option.map_eq_some_iff.mp es
        obtain ⟨us, h1, h2⟩ := cr
        obtain ⟨x', R'⟩ := cell_set (u := .lst (us.set j v)) (c := .lst (ys.set j a)) R3 hi' (geti_some ec) h1 (lst_no _).1 (lst_no _).2 nofun fun x' => ⟨_, upd_same, VlRs.set (rv.ext x') (Paired.mapP h2 fun _ _ q => q.ext x') j⟩
        refine .inl ⟨p, us, n, j, rfl, VlR_int_eq r3, h1, ?_, g4 W3 _ σ ((x2.trans x3).trans x') R' (V3.ext x')⟩
        rw [← paired_len h2, ← ixN_eq]; exact ej
      | dct ks ws =>
        have es' : (if isKey k = true ∧ ks.length < 1000000 then some (s3.set rr (some (.dct (putD k a ks ws).1 (putD k a ks ws).2))) else none) = some s4 := by
          cases k <;> exact es
        split at es'
        · rename_i hk
          cases es'
          obtain ⟨kc, ek⟩ := keyOf_of hk.1
          obtain ⟨kvs, h1, h2, h3⟩ := cr
          have ey := key_of ek (VR.top r3)
          obtain ⟨q1, q2⟩ := putD_of (P := VlR G W3 H3) ek rv h2 h3
          obtain ⟨x', R'⟩ := cell_set (u := .dK (putK kvs kc v)) (c := .dct (putD k a ks ws).1 (putD k a ks ws).2) R3 hi' (geti_some ec) h1 (dK_no _).1 (dK_no _).2 nofun fun x' => ⟨_, upd_same, q1, Paired.mapP q2 fun _ _ q => q.ext x'⟩
          refine .inr ⟨p, upd H3 p (.dK (putK kvs kc v)), rfl, ?_, g4 W3 _ σ ((x2.trans x3).trans x') R' (V3.ext x')⟩
          subst ey
          refine DPut.k h1 ?_
          have := keysOk_len h2
          rw [← this]
          exact Nat.lt_of_lt_of_le hk.2 million
        · cases es'
/-! ### a, b = x, y -/
theorem par_vs {W : Wd} {H : Hp} {vs : List Vl} {us : List V} (h : VlRs G W H vs us) : ∀ {is : List Nat} {e e' : Env} {σ : L2.St}, EnvR G W H e σ → setPar is vs e = some e' → ∃ σ', EnvR G W H e' σ' ∧ (is = [] → us = [] ∧ σ' = σ) ∧ (∀ i, is = [i] → ∃ u, us = [u] ∧ σ' = σ.set i (some u)) ∧
    (∀ i j, is = [i, j] → ∃ u w, us = [u, w] ∧ σ' = (σ.set i (some u)).set j (some w)) ∧ (∀ i j l, is = [i, j, l] → ∃ u w z, us = [u, w, z] ∧ σ' = ((σ.set i (some u)).set j (some w)).set l (some z)) := by
  induction h with
  | nil =>
    intro is e e' σ V hs
    cases is with
    | nil => cases hs; exact ⟨σ, V, fun _ => ⟨rfl, rfl⟩, nofun, nofun, nofun⟩
    | cons _ _ => cases hs
  | cons r t ih =>
    intro is e e' σ V hs
    cases is with
    | nil => cases hs
    | cons i is =>
      rename_i u _ _
      obtain ⟨σ', V', k0, k1, k2, k3⟩ := ih (V.set i r) (show setPar is _ (e.set i _) = some e' from hs)
      refine ⟨σ', V', nofun, fun i' e1 => ?_, fun i' j e1 => ?_, fun i' j l e1 => ?_⟩
      · cases e1
        obtain ⟨rfl, rfl⟩ := k0 rfl
        exact ⟨_, rfl, rfl⟩
      · cases e1
        obtain ⟨w, rfl, rfl⟩ := k1 j rfl
        exact ⟨_, _, rfl, rfl⟩
      · cases e1
        obtain ⟨w, z, rfl, rfl⟩ := k2 j l rfl
        exact ⟨_, _, _, rfl, rfl⟩
theorem tS_A {rs : Env → Store → E Vl} {is : List Nat} {run : Env → Store → R Out} (hr : ∀ e st, run e st = sBnd (rs e st) e fun v st => match v with
      | .its vs => match setPar is vs e with
        | some e => .ok (.nx e st)
        | none => .err
      | _ => .err) {Dn : Ends} {σ : L2.St} {H : Hp} {Q : List V → Hp → Prop} (h : tS cs G Wx run Dn σ H)
    (fin : ∀ W e vs e' H1 us, EnvR G W H1 e σ → VlRs G W H1 vs us → setPar is vs e = some e' → (∀ σ', EnvR G W H1 e' σ' → Dn.nx σ' H1) → Q us H1) : tA cs G Wx rs σ H Q :=
  tS_E (f := fun e v st => match v with
      | .its vs => match setPar is vs e with
        | some e => .ok (.nx e st)
        | none => .err
      | _ => .err) hr h fun W e a s b V g => by
    cases a <;> first
      | exact g.elim
      | skip
    rename_i vs
    dsimp only at g
    cases es : setPar is vs e with
    | none => rw [es] at g; exact g.elim
    | some e' =>
      rw [es] at g
      exact ⟨vs, rfl, fun W' H' us x R r => fin W' e vs e' H' us (V.ext x) r es fun σ' V' => g W' H' σ' x R V'⟩
theorem ps_par2E {i j : Nat} {x y : Str} {a b : Expr} {px py pt pos : Pos} {kt k2 pt2} {rs : Env → Store → E Vl} {run : Env → Store → R Out} (hc : X.calm = true) (hN : X.N.Nodup) (hi : X.N[i]? = some x) (hj : X.N[j]? = some y) (hij : i ≠ j)
    (hx : X.env.scope.names.lookup x = some .local) (hy : X.env.scope.names.lookup y = some .local) (ha : PA X [a, b] (tA cs G Wx rs))
    (hw : swappedStores [.Tuple [.Name x px, .Name y py] kt pt] (.Tuple [a, b] k2 pt2) X.env = pure (some [x, y]))
    (hr : ∀ e st, run e st = sBnd (rs e st) e fun v st => match v with
      | .its vs => match setPar [i, j] vs e with
        | some e => .ok (.nx e st)
        | none => .err
      | _ => .err) : PS X (.Assign [.Tuple [.Name x px, .Name y py] kt pt] (.Tuple [a, b] k2 pt2) pos) (tS cs G Wx run) :=
  PS.imp (ps_par hc hN hi hj hij hx hy ha hw (by rfl)) fun Dn σ H h => tS_A hr h fun W e vs e' H1 us V r es q => by
    obtain ⟨σ', V', _, _, k2, _⟩ := par_vs r V es
    obtain ⟨u, w, rfl, rfl⟩ := k2 i j rfl
    exact ⟨u, w, rfl, q _ V'⟩
theorem ps_par3E {i j l : Nat} {x y z : Str} {a b c : Expr} {px py pz pt pos : Pos} {kt k2 pt2} {rs : Env → Store → E Vl} {run : Env → Store → R Out} (hc : X.calm = true) (hN : X.N.Nodup) (hi : X.N[i]? = some x) (hj : X.N[j]? = some y) (hl : X.N[l]? = some z) (hij : i ≠ j) (hil : i ≠ l) (hjl : j ≠ l)
    (hx : X.env.scope.names.lookup x = some .local) (hy : X.env.scope.names.lookup y = some .local) (hz : X.env.scope.names.lookup z = some .local) (ha : PA X [a, b, c] (tA cs G Wx rs))
    (hw : swappedStores [.Tuple [.Name x px, .Name y py, .Name z pz] kt pt] (.Tuple [a, b, c] k2 pt2) X.env = pure (some [x, y, z]))
    (hr : ∀ e st, run e st = sBnd (rs e st) e fun v st => match v with
      | .its vs => match setPar [i, j, l] vs e with
        | some e => .ok (.nx e st)
        | none => .err
      | _ => .err) : PS X (.Assign [.Tuple [.Name x px, .Name y py, .Name z pz] kt pt] (.Tuple [a, b, c] k2 pt2) pos) (tS cs G Wx run) :=
  PS.imp (ps_par3 hc hN hi hj hl hij hil hjl hx hy hz ha hw (by rfl)) fun Dn σ H h => tS_A hr h fun W e vs e' H1 us V r es q => by
    obtain ⟨σ', V', _, _, _, k3⟩ := par_vs r V es
    obtain ⟨u, w, z, rfl, rfl⟩ := k3 i j l rfl
    exact ⟨u, w, z, rfl, q _ V'⟩
end
end EV

end
section
set_option Elab.async false
set_option linter.all false
set_option maxRecDepth 100000
set_option maxHeartbeats 4000000
/-! EV 16: borrowing, freezing, calls. -/
namespace EV
open PySem PySem.Spec PyProof.Rows L2
open LamX (Tabs TabS CodeO)
section
variable {cs : List ErrC} {G : Gd} {Wx : WX} {X : Cx}
theorem spr_ne {W : Wd} {st : Store} {b : Nat} {H : Hp} (R : Rel G W st b H) {a : Addr} (l : W.live a) : a ≠ G.sp ∧ a ≠ G.sc := ⟨by rintro rfl; exact R.nosp.1 l, by rintro rfl; exact R.nosp.2 l⟩
/-- what stands in a mutable thing -/
theorem live_obj {W : Wd} {st : Store} {b : Nat} {H : Hp} (R : Rel G W st b H) {a : Addr} (l : W.live a) : ∃ o, H a = some o ∧ (∀ ps, o ≠ .tbl ps) := by
  obtain ⟨i, hi⟩ := l
  have hb : i < st.length := by rw [← R.len]; exact (List.getElem?_eq_some_iff.mp hi).1
  cases e : st[i]? with
  | none => rw [List.getElem?_eq_none_iff] at e; omega
  | some o =>
    cases o with
    | none => rw [R.dead i e] at hi; cases hi
    | some c =>
      obtain ⟨a', h', r⟩ := R.cell i c e
      rw [hi] at h'
      cases h'
      cases c with
      | lst xs => obtain ⟨vs, q, _⟩ := r; exact ⟨_, q, nofun⟩
      | dct ks us => obtain ⟨vs, q, _⟩ := r; exact ⟨_, q, nofun⟩
      | ins c vs => exact False.elim r
/-- a world whose things are put aside: what comes back keeps them -/
theorem aside {W Wc W2 : Wd} {st s2 : Store} {b b2 : Nat} {H H2 : Hp} {hx : Nat → Option Addr} {k : Nat} (R : Rel G W st b H) (hm : ∀ a, Mv G Wc a → a = G.sp ∨ a = G.sc) (hl : ∀ a, W.av a → Wc.av a) (x : Ext G Wc H W2 H2) (R2 : Rel G W2 s2 b2 H2) {av : Addr → Prop} (ha1 : ∀ a, av a → W.av a ∨ Nn H a) (ha2 : ∀ a, W.av a → av a)
    (ha3 : ∀ a, av a → ¬ Nn H2 a) :
    Ext G W H ⟨W.cells ++ List.replicate k none, av, W.hc⟩ H2 ∧ Rel G ⟨W.cells ++ List.replicate k none, av, W.hc⟩ (st ++ List.replicate k none) b2 H2 := by
  have at_ : ∀ (i : Nat) a, (W.cells ++ List.replicate k none)[i]? = some (some a) → W.cells[i]? = some (some a) := fun i a h => by
    by_cases hi : i < W.cells.length
    · rwa [List.getElem?_append_left hi] at h
    · rw [List.getElem?_append_right (by omega), List.getElem?_replicate] at h
      split at h <;> cases h
  have x' : Ext G W H ⟨W.cells ++ List.replicate k none, av, W.hc⟩ H2 :=
    ⟨fun q o h nt n => x.keep q o h nt fun m => by
        rcases hm q m with m | m
        · exact n (.inr (.inl m))
        · exact n (.inr (.inr m)), x.there, by simp, fun i a _ h => at_ i a h, fun q ⟨i, h⟩ => .inl ⟨i, at_ i q h⟩, ha1, ha2, rfl⟩
  refine ⟨x', by simp [R.len], fun i j a h1 h2 => R.inj i j a (at_ i a h1) (at_ j a h2), fun i c h => ?_, fun i h => ?_, R2.spr, ⟨fun ⟨i, h⟩ => R.nosp.1 ⟨i, at_ i _ h⟩, fun ⟨i, h⟩ => R.nosp.2 ⟨i, at_ i _ h⟩⟩, ha3, fun a ⟨i, h⟩ q => ?_, R2.tabs⟩
  · have hi : i < st.length := by
      by_cases hi : i < st.length
      · exact hi
      · rw [List.getElem?_append_right (by omega), List.getElem?_replicate] at h
        split at h <;> cases h
    rw [List.getElem?_append_left hi] at h
    obtain ⟨a, h1, r⟩ := R.cell i c h
    refine ⟨a, by rw [List.getElem?_append_left (by rw [R.len]; exact hi)]; exact h1, r.keeps x' ?_⟩
    obtain ⟨o, ho, nt⟩ := live_obj R ⟨i, h1⟩
    rw [ho]
    refine x.keep a o ho nt fun m => ?_
    obtain ⟨n1, n2⟩ := spr_ne R ⟨i, h1⟩
    rcases hm a m with m | m
    · exact n1 m
    · exact n2 m
  · by_cases hi : i < st.length
    · rw [List.getElem?_append_left hi] at h
      rw [List.getElem?_append_left (by rw [R.len]; exact hi)]
      exact R.dead i h
    · rw [List.getElem?_append_right (by omega), List.getElem?_replicate] at h
      rw [List.getElem?_append_right (by rw [R.len]; omega), List.getElem?_replicate, R.len]
      split at h
      · rename_i hlt
        rw [if_pos hlt]
      · cases h
  · have l := at_ i a h
    rcases ha1 a q with q | q
    · exact R.avl a ⟨i, l⟩ q
    · exact R.av_nn (.inl (.inl ⟨i, l⟩)) q
/-! ### a block that borrows -/
def borR (run : Env → Store → R Out) : Env → Store → R Out := fun e st => R.bind (run (e.map (borE st)) (st.map fun _ => none)) (borO st)
theorem map_get {α β : Type} {f : Option α → Option β} {l : List (Option α)} {i : Nat} {a : β} (h : (l.map f)[i]? = some (some a)) : ∃ o, l[i]? = some o ∧ f o = some a := by
  rw [List.getElem?_map] at h
  cases e : l[i]? with
  | none => rw [e] at h; cases h
  | some o => rw [e] at h; exact ⟨o, rfl, Option.some.inj h⟩
theorem flat_any {W W' : Wd} {H H' : Hp} {d : D} {v : V} (h : flat d = true) (r : VlR G W H (.d d) v) : VlR G W' H' (.d d) v := by
  cases d <;> (try (cases h; done)) <;> (unfold VlR VR at r ⊢; exact r)
theorem bor_read {run : Env → Store → R Out} {Dn : Ends} {σ : L2.St} {H : Hp} (h : tS cs G Wx (borR run) Dn σ H) : tS cs G Wx run Dn σ H := by
  obtain ⟨W, e, st, b, R, V, g⟩ := h
  unfold borR at g
  rw [good_bind] at g
  let W1 : Wd := ⟨W.cells.map fun _ => none, W.av, fun i => (W.cells[i]?).join⟩
  have hcl : ∀ i a, W1.hc i = some a → W.cells[i]? = some (some a) := fun i a h => by
    have h' : (W.cells[i]?).join = some a := h
    cases e : W.cells[i]? with
    | none => rw [e] at h'; cases h'
    | some o => rw [e] at h'; have h2 : o = some a := h'; rw [h2]
  have nl : ∀ a, ¬ W1.live a := fun a ⟨i, h⟩ => by
    obtain ⟨o, _, z⟩ := map_get (f := fun _ => none) (show (W.cells.map fun _ => none)[i]? = some (some a) from h)
    cases z
  have mv1 : ∀ a, Mv G W1 a → a = G.sp ∨ a = G.sc := fun a m => by
    rcases m with m | m
    · exact absurd m (nl a)
    · exact m
  have av1 : ∀ a, Av G W1 a → Av G W a := fun a m => by
    rcases m with m | m
    · exact .inl (.inr (mv1 a m))
    · exact .inr m
  have ah1 : ∀ a, Ah G W1 a → Av G W a := fun a m => by
    rcases m with m | ⟨i, m⟩
    · exact av1 a m
    · exact .inl (.inl ⟨i, hcl i a m⟩)
  have R1 : Rel G W1 (st.map fun _ => none) b H := by
    refine ⟨by simp [W1, R.len], fun i j a h => absurd ⟨i, h⟩ (nl a), fun i c h => ?_, fun i h => ?_, R.spr, ⟨nl _, nl _⟩, R.avt, fun a l => absurd l (nl a), R.tabs⟩
    · obtain ⟨o, _, z⟩ := map_get (f := fun (_ : Option Cell) => (none : Option Cell)) h
      cases z
    · have hi : i < st.length := by
        have := (List.getElem?_eq_some_iff.mp h).1
        simpa using this
      show (W.cells.map fun _ => none)[i]? = some none
      rw [List.getElem?_map, List.getElem?_eq_getElem (by rw [R.len]; exact hi)]
      rfl
  have V1 : EnvR G W1 H (e.map (borE st)) σ := by
    refine ⟨by simp [V.len], fun i a h => ?_⟩
    obtain ⟨o, ho, z⟩ := map_get h
    cases o with
    | none => cases z
    | some w =>
      obtain ⟨v, hv, r⟩ := V.get0 i w ho
      refine ⟨v, hv, ?_⟩
      cases w with
      | d x => cases z; exact VR.ext0 (.less ah1) r
      | h x => cases z; exact VR.ext0 (.less fun a m => .inl (ah1 a m)) r
      | thk => cases z
      | its _ => cases z
      | exn _ _ => cases z
      | hr _ _ => cases z
      | ref j =>
        obtain ⟨x, es, z⟩ := Option.map_eq_some_iff.mp z
        cases z
        unfold snap at es
        dsimp only at es
        have main : ∀ c, geti st j = some c → ∃ p, W.cells[j]? = some (some p) ∧ CellR G W H p c ∧ v = .ref p ∧ ¬ Av G W1 p := fun c z => by
          obtain ⟨p, h1, h2⟩ := R.cell j c (geti_some z)
          refine ⟨p, h1, h2, r.2 p h1, fun m => ?_⟩
          obtain ⟨n1, n2⟩ := spr_ne R ⟨j, h1⟩
          rcases m with m | m
          · rcases mv1 p m with m | m
            · exact n1 m
            · exact n2 m
          · exact R.avl p ⟨j, h1⟩ m
        have hj : ∀ p, W.cells[j]? = some (some p) → W1.hc j = some p := fun p h => by
          show (W.cells[j]?).join = some p
          rw [h]; rfl
        split at es
        · rename_i xs ez
          obtain ⟨ds, ed, rfl⟩ := Option.map_eq_some_iff.mp es
          obtain ⟨p, k1, ⟨us, k2, k3⟩, rfl, k4⟩ := main _ ez
          have ea := dats_mem ed
          subst ea
          refine ⟨p, hj p k1, rfl, ?_⟩
          unfold VR
          exact ⟨p, us, rfl, k2, k4, VRs.ext0 (.less av1) (VlRs_d k3)⟩
        · rename_i ks us ez
          obtain ⟨ds, ed, rfl⟩ := Option.map_eq_some_iff.mp es
          obtain ⟨p, k1, ⟨kvs, k2, k3, k5⟩, rfl, k4⟩ := main _ ez
          have ea := dats_mem ed
          subst ea
          refine ⟨p, hj p k1, rfl, ?_⟩
          unfold VR
          exact ⟨p, kvs, rfl, k2, k4, k3, VRs.ext0 (.less av1) (VlRs_d k5)⟩
        · rename_i c us ez
          obtain ⟨p, k1, k2, _⟩ := main _ ez
          exact k2.elim
        · cases es
  have fin : ∀ {W2 H2 s2 b2}, Ext G W1 H W2 H2 → Rel G W2 s2 b2 H2 → ∀ k, Ext G W H ⟨W.cells ++ List.replicate k none, W2.av, W.hc⟩ H2 ∧ Rel G ⟨W.cells ++ List.replicate k none, W2.av, W.hc⟩ (st ++ List.replicate k none) b2 H2 := fun x R2 k =>
    aside (hx := W1.hc) R mv1 (fun a h => h) x R2 x.av x.avm R2.avt
  have env : ∀ {W2 : Wd} {H2 : Hp} {e2 : Env} {σ2 : L2.St} (k : Nat), Ext G W1 H W2 H2 → EnvR G W2 H2 e2 σ2 → EnvR G ⟨W.cells ++ List.replicate k none, W2.av, W.hc⟩ H2 (e2.map retE) σ2 := fun {W2 H2 e2 σ2} k x V2 => by
    refine ⟨by simp [V2.len], fun i a h => ?_⟩
    obtain ⟨o, ho, z⟩ := map_get h
    cases o with
    | none => cases z
    | some w =>
      obtain ⟨v, hv, r⟩ := V2.get0 i w ho
      refine ⟨v, hv, ?_⟩
      cases w with
      | d x =>
        unfold retE at z
        dsimp only at z
        split at z
        · rename_i hf
          cases z
          exact flat_any hf r
        · cases z
      | ref _ => cases z
      | thk => cases z
      | its _ => cases z
      | exn _ _ => cases z
      | h y =>
        cases z
        refine VR.ext0 (.less fun a m => ?_) r
        rcases m with (⟨i, m⟩ | m) | m
        · have l : W.cells[i]? = some (some a) := by
            by_cases hi : i < W.cells.length
            · rwa [List.getElem?_append_left hi] at m
            · rw [List.getElem?_append_right (by omega), List.getElem?_replicate] at m
              split at m <;> cases m
          refine .inr ⟨i, ?_⟩
          rw [x.hc]
          show (W.cells[i]?).join = some a
          rw [l]; rfl
        · exact .inl (.inl (.inr m))
        · exact .inl (.inr m)
      | hr j y =>
        cases z
        obtain ⟨a, h1, h2, h3⟩ := r
        rw [x.hc] at h1
        have l := hcl j a h1
        have hj := (List.getElem?_eq_some_iff.mp l).1
        refine ⟨by simp; omega, fun a' m => ?_⟩
        have m' : (W.cells ++ List.replicate k none)[j]? = some (some a') := m
        rw [List.getElem?_append_left hj, l] at m'
        cases m'
        exact h2
  refine ⟨W1, _, _, b, R1, V1, good_mono (fun o b2 q => ?_) g⟩
  cases o with
  | nx e2 s2 => exact fun W2 H2 σ2 x R2 V2 => let ⟨y1, y2⟩ := fin x R2 (s2.length - st.length); q _ H2 σ2 y1 y2 (env _ x V2)
  | bk e2 s2 => exact fun W2 H2 σ2 x R2 V2 => let ⟨y1, y2⟩ := fin x R2 (s2.length - st.length); q _ H2 σ2 y1 y2 (env _ x V2)
  | ct e2 s2 => exact fun W2 H2 σ2 x R2 V2 => let ⟨y1, y2⟩ := fin x R2 (s2.length - st.length); q _ H2 σ2 y1 y2 (env _ x V2)
  | rt v s2 =>
    cases v <;> (try (exact False.elim q))
    rename_i dx
    unfold borO at q
    dsimp only at q
    split at q
    · rename_i hf
      exact fun W2 H2 u x R2 r2 => let ⟨y1, y2⟩ := fin x R2 (s2.length - st.length); q _ H2 u y1 y2 (flat_any hf r2)
    · exact False.elim q
  | x c fs e2 s2 => exact False.elim q
/-! ### a mutable thing turned into data -/
theorem frz_read {W : Wd} {st : Store} {b : Nat} {H : Hp} (R : Rel G W st b H) {a : Vl} {v : V} (r : VlR G W H a v) {x : D} {s' : Store} (h : frzV st a = some (x, s')) : ∃ W', Ext G W H W' H ∧ Rel G W' s' b H ∧ VlR G W' H (.d x) v := by
  cases a with
  | d y => cases h; exact ⟨W, .refl, R, r⟩
  | thk => cases h
  | its _ => cases h
  | exn _ _ => cases h
  | h _ => cases h
  | hr _ _ => cases h
  | ref i =>
    obtain ⟨y, es, h⟩ := Option.map_eq_some_iff.mp h
    cases h
    have VT' := snap_VT R r es
    have at_ : ∀ (j : Nat) q, (W.cells.set i none)[j]? = some (some q) → j ≠ i ∧ W.cells[j]? = some (some q) := fun j q h => by
      by_cases e : i = j
      · subst e
        by_cases hl : i < W.cells.length
        · rw [List.getElem?_set_self hl] at h; cases h
        · rw [List.getElem?_eq_none (by simpa using hl)] at h; cases h
      · rw [List.getElem?_set_ne e] at h
        exact ⟨fun z => e z.symm, h⟩
    have x0 : Ext G W H ⟨W.cells.set i none, W.av, W.hc⟩ H := ⟨fun _ _ h _ _ => h, fun _ h => h, by simp, fun j q _ h => (at_ j q h).2, fun q ⟨j, h⟩ => .inl ⟨j, (at_ j q h).2⟩, fun _ h => .inl h, fun _ h => h, rfl⟩
    have R' : Rel G ⟨W.cells.set i none, W.av, W.hc⟩ (st.set i none) b H := by
      refine ⟨by simp [R.len], fun j k q h1 h2 => R.inj j k q (at_ j q h1).2 (at_ k q h2).2, fun j c h => ?_, fun j h => ?_, R.spr, ⟨fun ⟨j, h⟩ => R.nosp.1 ⟨j, (at_ j _ h).2⟩, fun ⟨j, h⟩ => R.nosp.2 ⟨j, (at_ j _ h).2⟩⟩, R.avt, fun q ⟨j, h⟩ => R.avl q ⟨j, (at_ j q h).2⟩, R.tabs⟩
      · by_cases e : i = j
        · subst e
          by_cases hl : i < st.length
          · rw [List.getElem?_set_self hl] at h; cases h
          · rw [List.getElem?_eq_none (by simpa using hl)] at h; cases h
        · rw [List.getElem?_set_ne e] at h
          obtain ⟨q, h1, h2⟩ := R.cell j c h
          exact ⟨q, by show (W.cells.set i none)[j]? = _; rw [List.getElem?_set_ne e]; exact h1, h2.keeps x0 rfl⟩
      · show (W.cells.set i none)[j]? = some none
        by_cases e : i = j
        · subst e
          have hl : i < st.length := by have := (List.getElem?_eq_some_iff.mp h).1; simpa using this
          rw [List.getElem?_set_self (by rw [R.len]; exact hl)]
        · rw [List.getElem?_set_ne e] at h ⊢
          exact R.dead j h
    refine ⟨_, x0, R', ?_⟩
    unfold snap at es
    dsimp only at es
    have main : ∀ c, geti st i = some c → ∃ p, CellR G W H p c ∧ v = .ref p ∧ ¬ Av G ⟨W.cells.set i none, W.av, W.hc⟩ p := fun c z => by
      obtain ⟨p, h1, h2⟩ := R.cell i c (geti_some z)
      refine ⟨p, h2, r.2 p h1, fun m => ?_⟩
      obtain ⟨n1, n2⟩ := spr_ne R ⟨i, h1⟩
      rcases m with (⟨j, m⟩ | m | m) | m
      · obtain ⟨e1, e2⟩ := at_ j p m
        exact e1 (R.inj j i p e2 h1)
      · exact n1 m
      · exact n2 m
      · exact R.avl p ⟨i, h1⟩ m
    split at es
    · rename_i xs ez
      obtain ⟨ds, ed, rfl⟩ := Option.map_eq_some_iff.mp es
      obtain ⟨p, ⟨us, k2, k3⟩, rfl, k4⟩ := main _ ez
      have ea := dats_mem ed
      subst ea
      unfold VlR VR
      exact ⟨p, us, rfl, k2, k4, VRs.ext0 x0.ext0 (VlRs_d k3)⟩
    · rename_i ks us ez
      obtain ⟨ds, ed, rfl⟩ := Option.map_eq_some_iff.mp es
      obtain ⟨p, ⟨kvs, k2, k3, k5⟩, rfl, k4⟩ := main _ ez
      have ea := dats_mem ed
      subst ea
      unfold VlR VR
      exact ⟨p, kvs, rfl, k2, k4, k3, VRs.ext0 x0.ext0 (VlRs_d k5)⟩
    · rename_i c us ez
      obtain ⟨p, k2, _⟩ := main _ ez
      exact k2.elim
    · cases es
theorem pe_frzE {e : Expr} {ra run : Env → Store → E Vl} (he : PE X e (tE cs G Wx ra)) (hr : ∀ e st, run e st = bnd (ra e st) fun x st => match frzV st x with
      | some (x, st) => ret (.d x) st
      | none => .err) : PE X e (tE cs G Wx run) := by
  refine PE.imp he fun σ H Q ⟨W, en, st, b, R, V, g⟩ => ?_
  rw [hr, EG_bnd] at g
  refine ⟨W, en, st, b, R, V, g.mono (fun a s b g W1 H1 v x1 R1 r1 => ?_) fun _ _ _ _ q => q⟩
  cases ef : frzV s a with
  | none => rw [ef] at g; exact g.elim
  | some p =>
    obtain ⟨x, s'⟩ := p
    rw [ef] at g
    obtain ⟨W', x', R', r'⟩ := frz_read R1 r1 ef
    exact g W' H1 v (x1.trans x') R' r'
end
end EV

end
section
set_option Elab.async false
set_option linter.all false
set_option maxRecDepth 100000
set_option maxHeartbeats 4000000
/-! EV 17: calls. -/
namespace EV
open PySem PySem.Spec PyProof.Rows L2
open LamX (Tabs TabS CodeO)
/-- a def's promise: run tells all -/
def spF (cs : List ErrC) (G : Gd) (np : Nat) (run : List Vl → Store → E Vl) : Sp := fun vs H Q E => vs.length = np ∧ ∃ W st b as, Rel G W st b H ∧ VlRs G W H as vs ∧ EG (KV' G W H Q) (KX cs G (fun cls d _ H => E cls d H) W H []) (run as st) b
section
variable {cs : List ErrC} {G : Gd} {Wx : WX} {X : Cx}
/-- a callee's world, when only data is handed -/
def Wd.callee (W : Wd) : Wd := ⟨[], fun a => W.live a ∨ W.av a, fun _ => none⟩
theorem callee_av {W : Wd} {a : Addr} : Av G W.callee a ↔ Av G W a := by
  constructor
  · rintro ((⟨i, h⟩ | m) | m | m)
    · have h' : ([] : List (Option Addr))[i]? = some (some a) := h
      simp at h'
    · exact .inl (.inr m)
    · exact .inl (.inl m)
    · exact .inr m
  · rintro ((m | m) | m)
    · exact .inr (.inl m)
    · exact .inl (.inr m)
    · exact .inr (.inr m)
theorem callee_live {W : Wd} {a : Addr} : ¬ W.callee.live a := fun ⟨i, h⟩ => by
  have h' : ([] : List (Option Addr))[i]? = some (some a) := h
  simp at h'
theorem callee_mv {W : Wd} {a : Addr} (m : Mv G W.callee a) : a = G.sp ∨ a = G.sc := by
  rcases m with m | m
  · exact absurd m callee_live
  · exact m
theorem callee_rel {W : Wd} {st : Store} {b : Nat} {H : Hp} (R : Rel G W st b H) : Rel G W.callee [] b H := by
  refine ⟨rfl, fun i j a h => absurd ⟨i, h⟩ callee_live, fun i c h => by simp at h, fun i h => by simp at h, R.spr, ⟨callee_live, callee_live⟩, fun a h => ?_, fun a l => absurd l callee_live, R.tabs⟩
  rcases h with h | h
  · exact R.av_nn (.inl (.inl h))
  · exact R.avt a h
theorem callee_args {W : Wd} {H : Hp} {ds : List D} {us : List V} (h : VlRs G W H (ds.map .d) us) : VlRs G W.callee H (ds.map .d) us :=
  VlRs_of (VRs.ext0 (.less fun a m => callee_av.mp m) (VlRs_d h))
/-- back from a callee that had only data -/
theorem callee_back {W W2 : Wd} {st s2 : Store} {b b2 : Nat} {H H2 : Hp} (R : Rel G W st b H) (x : Ext G W.callee H W2 H2) (R2 : Rel G W2 s2 b2 H2) : Ext G W H W H2 ∧ Rel G W st b2 H2 := by
  have q := aside (k := 0) (hx := fun _ => none) (av := W.av) R (fun a => callee_mv) (fun a h => .inr h) x R2 (fun a h => .inl h) (fun a h => h) fun a h n => R.avt a h (x.there a n)
  simpa using q
theorem back_av {W W2 : Wd} {H H2 : Hp} (x : Ext G W.callee H W2 H2) {a : Addr} (m : Av G W a) : Av G W2 a := by
  rcases m with (m | m) | m
  · exact .inr (x.avm a (.inl m))
  · exact .inl (.inr m)
  · exact .inr (x.avm a (.inr m))
theorem back_err {W W2 : Wd} {H H2 : Hp} {c : Nat} {fs : List D} {cls : Value} {d : Option Addr} (x : Ext G W.callee H W2 H2) (h : ErrR cs G W2 H2 c fs cls d) : ErrR cs G W H2 c fs cls d := by
  obtain ⟨ec, vs, dd, h1, h2, h3, h4, h5, h6, h7⟩ := h
  exact ⟨ec, vs, dd, h1, h2, h3, h4, h5, VRs.ext0 (.less fun a m => back_av x m) h6, fun m => h7 (back_av x m)⟩
/-- what a snap lies at -/
theorem snap_at {W : Wd} {st : Store} {b : Nat} {H : Hp} (R : Rel G W st b H) {i : Nat} {v : V} (r : VlR G W H (.ref i) v) {x : D} (h : snap st (.ref i) = some x) :
    ∃ p, v = .ref p ∧ W.live p ∧ ((∃ ds us, x = .lst ds ∧ H p = some (.lst us) ∧ VRs G (Av G W) H ds us) ∨ ∃ ks ds kvs, x = .dct ks ds ∧ H p = some (.dK kvs) ∧ KeysOk ks kvs ∧ VRs G (Av G W) H ds (kvs.map (·.2))) := by
  unfold snap at h
  dsimp only at h
  have main : ∀ c, geti st i = some c → ∃ p, W.live p ∧ CellR G W H p c ∧ v = .ref p := fun c z => by
    obtain ⟨p, h1, h2⟩ := R.cell i c (geti_some z)
    exact ⟨p, ⟨i, h1⟩, h2, r.2 p h1⟩
  split at h
  · rename_i xs ez
    obtain ⟨ds, ed, rfl⟩ := Option.map_eq_some_iff.mp h
    obtain ⟨p, l, ⟨us, k2, k3⟩, rfl⟩ := main _ ez
    have ea := dats_mem ed
    subst ea
    exact ⟨p, rfl, l, .inl ⟨ds, us, rfl, k2, VlRs_d k3⟩⟩
  · rename_i ks us ez
    obtain ⟨ds, ed, rfl⟩ := Option.map_eq_some_iff.mp h
    obtain ⟨p, l, ⟨kvs, k2, k3, k5⟩, rfl⟩ := main _ ez
    have ea := dats_mem ed
    subst ea
    exact ⟨p, rfl, l, .inr ⟨ks, ds, kvs, rfl, k2, k3, VlRs_d k5⟩⟩
  · rename_i c us ez
    obtain ⟨p, l, k2, _⟩ := main _ ez
    exact k2.elim
  · cases h
/-- a callee's own list or dict is data to the caller -/
theorem back_val {W W2 : Wd} {s2 : Store} {b2 : Nat} {H H2 : Hp} (x : Ext G W.callee H W2 H2) (R2 : Rel G W2 s2 b2 H2) {a : Vl} {u : V} (r : VlR G W2 H2 a u) {d : D} (h : snap s2 a = some d) : VlR G W H2 (.d d) u := by
  cases a with
  | d y => cases h; exact VR.ext0 (.less fun a m => back_av x m) r
  | thk => cases h
  | its _ => cases h
  | exn _ _ => cases h
  | h _ => cases h
  | hr _ _ => cases h
  | ref i =>
    obtain ⟨p, rfl, l, q⟩ := snap_at R2 r h
    have np : ¬ Av G W p := fun m => by
      obtain ⟨n1, n2⟩ := spr_ne R2 l
      rcases m with (m | m | m) | m
      · exact R2.avl p l (x.avm p (.inl m))
      · exact n1 m
      · exact n2 m
      · exact R2.avl p l (x.avm p (.inr m))
    rcases q with ⟨ds, us, rfl, k1, k2⟩ | ⟨ks, ds, kvs, rfl, k1, k2, k3⟩
    · unfold VlR VR
      exact ⟨p, us, rfl, k1, np, VRs.ext0 (.less fun a m => back_av x m) k2⟩
    · unfold VlR VR
      exact ⟨p, kvs, rfl, k1, np, k2, VRs.ext0 (.less fun a m => back_av x m) k3⟩
/-- .. or the caller's own -/
theorem back_adopt {W W2 : Wd} {st s2 : Store} {b b2 : Nat} {H H2 : Hp} (R : Rel G W st b H) (x : Ext G W.callee H W2 H2) (R2 : Rel G W2 s2 b2 H2) {i : Nat} {u : V} (r : VlR G W2 H2 (.ref i) u) {d : D} (h : snap s2 (.ref i) = some d) {c : Cell}
    (hc : match d with
      | .lst xs => c = .lst (xs.map .d)
      | .dct ks vs => c = .dct ks (vs.map .d)
      | _ => False) :
    ∃ W3, Ext G W H W3 H2 ∧ Rel G W3 (st ++ [some c]) b2 H2 ∧ VlR G W3 H2 (.ref st.length) u := by
  obtain ⟨p, rfl, l, q⟩ := snap_at R2 r h
  have hp : Nn H p := by
    rcases x.fresh p l with z | z
    · exact absurd z callee_live
    · exact z
  obtain ⟨x1, R1⟩ := callee_back R x R2
  obtain ⟨n1, n2⟩ := spr_ne R2 l
  have nav : ¬ W.av p := fun m => R2.avl p l (x.avm p (.inr m))
  have nlv : ¬ W.live p := fun m => R2.avl p l (x.avm p (.inl m))
  -- p kept away, then taken
  have x2 : Ext G W H (W.plus p) H2 := ⟨x1.keep, x1.there, x1.grow, x1.back, fun q h => x1.fresh q ((live_iff rfl).mp h), fun q h => by
    rcases h with h | h
    · exact .inl h
    · exact .inr (by rw [h]; exact hp), fun q h => .inl h, rfl⟩
  have hav : ∀ a, Av G (W.plus p) a → Av G W2 a := fun a m => by
    rcases m with m | m | m
    · exact back_av x (.inl ((mv_iff rfl).mp m))
    · exact back_av x (.inr m)
    · exact .inl (.inl (m ▸ l))
  have R3 : Rel G (W.plus p) st b2 H2 := by
    refine ⟨R1.len, R1.inj, fun j c h => ?_, R1.dead, R1.spr, R1.nosp, fun a h => ?_, fun a la h => ?_, R1.tabs⟩
    · obtain ⟨a, h1, h2⟩ := R.cell j c h
      refine ⟨a, h1, h2.keeps x2 ?_⟩
      obtain ⟨o, ho, nt⟩ := live_obj R ⟨j, h1⟩
      rw [ho]
      refine x.keep a o ho nt fun m => ?_
      obtain ⟨n1, n2⟩ := spr_ne R ⟨j, h1⟩
      rcases callee_mv m with m | m
      · exact n1 m
      · exact n2 m
    · rcases h with h | h
      · exact R1.avt a h
      · rw [h]; exact R2.av_nn (.inl (.inl l))
    · rcases h with h | h
      · exact R1.avl a la h
      · exact nlv (h ▸ la)
  rcases q with ⟨ds, us, rfl, k1, k2⟩ | ⟨ks, ds, kvs, rfl, k1, k2, k3⟩
  · subst hc
    obtain ⟨y1, y2, y3⟩ := adopt (c := .lst (ds.map .d)) hp x2 R3 (.inr rfl) nav (fun e => n1 e.symm) (fun e => n2 e.symm) fun W4 eh x0 hc hb => ⟨us, k1, VlRs_of (VRs.ext0 x0 (VRs.ext0 (.less hav) k2))⟩
    exact ⟨_, y1, y2, y3⟩
  · subst hc
    obtain ⟨y1, y2, y3⟩ := adopt (c := .dct ks (ds.map .d)) hp x2 R3 (.inr rfl) nav (fun e => n1 e.symm) (fun e => n2 e.symm) fun W4 eh x0 hc hb => ⟨kvs, k1, k2, VlRs_of (VRs.ext0 x0 (VRs.ext0 (.less hav) k3))⟩
    exact ⟨_, y1, y2, y3⟩
/-- what is known of a call's arguments and of what fills up -/
structure Fills (cs : List ErrC) (G : Gd) (F : Cfg) (f n np : Nat) (dd : List D) (dvs : List V) : Prop where
  len : n + dd.length = np
  rel : ∀ W H, VlRs G W H (dd.map .d) dvs
  same : ∀ as st, as.length = n → F.call f as st = F.call f (as ++ dd.map .d) st
theorem sp_call {F : Cfg} {m : Md} {f n np : Nat} {dd : List D} {dvs : List V} (fl : Fills cs G F f n np dd dvs) {W : Wd} {H : Hp} {σ : L2.St} {Q : VK} {vs : List Vl} {us : List V} {s : Store} {b : Nat} (hl : vs.length = n) (R : Rel G W s b H) (r : VlRs G W H vs us)
    (g : EG (KV' G W H Q) (KX cs G Wx W H σ) (callE F m f vs s) b) : spF cs G np (F.call f) (us ++ dvs) H Q (WE Wx σ) := by
  refine ⟨by rw [List.length_append, ← paired_len r, hl, ← paired_len (fl.rel W H), List.length_map]; exact fl.len, ?_⟩
  cases m with
  | shared =>
    unfold callE at g
    rw [fl.same vs s hl] at g
    exact ⟨W, s, b, _, R, VlRs.app r (fl.rel W H), g.mono (fun _ _ _ q => q) fun _ _ _ _ q W' H' cls d x R' k => q W' H' cls d x R' k⟩
  | frz =>
    unfold callE at g
    dsimp only at g
    cases ed : dats vs with
    | none => rw [ed] at g; exact g.elim
    | some ds =>
      rw [ed] at g
      have ev := dats_mem ed
      subst ev
      dsimp only at g
      unfold EG at g
      rw [good_bind, fl.same _ [] hl] at g
      refine ⟨W.callee, [], b, _, callee_rel R, VlRs.app (callee_args r) (fl.rel _ H), good_mono (fun o b2 q => ?_) g⟩
      cases o with
      | v a s2 =>
        intro W2 H2 u x R2 r2
        obtain ⟨o, eo, q⟩ := EG_lift.mp q
        obtain ⟨d, es, rfl⟩ := Option.map_eq_some_iff.mp eo
        obtain ⟨x1, R1⟩ := callee_back R x R2
        exact q W H2 u x1 R1 (back_val x R2 r2 es)
      | x c fs s2 =>
        intro W2 H2 cls d x R2 k
        obtain ⟨x1, R1⟩ := callee_back R x R2
        exact q W H2 cls d x1 R1 (back_err x k)
  | adopt =>
    unfold callE at g
    dsimp only at g
    cases ed : dats vs with
    | none => rw [ed] at g; exact g.elim
    | some ds =>
      rw [ed] at g
      have ev := dats_mem ed
      subst ev
      dsimp only at g
      unfold EG at g
      rw [good_bind, fl.same _ [] hl] at g
      refine ⟨W.callee, [], b, _, callee_rel R, VlRs.app (callee_args r) (fl.rel _ H), good_mono (fun o b2 q => ?_) g⟩
      cases o with
      | v a s2 =>
        intro W2 H2 u x R2 r2
        cases a <;> (try (exact False.elim q))
        rename_i i
        dsimp only at q
        split at q
        · rename_i xs es
          obtain ⟨W3, y1, y2, y3⟩ := back_adopt R x R2 r2 es (c := .lst (xs.map .d)) rfl
          exact q W3 H2 u y1 y2 y3
        · rename_i ks vs es
          obtain ⟨W3, y1, y2, y3⟩ := back_adopt R x R2 r2 es (c := .dct ks (vs.map .d)) rfl
          exact q W3 H2 u y1 y2 y3
        · exact False.elim q
      | x c fs s2 =>
        intro W2 H2 cls d x R2 k
        obtain ⟨x1, R1⟩ := callee_back R x R2
        exact q W H2 cls d x1 R1 (back_err x k)
theorem pe_callE {x : Str} {p pos : Pos} {e : Expr} {es : List Expr} {F : Cfg} {m : Md} {f n np k : Nat} {fa : Addr} {fd : FuncData} {ps : List Str} {ds : List Value} {dd : List D} {dvs : List V} {rs run : Env → Store → E Vl} (tk : Takes X Wx)
    (Fn : FnOk X.prog X.w X.K X.mg X.base (L2.CX X.prog X.w) k fa fd ps (spF cs G np (F.call f))) (room : Room k X.A) (hg : Gl X x) (hm : X.mg x = some (.ref fa)) (hk : PySem.W.keepIn X.K (.ref fa) = true) (hb : Binds X.K fd ps ds) (hd : Vals dvs ds) (fl : Fills cs G F f n np dd dvs)
    (hs : PA X (e :: es) (tA cs G Wx rs)) (hst : notStar e = true) (hpl : (backTo pos (starEach es X.env)).any (·.1) = false) (hdb : (x == ("__debug__" : Str)) = false)
    (hr : ∀ e st, run e st = bnd (rs e st) fun vs st => match vs with
      | .its vs => if vs.length = n then callE F m f vs st else .err
      | _ => .err) : PE X (.Call (.Name x p) (e :: es) [] pos) (tE cs G Wx run) := by
  refine PE.imp (pe_callSD Fn room hg hm hk hb hd (fun σ => passAt tk σ) hs hdb (star_cons hst) hpl) fun σ H Q ⟨W, en, st, b, R, V, g⟩ => ?_
  rw [hr, EG_bnd] at g
  refine ⟨W, en, st, b, R, V, g.mono (fun a s b g => ?_) fun _ _ _ _ q => q⟩
  cases a <;> first
    | exact g.elim
    | skip
  rename_i vs
  dsimp only at g
  split at g
  · rename_i hl
    refine ⟨vs, rfl, fun W1 H1 us x1 R1 r1 => sp_call (m := m) fl hl R1 r1 (g.mono (fun a s b q W' H' v x' => q W' H' v (x1.trans x')) fun c fs s b q W' H' cls d x' => q W' H' cls d (x1.trans x'))⟩
  · exact g.elim
end
end EV

end
section
set_option Elab.async false
set_option linter.all false
set_option maxRecDepth 100000
set_option maxHeartbeats 4000000
/-! EV 18: several except clauses with a name each. -/
namespace EV
open PySem PySem.Spec PyProof.Rows L2
open LamX (Tabs TabS CodeO)
/-- behind a clause with a name -/
def goneD (i : Nat) (Dn : Ends) : Ends := { nx := fun σ' H' => Dn.nx (σ'.set i none) H', rt := Dn.rt, bk := fun σ' H' => Dn.bk (σ'.set i none) H', ct := fun σ' H' => Dn.ct (σ'.set i none) H' }
abbrev Clause := Value × Bool × (Addr → Value → Option Addr → TS)
def wManyA (K : PySem.W.Frag) (Wout : WX) (i : Nat) (Dn : Ends) : List Clause → WX
  | [] => Wout
  | (c, true, ts) :: r => fun cls d σ H => ∃ b, PySem.W.exmOne K cls c = some b ∧ (b = true → ∀ a, H a = none → ts a cls d (goneD i Dn) (σ.set i (some (.ref a))) H) ∧ (b = false → wManyA K Wout i Dn r cls d σ H)
  | (c, false, ts) :: r => fun cls d σ H => ∃ b, PySem.W.exmOne K cls c = some b ∧ (b = true → ∀ a, H a = none → ts a cls d Dn σ H) ∧ (b = false → wManyA K Wout i Dn r cls d σ H)
inductive HdsA (X : Cx) (n : Str) : List ExceptHandler → List Clause → Prop
  | nil : HdsA X n [] []
  | as {x : Str} {c : Value} {ts : Addr → Value → Option Addr → TS} {b₀ : Stmt} {suite : List Stmt} {np pos' : Pos} {hds : List ExceptHandler} {l : List Clause} (hc : Names X x c)
      (hsu : ∀ (a : Addr) (oe : Obj) (cls : Value) (d : Option Addr) (pn : List (Addr × Obj)), Zc cls d oe → (∃ vs, oe.data = .fields vs) → PSs (X.suite a ((a, oe) :: pn)) (b₀ :: suite) (ts a cls d)) (r : HdsA X n hds l) :
      HdsA X n (.ExceptHandler (some (.Name x np)) (some n) (b₀ :: suite) pos' :: hds) ((c, true, ts) :: l)
  | un {x : Str} {c : Value} {ts : Addr → Value → Option Addr → TS} {b₀ : Stmt} {suite : List Stmt} {np pos' : Pos} {hds : List ExceptHandler} {l : List Clause} (hc : Names X x c)
      (hsu : ∀ (a : Addr) (oe : Obj) (cls : Value) (d : Option Addr) (pn : List (Addr × Obj)), Zc cls d oe → (∃ vs, oe.data = .fields vs) → PSs (X.suite a ((a, oe) :: pn)) (b₀ :: suite) (ts a cls d)) (r : HdsA X n hds l) :
      HdsA X n (.ExceptHandler (some (.Name x np)) none (b₀ :: suite) pos' :: hds) ((c, false, ts) :: l)
section
variable {X : Cx} {body : List Stmt} {h₀ : ExceptHandler} {hds : List ExceptHandler} {l : List Clause} {pos : Pos} {tb : WX → TS} {Wout : WX} {i : Nat} {n : Str}
theorem ps_try_manyA (hs : X.stack = X.env :: X.outer) (hf : X.env.frame = some X.env.locals) (hN : X.N.Nodup) (hi : X.N[i]? = some n) (hln : X.env.kindOf n = some .local) (tk : Takes X Wout)
    (hb : ∀ (W : WX) (pn : List (Addr × Obj)) (xe : Value → Shared → Prop), Takes (X.tr pn xe) W → PassesOwn (model X.prog X.w) X.A X.env xe → PSs (X.tr pn xe) body (tb W))
    (hh : HdsA X n (h₀ :: hds) l) : PS X (.Try body (h₀ :: hds) [] [] pos) (fun D σ H => tb (wManyA X.K Wout i D l) D σ H) := by
  refine ⟨fun pins s σ H D I h => ?_⟩
  have ok := I.ok
  have hfr : X.A.frames = some (X.env :: X.outer) := by rw [ok.frames, hs]
  have hloc : Loc X.env.scope n := .inl hln
  refine wpAny_Try_except ?_
  refine wpAny_mono ((hb (wManyA X.K Wout i D l) (X.pn ++ pins) (fun e s₁ => wpAny (model X.prog X.w) X.A (noteFrame e X.env) (fun _ s₂ => wpAny (model X.prog X.w) X.A (setFlight e none) (fun _ s₃ =>
    wpAny (model X.prog X.w) X.A (handleBy e X.env (h₀ :: hds)) (SP X pins D) X.xe s₃) X.xe s₂) X.xe s₁) (fun u s' xx => ?_) PassesOwn.looking).run [] s σ H D (I.toTry _) h) (fun f s1 hsp => ?_) (fun e s1 he => he)
  · -- the catch
    obtain ⟨a, B, sI, pins', σ', H', cls, d, rfl, J', nb, up, sky, na, os, ag, w⟩ := xx
    have J : Inv X pins σ' H' sI := J'.ofTry ok
    have sky' : Sky B (X.env :: X.outer) a (Zc cls d) X.env.locals s'.heap := by rw [← hs]; exact sky
    show wpAny (model X.prog X.w) X.A (noteFrame (.ref a) X.env) _ _ _
    refine Sky.land Zc.steady hfr hf sky' fun h3 fl3 up3 => ?_
    have J3 : Inv X pins σ' H' { s' with heap := h3 } := J.landed nb fl3.1 (up.trans up3) os ag
    obtain ⟨oe3, vs3, he3, hz3, hd3⟩ := fl3.there
    have notFr : ∀ {h : Heap} {o : Obj} {vs : Array Value}, h.FunFrames B (X.env :: X.outer) → h.get? a = some o → o.data = .fields vs → a ∉ frs (X.env :: X.outer) := fun {h o vs} ff e dd hm => by
      obtain ⟨_, o', e', hnf⟩ := ff.mem hm
      rw [e] at e'; cases e'
      exact hnf _ dd
    have nfr := notFr fl3.2.2.1 he3 hd3
    have nL : a ≠ X.env.locals := fun z => nfr (List.mem_filterMap.mpr ⟨X.env, List.mem_cons_self, by rw [hf, z]⟩)
    have nF : a ∉ X.fs := fun hm => by
      obtain ⟨e, he, q⟩ := List.mem_filterMap.mp hm
      exact nfr (List.mem_filterMap.mpr ⟨e, List.mem_cons_of_mem _ he, q⟩)
    have S3 := J3.suite he3 hd3 na nL nF
    have LT : PySem.W.Looks (model X.prog X.w) h3 (typeOf (.ref a)) cls := fun A Q E s k q => wpAny_typeOf_ref (k _ _ he3) (by rw [hz3.1]; exact q)
    have test : ∀ {x : Str} {c : Value} {np : Pos} {Q : Value → Shared → Prop} {E : Value → Shared → Prop}, Names X x c → Q c { s' with heap := h3 } → wpAny (model X.prog X.w) (X.A.mark (some (.ref a))) (eval (.Name x np) X.env) Q E { s' with heap := h3 } := fun {x c np Q E} hc q => by
      obtain ⟨hg, hdbg, hm | ⟨hm, hv, hnn⟩⟩ := hc
      · exact ld_glob (X := X.suite a ((a, oe3) :: (X.pn ++ pins))) S3 hg hm q hdbg
      · exact ld_blt (X := X.suite a ((a, oe3) :: (X.pn ++ pins))) S3 hg hm hv q hnn hdbg
    have go : ∀ {hds' : List ExceptHandler} {l' : List Clause}, HdsA X n hds' l' → wManyA X.K Wout i D l' cls d σ' H' →
        wpAny (model X.prog X.w) X.A (handleBy (.ref a) X.env hds') (SP X pins D) X.xe { s' with heap := h3 } := by
      intro hds' l' hk
      induction hk with
      | nil =>
        intro w
        refine wpAny_handleBy_nil ?_
        obtain ⟨k1, k2, k3, oe, vs, T, oT, ts', he, hz, hd, h1, hr⟩ := id fl3
        unfold PySem.passOn
        refine wpAny_bind (wpAny_field he hd h1 ?_)
        rw [if_neg (show ¬ ((Value.ref T == Value.none) = true) from by simp)]
        have fin : wpAny (model X.prog X.w) X.A (setFlight (.ref a) X.env.frame) (fun _ s4 => wpAny (model X.prog X.w) X.A (throw (.ref a) : Sem Flow) (SP X pins D) X.xe s4) X.xe { s' with heap := h3 } := by
          rw [hf]
          refine HandSPX.setFlight_upZ fl3 fun h4 hh4 up4 => wpAny_throw (tk _ _ ?_)
          exact ⟨a, B, sI, pins, σ', H', cls, d, rfl, J, nb, (up.trans up3).trans up4, .inr (.inr (by rw [hs]; exact hh4)), na, os, ag, w⟩
        first
          | exact wpAny_bind (wpAny_pure (wpAny_bind fin))
          | exact wpAny_bind fin
      | @as x c ts b₀ suite np pos' hds2 l2 hc hsu r ih =>
        intro w
        obtain ⟨b, hb1, hyes, hno⟩ := w
        refine wpAny_handleBy_cons (codeAny_handlers_test ?_) (by intro q; cases q)
        have LM := PySem.W.exm_one (M := model X.prog X.w) (J3.kIn) LT hb1
        refine test hc (LM.here ?_)
        cases b with
        | true =>
          refine codeAny_handlers_suite_as ?_
          refine HandSPX.lands_againZ fl3 fun h4 fl4 up4 => ?_
          have J4 : Inv X pins σ' H' { s' with heap := h4 } := J.landed nb fl4.1 ((up.trans up3).trans up4) os ag
          obtain ⟨oe4, vs4, he4, hz4, hd4⟩ := fl4.there
          have S4 := J4.suite he4 hd4 na nL nF
          refine store_ok (X := X.suite a ((a, oe4) :: (X.pn ++ pins))) (v := .ref a) S4 hN hi hloc rfl (fun s5 S5 => ?_) (.inr hln)
          refine wpAny_mono ((hsu a oe4 cls d (X.pn ++ pins) hz4 ⟨_, hd4⟩).run [] s5 _ H' _ S5 (hyes rfl a na)) (fun f s6 hsp => ?_) (fun _ _ z => False.elim z)
          have end_ : ∀ {σ6 : L2.St} {H6 : Hp} {Q : Shared → Prop}, Inv (X.suite a ((a, oe4) :: (X.pn ++ pins))) [] σ6 H6 s6 → (∀ s7, Inv X pins (σ6.set i none) H6 s7 → Q s7) →
              wpAny (model X.prog X.w) X.A (do bindName X.env n .none; unbindBehindTheSuite X.env n pos') (fun _ s7 => Q s7) X.xe s6 := fun {σ6 H6 Q} S6 hq => gone_ok (S6.unsuite ok) hN hi hln hq
          cases f with
          | next =>
            obtain ⟨σ6, H6, S6, q6⟩ := hsp
            exact end_ S6 fun s7 J7 => ⟨_, _, J7, q6⟩
          | brk =>
            obtain ⟨σ6, H6, S6, q6⟩ := hsp
            exact end_ S6 fun s7 J7 => ⟨_, _, J7, q6⟩
          | cont =>
            obtain ⟨σ6, H6, S6, q6⟩ := hsp
            exact end_ S6 fun s7 J7 => ⟨_, _, J7, q6⟩
          | ret u =>
            obtain ⟨v6, σ6, H6, S6, r6, q6⟩ := hsp
            exact end_ S6 fun s7 J7 => ⟨_, _, _, J7, r6, q6⟩
        | false =>
          show wpAny _ X.A (handleBy (.ref a) X.env hds2) _ _ _
          exact ih (hno rfl)
      | @un x c ts b₀ suite np pos' hds2 l2 hc hsu r ih =>
        intro w
        obtain ⟨b, hb1, hyes, hno⟩ := w
        refine wpAny_handleBy_cons (codeAny_handlers_test ?_) (by intro q; cases q)
        have LM := PySem.W.exm_one (M := model X.prog X.w) (J3.kIn) LT hb1
        refine test hc (LM.here ?_)
        cases b with
        | true =>
          refine codeAny_handlers_suite ?_
          refine HandSPX.lands_againZ fl3 fun h4 fl4 up4 => ?_
          have J4 : Inv X pins σ' H' { s' with heap := h4 } := J.landed nb fl4.1 ((up.trans up3).trans up4) os ag
          obtain ⟨oe4, vs4, he4, hz4, hd4⟩ := fl4.there
          have S4 := J4.suite he4 hd4 na nL nF
          refine wpAny_mono ((hsu a oe4 cls d (X.pn ++ pins) hz4 ⟨_, hd4⟩).run [] _ _ H' _ S4 (hyes rfl a na)) (fun f s6 hsp => ?_) (fun _ _ z => False.elim z)
          cases f with
          | next =>
            obtain ⟨σ6, H6, S6, q6⟩ := hsp
            exact ⟨_, _, S6.unsuite ok, q6⟩
          | brk =>
            obtain ⟨σ6, H6, S6, q6⟩ := hsp
            exact ⟨_, _, S6.unsuite ok, q6⟩
          | cont =>
            obtain ⟨σ6, H6, S6, q6⟩ := hsp
            exact ⟨_, _, S6.unsuite ok, q6⟩
          | ret u =>
            obtain ⟨v6, σ6, H6, S6, r6, q6⟩ := hsp
            exact ⟨_, _, _, S6.unsuite ok, r6, q6⟩
        | false =>
          show wpAny _ X.A (handleBy (.ref a) X.env hds2) _ _ _
          exact ih (hno rfl)
    exact go hh w
  · cases f with
    | next =>
      obtain ⟨σ', H', J', q⟩ := hsp
      exact wpAny_execs_nil ⟨σ', H', J'.ofTry ok, q⟩
    | brk =>
      obtain ⟨σ', H', J', q⟩ := hsp
      exact ⟨σ', H', J'.ofTry ok, q⟩
    | cont =>
      obtain ⟨σ', H', J', q⟩ := hsp
      exact ⟨σ', H', J'.ofTry ok, q⟩
    | ret u =>
      obtain ⟨v, σ', H', J', r, q⟩ := hsp
      exact ⟨v, σ', H', J'.ofTry ok, r, q⟩
end
end EV

end
section
set_option Elab.async false
set_option linter.all false
set_option maxRecDepth 100000
set_option maxHeartbeats 4000000
/-! EV 19: the def that asks and tells how it was met. -/
namespace EV
open PySem PySem.Spec PyProof.Rows L2
open LamX (Tabs TabS CodeO ExtN)
def toldS : List Nat := [116, 111, 108, 100]
/-! ### the text -/
def chkAttrs (n : Str) : List Str → List Expr → Bool
  | [], [] => true
  | f :: fs, .Attribute (.Name x _) f' _ :: es => x == n && f' == f && chkAttrs n fs es
  | _, _ => false
def chkHd (cs : List ErrC) (sc : Scope) (n : Str) : ExceptHandler → Nat × List Nat × List Nat → Bool
  | .ExceptHandler (some (.Name x _)) (some n') [.Return (some (.Tuple (.Constant (.str s) _ _ :: es) _ _)) _] _, (c, tag, is) => match cs[c]? with
    | some ec => x == ec.name && sc.names.lookup x == some .globalImplicit && n' == n && s.cps.toList == tag && !is.isEmpty && match is.mapM fun i => ec.fields[i]? with
      | some l => chkAttrs n l es
      | none => false
    | none => false
  | .ExceptHandler (some (.Name x _)) none [.Return (some (.Tuple [.Constant (.str s) _ _, .Constant .none _ _] _ _)) _] _, (c, tag, is) => match cs[c]? with
    | some ec => x == ec.name && sc.names.lookup x == some .globalImplicit && s.cps.toList == tag && is.isEmpty
    | none => false
  | _, _ => false
def chkHds (cs : List ErrC) (sc : Scope) (n : Str) : List ExceptHandler → List (Nat × List Nat × List Nat) → Bool
  | [], [] => true
  | h :: r, t :: ts => chkHd cs sc n h t && chkHds cs sc n r ts
  | _, _ => false
/-- the body: try: return ('told', a()) except .. -/
def chkMet (cs : List ErrC) (sc : Scope) (a n : Str) (hs : List (Nat × List Nat × List Nat)) : List Stmt → Bool
  | [.Try [.Return (some (.Tuple [.Constant (.str s) _ _, .Call (.Name x _) [] [] _] _ _)) _] (h :: hds) [] [] _] => s.cps.toList == toldS && x == a && chkHds cs sc n (h :: hds) hs
  | _ => false
/-! ### the readings -/
section
variable {X : Cx} {cs : List ErrC} {a C : Addr} {oe : Obj} {cls : Value} {d : Option Addr} {pn : List (Addr × Obj)} {n : Str} {i : Nat}
def tAt (i : Nat) (a C : Addr) (cls : Value) (d : Option Addr) (l : List Str) : TA := fun σ H Q => σ[i]? = some (some (.ref a)) ∧ cls = .ref C ∧ ∃ dd fsV vs, d = some dd ∧ H dd = some (.xd fsV) ∧ l.mapM (fun f => fsV.lookup f) = some vs ∧ Q vs H
theorem pa_attrs (T : XfC X.K C) (hz : Zc cls d oe) (hf : ∃ vs, oe.data = .fields vs) (hi : X.N[i]? = some n) (hv : Vis X.env.scope n) (hd : (n == ("__debug__" : Str)) = false) (hcd : (n == ("__classdict__" : Str)) = false) :
    ∀ {l : List Str} {es : List Expr}, (∀ f ∈ l, PySem.W.findIn X.K (.ref C) f = some none) → chkAttrs n l es = true → PA (X.suite a ((a, oe) :: pn)) es (tAt i a C cls d l)
  | [], [], _, _ => PA.imp pa_nil fun σ H Q ⟨_, _, _, _, vs, _, _, e, q⟩ => by
    cases e; exact q
  | f :: l, [], _, h => by cases h
  | [], _ :: _, _, h => by cases h
  | f :: l, e :: es, hno, h => by
    cases e <;> try (cases h; done)
    rename_i o f' pos
    cases o <;> try (cases h; done)
    rename_i x p
    simp only [chkAttrs, Bool.and_eq_true, beq_iff_eq] at h
    obtain ⟨⟨e1, e2⟩, h⟩ := h
    have ih := pa_attrs T hz hf hi hv hd hcd (l := l) (es := es) (fun f hf => hno f (List.mem_cons_of_mem _ hf)) h
    subst e1 e2
    refine PA.imp (pa_cons (pe_xf T (hno _ List.mem_cons_self) hz hf (pe_var (X := X.suite a ((a, oe) :: pn)) (i := i) hi hv hd hcd) rfl) ih rfl) fun σ H Q ⟨h1, h2, dd, fsV, vs, h3, h4, h5, q⟩ => ?_
    rw [List.mapM_cons] at h5
    obtain ⟨v, e1, h5⟩ := Option.bind_eq_some_iff.mp h5
    obtain ⟨vs', e2, h5⟩ := Option.bind_eq_some_iff.mp h5
    cases h5
    exact ⟨.ref a, h1, rfl, h2, dd, fsV, v, h3, h4, e1, h1, h2, dd, fsV, vs', h3, h4, e2, q⟩
/-- a suite: return (tag, e.f, ..) -/
def tSuite (i : Nat) (C : Addr) (tag : Str) (l : List Str) (a : Addr) (cls : Value) (d : Option Addr) : TS := fun Dn σ H => tAt i a C cls d l σ H fun vs H1 => vs.length + 1 ≤ sizeLine ∧ ∀ p, H1 p = none → Dn.rt (.ref p) (upd H1 p (.tup (.str tag :: vs)))
def tSuite0 (tag : Str) : TS := fun Dn _ H => ∀ p, H p = none → Dn.rt (.ref p) (upd H p (.tup [.str tag, .non]))
theorem suite_ps (T : XfC X.K C) (hz : Zc cls d oe) (hf : ∃ vs, oe.data = .fields vs) (hi : X.N[i]? = some n) (hv : Vis X.env.scope n) (hd : (n == ("__debug__" : Str)) = false) (hcd : (n == ("__classdict__" : Str)) = false)
    {l : List Str} {es : List Expr} (hno : ∀ f ∈ l, PySem.W.findIn X.K (.ref C) f = some none) (h : chkAttrs n l es = true) {s : Str} {j k : Nat} {p0 p1 p2 : Pos} :
    PSs (X.suite a ((a, oe) :: pn)) [.Return (some (.Tuple (.Constant (.str s) j p0 :: es) k p1)) p2] (tSuite i C s l a cls d) :=
  PSs.imp (pss_one (ps_ret (pe_tup (pa_cons pe_str (pa_attrs T hz hf hi hv hd hcd hno h) rfl)))) fun Dn σ H ⟨h1, h2, dd, fsV, vs, h3, h4, h5, q1, q2⟩ =>
    ⟨h1, h2, dd, fsV, vs, h3, h4, h5, q1, q2⟩
theorem suite_ps0 {s : Str} {j j2 k : Nat} {p0 p1 p2 p3 : Pos} :
    PSs (X.suite a ((a, oe) :: pn)) [.Return (some (.Tuple [.Constant (.str s) j p0, .Constant .none j2 p3] k p1)) p2] (tSuite0 s) :=
  PSs.imp (pss_one (ps_ret (pe_tup (pa_cons pe_str (pa_cons pe_non pa_nil rfl) rfl)))) fun Dn σ H q => ⟨by show 2 ≤ sizeLine; decide, q⟩
end
/-! ### what holds of the error classes -/
structure ErrsOk (K : PySem.W.Frag) (mg : Str → Option Value) (cs : List ErrC) : Prop where
  xf : ∀ ec ∈ cs, XfC K ec.at'
  no : ∀ ec ∈ cs, ∀ f ∈ ec.fields, PySem.W.findIn K (.ref ec.at') f = some none
  mg : ∀ ec ∈ cs, mg ec.name = some (.ref ec.at')
  exm : ∀ (i j : Nat) e1 e2, cs[i]? = some e1 → cs[j]? = some e2 → PySem.W.exmOne K (.ref e1.at') (.ref e2.at') = some (decide (i = j))
  nd : ∀ ec ∈ cs, ec.fields.Nodup
  nm : ∀ ec ∈ cs, (ec.name == ("__debug__" : Str)) = false
/-- what the clauses make of an error -/
def wHs (K : PySem.W.Frag) (cs : List ErrC) (Q : VK) : List (Nat × List Nat × List Nat) → XK
  | [] => fun _ _ _ => False
  | (c, tag, is) :: r => fun cls d H => ∃ ec b, cs[c]? = some ec ∧ PySem.W.exmOne K cls (.ref ec.at') = some b ∧
    (b = true → if is.isEmpty then ∀ T, H T = none → Q (.ref T) (upd H T (.tup [.str (sOf tag), .non])) else
      cls = .ref ec.at' ∧ ∃ dd fsV l vs, d = some dd ∧ H dd = some (.xd fsV) ∧ is.mapM (fun i => ec.fields[i]?) = some l ∧ l.mapM (fun f => fsV.lookup f) = some vs ∧ vs.length + 1 ≤ sizeLine ∧ ∀ T, H T = none → Q (.ref T) (upd H T (.tup (.str (sOf tag) :: vs)))) ∧
    (b = false → wHs K cs Q r cls d H)
def TTmet (K : PySem.W.Frag) (cs : List ErrC) (hs : List (Nat × List Nat × List Nat)) : (XK → Hp → VK → Prop) → Hp → VK → Prop := fun tl H Q => tl (wHs K cs Q hs) H fun v H' => [V.str (sOf toldS), v].length ≤ sizeLine ∧ ∀ T, H' T = none → Q (.ref T) (upd H' T (.tup [.str (sOf toldS), v]))
theorem mapM_mem {α : Type} {L : List α} : ∀ {is : List Nat} {fl : List α}, (is.mapM fun i => L[i]?) = some fl → ∀ f ∈ fl, f ∈ L
  | [], fl, h, f, hf => by cases h; cases hf
  | i :: is, fl, h, f, hf => by
    rw [List.mapM_cons] at h
    obtain ⟨f0, e1, h⟩ := Option.bind_eq_some_iff.mp h
    obtain ⟨fl', e2, h⟩ := Option.bind_eq_some_iff.mp h
    cases h
    rcases List.mem_cons.mp hf with e | hf
    · subst e; exact List.mem_of_getElem? e1
    · exact mapM_mem e2 f hf
theorem sOf_of {s : Str} {l : List Nat} (h : s.cps.toList = l) : s = sOf l := by
  subst h; unfold sOf; simp
section
variable {X : Cx} {cs : List ErrC} {n : Str} {i : Nat}
theorem hds_met (E : ErrsOk X.K X.mg cs) (hi : X.N[i]? = some n) (hv : Vis X.env.scope n) (hd : (n == ("__debug__" : Str)) = false) (hcd : (n == ("__classdict__" : Str)) = false) (Dn : Ends) :
    ∀ {hds : List ExceptHandler} {hs : List (Nat × List Nat × List Nat)}, chkHds cs X.env.scope n hds hs = true → ∃ l, HdsA X n hds l ∧ ∀ cls d σ H Q, (∀ v H, Q v H → Dn.rt v H) → i < σ.length → wHs X.K cs Q hs cls d H → wManyA X.K (fun _ _ _ _ => False) i Dn l cls d σ H
  | [], [], _ => ⟨[], .nil, fun _ _ _ _ _ _ _ w => w⟩
  | [], _ :: _, h => by cases h
  | _ :: _, [], h => by cases h
  | h :: hds, (c, tag, is) :: hs, hc => by
    simp only [chkHds, Bool.and_eq_true] at hc
    obtain ⟨l, hl, ih⟩ := hds_met E hi hv hd hcd Dn hc.2
    have hc1 := hc.1
    unfold chkHd at hc1
    split at hc1
    · rename_i x np n' s j p0 es k p1 p2 pos' c' tag' is' he
      cases he
      cases ec : cs[c]? with
      | none => rw [ec] at hc1; cases hc1
      | some e =>
        rw [ec] at hc1
        have hm := List.mem_of_getElem? ec
        simp only [Bool.and_eq_true, beq_iff_eq, Bool.not_eq_true'] at hc1
        obtain ⟨⟨⟨⟨⟨rfl, hg⟩, rfl⟩, hs'⟩, hne⟩, hc1⟩ := hc1
        cases em : is.mapM (fun i => e.fields[i]?) with
        | none => rw [em] at hc1; cases hc1
        | some fl =>
          rw [em] at hc1
          have hno : ∀ f ∈ fl, PySem.W.findIn X.K (.ref e.at') f = some none := fun f hf => by
            exact E.no e hm f (mapM_mem em f hf)
          refine ⟨(.ref e.at', true, fun a cls d => tSuite i e.at' s fl a cls d) :: l, .as ⟨hg, E.nm e hm, .inl (E.mg e hm)⟩ (fun a oe cls d pn hz hf => suite_ps (E.xf e hm) hz hf hi hv hd hcd hno hc1) hl, fun cls d σ H Q hQ hil w => ?_⟩
          obtain ⟨ec', b, e1, e2, e3, e4⟩ := w
          rw [ec] at e1
          cases e1
          refine ⟨b, e2, fun hb a ha => ?_, fun hb => ih cls d σ H Q hQ hil (e4 hb)⟩
          have e3 := e3 hb
          rw [hne] at e3
          simp only [Bool.false_eq_true, if_false] at e3
          obtain ⟨k1, dd, fsV, l', vs, k2, k3, k4, k5, k6, k7⟩ := e3
          rw [em] at k4
          cases k4
          rw [← sOf_of hs'] at k7
          exact ⟨List.getElem?_set_self hil, k1, dd, fsV, vs, k2, k3, k5, k6, fun T hT => hQ _ _ (k7 T hT)⟩
    · rename_i x np s j p0 j2 p3 k p1 p2 pos' c' tag' is' he
      cases he
      cases ec : cs[c]? with
      | none => rw [ec] at hc1; cases hc1
      | some e =>
        rw [ec] at hc1
        have hm := List.mem_of_getElem? ec
        simp only [Bool.and_eq_true, beq_iff_eq] at hc1
        obtain ⟨⟨⟨rfl, hg⟩, hs'⟩, hne⟩ := hc1
        refine ⟨(.ref e.at', false, fun a cls d => tSuite0 s) :: l, .un ⟨hg, E.nm e hm, .inl (E.mg e hm)⟩ (fun a oe cls d pn hz hf => suite_ps0) hl, fun cls d σ H Q hQ hil w => ?_⟩
        obtain ⟨ec', b, e1, e2, e3, e4⟩ := w
        rw [ec] at e1
        cases e1
        refine ⟨b, e2, fun hb a ha => ?_, fun hb => ih cls d σ H Q hQ hil (e4 hb)⟩
        have e3 := e3 hb
        rw [hne] at e3
        simp only [if_true] at e3
        rw [← sOf_of hs'] at e3
        exact fun T hT => hQ _ _ (e3 T hT)
    · cases hc1

theorem met_gives {Ng : List Str} {x a q : Str} {sg : Scope} {g : Addr} {cdg : Value} {body : List Stmt} {hs : List (Nat × List Nat × List Nat)} (E : ErrsOk X.K X.mg cs) (hN : Ng.Nodup) (h0 : Ng[0]? = some a) (h1 : Ng[1]? = some n) (hl : Ng.length = 2) (hv : sg.names.lookup n = some .local)
    (hd : (n == ("__debug__" : Str)) = false) (hcd : (n == ("__classdict__" : Str)) = false) (hb : chkMet cs sg a n hs body = true) : LamX.GivesTo X Ng x sg g cdg body a q (TTmet X.K cs hs) := by
  unfold chkMet at hb
  split at hb
  · rename_i s j p0 x' p1 p2 k p3 p4 h hds p5
    simp only [Bool.and_eq_true, beq_iff_eq] at hb
    obtain ⟨⟨hs', rfl⟩, hb⟩ := hb
    intro f c' s0 H0 Q tl act hc hq
    have E' : ErrsOk (cxOf C8.CX0 X.prog X.w X.K X.mg X.base Ng x sg g cdg X.A X.stack s0 H0 C8.E0).nox.K (cxOf C8.CX0 X.prog X.w X.K X.mg X.base Ng x sg g cdg X.A X.stack s0 H0 C8.E0).nox.mg cs := E
    obtain ⟨l, hl', hw⟩ := hds_met (X := (cxOf C8.CX0 X.prog X.w X.K X.mg X.base Ng x sg g cdg X.A X.stack s0 H0 C8.E0).nox) (i := 1) E' h1 (.inl hv) hd hcd { nx := fun _ H' => Q .non H', rt := Q } hb
    refine ⟨_, pss_one (ps_try_manyA (X := (cxOf C8.CX0 X.prog X.w X.K X.mg X.base Ng x sg g cdg X.A X.stack s0 H0 C8.E0).nox) (i := 1) (n := n)
      (tb := fun W D σ H => ∃ Ech : XK, (∀ cls d σ' H', Ech cls d H' → σ'.length = Ng.length → W cls d σ' H') ∧ σ = L2.start Ng [.ref f] ∧ H c' = some (CodeO c' q) ∧ tl Ech H (fun v H' => [V.str (sOf toldS), v].length ≤ sizeLine ∧ ∀ T, H' T = none → D.rt (.ref T) (upd H' T (.tup [.str (sOf toldS), v]))))
      rfl rfl hN h1 hv LamX.takes0 (fun W pn xe tk _ => ?_) hl'), ?_⟩
    · refine ⟨fun pins s' σ H D I h' => ?_⟩
      obtain ⟨Ech, hW, e0, h2, h3⟩ := h'
      have tk' : Takes ((cxOf C8.CX0 X.prog X.w X.K X.mg X.base Ng x sg g cdg X.A X.stack s0 H0 C8.E0).tr pn xe) (fun cls d σ' H' => σ'.length = Ng.length → W cls d σ' H') := fun u s2 ⟨a, B, sI, pins, σ, H, cls, d, e, I, nb, up, sky, na, os, ag, w⟩ =>
        tk u s2 ⟨a, B, sI, pins, σ, H, cls, d, e, I, nb, up, sky, na, os, ag, w I.len⟩
      have hp := act (fun cls d σ' H' => σ'.length = Ng.length → W cls d σ' H') pn xe Ech p1 p2 tk' hW
      have hr := pss_one (ps_ret (pos := p4) (pe_tup (x1 := k) (pos := p3) (pa_cons (pe_str (x := s) (j := j) (pos := p0)) (pa_cons hp pa_nil rfl) rfl)))
      refine hr.run pins s' σ H D I ?_
      refine ⟨by rw [e0]; simp [L2.start, List.getElem?_append], h2, ?_⟩
      rw [sOf_of hs']
      exact h3
    · refine ⟨wHs X.K cs Q hs, fun cls d σ' H' w hl2 => ?_, rfl, hc, hq⟩
      refine hw cls d _ H' Q (fun _ _ z => z) ?_ w
      rw [hl2, hl]; decide
  · cases hb

/-! ### x(lambda: body) -/
theorem zip_look {fields : List Str} : ∀ {vs : List V} {i : Nat} {f : Str} {v : V}, fields.Nodup → fields[i]? = some f → vs[i]? = some v → (fields.zip vs).lookup f = some v := by
  induction fields with
  | nil => intro vs i f v _ h; simp at h
  | cons g gs ih =>
    intro vs i f v nd h1 h2
    cases vs with
    | nil => simp at h2
    | cons u us =>
      cases i with
      | zero =>
        simp at h1 h2
        subst h1 h2
        simp [List.zip_cons_cons, List.lookup]
      | succ i =>
        rw [List.getElem?_cons_succ] at h1 h2
        have hne : (f == g) = false := beq_eq_false_iff_ne.mpr fun e => by
          subst e
          exact (List.nodup_cons.mp nd).1 (List.mem_of_getElem? h1)
        rw [List.zip_cons_cons, List.lookup_cons, hne]
        exact ih (List.nodup_cons.mp nd).2 h1 h2
theorem fields_at {G : Gd} {A : Addr → Prop} {H : Hp} {fields : List Str} {fs : List D} {vs : List V} (nd : fields.Nodup) (hl : vs.length = fields.length) (r : VRs G A H fs vs) :
    ∀ {is : List Nat} {us : List D}, (is.mapM fun i => fs[i]?) = some us → ∃ l ws, (is.mapM fun i => fields[i]?) = some l ∧ (l.mapM fun f => (fields.zip vs).lookup f) = some ws ∧ VRs G A H us ws ∧ ws.length = is.length
  | [], us, h => by cases h; exact ⟨[], [], rfl, rfl, VRs.nil, rfl⟩
  | i :: is, us, h => by
    rw [List.mapM_cons] at h
    obtain ⟨u, e1, h⟩ := Option.bind_eq_some_iff.mp h
    obtain ⟨us', e2, h⟩ := Option.bind_eq_some_iff.mp h
    cases h
    obtain ⟨l, ws, k1, k2, k3, k4⟩ := fields_at nd hl r e2
    obtain ⟨w, ew, rw'⟩ := r.get e1
    have hi : i < fields.length := by rw [← hl]; exact (List.getElem?_eq_some_iff.mp ew).1
    have ef : fields[i]? = some fields[i] := List.getElem?_eq_getElem hi
    refine ⟨fields[i] :: l, w :: ws, ?_, ?_, VRs.cons rw' k3, by simp [k4]⟩
    · rw [List.mapM_cons, ef, k1]; rfl
    · rw [List.mapM_cons, zip_look nd ef ew, k2]; rfl
theorem lam_ext {G : Gd} {W : Wd} {H H1 : Hp} (e : ExtN H H1) : Ext G W H W H1 := ⟨fun q o h nt _ => e q o h nt, fun q n o h => by
    by_cases c : ∃ ps, o = .tbl ps
    · exact c
    · exact n o (e q o h fun ps z => c ⟨ps, z⟩), Nat.le_refl _, fun _ _ _ h => h, fun _ h => .inl h, fun _ h => .inl h, fun _ h => h, rfl⟩
theorem lam_rel {G : Gd} {W : Wd} {st : Store} {b : Nat} {H H1 : Hp} (R : Rel G W st b H) (e : ExtN H H1) (t : Tabs G.T H1) : Rel G W st b H1 := by
  have x := lam_ext (G := G) (W := W) e
  obtain ⟨ns, g, m, c, h1, h2, h3⟩ := R.spr
  refine ⟨R.len, R.inj, fun i c h => ?_, R.dead, ⟨ns, g, m, c, e _ _ h1 nofun, e _ _ h2 nofun, h3⟩, R.nosp, fun a h n => R.avt a h (x.there a n), R.avl, t⟩
  obtain ⟨a, k1, k2⟩ := R.cell i c h
  refine ⟨a, k1, ?_⟩
  cases c with
  | lst xs => obtain ⟨vs, q, r⟩ := k2; exact ⟨vs, e _ _ q nofun, r.ext x⟩
  | dct ks us => obtain ⟨vs, q, r1, r2⟩ := k2; exact ⟨vs, e _ _ q nofun, r1, r2.ext x⟩
  | ins c vs => exact k2
theorem wHs_of {G : Gd} {W : Wd} {H : Hp} {s : Store} {b : Nat} {Q : VK} {K0 : Vl → Store → Nat → Prop} {mg : Str → Option Value} {K : PySem.W.Frag} (E : ErrsOk K mg cs) {c : Nat} {fs : List D} {cls : Value} {d : Option Addr} (R : Rel G W s b H) (k : ErrR cs G W H c fs cls d)
    (hQ : ∀ a, K0 a s b → ∀ W' H' v, Ext G W H W' H' → Rel G W' s b H' → VlR G W' H' a v → Q v H') :
    ∀ {hs : List (Nat × List Nat × List Nat)}, (hs.all fun h => decide (h.1 < cs.length) && decide (h.2.2.length ≤ 100)) = true → EG K0 (fun _ _ _ _ => True) (metE hs (.x c fs s)) b → wHs K cs Q hs cls d H
  | [], _, g => g.elim
  | (c', tag, is) :: hs, hk, g => by
    obtain ⟨ec, vs, dd, h1, rfl, rfl, h4, h5, h6, h7⟩ := id k
    rw [List.all_cons, Bool.and_eq_true, Bool.and_eq_true, decide_eq_true_eq, decide_eq_true_eq] at hk
    obtain ⟨⟨hlt, h100⟩, hk⟩ := hk
    have h100' : is.length ≤ 100 := h100
    have e' : cs[c']? = some cs[c'] := List.getElem?_eq_getElem hlt
    refine ⟨cs[c'], decide (c = c'), e', E.exm c c' _ _ h1 e', fun hb => ?_, fun hb => ?_⟩
    · have ecc : c = c' := of_decide_eq_true hb
      subst ecc
      rw [h1] at e'
      have e2 : ec = cs[c] := Option.some.inj e'
      rw [← e2]
      unfold metE at g
      simp only [List.lookup_cons, beq_self_eq_true] at g
      cases em : is.mapM (fun i => fs[i]?) with
      | none => rw [em] at g; exact g.elim
      | some us =>
        rw [em] at g
        dsimp only at g
        have hm := List.mem_of_getElem? h1
        obtain ⟨l, ws, k1, k2, k3, k4⟩ := fields_at (E.nd ec hm) h5 h6 em
        cases hi : is.isEmpty with
        | true =>
          rw [hi] at g
          simp only [if_true] at g ⊢
          intro T hT
          refine hQ _ g W _ _ (ext_new hT) (R.new hT) (VR.newT R hT (VRs.cons VR.str (VRs.cons VR.non VRs.nil)))
        | false =>
          rw [hi] at g
          simp only [Bool.false_eq_true, if_false] at g ⊢
          have h63 : (101 : Nat) ≤ sizeLine := by rw [sizeLine_eq]; decide
          refine ⟨trivial, dd, _, l, ws, rfl, h4, k1, k2, by omega, fun T hT => ?_⟩
          exact hQ _ g W _ _ (ext_new hT) (R.new hT) (VR.newT R hT (VRs.cons VR.str k3))
    · have ecc : c ≠ c' := of_decide_eq_false hb
      refine wHs_of E R k hQ hk ?_
      unfold metE at g ⊢
      have : (c == c') = false := beq_eq_false_iff_ne.mpr ecc
      simp only [List.lookup_cons, this] at g
      exact g

theorem pe_metE {G : Gd} {Wx : WX} {x a : Str} {g c P : Addr} {k : Nat} {pg : Arguments} {bg : List Stmt} {sg : Scope} {dV kV doc pm cdv ct oc : Value} {an od : Option Addr} {osl : Array (Option Value)} {Ng : List Str}
    {params : Arguments} {body : Expr} {scope : Scope} {hs : List (Nat × List Nat × List Nat)} {rb run : Env → Store → E Vl} {p lpos pos : Pos} (hg : Gl X x) (hm : X.mg x = some (.ref g)) (hk : PySem.W.keepIn X.K (.ref g) = true)
    (lk : X.K.lookup g = some ⟨oc, od, .func (PySem.W.fnOf x x pg bg sg dV kV doc pm an cdv ct), osl⟩) (hcg : PySem.W.codeIn X.K cdv x = true) (hb : L2.Binds X.K (PySem.W.fnOf x x pg bg sg dV kV doc pm an cdv ct) [a] []) (Sg : FnScope Ng [a] sg) (h0 : Ng[0]? = some a) (h1 : Ng[1]? = some n) (hl : Ng.length = 2) (hva : Vis sg a) (hv : sg.names.lookup n = some .local)
    (E : ErrsOk X.K X.mg cs) (hbg : chkMet cs sg a n hs bg = true) (hhs : (hs.all fun h => decide (h.1 < cs.length) && decide (h.2.2.length ≤ 100)) = true)
    (TB : LamX.TabB X.base X.mg c P) (hcode : X.env.code = .ref c) (hmT : (P, X.env.qual ++ "<lambda>") ∈ G.T) (hu : ∀ p ∈ G.T, p.1 = P → p.2 = X.env.qual ++ "<lambda>") (hr : Room (k + 2) X.A) (L : LamX.LamS X.env.scope scope) (hdef : defaultsOf params X.env = ([], []))
    (hbind : ∀ (q : Str) (cl : List (Str × Addr)) (pm cv ctv : Value), bindArgs (PySem.W.kla_fn "<lambda>" q params body scope cl pm cv ctv) ⟨[], []⟩ = pure [])
    (hbody : ∀ (A : Around) (outer : List PySem.Env) (s : Shared) (H : Hp) (E : XK) (f c' : Addr), Room k (A.deeper (LamX.lamEnv X scope s.heap.objs.size f c')) → PE (LamX.lamCx X A outer s H E scope f c') body (tE cs G (fun cls d _ H => E cls d H) rb))
    (hdb : (x == ("__debug__" : Str)) = false) (hda : (a == ("__debug__" : Str)) = false) (hca : (a == ("__classdict__" : Str)) = false) (hdn : (n == ("__debug__" : Str)) = false) (hcn : (n == ("__classdict__" : Str)) = false)
    (hrun : ∀ e st, run e st = R.bind (rb e st) (metE hs)) :
    PE X (.Call (.Name x p) [.Lambda params body scope lpos] [] pos) (tE cs G Wx run) := by
  refine PE.imp (LamX.pe_lamcall (TT := TTmet X.K cs hs) (t := fun E => tE cs G (fun cls d _ H => E cls d H) rb) hg hm hk lk hcg hb Sg h0 hva (met_gives E Sg.nd h0 h1 hl hv hdn hcn hbg) TB hcode hmT hu hr L hdef hbind hbody hdb hda hca) fun σ H Q ⟨W, e, st, b, R, V, g⟩ => ?_
  rw [hrun] at g
  refine ⟨R.tabs, fun H1 eN T1 => ?_⟩
  have x1 := lam_ext (G := G) (W := W) eN
  have R1 := lam_rel R eN T1
  unfold EG at g
  rw [good_bind] at g
  refine ⟨W, e, st, b, R1, V.ext x1, good_mono (fun o b2 q => ?_) g⟩
  cases o with
  | v av s2 =>
    cases av <;> (try (exact False.elim q))
    rename_i dx
    intro W' H' v x' R' r
    refine ⟨by show 2 ≤ sizeLine; decide, fun T hT => ?_⟩
    exact q W' _ _ ((x1.trans x').trans (ext_new hT)) (R'.new hT) (VR.newT R' hT (VRs.cons VR.str (VRs.cons r VRs.nil)))
  | x c0 fs s2 =>
    intro W' H' cls d x' R' k
    refine wHs_of (K0 := KV' G W H Q) E R' k (fun a q W2 H2 v x2 R2 r2 => q W2 H2 v ((x1.trans x').trans x2) R2 r2) hhs ?_
    exact good_mono (fun o b q => by
      cases o with
      | v a s => exact q
      | x _ _ _ => trivial) q
end
end EV

end
section
set_option Elab.async false
set_option linter.all false
set_option maxRecDepth 100000
set_option maxHeartbeats 4000000
/-! EV 20: raise; name += e. -/
namespace EV
open PySem PySem.Spec PyProof.Rows L2
open LamX (Tabs TabS CodeO ExtN)
/-- what __init__(self, f): self.f = f makes -/
def sp1 (C : Addr) (f : Str) : Sp := fun vs H Q _ => ∃ a v, vs = [.ref a, v] ∧ H a = some (exo a C none) ∧ ∀ dx, H dx = none → dx ≠ a → Q .non (upd (upd H dx (exd dx [(f, v)])) a (exo a C (some dx)))
def chkInit (f : Str) : List Stmt → Bool
  | [.Assign [.Attribute (.Name s _) f' _] (.Name g _) _] => s == ("self" : Str) && f' == f && g == f
  | _ => false
theorem init1 {CX : CXT} {P : Program} {w : World} {K : PySem.W.Frag} {mg : Str → Option Value} {base : Heap} {k : Nat} {fI C : Addr} {name qual f : Str} {params : Arguments} {body : List Stmt} {scope : Scope} {dV kV doc pm cdv ct oc : Value} {an od : Option Addr}
    {osl : Array (Option Value)} (T : OexC K C) (hno : PySem.W.findIn K (.ref C) f = some none) (lk : K.lookup fI = some ⟨oc, od, .func (PySem.W.fnOf name qual params body scope dV kV doc pm an cdv ct), osl⟩) (hcd : PySem.W.codeIn K cdv qual = true) (S : FnScope ["self", f] ["self", f] scope)
    (hb : chkInit f body = true) (h1 : scope.names.lookup ("self" : Str) = some .local) (h2 : scope.names.lookup f = some .local) (hd : (f == ("__debug__" : Str)) = false) (hcl : (f == ("__classdict__" : Str)) = false) :
    FnOk P w K mg base CX (k + 1) fI (PySem.W.fnOf name qual params body scope dV kV doc pm an cdv ct) ["self", f] (sp1 C f) := by
  refine fn_of lk hcd S (fun vs H Q E ⟨a, v, e, _⟩ => by rw [e]; rfl) fun A outer s H vs Q E hr ⟨a, v, e, h3, h4⟩ => ?_
  unfold chkInit at hb
  split at hb
  · rename_i s' p1 f' p2 g p3 p4
    simp only [Bool.and_eq_true, beq_iff_eq] at hb
    obtain ⟨⟨rfl, rfl⟩, rfl⟩ := hb
    refine ⟨_, pss_one (ps_ost (pe_var (i := 0) rfl (.inl h1) (by decide) (by decide)) (pe_var (i := 1) rfl (.inl h2) hd hcl) (by rfl)), ?_⟩
    subst e
    exact ⟨v, rfl, .ref a, rfl, a, C, rfl, T, hno, .inl ⟨h3, h4⟩⟩
  · cases hb
/-- what is known of a class whose __init__ keeps one thing -/
def ErrMk (X : Cx) (k : Nat) (ec : ErrC) : Prop := ∃ fI fd ps f, OexC X.K ec.at' ∧ PySem.W.findIn X.K (.ref ec.at') "__init__" = some (some (.ref fI)) ∧ PySem.W.typeIn X.K (.ref fI) = some (.type "function") ∧
  FnOk X.prog X.w X.K X.mg X.base (L2.CX X.prog X.w) k fI fd ps (sp1 ec.at' f) ∧ L2.Binds X.K fd ps [] ∧ ec.fields = [f]
theorem PMk.imp {X : Cx} {e : Expr} {t t' : L2.St → Hp → XK → Prop} (h : PMk X e t) (i : ∀ σ H Q, t' σ H Q → t σ H Q) : PMk X e t' := fun pins s σ H Q I q => h pins s σ H Q I (i σ H Q q)
section
variable {X : Cx} {cs : List ErrC} {G : Gd} {Wx : WX}
theorem made_eq {H1 : Hp} {a d : Addr} {u1 u2 u3 u4 : HO} (ha : H1 a = none) (hda : d ≠ a) : upd (del (upd (upd (upd H1 a u1) d u2) a u3) a) d u4 = upd H1 d u4 := by
  funext q
  by_cases h1 : q = d
  · subst h1; rw [upd_same, upd_same]
  · rw [upd_ne h1, upd_ne h1]
    by_cases h2 : q = a
    · subst h2; rw [del_same, ha]
    · rw [del_ne h2, upd_ne h2, upd_ne h1, upd_ne h2]
theorem ps_raiseE {k c : Nat} {ec : ErrC} {x : Str} {e : Expr} {p cpos pos : Pos} {rs : Env → Store → E Vl} {run : Env → Store → R Out} (hc : X.calm = true) (tk : Takes X Wx) (hec : cs[c]? = some ec) (M : ErrMk X k ec) (hr : Room (k + 1) X.A) (hg : Gl X x) (hm : X.mg x = some (.ref ec.at'))
    (hs : PA X [e] (tA cs G Wx rs)) (hst : notStar e = true) (hdb : (x == ("__debug__" : Str)) = false)
    (hrun : ∀ e st, run e st = sBnd (rs e st) e fun v st => match v with
      | .its vs => match dats vs with
        | some fs => if fs.length = 1 then .ok (.x c fs e st) else .err
        | none => .err
      | _ => .err) : PS X (.Raise (some (.Call (.Name x p) [e] [] cpos)) none pos) (tS cs G Wx run) := by
  obtain ⟨fI, fd, ps, f, T, iC, tI, F1, hb, hf⟩ := M
  refine PS.imp (ps_raise hc tk (pmk_oex (ds := []) (dvs := []) T iC tI F1 hr hb .nil (passes_call LamX.takes0 fun _ _ _ _ h => h) hg hm hs hdb (star_cons hst) rfl)) fun Dn σ H h => ?_
  refine tS_E (K := fun W H => KA G W H _) (f := fun e v st => match v with
      | .its vs => match dats vs with
        | some fs => if fs.length = 1 then .ok (.x c fs e st) else .err
        | none => .err
      | _ => .err) hrun h fun W en a s b V g => ?_
  cases a <;> first
    | exact g.elim
    | skip
  rename_i vs
  dsimp only at g
  cases ed : dats vs with
  | none => rw [ed] at g; exact g.elim
  | some fs =>
    rw [ed] at g
    have ev := dats_mem ed
    subst ev
    refine ⟨_, rfl, fun W1 H1 us x1 R1 r1 => ?_⟩
    have hfs := VlRs_d r1
    dsimp only at g
    split at g
    · rename_i hl
      have hul : us.length = 1 := by rw [← hfs.length]; exact hl
      match us, hul with
      | [u], _ =>
        refine ⟨by simp, fun a ha => ⟨a, u, rfl, upd_same, fun dx hdx hne => ?_⟩⟩
        have hdx1 : H1 dx = none := by rw [upd_ne hne] at hdx; exact hdx
        refine ⟨rfl, dx, [(f, u)], upd_same, ?_, hdx1, ?_⟩
        · rw [upd_ne hne, upd_same]
        · rw [made_eq ha hne]
          refine g W1 _ σ _ _ (x1.trans (ext_new hdx1)) (R1.new hdx1) (V.ext (x1.trans (ext_new hdx1))) ⟨ec, [u], dx, hec, rfl, rfl, ?_, by rw [hf]; rfl, VRs.ext0 (ext_new hdx1).ext0 hfs, R1.new_av hdx1⟩
          rw [upd_same, hf]; rfl
    · exact g.elim
/-- name += e, name -= e -/
theorem ps_augE {i : Nat} {x : Str} {e : Expr} {o : BOp} {p pos : Pos} {re : Env → Store → E Vl} {run : Env → Store → R Out} (ho : o = .add ∨ o = .sub) (hN : X.N.Nodup) (hi : X.N[i]? = some x) (hx : Loc X.env.scope x) (hf : X.fn x = true ∨ X.env.scope.names.lookup x = some .local) (he : PE X e (tE cs G Wx re))
    (hrun : ∀ e st, run e st = match envGet e i with
      | some (.d (.int a)) => sBnd (re e st) e fun v st => match v with
        | .d (.int b) => match augI o a b with
          | some c => .ok (.nx (e.set i (some (.d (.int c)))) st)
          | none => .err
        | _ => .err
      | _ => .err) : PS X (.AugAssign (.Name x p) (bopOf o) e pos) (tS cs G Wx run) := by
  have key : ∀ (f : Int → Int → Int), (∀ a b : Int, augI o a b = some (f a b)) → ∀ Dn σ H, tS cs G Wx run Dn σ H → tAug i (tE cs G Wx re) (ipI f) Dn σ H := fun f hfo Dn σ H ⟨W, en, st, b, R, V, g⟩ => by
    rw [hrun] at g
    cases ee : envGet en i with
    | none => rw [ee] at g; exact g.elim
    | some a =>
      rw [ee] at g
      cases a <;> (try (exact False.elim g))
      rename_i da
      cases da <;> (try (exact False.elim g))
      rename_i ia
      obtain ⟨v, hv, rv⟩ := V.get ee
      have g1 := good_sB g
      refine ⟨v, hv, W, en, st, b, R, V, g1.mono (fun ov s2 b2 g2 W2 H2 u x2 R2 r2 => ?_) fun c fs s b q W2 H2 cls d x2 r2 k => q W2 H2 σ cls d x2 r2 (V.ext x2) k⟩
      cases ov <;> (try (exact False.elim g2))
      rename_i db
      cases db <;> (try (exact False.elim g2))
      rename_i ib
      dsimp only at g2
      rw [hfo ia ib] at g2
      exact ⟨ia, ib, VlR_int_eq rv, VlR_int_eq r2, g2 W2 H2 _ x2 R2 ((V.ext x2).set i VlR_int)⟩
  rcases ho with rfl | rfl
  · exact PS.imp (ps_aug hN hi hx he ip_add hf) (key _ fun a b => rfl)
  · exact PS.imp (ps_aug hN hi hx he ip_sub hf) (key _ fun a b => rfl)
theorem VRs_rg {A : Addr → Prop} {H : Hp} (n : Nat) : VRs G A H ((List.range n).map fun k => D.int (k : Nat)) (rgV 0 n) := by
  unfold rgV
  rw [Int.sub_zero, Int.toNat_natCast]
  generalize List.range n = l
  induction l with
  | nil => exact VRs.nil
  | cons a l ih => exact VRs.cons (by show VR G A H (.int (a : Nat)) (.int (0 + (a : Nat))); rw [Int.zero_add]; exact VR.int) ih
theorem rg_neg {i : Int} (h : ¬ 0 ≤ i) : rgV 0 i = [] := by
  unfold rgV
  have : (i - 0).toNat = 0 := by omega
  rw [this]; rfl
theorem VRs_rgI {A : Addr → Prop} {H : Hp} (i : Int) : VRs G A H ((List.range i.toNat).map fun k => D.int (k : Nat)) (rgV 0 i) := by
  by_cases h : 0 ≤ i
  · have e : i = ((i.toNat : Nat) : Int) := by omega
    rw [e, Int.toNat_natCast]
    exact VRs_rg _
  · rw [rg_neg h]
    have : i.toNat = 0 := by omega
    rw [this]; exact VRs.nil
theorem pe_lrgE {m : Bool} {a : Expr} {p p1 pos pos1 : Pos} {ra run : Env → Store → E Vl} (hc : X.calm = true) (hl : Gl X "list") (hml : X.mg "list" = none) (hg : Gl X "range") (hm : X.mg "range" = none) (ha : PE X a (tE cs G Wx ra)) (hst : notStar a = true)
    (hr : ∀ e st, run e st = bnd (ra e st) fun x st => match x with
      | .d (.int i) => if -1000000 < i ∧ i < 1000000 then (if m then ret (.ref st.length) (st ++ [some (.lst (((List.range i.toNat).map fun k => D.int (k : Nat)).map .d))]) else ret (.d (.lst ((List.range i.toNat).map fun k => D.int (k : Nat)))) st) else .err
      | _ => .err) : PE X (.Call (.Name "list" p) [.Call (.Name "range" p1) [a] [] pos1] [] pos) (tE cs G Wx run) := by
  refine PE.imp (pe_listRg hc hl hml (prg_1 hg hm ha (star_cons hst)) rfl) fun σ H Q ⟨W, en, st, b, R, V, g⟩ => ?_
  rw [hr, EG_bnd] at g
  refine ⟨W, en, st, b, R, V, g.mono (fun x s b g W1 H1 v x1 R1 r1 => ?_) fun _ _ _ _ q => q⟩
  cases x <;> (try (exact False.elim g))
  rename_i d
  cases d <;> (try (exact False.elim g))
  rename_i i
  dsimp only at g
  split at g
  · rename_i hi
    refine ⟨i, VlR_int_eq r1, ⟨by omega, by omega, by omega, by omega, by omega⟩, fun q hq => ?_⟩
    cases m with
    | true =>
      obtain ⟨y1, y2, y3⟩ := new_cell (u := .lst (rgV 0 i)) (c := .lst (((List.range i.toNat).map fun k => D.int (k : Nat)).map .d)) R1 hq fun W' x' => ⟨_, upd_same, VlRs_of (VRs_rgI i)⟩
      exact g _ _ _ (x1.trans y1) y2 y3
    | false => exact g W1 _ _ (x1.trans (ext_new hq)) (R1.new hq) (VR.newL R1 hq (VRs_rgI i))
  · exact g.elim
end
end EV

end
section
set_option Elab.async false
set_option linter.all false
set_option maxRecDepth 100000
set_option maxHeartbeats 4000000
/-! EV 21: the checker of expressions. -/
namespace EV
open PySem PySem.Spec PyProof.Rows L2
open LamX (Tabs TabS CodeO ExtN)
/-- what a global name stands for -/
inductive Glob where
  | fn (i np : Nat) (dd : List D)
  | err (c : Nat)
  /-- the def of math -/
  | gcd
/-- where a text stands: the slots' names, the scope, the block's own scope, the globals, the built-in names that nothing hides -/
structure CC where
  N : List Str
  sc : Scope
  blk : Option Scope
  gt : List (Str × Glob)
  bs : List Str
  /-- calls by names: def, keywords, which value each parameter takes -/
  kt : List (Str × List Str × List Nat) := []
  /-- repr may be asked -/
  rep : Bool := false
  /-- the asking def: its name, its clauses -/
  mt : Option (Str × List (Nat × List Nat × List Nat)) := none
def kwNames : List Keyword → Option (List Str)
  | [] => some []
  | ⟨some k, _, _⟩ :: r => (kwNames r).map (k :: ·)
  | _ :: _ => none
def kwVals (ks : List Keyword) : List Expr := ks.map (·.value)
def CC.fn (c : CC) (x : Str) : Bool := match c.blk with
  | none => true
  | some b => b.names.lookup x == some .cell
def CC.gl (c : CC) (x : Str) : Bool := c.sc.names.lookup x == some .globalImplicit && !(x == ("__debug__" : Str))
def CC.vis (c : CC) (x : Str) : Bool := (match c.sc.names.lookup x with
  | some .local => true
  | some .cell => true
  | some .free => true
  | _ => false) && !(x == ("__debug__" : Str)) && !(x == ("__classdict__" : Str))
def CC.blt (c : CC) (x : Str) : Bool := c.gl x && c.bs.contains x
/-- what is checked against -/
inductive Tx where | e (e : Expr) | i (tg e : Expr) | a (es : List Expr) | b (k : Bool) (es : List Expr) | k (ks : List Keyword)
def biName : Bi → Str
  | .len => "len" | .range => "range" | .range2 => "range" | .enumr => "enumerate" | .zip => "zip" | .all => "all" | .any => "any" | .sorted => "sorted" | .list => "list" | .tuple => "tuple" | .int => "int" | .repr => "repr" | .listm => "list" | .abs => "abs" | .max => "max" | .min => "min" | .gcd => "gcd"
  | _ => ""
def biIs : Bi → Bool
  | .len => true | .all => true | .any => true | .sorted => true | .list => true | .tuple => true | .int => true | .listm => true | .abs => true | .max => true | .min => true | .gcd => true
  | _ => false
def isRepr : Bi → Bool
  | .repr => true
  | _ => false
def biOk (c : CC) (b : Bi) : Bool := biIs b || (isRepr b && c.rep)
/-- the built-in's name stands for it -/
def CC.bio (c : CC) (b : Bi) (x : Str) : Bool := match b with
  | .gcd => c.gl x && (match c.gt.lookup x with
    | some .gcd => true
    | _ => false)
  | _ => c.blt x
def boolOf (k : Bool) : PySem.BoolOp := if k then .And else .Or
/-- isTrue looks at the value alone -/
def plainT : Expr → Bool
  | .UnaryOp .Not _ _ => false
  | .BoolOp _ _ _ => false
  | .IfExp _ _ _ _ => false
  | .Compare _ _ _ _ => false
  | _ => true
def noSet : Expr → Bool
  | .Set _ _ _ => false
  | _ => true
def noCall : Expr → Bool
  | .Call _ _ _ _ => false
  | _ => true
def notLc : Expr → Bool
  | .ListComp _ _ _ _ => false
  | .SetComp _ _ _ _ => false
  | .DictComp _ _ _ _ _ => false
  | _ => true
/-- a block's names -/
def blkB (N : List Str) (sc scope : Scope) (own : List Nat) : Bool :=
  decide (scope.kind = .function) && scope.names.all (fun y => scope.names.lookup y.1 == some y.2) && own.all (fun i => decide (i < N.length)) &&
  scope.names.all (fun y => !(y.2 == .free) || sc.names.lookup y.1 == some .cell || sc.names.lookup y.1 == some .free) &&
  scope.names.all (fun y => !(y.2 == .local || y.2 == .cell) || own.any (fun i => N[i]? == some y.1) || !N.contains y.1)
def ownN (N : List Str) (own : List Nat) : List (Str × Nat) := own.map fun i => ((N[i]?).getD Str.empty, i)
def inBlk (c : CC) (scope : Scope) : CC := { c with sc := relS scope c.sc, blk := some scope, rep := false, mt := none }
/-- in a lambda's body -/
def inLam (c : CC) (scope : Scope) : CC := { c with sc := scope, blk := some { scope with names := [] }, rep := false, mt := none }
def isYes : Ex → Bool
  | .c (.bl true) => true
  | _ => false
def one? : List Expr → Option (Option Expr)
  | [] => some none
  | [s] => some (some s)
  | _ => none
/-- no parameters -/
def noPar : Arguments → Bool
  | ⟨[], [], none, [], [], none, []⟩ => true
  | _ => false
structure Lc2 where
  elt : Expr
  l : Expr
  iter : Expr
  ifs : List Expr
  l1 : Expr
  iter1 : Expr
  ifs1 : List Expr
  scope : Scope
def lc2Of : Tx → Option Lc2
  | .e (.ListComp elt [⟨l, iter, ifs, 0⟩, ⟨l1, iter1, ifs1, 0⟩] scope _) => some ⟨elt, l, iter, ifs, l1, iter1, ifs1, scope⟩
  | _ => none
def lc2B (c : CC) (q : Lc2) (own own1 : List Nat) (tg tg1 : Tg) : Bool := blkB c.N c.sc q.scope own && own1.all (fun i => own.contains i) && tgIn tg own && tgIn tg1 own1 && noSet q.iter && noSet q.iter1 && chkTg c.N (relS q.scope c.sc) (fun y => q.scope.names.lookup y == some .cell) tg q.l && chkTg c.N (relS q.scope c.sc) (fun y => q.scope.names.lookup y == some .cell) tg1 q.l1
def chk : Ex → CC → Tx → Bool
  | .nope, _, _ => true
  | .c d, _, t => match t with
    | .e (.Constant k _ _) => (match litOf k with
      | some d' => sameD d' d
      | none => false)
    | _ => false
  | .v i, c, t => match t with
    | .e (.Name x _) => c.N[i]? == some x && c.vis x
    | .i _ (.Name x _) => c.N[i]? == some x && c.vis x
    | _ => false
  | .bin o a b, c, t => match t with
    | .e (.BinOp l p r _) => decide (p = bopOf o) && chk a c (.e l) && chk b c (.e r)
    | .i _ (.BinOp l p r _) => decide (p = bopOf o) && chk a c (.e l) && chk b c (.e r)
    | _ => false
  | .neg a, c, t => match t with
    | .e (.UnaryOp .USub l _) => chk a c (.e l)
    | _ => false
  | .not a, c, t => match t with
    | .e (.UnaryOp .Not l _) => chk a c (.e l)
    | _ => false
  | .bo k a b, c, t => match t with
    | .e (.BoolOp p (x :: y :: r) _) => decide (p = boolOf k) && chk a c (.e x) && (if r.isEmpty then chk b c (.e y) else chk b c (.b k (y :: r)))
    | .b k' (x :: y :: r) => k' == k && chk a c (.e x) && (if r.isEmpty then chk b c (.e y) else chk b c (.b k (y :: r)))
    | _ => false
  | .cmp o a b, c, t => match t with
    | .e (.Compare l [p] [r] _) => decide (p = copOf o) && noSet r && chk a c (.e l) && chk b c (.e r)
    | _ => false
  | .cmp2 o p a b d, c, t => match t with
    | .e (.Compare l [p1, p2] [r, s] _) => decide (p1 = copOf o) && decide (p2 = copOf p) && noSet r && noSet s && chk a c (.e l) && chk b c (.e r) && chk d c (.e s)
    | _ => false
  | .ite x a b, c, t => match t with
    | .e (.IfExp s l r _) => chk x c (.e s) && chk a c (.e l) && chk b c (.e r)
    | .i _ (.IfExp s l r _) => chk x c (.e s) && chk a c (.e l) && chk b c (.e r)
    | _ => false
  | .tup es, c, t => match t with
    | .e (.Tuple l _ _) => chk es c (.a l)
    | .i _ (.Tuple l _ _) => chk es c (.a l)
    | _ => false
  | .lst _ es, c, t => match t with
    | .e (.List l _) => chk es c (.a l)
    | .i _ (.List l _) => chk es c (.a l)
    | _ => false
  | .dct _, _, t => match t with
    | .e (.Dict [] [] _) => true
    | _ => false
  | .ix a b, c, t => match t with
    | .e (.Subscript l r _) => plainB r && chk a c (.e l) && chk b c (.e r)
    | .i _ (.Subscript l r _) => plainB r && chk a c (.e l) && chk b c (.e r)
    | _ => false
  | .sl a lo hi, c, t => match t with
    | .e (.Subscript l (.Slice x y none _) _) => chk a c (.e l) && (match x with
        | none => (match lo with
          | .nil => true
          | _ => false)
        | some x => chk lo c (.e x)) && (match y with
        | none => (match hi with
          | .nil => true
          | _ => false)
        | some y => chk hi c (.e y))
    | .i _ (.Subscript l (.Slice x y none _) _) => chk a c (.e l) && (match x with
        | none => (match lo with
          | .nil => true
          | _ => false)
        | some x => chk lo c (.e x)) && (match y with
        | none => (match hi with
          | .nil => true
          | _ => false)
        | some y => chk hi c (.e y))
    | _ => false
  | .rev a, c, t => match t with
    | .e (.Subscript l (.Slice none none (some (.UnaryOp .USub (.Constant (.int 1) _ _) _)) _) _) => chk a c (.e l)
    | _ => false
  | .isi a ts, c, t => match t with
    | .e (.Call (.Name f _) [l, .Tuple es _ _] [] _) => f == ("isinstance" : Str) && c.blt f && notStar l && chkTys c.sc ts es && decide (ts.length ≤ 100) && chk a c (.e l)
    | .e (.Call (.Name f _) [l, r] [] _) => f == ("isinstance" : Str) && c.blt f && notStar l && (match ts with
        | [t] => chkTys c.sc [t] [r]
        | _ => false) && chk a c (.e l)
    | _ => false
  | .call _ f es, c, t => match t with
    | .e (.Call (.Name x _) (l :: r) [] _) => c.gl x && (l :: r).all notStar && (match c.gt.lookup x with
        | some (.fn i np dd) => i == f && decide (exLen es = (l :: r).length) && decide (exLen es ≤ np) && decide (np ≤ exLen es + dd.length)
        | _ => false) && chk es c (.a (l :: r))
    | .i _ (.Call (.Name x _) (l :: r) [] _) => c.gl x && (l :: r).all notStar && (match c.gt.lookup x with
        | some (.fn i np dd) => i == f && decide (exLen es = (l :: r).length) && decide (exLen es ≤ np) && decide (np ≤ exLen es + dd.length)
        | _ => false) && chk es c (.a (l :: r))
    | _ => false
  | .callk _ f perm es, c, t => match t with
    | .e (.Call (.Name x _) [] kws _) => c.gl x && (match c.gt.lookup x, kwNames kws with
        | some (.fn i np _), some ks => i == f && c.kt.contains (x, ks, perm) && decide (exLen es = kws.length) && decide (perm.length = np)
        | _, _ => false) && chk es c (.k kws)
    | _ => false
  | .met hs _ b, c, t => match t with
    | .e (.Call (.Name x _) [.Lambda params body scope _] [] _) => c.gl x && c.mt == some (x, hs) && LamX.lamSB c.sc scope && noPar params && chk b (inLam c scope) (.e body)
    | _ => false
  | .bi b es, c, t => match t with
    | .e (.Call (.Name x _) (l :: r) [] _) => biOk c b && x == biName b && c.bio b x && (l :: r).all notStar && chk es c (.a (l :: r))
    | .i _ (.Call (.Name x _) (l :: r) [] _) => biOk c b && x == biName b && c.bio b x && (l :: r).all notStar && chk es c (.a (l :: r))
    | _ => false
  | .wk b es, c, t => match t with
    | .i tg (.Call (.Name x _) l [] _) => x == biName b && c.blt x && l.all notStar && (match b, l with
        | .range, [_] => true
        | .range2, [_, _] => true
        | .enumr, [_] => isTupT tg
        | .zip, [_, _] => isTupT tg
        | _, _ => false) && chk es c (.a l)
    | _ => false
  | .mt m o es, c, t => match t with
    | .e (.Call (.Attribute l n p) [r] [] q) => mtIs m && n == mtName m && noCall l && p.endLine == q.line && notStar r && chk o c (.e l) && chk es c (.a [r])
    | _ => false
  | .lc _ own tg it cond x, c, t => match t with
    | .e (.ListComp elt [⟨tg', iter, ifs, 0⟩] scope _) => blkB c.N c.sc scope own && tgIn tg own && noSet iter && chkTg c.N (relS scope c.sc) (fun y => scope.names.lookup y == some .cell) tg tg' && chk it c (.i tg' iter) && (match ifs with
        | [] => (match cond with
          | .c (.bl true) => true
          | _ => false)
        | [s] => chk cond (inBlk c scope) (.e s)
        | _ => false) && chk x (inBlk c scope) (.e elt)
    | _ => false
  | .lc2 _ own own1 tg it cond tg1 it1 cond1 x, c, t => match lc2Of t with
    | some q => lc2B c q own own1 tg tg1 && chk it c (.i q.l q.iter) && chk it1 (inBlk c q.scope) (.i q.l1 q.iter1) && (match one? q.ifs with
        | some (some s) => chk cond (inBlk c q.scope) (.e s)
        | some none => isYes cond
        | none => false) && (match one? q.ifs1 with
        | some (some s) => chk cond1 (inBlk c q.scope) (.e s)
        | some none => isYes cond1
        | none => false) && chk x (inBlk c q.scope) (.e q.elt)
    | none => false
  | .frz a, c, t => match t with
    | .e e => plainT e && chk a c (.e e)
    | .i _ e => plainT e && chk a c (.e e)
    | _ => false
  | .lrg _ a, c, t => match t with
    | .e (.Call (.Name x _) [.Call (.Name y _) [r] [] _] [] _) => x == ("list" : Str) && y == ("range" : Str) && c.blt x && c.blt y && notStar r && chk a c (.e r)
    | _ => false
  | .litm a, c, t => match t with
    | .e (.Call (.Name x _) [.Call (.Attribute l n p) [] [] q] [] _) => x == ("list" : Str) && n == ("items" : Str) && c.blt x && noCall l && p.endLine == q.line && chk a c (.e l)
    | _ => false
  | .nil, _, t => match t with
    | .a [] => true
    | .k [] => true
    | _ => false
  | .cons a b, c, t => match t with
    | .a (x :: r) => notStar x && chk a c (.e x) && chk b c (.a r)
    | .k (⟨some _, x, _⟩ :: r) => chk a c (.e x) && chk b c (.k r)
    | _ => false
  | _, _, _ => false
end EV

end
section
set_option Elab.async false
set_option linter.all false
set_option maxRecDepth 100000
set_option maxHeartbeats 4000000
/-! EV 22: the checker of expressions is right. -/
namespace EV
open PySem PySem.Spec PyProof.Rows L2
open LamX (Tabs TabS CodeO ExtN)
/-- what the globals are -/
structure GloOk (cs : List ErrC) (G : Gd) (F : Cfg) (k : Nat) (P : Program) (w : World) (K : PySem.W.Frag) (mg : Str → Option Value) (base : Heap) (gt : List (Str × Glob)) (bs : List Str) (kt : List (Str × List Str × List Nat)) : Prop where
  bt : ∀ x ∈ bs, mg x = none
  tys : ∀ t, tyOk t = true → mg (tyStr t) = none
  fns : ∀ x i np dd, gt.lookup x = some (.fn i np dd) → ∃ fa fd ps, mg x = some (.ref fa) ∧ PySem.W.keepIn K (.ref fa) = true ∧ FnOk P w K mg base (L2.CX P w) k fa fd ps (spF cs G np (F.call i)) ∧
    ∀ n, n ≤ np → np ≤ n + dd.length → ∃ dvs ds, L2.Binds K fd ps ds ∧ Vals dvs ds ∧ Fills cs G F i n np (dd.drop (n + dd.length - np)) dvs
  kws : ∀ x ks perm, (x, ks, perm) ∈ kt → ∀ i np dd, gt.lookup x = some (.fn i np dd) → ∃ fa fd ps, mg x = some (.ref fa) ∧ PySem.W.keepIn K (.ref fa) = true ∧ FnOk P w K mg base (L2.CX P w) k fa fd ps (spF cs G np (F.call i)) ∧
    ∀ (s : Shared) (ws : List Value), K.In s.heap → ws.length = ks.length → perm.length = np → BindsTo s fd ⟨[], ks.zip ws⟩ (ps.zip (perm.filterMap fun j => ws[j]?))
  gcd : ∀ x, gt.lookup x = some .gcd → mg x = some (.builtin "math.gcd")
/-- the def that asks and tells: all that pe_metE wants -/
def MetOk (cs : List ErrC) (G : Gd) (K : PySem.W.Frag) (mg : Str → Option Value) (base : Heap) (code : Value) (qual : Str) (x : Str) (hs : List (Nat × List Nat × List Nat)) : Prop :=
  ∃ (g c P : Addr) (pg : Arguments) (bg : List Stmt) (sg : Scope) (dV kV doc pm cdv ct oc : Value) (an od : Option Addr) (osl : Array (Option Value)) (Ng : List Str) (a n : Str),
    mg x = some (.ref g) ∧ PySem.W.keepIn K (.ref g) = true ∧ K.lookup g = some ⟨oc, od, .func (PySem.W.fnOf x x pg bg sg dV kV doc pm an cdv ct), osl⟩ ∧ PySem.W.codeIn K cdv x = true ∧ L2.Binds K (PySem.W.fnOf x x pg bg sg dV kV doc pm an cdv ct) [a] [] ∧
    FnScope Ng [a] sg ∧ (Ng[0]? = some a ∧ Ng[1]? = some n ∧ Ng.length = 2) ∧ Vis sg a ∧ sg.names.lookup n = some .local ∧ ErrsOk K mg cs ∧ chkMet cs sg a n hs bg = true ∧ (hs.all fun h => decide (h.1 < cs.length) && decide (h.2.2.length ≤ 100)) = true ∧
    LamX.TabB base mg c P ∧ code = .ref c ∧ ((P, qual ++ "<lambda>") ∈ G.T ∧ ∀ p ∈ G.T, p.1 = P → p.2 = qual ++ "<lambda>") ∧ (x == ("__debug__" : Str)) = false ∧ (a == ("__debug__" : Str)) = false ∧ (a == ("__classdict__" : Str)) = false ∧ (n == ("__debug__" : Str)) = false ∧ (n == ("__classdict__" : Str)) = false
structure XOk (cs : List ErrC) (G : Gd) (F : Cfg) (cc : CC) (X : Cx) (Wx : WX) : Prop where
  N : X.N = cc.N
  nd : X.N.Nodup
  calm : X.calm = true
  sc : X.env.scope = cc.sc
  fn : ∀ x, X.fn x = cc.fn x
  tk : Takes X Wx
  room : ∃ k, Room (k + 1) X.A ∧ GloOk cs G F k X.prog X.w X.K X.mg X.base cc.gt cc.bs cc.kt
  rep : cc.rep = true → X.A.guards = some []
  met : ∀ x hs, cc.mt = some (x, hs) → MetOk cs G X.K X.mg X.base X.env.code X.env.qual x hs ∧ ∃ k, Room (k + 3) X.A ∧ GloOk cs G F k X.prog X.w X.K X.mg X.base cc.gt cc.bs cc.kt
section
variable {cs : List ErrC} {G : Gd} {F : Cfg} {cc : CC} {X : Cx} {Wx : WX}
theorem XOk.gl (ok : XOk cs G F cc X Wx) {x : Str} (h : cc.gl x = true) : Gl X x ∧ (x == ("__debug__" : Str)) = false := by
  simp only [CC.gl, Bool.and_eq_true, beq_iff_eq, Bool.not_eq_true'] at h
  refine ⟨?_, h.2⟩
  show X.env.scope.names.lookup x = _
  rw [ok.sc]; exact h.1
theorem XOk.blt (ok : XOk cs G F cc X Wx) {x : Str} (h : cc.blt x = true) : Gl X x ∧ (x == ("__debug__" : Str)) = false ∧ X.mg x = none := by
  simp only [CC.blt, Bool.and_eq_true] at h
  obtain ⟨k, _, g⟩ := ok.room
  obtain ⟨h1, h2⟩ := ok.gl h.1
  exact ⟨h1, h2, g.bt x (by simpa using h.2)⟩
theorem XOk.slot (ok : XOk cs G F cc X Wx) {i : Nat} {x : Str} {pos : Pos} (h : (cc.N[i]? == some x && cc.vis x) = true) {run : Env → Store → E Vl} (hr : ∀ e st, run e st = lift (envGet e i) st) : PE X (.Name x pos) (tE cs G Wx run) := by
  simp only [Bool.and_eq_true, beq_iff_eq, CC.vis, Bool.not_eq_true'] at h
  obtain ⟨h1, ⟨h2, h3⟩, h4⟩ := h
  refine pe_slot (by rw [ok.N]; exact h1) ?_ h3 h4 hr
  rw [ok.sc]
  unfold Vis
  split at h2
  · rename_i e; exact .inl e
  · rename_i e; exact .inr (.inl e)
  · rename_i e; exact .inr (.inr e)
  · cases h2
theorem plain_true {e : Expr} (h : plainT e = true) (env : PySem.Env) : ∀ whole, isTrue e env whole = (do let v ← whole; standAt e.pos; holding [v] (truthy v)) := by
  intro whole
  cases e <;> (try (cases h; done)) <;> (try rfl)
  rename_i op x p
  cases op <;> (try (cases h; done)) <;> rfl
/-- .. and of keywords' values -/
def SndK (cs : List ErrC) (G : Gd) (F : Cfg) (x : Ex) : Prop := ∀ {cc X Wx ks}, XOk cs G F cc X Wx → chk x cc (.k ks) = true → PK X ks (tA cs G Wx (evE F x))
/-- what the checker promises of an expression -/
structure Snd (cs : List ErrC) (G : Gd) (F : Cfg) (x : Ex) : Prop where
  e : ∀ {cc X Wx e}, XOk cs G F cc X Wx → chk x cc (.e e) = true → PE X e (tE cs G Wx (evE F x)) ∧ PT X e (tT cs G Wx (evE F x))
  i : ∀ {cc X Wx tg e}, XOk cs G F cc X Wx → chk x cc (.i tg e) = true → PI X tg e (tI cs G Wx (evE F x))
  a : ∀ {cc X Wx es}, XOk cs G F cc X Wx → chk x cc (.a es) = true → PA X es (tA cs G Wx (evE F x))
  b : ∀ {cc X Wx k es} (pos : Pos), XOk cs G F cc X Wx → chk x cc (.b k es) = true → PE X (.BoolOp (boolOf k) es pos) (tE cs G Wx (evE F x)) ∧ PW X (.BoolOp (boolOf k) es pos) (tT cs G Wx (evE F x))
theorem Snd.val {x : Ex} (h : ∀ {cc X Wx e}, XOk cs G F cc X Wx → chk x cc (.e e) = true → PE X e (tE cs G Wx (evE F x)) ∧ plainT e = true) (hi : ∀ cc tg e, chk x cc (.i tg e) = true → chk x cc (.e e) = true) (ha : ∀ cc es, chk x cc (.a es) = true → False) (hb : ∀ cc k es, chk x cc (.b k es) = true → False) : Snd cs G F x where
  e := fun ok hc => ⟨(h ok hc).1, pt_ofE (h ok hc).1 (plain_true (h ok hc).2 _)⟩
  i := fun ok hc => pi_valE (h ok (hi _ _ _ hc)).1
  a := fun ok hc => (ha _ _ hc).elim
  b := fun pos ok hc => (hb _ _ _ hc).elim
theorem Snd.val2 {x : Ex} (h : ∀ {cc X Wx e}, XOk cs G F cc X Wx → chk x cc (.e e) = true → PE X e (tE cs G Wx (evE F x)) ∧ PT X e (tT cs G Wx (evE F x))) (hi : ∀ cc tg e, chk x cc (.i tg e) = true → chk x cc (.e e) = true) (ha : ∀ cc es, chk x cc (.a es) = true → False) (hb : ∀ cc k es, chk x cc (.b k es) = true → False) : Snd cs G F x where
  e := h
  i := fun ok hc => pi_valE (h ok (hi _ _ _ hc)).1
  a := fun ok hc => (ha _ _ hc).elim
  b := fun pos ok hc => (hb _ _ _ hc).elim
/-- a run that never ends well needs no text -/
theorem here_err {run : Env → Store → E Vl} (hr : ∀ e st, run e st = .err) {σ : L2.St} {H : Hp} {K : Wd → Hp → Vl → Store → Nat → Prop} (h : Here cs G Wx run σ H K) : False := by
  obtain ⟨W, e, st, b, R, V, g⟩ := h
  rw [hr] at g; exact g
theorem snd_nope : Snd cs G F .nope where
  e := fun ok _ => ⟨⟨fun _ _ _ _ _ _ q => (here_err (fun _ _ => rfl) q).elim⟩, ⟨fun _ _ _ _ _ _ q => (here_err (K := fun W H => KT G W H _) (fun _ _ => rfl) q).elim⟩⟩
  i := fun ok _ => ⟨fun _ _ _ _ _ _ q => (here_err (K := fun W H => KI G W H _) (fun _ _ => rfl) q).elim⟩
  a := fun ok _ => ⟨fun _ _ _ _ _ _ _ q => (here_err (K := fun W H => KA G W H _) (fun _ _ => rfl) q).elim⟩
  b := fun pos ok _ => ⟨⟨fun _ _ _ _ _ _ q => (here_err (fun _ _ => rfl) q).elim⟩, ⟨fun _ _ _ _ _ _ _ q => (here_err (K := fun W H => KT G W H _) (fun _ _ => rfl) q).elim⟩⟩
theorem snd_c (d : D) : Snd cs G F (.c d) := Snd.val (fun {cc X Wx e} ok h => by
    simp only [chk] at h
    split at h
    · rename_i k j p he
      cases he
      split at h
      · rename_i d' hd
        have := sameD_eq h
        subst this
        exact ⟨pe_lit hd fun _ _ => rfl, rfl⟩
      · cases h
    · cases h) (fun cc tg e h => by simp [chk] at h) (fun cc es h => by simp [chk] at h) (fun cc k es h => by simp [chk] at h)
theorem snd_v (i : Nat) : Snd cs G F (.v i) := Snd.val (fun {cc X Wx e} ok h => by
    simp only [chk] at h
    split at h
    · rename_i x p he
      cases he
      exact ⟨ok.slot h fun _ _ => rfl, rfl⟩
    · rename_i he; cases he
    · cases h) (fun cc tg e h => by
    simp only [chk] at h ⊢
    split at h
    · rename_i he; cases he
    · rename_i he; cases he; exact h
    · cases h) (fun cc es h => by simp [chk] at h) (fun cc k es h => by simp [chk] at h)
theorem snd_bin {o : BOp} {a b : Ex} (ia : Snd cs G F a) (ib : Snd cs G F b) : Snd cs G F (.bin o a b) := Snd.val (fun {cc X Wx e} ok h => by
    simp only [chk] at h
    split at h
    · rename_i l p r pos he
      cases he
      simp only [Bool.and_eq_true, decide_eq_true_eq] at h
      obtain ⟨⟨rfl, h1⟩, h2⟩ := h
      exact ⟨pe_binD (ia.e ok h1).1 (ib.e ok h2).1 fun _ _ => rfl, rfl⟩
    · rename_i he; cases he
    · cases h) (fun cc tg e h => by
    simp only [chk] at h ⊢
    split at h
    · rename_i he; cases he
    · rename_i he; cases he; exact h
    · cases h) (fun cc es h => by simp [chk] at h) (fun cc k es h => by simp [chk] at h)
theorem snd_neg {a : Ex} (ia : Snd cs G F a) : Snd cs G F (.neg a) := Snd.val (fun {cc X Wx e} ok h => by
    simp only [chk] at h
    split at h
    · rename_i l pos he
      cases he
      exact ⟨pe_negE (ia.e ok h).1 fun _ _ => rfl, rfl⟩
    · cases h) (fun cc tg e h => by simp [chk] at h) (fun cc es h => by simp [chk] at h) (fun cc k es h => by simp [chk] at h)
theorem snd_not {a : Ex} (ia : Snd cs G F a) : Snd cs G F (.not a) := Snd.val2 (fun {cc X Wx e} ok h => by
    simp only [chk] at h
    split at h
    · rename_i l pos he
      cases he
      exact ⟨PE.imp (pe_not (ia.e ok h).1) fun σ H Q q => tNotV_of (fun _ _ => rfl) q, PT.imp (pt_not (ia.e ok h).2) fun σ H Q q => tNot_of (fun _ _ => rfl) q⟩
    · cases h) (fun cc tg e h => by simp [chk] at h) (fun cc es h => by simp [chk] at h) (fun cc k es h => by simp [chk] at h)
theorem snd_bo {k : Bool} {a b : Ex} (ia : Snd cs G F a) (ib : Snd cs G F b) : Snd cs G F (.bo k a b) := by
  have key : ∀ {cc X Wx} (x y : Expr) (r : List Expr) (pos : Pos), XOk cs G F cc X Wx → (chk a cc (.e x) && (if r.isEmpty then chk b cc (.e y) else chk b cc (.b k (y :: r)))) = true →
      PE X (.BoolOp (boolOf k) (x :: y :: r) pos) (tE cs G Wx (evE F (.bo k a b))) ∧ PW X (.BoolOp (boolOf k) (x :: y :: r) pos) (tT cs G Wx (evE F (.bo k a b))) := fun {cc X Wx} x y r pos ok h => by
    simp only [Bool.and_eq_true] at h
    obtain ⟨h1, h2⟩ := h
    obtain ⟨p1, p2⟩ := ia.e ok h1
    have q : PE X (.BoolOp (boolOf k) (y :: r) pos) (tE cs G Wx (evE F b)) ∧ PW X (.BoolOp (boolOf k) (y :: r) pos) (tT cs G Wx (evE F b)) := by
      cases r with
      | nil =>
        have h2 : chk b cc (.e y) = true := h2
        obtain ⟨q1, q2⟩ := ib.e ok h2
        cases k with
        | true => exact ⟨pe_one q1, pw_and1 q2⟩
        | false => exact ⟨pe_one q1, pw_or1 q2⟩
      | cons z r =>
        have h2 : chk b cc (.b k (y :: z :: r)) = true := h2
        exact ib.b pos ok h2
    cases k with
    | true => exact ⟨PE.imp (pe_and p1 q.1) fun σ H Q z => tAndV_of (fun _ _ => rfl) z, PW.imp (pw_and p2 q.2) fun σ H Q z => tAnd_of (fun _ _ => rfl) z⟩
    | false => exact ⟨PE.imp (pe_or p1 q.1) fun σ H Q z => tOrV_of (fun _ _ => rfl) z, PW.imp (pw_or p2 q.2) fun σ H Q z => tOr_of (fun _ _ => rfl) z⟩
  refine ⟨fun {cc X Wx e} ok h => ?_, fun {cc X Wx tg e} ok h => ?_, fun {cc X Wx es} ok h => ?_, fun {cc X Wx k' es} pos ok h => ?_⟩
  · simp only [chk] at h
    split at h
    · rename_i p x y r pos he
      cases he
      rw [Bool.and_assoc, Bool.and_eq_true, decide_eq_true_eq] at h
      obtain ⟨rfl, h⟩ := h
      obtain ⟨q1, q2⟩ := key x y r pos ok h
      exact ⟨q1, q2.pt⟩
    · rename_i he; cases he
    · cases h
  · simp [chk] at h
  · simp [chk] at h
  · simp only [chk] at h
    split at h
    · rename_i he; cases he
    · rename_i k2 x y r he
      cases he
      rw [Bool.and_assoc, Bool.and_eq_true, beq_iff_eq] at h
      obtain ⟨rfl, h⟩ := h
      exact key x y r pos ok h
    · cases h
end
end EV

end
section
set_option Elab.async false
set_option linter.all false
set_option maxRecDepth 100000
set_option maxHeartbeats 4000000
/-! EV 23: the checker of expressions is right, second part. -/
namespace EV
open PySem PySem.Spec PyProof.Rows L2
open LamX (Tabs TabS CodeO ExtN)
section
variable {cs : List ErrC} {G : Gd} {F : Cfg} {cc : CC} {X : Cx} {Wx : WX}
theorem noSet_marks {o : COp} {r : Expr} (h : noSet r = true) : behindInMarks (copOf o) r = false := by
  cases r <;> first | rfl | cases h
theorem snd_cmp {o : COp} {a b : Ex} (ia : Snd cs G F a) (ib : Snd cs G F b) : Snd cs G F (.cmp o a b) := Snd.val2 (fun {cc X Wx e} ok h => by
    simp only [chk] at h
    split at h
    · rename_i l p r pos he
      cases he
      simp only [Bool.and_eq_true, decide_eq_true_eq] at h
      obtain ⟨⟨⟨rfl, hn⟩, h1⟩, h2⟩ := h
      obtain ⟨k, rm, _⟩ := ok.room
      exact pe_cmpD rm (ia.e ok h1).1 (ib.e ok h2).1 (noSet_marks hn) fun _ _ => rfl
    · cases h) (fun cc tg e h => by simp [chk] at h) (fun cc es h => by simp [chk] at h) (fun cc k es h => by simp [chk] at h)
theorem snd_cmp2 {o p : COp} {a b d : Ex} (ia : Snd cs G F a) (ib : Snd cs G F b) (ic : Snd cs G F d) : Snd cs G F (.cmp2 o p a b d) := Snd.val2 (fun {cc X Wx e} ok h => by
    simp only [chk] at h
    split at h
    · rename_i l p1 p2 r s pos he
      cases he
      simp only [Bool.and_eq_true, decide_eq_true_eq] at h
      obtain ⟨⟨⟨⟨⟨⟨rfl, rfl⟩, hn⟩, hn2⟩, h1⟩, h2⟩, h3⟩ := h
      obtain ⟨k, rm, _⟩ := ok.room
      have hm : lastMarks [copOf o, copOf p] [r, s] = false := by
        show behindInMarks (copOf p) s = false
        exact noSet_marks hn2
      refine ⟨PE.imp (pe_chain (cD (G := G) rm o) (cD (G := G) rm p) (ia.e ok h1).1 (ib.e ok h2).1 (ic.e ok h3).1 hm) fun σ H Q q => chain_of (fun _ _ => rfl) q, PT.imp (pt_chain (cD (G := G) rm o) (cD (G := G) rm p) (ia.e ok h1).1 (ib.e ok h2).1 (ic.e ok h3).1 hm) fun σ H Q q => chain_of (fun _ _ => rfl) (tB_of q)⟩
    · cases h) (fun cc tg e h => by simp [chk] at h) (fun cc es h => by simp [chk] at h) (fun cc k es h => by simp [chk] at h)
def tIfT (t u v : TT) : TT := fun σ H Q => t σ H fun c H1 => if c = true then u σ H1 Q else v σ H1 Q
theorem pt_ifExp {c a b : Expr} {tc ta tb : TT} {pos : Pos} (hc : PT X c tc) (ha : PT X a ta) (hb : PT X b tb) : PT X (.IfExp c a b pos) (tIfT tc ta tb) := by
  refine ⟨fun pins s σ H Q I h => ?_⟩
  show wpAny _ _ (do if ← isTrue c X.env (eval c X.env) then isTrue a X.env (eval a X.env) else isTrue b X.env (eval b X.env)) _ _ _
  refine wpAny_bind (thn (hc.run pins s σ H _ I h) fun d s1 ⟨H1, I1, q1⟩ => ?_)
  cases d with
  | true => exact ha.run pins s1 σ H1 Q I1 q1
  | false => exact hb.run pins s1 σ H1 Q I1 q1
theorem tIfT_of {rt ra rb run : Env → Store → E Vl} (hr : ∀ e st, run e st = bnd (rt e st) fun x st => match truth x with
      | some true => ra e st
      | some false => rb e st
      | none => .err) {σ : L2.St} {H : Hp} {Q : Bool → Hp → Prop} (h : tT cs G Wx run σ H Q) : tIfT (tT cs G Wx rt) (tT cs G Wx ra) (tT cs G Wx rb) σ H Q :=
  here_if (f := fun x e st => match truth x with
      | some true => ra e st
      | some false => rb e st
      | none => .err) hr (fun x e s h => by rw [h]) h fun W H W1 H1 x t s b e x1 R V g ht => by
    rw [ht] at g
    cases t with
    | true =>
      rw [if_pos rfl]
      exact Here.on (K := fun W H => KT G W H Q) x1 R V g fun a s b q => q.mono x1
    | false =>
      rw [if_neg Bool.false_ne_true]
      exact Here.on (K := fun W H => KT G W H Q) x1 R V g fun a s b q => q.mono x1
theorem snd_ite {x a b : Ex} (ix : Snd cs G F x) (ia : Snd cs G F a) (ib : Snd cs G F b) : Snd cs G F (.ite x a b) := Snd.val2 (fun {cc X Wx e} ok h => by
    simp only [chk] at h
    split at h
    · rename_i s l r pos he
      cases he
      simp only [Bool.and_eq_true] at h
      obtain ⟨⟨h1, h2⟩, h3⟩ := h
      exact ⟨PE.imp (pe_ifExp (ix.e ok h1).2 (ia.e ok h2).1 (ib.e ok h3).1) fun σ H Q q => tIf_of (fun _ _ => rfl) q, PT.imp (pt_ifExp (ix.e ok h1).2 (ia.e ok h2).2 (ib.e ok h3).2) fun σ H Q q => tIfT_of (fun _ _ => rfl) q⟩
    · rename_i he; cases he
    · cases h) (fun cc tg e h => by
    simp only [chk] at h ⊢
    split at h
    · rename_i he; cases he
    · rename_i he; cases he; exact h
    · cases h) (fun cc es h => by simp [chk] at h) (fun cc k es h => by simp [chk] at h)
theorem snd_tup {es : Ex} (ia : Snd cs G F es) : Snd cs G F (.tup es) := Snd.val (fun {cc X Wx e} ok h => by
    simp only [chk] at h
    split at h
    · rename_i l k pos he
      cases he
      exact ⟨pe_tupE (ia.a ok h) fun _ _ => rfl, rfl⟩
    · rename_i he; cases he
    · cases h) (fun cc tg e h => by
    simp only [chk] at h ⊢
    split at h
    · rename_i he; cases he
    · rename_i he; cases he; exact h
    · cases h) (fun cc es h => by simp [chk] at h) (fun cc k es h => by simp [chk] at h)
theorem snd_lst {m : Bool} {es : Ex} (ia : Snd cs G F es) : Snd cs G F (.lst m es) := Snd.val (fun {cc X Wx e} ok h => by
    simp only [chk] at h
    split at h
    · rename_i l pos he
      cases he
      cases m with
      | true => exact ⟨pe_lstM (ia.a ok h) fun _ _ => rfl, rfl⟩
      | false => exact ⟨pe_lstE (ia.a ok h) fun _ _ => rfl, rfl⟩
    · rename_i he; cases he
    · cases h) (fun cc tg e h => by
    simp only [chk] at h ⊢
    split at h
    · rename_i he; cases he
    · rename_i he; cases he; exact h
    · cases h) (fun cc es h => by simp [chk] at h) (fun cc k es h => by simp [chk] at h)
theorem snd_dct {m : Bool} : Snd cs G F (.dct m) := Snd.val (fun {cc X Wx e} ok h => by
    simp only [chk] at h
    split at h
    · rename_i pos he
      cases he
      cases m with
      | true => exact ⟨pe_dctM fun _ _ => rfl, rfl⟩
      | false => exact ⟨pe_dctE fun _ _ => rfl, rfl⟩
    · cases h) (fun cc tg e h => by simp [chk] at h) (fun cc es h => by simp [chk] at h) (fun cc k es h => by simp [chk] at h)
theorem snd_ix {a b : Ex} (ia : Snd cs G F a) (ib : Snd cs G F b) : Snd cs G F (.ix a b) := Snd.val (fun {cc X Wx e} ok h => by
    simp only [chk] at h
    split at h
    · rename_i l r pos he
      cases he
      simp only [Bool.and_eq_true] at h
      obtain ⟨⟨hp, h1⟩, h2⟩ := h
      obtain ⟨k, rm, _⟩ := ok.room
      exact ⟨pe_ixE rm (ia.e ok h1).1 (ib.e ok h2).1 hp fun _ _ => rfl, rfl⟩
    · rename_i he; cases he
    · cases h) (fun cc tg e h => by
    simp only [chk] at h ⊢
    split at h
    · rename_i he; cases he
    · rename_i he; cases he; exact h
    · cases h) (fun cc es h => by simp [chk] at h) (fun cc k es h => by simp [chk] at h)
theorem snd_sl {a lo hi : Ex} (ia : Snd cs G F a) (il : Snd cs G F lo) (ih : Snd cs G F hi) : Snd cs G F (.sl a lo hi) := Snd.val (fun {cc X Wx e} ok h => by
    simp only [chk] at h
    split at h
    · rename_i l x y p2 pos he
      cases he
      simp only [Bool.and_eq_true] at h
      obtain ⟨⟨h1, h2⟩, h3⟩ := h
      have pl : PO X x (tO cs G Wx (evE F lo)) := by
        cases x with
        | none => cases lo <;> (try (cases h2; done)); exact po_noneE fun _ _ => rfl
        | some x => exact po_someE (il.e ok h2).1
      have ph : PO X y (tO cs G Wx (evE F hi)) := by
        cases y with
        | none => cases hi <;> (try (cases h3; done)); exact po_noneE fun _ _ => rfl
        | some y => exact po_someE (ih.e ok h3).1
      exact ⟨pe_slE (ia.e ok h1).1 pl ph fun _ _ => rfl, rfl⟩
    · rename_i he; cases he
    · cases h) (fun cc tg e h => by
    simp only [chk] at h ⊢
    split at h
    · rename_i he; cases he
    · rename_i he; cases he; exact h
    · cases h) (fun cc es h => by simp [chk] at h) (fun cc k es h => by simp [chk] at h)
theorem snd_rev {a : Ex} (ia : Snd cs G F a) : Snd cs G F (.rev a) := Snd.val (fun {cc X Wx e} ok h => by
    simp only [chk] at h
    split at h
    · rename_i l k p1 p2 p3 pos he
      cases he
      refine ⟨PE.imp (pe_revL (ia.e ok h).1) fun σ H Q ⟨W, en, st, b, R, V, g⟩ => ?_, rfl⟩
      unfold evE at g
      rw [EG_bnd] at g
      refine ⟨W, en, st, b, R, V, g.mono (fun a s b g W1 H1 v x1 R1 r1 => ?_) fun _ _ _ _ q => q⟩
      split at g
      · rename_i xs es
        obtain ⟨p, vs, rfl, k1, k2⟩ := snap_VT R1 r1 es
        exact ⟨p, vs, rfl, SqL.of k1, fun q hq => g W1 _ _ (x1.trans (ext_new hq)) (R1.new hq) (VR.newL R1 hq k2.reverse)⟩
      · exact g.elim
    · cases h) (fun cc tg e h => by simp [chk] at h) (fun cc es h => by simp [chk] at h) (fun cc k es h => by simp [chk] at h)
theorem snd_isi {a : Ex} {ts : List Ty} (ia : Snd cs G F a) : Snd cs G F (.isi a ts) := Snd.val (fun {cc X Wx e} ok h => by
    simp only [chk] at h
    split at h
    · rename_i f p1 l es k p2 p3 he
      cases he
      simp only [Bool.and_eq_true, beq_iff_eq, decide_eq_true_eq] at h
      obtain ⟨⟨⟨⟨⟨rfl, hb⟩, hst⟩, ht⟩, hl⟩, h1⟩ := h
      obtain ⟨g1, _, g2⟩ := ok.blt hb
      obtain ⟨k, _, gg⟩ := ok.room
      exact ⟨isi_many gg.tys g2 (ia.e ok h1).1 hst g1 (by rw [ok.sc]; exact ht) hl fun _ _ => rfl, rfl⟩
    · rename_i f p1 l r p3 hnt he
      cases he
      simp only [Bool.and_eq_true, beq_iff_eq] at h
      obtain ⟨⟨⟨⟨rfl, hb⟩, hst⟩, ht⟩, h1⟩ := h
      obtain ⟨g1, _, g2⟩ := ok.blt hb
      obtain ⟨k, _, gg⟩ := ok.room
      split at ht
      · exact ⟨isi_one gg.tys g2 (ia.e ok h1).1 hst g1 (by rw [ok.sc]; exact ht) fun _ _ => rfl, rfl⟩
      · cases ht
    · cases h) (fun cc tg e h => by simp [chk] at h) (fun cc es h => by simp [chk] at h) (fun cc k es h => by simp [chk] at h)
theorem snd_call {m : Md} {f : Nat} {es : Ex} (ia : Snd cs G F es) : Snd cs G F (.call m f es) := Snd.val (fun {cc X Wx e} ok h => by
    simp only [chk] at h
    split at h
    · rename_i x p l r pos he
      cases he
      simp only [Bool.and_eq_true] at h
      obtain ⟨⟨⟨hg, hst⟩, hf⟩, h1⟩ := h
      obtain ⟨g1, g2⟩ := ok.gl hg
      obtain ⟨k, rm, gg⟩ := ok.room
      split at hf
      · rename_i i np dd hx
        simp only [Bool.and_eq_true, beq_iff_eq, decide_eq_true_eq] at hf
        obtain ⟨⟨⟨rfl, _⟩, hn1⟩, hn2⟩ := hf
        obtain ⟨fa, fd, ps, hm, hk, Fn, hb⟩ := gg.fns x i np dd hx
        obtain ⟨dvs, ds, hbs, hd, fl⟩ := hb (exLen es) hn1 hn2
        rw [List.all_cons, Bool.and_eq_true] at hst
        exact ⟨pe_callE ok.tk Fn (rm.mono (Nat.le_succ _)) g1 hm hk hbs hd fl (ia.a ok h1) hst.1 (star_plain hst.2) g2 fun _ _ => rfl, rfl⟩
      · cases hf
    · rename_i he; cases he
    · cases h) (fun cc tg e h => by
    simp only [chk] at h ⊢
    split at h
    · rename_i he; cases he
    · rename_i he; cases he; exact h
    · cases h) (fun cc es h => by simp [chk] at h) (fun cc k es h => by simp [chk] at h)
theorem snd_nil : Snd cs G F .nil where
  e := fun ok h => by simp [chk] at h
  i := fun ok h => by simp [chk] at h
  a := fun {cc X Wx es} ok h => by
    simp only [chk] at h
    split at h
    · rename_i he; cases he; exact pa_nilE fun _ _ => rfl
    · rename_i he; cases he
    · cases h
  b := fun pos ok h => by simp [chk] at h
theorem snd_cons {a b : Ex} (ia : Snd cs G F a) (ib : Snd cs G F b) : Snd cs G F (.cons a b) where
  e := fun ok h => by simp [chk] at h
  i := fun ok h => by simp [chk] at h
  a := fun {cc X Wx es} ok h => by
    simp only [chk] at h
    split at h
    · rename_i x r he
      cases he
      simp only [Bool.and_eq_true] at h
      obtain ⟨⟨hst, h1⟩, h2⟩ := h
      exact pa_consE (ia.e ok h1).1 (ib.a ok h2) hst fun _ _ => rfl
    · rename_i he; cases he
    · cases h
  b := fun pos ok h => by simp [chk] at h
theorem snd_mt {m : Mt} {o es : Ex} (io : Snd cs G F o) (ia : Snd cs G F es) : Snd cs G F (.mt m o es) := Snd.val (fun {cc X Wx e} ok h => by
    simp only [chk] at h
    split at h
    · rename_i l n p r q he
      cases he
      simp only [Bool.and_eq_true, beq_iff_eq] at h
      obtain ⟨⟨⟨⟨⟨⟨hm, rfl⟩, hc⟩, hl⟩, hst⟩, h1⟩, h2⟩ := h
      have hbase : attributeBase l (mtName m) X.env (eval l X.env) = eval l X.env := by
        cases l <;> first | rfl | cases hc
      exact ⟨pe_mtE m hm (io.e ok h1).1 (ia.a ok h2) hst hbase (by rw [hl]; exact beq_self_eq_true _) fun _ _ => rfl, rfl⟩
    · cases h) (fun cc tg e h => by simp [chk] at h) (fun cc es h => by simp [chk] at h) (fun cc k es h => by simp [chk] at h)
end
end EV

end
section
set_option Elab.async false
set_option linter.all false
set_option maxRecDepth 100000
set_option maxHeartbeats 4000000
/-! EV 24: the checker of expressions is right, joined. -/
namespace EV
open PySem PySem.Spec PyProof.Rows L2
open LamX (Tabs TabS CodeO ExtN)
section
variable {cs : List ErrC} {G : Gd} {F : Cfg} {cc : CC} {X : Cx} {Wx : WX}
theorem Snd.no {x : Ex} (h : ∀ cc t, chk x cc t = true → False) : Snd cs G F x :=
  ⟨fun _ q => (h _ _ q).elim, fun _ q => (h _ _ q).elim, fun _ q => (h _ _ q).elim, fun _ _ q => (h _ _ q).elim⟩
theorem snd_bi {b : Bi} {es : Ex} (ia : Snd cs G F es) : Snd cs G F (.bi b es) := Snd.val (fun {cc X Wx e} ok h => by
    simp only [chk] at h
    split at h
    · rename_i x p l r pos he
      cases he
      simp only [Bool.and_eq_true, beq_iff_eq] at h
      obtain ⟨⟨⟨⟨hb, rfl⟩, hx⟩, hst⟩, h1⟩ := h
      rw [List.all_cons, Bool.and_eq_true] at hst
      have hA := ia.a ok h1
      have calm := ok.calm
      refine ⟨?_, rfl⟩
      unfold biOk at hb
      by_cases hgc : b = .gcd
      · subst hgc
        simp only [CC.bio, Bool.and_eq_true] at hx
        obtain ⟨g1, g2⟩ := ok.gl hx.1
        obtain ⟨k, rm, gg⟩ := ok.room
        have hl : cc.gt.lookup (biName .gcd) = some .gcd := by
          have := hx.2
          split at this
          · assumption
          · cases this
        exact pe_callBE (run0 := biE .gcd) cr_gcdE (fun ha => pe_callBfun cr_gcdE g1 (gg.gcd _ hl) ha g2 (star_cons hst.1) (star_plain hst.2)) hA (noX_bi _) fun _ _ => rfl
      have hx' : cc.blt (biName b) = true := by cases b <;> first | exact hx | exact absurd rfl hgc
      obtain ⟨g1, g2, g3⟩ := ok.blt hx'
      cases b <;> (try (simp [biIs, isRepr] at hb; done)) <;> (try (exact absurd rfl hgc))
      · exact pe_callBE (run0 := biE .len) cr_len (fun ha => pe_callB cr_len g1 g3 PySem.boot_len ha (by decide) g2 (star_cons hst.1) (star_plain hst.2)) hA (noX_bi _) fun _ _ => rfl
      · exact pe_callBE (run0 := biE .all) (cr_all calm) (fun ha => pe_callB (cr_all calm) g1 g3 boot_all ha (by decide) g2 (star_cons hst.1) (star_plain hst.2)) hA (noX_bi _) fun _ _ => rfl
      · exact pe_callBE (run0 := biE .any) (cr_any calm) (fun ha => pe_callB (cr_any calm) g1 g3 boot_any ha (by decide) g2 (star_cons hst.1) (star_plain hst.2)) hA (noX_bi _) fun _ _ => rfl
      · exact pe_callBE (run0 := biE .sorted) cr_sorted (fun ha => pe_callB cr_sorted g1 g3 boot_sorted ha (by decide) g2 (star_cons hst.1) (star_plain hst.2)) hA (noX_bi _) fun _ _ => rfl
      · exact pe_callBE (run0 := biE .list) (cr_list calm) (fun ha => pe_callTy (cr_list calm) g1 g3 PyProof.Rows.Boot.«list» ha (by decide) g2 (star_cons hst.1) (star_plain hst.2)) hA (noX_bi _) fun _ _ => rfl
      · exact pe_callBE (run0 := biE .tuple) cr_tuple (fun ha => pe_callTy cr_tuple g1 g3 PyProof.Rows.Boot.«tuple» ha (by decide) g2 (star_cons hst.1) (star_plain hst.2)) hA (noX_bi _) fun _ _ => rfl
      · exact pe_callBE (run0 := biE .int) cr_int (fun ha => pe_callTy cr_int g1 g3 PyProof.Rows.Boot.«int» ha (by decide) g2 (star_cons hst.1) (star_plain hst.2)) hA (noX_bi _) fun _ _ => rfl
      · exact pe_callBE (run0 := biE .min) (cr_minE calm) (fun ha => pe_callB (cr_minE calm) g1 g3 (by decide +kernel) ha (by decide) g2 (star_cons hst.1) (star_plain hst.2)) hA (noX_bi _) fun _ _ => rfl
      · exact pe_callBE (run0 := biE .max) (cr_maxE calm) (fun ha => pe_callB (cr_maxE calm) g1 g3 (by decide +kernel) ha (by decide) g2 (star_cons hst.1) (star_plain hst.2)) hA (noX_bi _) fun _ _ => rfl
      · obtain ⟨k, rm, _⟩ := ok.room
        have hr : cc.rep = true := by simpa [biIs, isRepr] using hb
        exact pe_callBE (run0 := biE .repr) (cr_repr (ok.rep hr) rm.units) (fun ha => pe_callB (cr_repr (ok.rep hr) rm.units) g1 g3 (by decide +kernel) ha (by decide) g2 (star_cons hst.1) (star_plain hst.2)) hA (noX_bi _) fun _ _ => rfl
      · exact pe_callBE (run0 := biE .abs) cr_absE (fun ha => pe_callB cr_absE g1 g3 (by decide +kernel) ha (by decide) g2 (star_cons hst.1) (star_plain hst.2)) hA (noX_bi _) fun _ _ => rfl
      · exact pe_callBE (run0 := biE .listm) (cr_listm calm) (fun ha => pe_callTy (cr_listm calm) g1 g3 PyProof.Rows.Boot.«list» ha (by decide) g2 (star_cons hst.1) (star_plain hst.2)) hA (noX_bi _) fun _ _ => rfl
    · rename_i he; cases he
    · cases h) (fun cc tg e h => by
    simp only [chk] at h ⊢
    split at h
    · rename_i he; cases he
    · rename_i he; cases he; exact h
    · cases h) (fun cc es h => by simp [chk] at h) (fun cc k es h => by simp [chk] at h)
/-! ### keywords -/
theorem sndK_nil : SndK cs G F .nil := fun {cc X Wx ks} ok h => by
  simp only [chk] at h
  split at h
  · rename_i he; cases he
  · rename_i he
    cases he
    refine ⟨fun pos pins s σ H Q I q => pk_nil.run pos pins s σ H Q I ?_⟩
    obtain ⟨W, e, st, b, R, V, g⟩ := q
    obtain ⟨vs, ev, k⟩ := g
    cases ev
    exact k W H [] .refl R .nil
  · cases h
theorem sndK_cons {a b : Ex} (ia : Snd cs G F a) (ib : SndK cs G F b) : SndK cs G F (.cons a b) := fun {cc X Wx ks} ok h => by
  simp only [chk] at h
  split at h
  · rename_i he; cases he
  · rename_i k x p r he
    cases he
    rw [Bool.and_eq_true] at h
    have p1 := (ia.e ok h.1).1
    have p2 := ib ok h.2
    refine ⟨fun pos pins s σ H Q I q => (pk_cons p1 p2).run pos pins s σ H Q I ?_⟩
    obtain ⟨W, e, st, b', R, V, g⟩ := q
    have hr : ∀ e st, evE F (.cons a b) e st = bnd (evE F a e st) fun x st => bnd (evE F b e st) fun y st => match y with
      | .its ys => ret (.its (x :: ys)) st
      | _ => .err := fun _ _ => rfl
    rw [hr, EG_bnd] at g
    refine ⟨W, e, st, b', R, V, g.mono (fun x s b g W1 H1 v x1 R1 r1 => ?_) fun _ _ _ _ q => q⟩
    rw [EG_bnd] at g
    refine Here.next x1 R1 V g fun y s b g => ?_
    cases y <;> first
      | exact g.elim
      | skip
    rename_i ys
    obtain ⟨vs, ev, q⟩ := g
    cases ev
    exact ⟨ys, rfl, fun W' H' us x2 R2 r2 => q W' H' (v :: us) (x1.trans x2) R2 (.cons (r1.ext x2) r2)⟩
  · cases h
theorem kw_each : ∀ {kws : List Keyword} {ks : List Str} {env : PySem.Env} {pos : Pos}, kwNames kws = some ks → (backToKw pos (keywordEach kws env)).all (·.1.isSome) = true ∧ (backToKw pos (keywordEach kws env)).filterMap (·.1) = ks ∧ (backToKw pos (keywordEach kws env)).any (·.1.isNone) = false ∧ ks.length = kws.length
  | [], ks, env, pos, h => by cases h; exact ⟨rfl, rfl, rfl, rfl⟩
  | ⟨none, v, p⟩ :: r, ks, env, pos, h => by cases h
  | ⟨some k, v, p⟩ :: r, ks, env, pos, h => by
    obtain ⟨ks', e, rfl⟩ := Option.map_eq_some_iff.mp h
    obtain ⟨h1, h2, h3, h4⟩ := kw_each (env := env) (pos := pos) e
    refine ⟨?_, ?_, ?_, by simp [h4]⟩
    · show (true && _) = true
      rw [Bool.true_and]; exact h1
    · show k :: _ = _
      exact congrArg (k :: ·) h2
    · show (false || _) = false
      rw [Bool.false_or]; exact h3
theorem perm_rel {W : Wd} {H : Hp} {vs : List Vl} {us : List V} (r : VlRs G W H vs us) : ∀ {perm : List Nat} {as : List Vl}, (perm.mapM fun j => vs[j]?) = some as → VlRs G W H as (perm.filterMap fun j => us[j]?) ∧ as.length = perm.length
  | [], as, h => by cases h; exact ⟨.nil, rfl⟩
  | j :: js, as, h => by
    rw [List.mapM_cons] at h
    obtain ⟨a, e1, h⟩ := Option.bind_eq_some_iff.mp h
    obtain ⟨as', e2, h⟩ := Option.bind_eq_some_iff.mp h
    cases h
    obtain ⟨u, eu, ru⟩ := VlRs.get r e1
    obtain ⟨h1, h2⟩ := perm_rel r e2
    refine ⟨?_, by simp [h2]⟩
    rw [List.filterMap_cons, eu]
    exact .cons ru h1
theorem perm_vals {us : List V} {ws : List Value} (r : Vals us ws) : ∀ perm : List Nat, Vals (perm.filterMap fun j => us[j]?) (perm.filterMap fun j => ws[j]?)
  | [] => .nil
  | j :: js => by
    have ih := perm_vals r js
    have hl := r.length
    rw [List.filterMap_cons, List.filterMap_cons]
    by_cases hj : j < us.length
    · have e1 : us[j]? = some us[j] := List.getElem?_eq_getElem hj
      obtain ⟨w, e2, rw'⟩ := Vals.get r e1
      rw [e1, e2]
      exact .cons rw' ih
    · have e1 : us[j]? = none := List.getElem?_eq_none (by omega)
      have e2 : ws[j]? = none := List.getElem?_eq_none (by omega)
      rw [e1, e2]
      exact ih
theorem snd_callk {m : Md} {f : Nat} {perm : List Nat} {es : Ex} (ia : SndK cs G F es) : Snd cs G F (.callk m f perm es) := Snd.val (fun {cc X Wx e} ok h => by
    simp only [chk] at h
    split at h
    · rename_i x p kws pos he
      cases he
      simp only [Bool.and_eq_true] at h
      obtain ⟨⟨hg, hf⟩, h1⟩ := h
      obtain ⟨g1, g2⟩ := ok.gl hg
      obtain ⟨k, rm, gg⟩ := ok.room
      split at hf
      · rename_i i np dd ks hx hk
        simp only [Bool.and_eq_true, beq_iff_eq, decide_eq_true_eq] at hf
        obtain ⟨⟨⟨rfl, hkt⟩, hn⟩, hpl⟩ := hf
        obtain ⟨fa, fd, ps, hm, hkeep, Fn, hb⟩ := gg.kws x ks perm (by simpa using hkt) i np dd hx
        obtain ⟨k1, k2, k3, k4⟩ := kw_each (env := X.env) (pos := pos) hk
        refine ⟨⟨fun pins s σ H Q I q => ?_⟩, rfl⟩
        refine wpAny_Call_Name_kw (ld_glob I g1 hm ?_ g2)
        refine PySem.W.callWith_KW0 (h₀ := X.base) I.ok.mod.kin hkeep k1 (thn ((ia ok h1).run pos pins s σ H (fun us H1 => us.length = exLen es ∧ spF cs G np (F.call i) (perm.filterMap fun j => us[j]?) H1 Q (WE Wx σ)) I ?_) fun ws s2 ⟨zs, H2, I2, rz, q2l, q2⟩ => ⟨I2.kIn, ?_⟩) (by rw [k3]; rfl)
        · obtain ⟨W, en, st, b, R, V, g⟩ := q
          have hr : ∀ e st, evE F (.callk m i perm es) e st = bnd (evE F es e st) fun vs st => match vs with
            | .its vs => if vs.length = exLen es then match perm.mapM fun j => vs[j]? with
                | some us => callE F m i us st
                | none => .err
              else .err
            | _ => .err := fun _ _ => rfl
          rw [hr, EG_bnd] at g
          refine ⟨W, en, st, b, R, V, g.mono (fun a s b g => ?_) fun _ _ _ _ q => q⟩
          cases a <;> first
            | exact g.elim
            | skip
          rename_i vs
          dsimp only at g
          split at g
          · rename_i hl
            split at g
            · rename_i as ep
              refine ⟨vs, rfl, fun W1 H1 us x1 R1 r1 => ⟨by rw [← paired_len r1]; exact hl, ?_⟩⟩
              obtain ⟨q1, q2⟩ := perm_rel r1 ep
              have fl : Fills cs G F i as.length np [] [] := ⟨by simp [q2, hpl], fun W H => .nil, fun as st _ => by simp⟩
              have := sp_call (m := m) fl rfl R1 q1 (g.mono (fun a s b q W' H' v x' => q W' H' v (x1.trans x')) fun c fs s b q W' H' cls d x' => q W' H' cls d (x1.trans x'))
              simpa using this
            · exact g.elim
          · exact g.elim
        · rw [k2]
          have hws : ws.length = ks.length := by rw [← rz.length, q2l, hn, k4]
          refine wpAny_call (codeAny_mono (Fn.run X.A X.stack s2 H2 ⟨[], ks.zip ws⟩ (perm.filterMap fun j => ws[j]?) (perm.filterMap fun j => zs[j]?) Q (WE Wx σ) (rm.mono (Nat.le_succ _)) I2.env0 (hb s2 ws I2.kIn hws hpl) (perm_vals rz perm) q2) fun r s' hq => ?_)
          cases r with
          | error e => exact passAt ok.tk σ pins H2 s2 e s' I2 hq
          | ok fl =>
            cases fl with
            | ret u => exact I2.after hq
            | next => exact False.elim hq
            | brk => exact False.elim hq
            | cont => exact False.elim hq
      · cases hf
    · cases h) (fun cc tg e h => by simp [chk] at h) (fun cc es h => by simp [chk] at h) (fun cc k es h => by simp [chk] at h)
/-! ### the asking def -/
theorem lam_x {s : Shared} {H : Hp} {A : Around} {outer : List PySem.Env} {E : XK} {scope : Scope} {f c' : Addr} (ok : XOk cs G F cc X Wx) {k : Nat} (hr : Room (k + 1) (A.deeper (LamX.lamEnv X scope s.heap.objs.size f c'))) (gg : GloOk cs G F k X.prog X.w X.K X.mg X.base cc.gt cc.bs cc.kt) :
    XOk cs G F (inLam cc scope) (LamX.lamCx X A outer s H E scope f c') (fun cls d _ H => E cls d H) where
  N := ok.N
  nd := ok.nd
  calm := rfl
  sc := rfl
  fn := fun x => rfl
  tk := takes_of rfl rfl rfl rfl
  room := ⟨k, hr, gg⟩
  rep := fun h => by cases h
  met := fun x hs h => by cases h
theorem noPar_of {p : Arguments} (h : noPar p = true) : p = ⟨[], [], none, [], [], none, []⟩ := by
  unfold noPar at h
  split at h
  · rfl
  · cases h
theorem snd_met {hs : List (Nat × List Nat × List Nat)} {f : Nat} {b : Ex} (ib : Snd cs G F b) : Snd cs G F (.met hs f b) := Snd.val (fun {cc X Wx e} ok h => by
    simp only [chk] at h
    split at h
    · rename_i x p params body scope lpos pos he
      cases he
      simp only [Bool.and_eq_true, beq_iff_eq] at h
      obtain ⟨⟨⟨⟨hg, hm⟩, hL⟩, hp⟩, h1⟩ := h
      obtain ⟨g1, g2⟩ := ok.gl hg
      have hpar := noPar_of hp
      subst hpar
      obtain ⟨⟨g, c, P, pg, bg, sg, dV, kV, doc, pm, cdv, ct, oc, an, od, osl, Ng, a, n, m1, m2, m3, m4, m5, m6, ⟨m7, m8, m9⟩, m10, m11, m12, m13, m14, m15, m16, ⟨m17, m18⟩, m19, m20, m21, m22, m23⟩, k, rm, gg⟩ := ok.met x hs hm
      refine ⟨pe_metE (k := k + 1) (rb := evE F b) g1 m1 m2 m3 m4 m5 m6 m7 m8 m9 m10 m11 m12 m13 m14 m15 m16 m17 m18 rm (LamX.lamS_by (by rw [ok.sc]; exact hL)) rfl (fun q cl pm cv ctv => rfl) (fun A outer s H E f c' hr => ?_) m19 m20 m21 m22 m23 fun _ _ => rfl, rfl⟩
      exact (ib.e (lam_x ok hr gg) h1).1
    · cases h) (fun cc tg e h => by simp [chk] at h) (fun cc es h => by simp [chk] at h) (fun cc k es h => by simp [chk] at h)
theorem snd_wk {b : Bi} {es : Ex} (ia : Snd cs G F es) : Snd cs G F (.wk b es) where
  e := fun ok h => by simp [chk] at h
  a := fun ok h => by simp [chk] at h
  b := fun pos ok h => by simp [chk] at h
  i := fun {cc X Wx tg e} ok h => by
    simp only [chk] at h
    split at h
    · rename_i tg' x p l pos he
      cases he
      simp only [Bool.and_eq_true, beq_iff_eq] at h
      obtain ⟨⟨⟨⟨rfl, hx⟩, hst⟩, hb⟩, h1⟩ := h
      obtain ⟨g1, g2, g3⟩ := ok.blt hx
      have hA := ia.a ok h1
      split at hb
      · simp only [List.all_cons, List.all_nil, Bool.and_true] at hst
        exact pi_rangeE1 g1 g3 hA hst fun _ _ => rfl
      · simp only [List.all_cons, List.all_nil, Bool.and_true, Bool.and_eq_true] at hst
        exact pi_rangeE2 g1 g3 hA hst.1 hst.2 fun _ _ => rfl
      · simp only [List.all_cons, List.all_nil, Bool.and_true] at hst
        exact pi_enumE hb g1 g3 hA hst fun _ _ => rfl
      · simp only [List.all_cons, List.all_nil, Bool.and_true, Bool.and_eq_true] at hst
        exact pi_zipE hb g1 g3 hA hst.1 hst.2 fun _ _ => rfl
      · cases hb
    · cases h
theorem snd_frz {a : Ex} (ia : Snd cs G F a) : Snd cs G F (.frz a) := Snd.val (fun {cc X Wx e} ok h => by
    simp only [chk, Bool.and_eq_true] at h
    exact ⟨pe_frzE (ia.e ok h.2).1 fun _ _ => rfl, h.1⟩) (fun cc tg e h => by
    simp only [chk] at h ⊢; exact h) (fun cc es h => by simp [chk] at h) (fun cc k es h => by simp [chk] at h)
/-! ### comprehensions -/
theorem blk_ok {N : List Str} {sc scope : Scope} {own : List Nat} (h : blkB N sc scope own = true) : BlkOk N sc scope (ownN N own) := by
  simp only [blkB, Bool.and_eq_true, decide_eq_true_eq, List.all_eq_true, Bool.or_eq_true, Bool.not_eq_true', beq_iff_eq] at h
  obtain ⟨⟨⟨⟨h1, h2⟩, h3⟩, h4⟩, h5⟩ := h
  refine ⟨h1, fun y hy => h2 y hy, fun p hp => ?_, fun y hy e => ?_, fun y hy e => ?_⟩
  · obtain ⟨i, hi, rfl⟩ := List.mem_map.mp hp
    have := h3 i hi
    show N[i]? = some _
    rw [List.getElem?_eq_getElem this]; rfl
  · rcases h4 y hy with (z | z) | z
    · rw [e] at z; cases z
    · exact .inl z
    · exact .inr z
  · rcases h5 y hy with (z | z) | z
    · rcases e with e | e <;> rw [e] at z <;> cases z
    · rw [List.any_eq_true] at z
      obtain ⟨i, hi, z⟩ := z
      left
      refine List.mem_map.mpr ⟨_, List.mem_map.mpr ⟨i, hi, rfl⟩, ?_⟩
      have z' : N[i]? = some y.1 := by simpa using z
      show (N[i]?).getD _ = y.1
      rw [z']; rfl
    · right
      intro hm
      have : N.contains y.1 = true := by simpa using hm
      rw [this] at z; cases z
theorem own_ix (N : List Str) (own : List Nat) : (ownN N own).map (·.2) = own := by
  unfold ownN
  rw [List.map_map]
  exact List.map_id' _
theorem PTs.imp {es : List Expr} {t t' : TT} (h : PTs X es t) (i : ∀ σ H Q, t' σ H Q → t σ H Q) : PTs X es t' := ⟨fun pins s σ H Q I q => h.run pins s σ H Q I (i σ H Q q)⟩
theorem blk_x (ok : XOk cs G F cc X Wx) (scope : Scope) (s : Shared) (H : Hp) (C : Addr) (cl : List (Str × Addr)) (fp : List Addr) : XOk cs G F (inBlk cc scope) (X.blk s H scope (compEnvC scope cl C X.env) fp) Wn where
  N := ok.N
  nd := ok.nd
  calm := ok.calm
  sc := by
    show relabel scope X.env = relS scope cc.sc
    rw [← ok.sc]; rfl
  fn := fun _ => rfl
  tk := LamX.takes0
  room := ok.room
  rep := fun h => by cases h
  met := fun x hs h => by cases h
theorem snd_lc {m : Bool} {own : List Nat} {tg : Tg} {it cond x : Ex} (ii : Snd cs G F it) (ic : Snd cs G F cond) (ix : Snd cs G F x) : Snd cs G F (.lc m own tg it cond x) := Snd.val (fun {cc X Wx e} ok h => by
    simp only [chk] at h
    split at h
    · rename_i elt tg' iter ifs scope pos he
      cases he
      simp only [Bool.and_eq_true] at h
      obtain ⟨⟨⟨⟨⟨⟨hb, hown⟩, hset⟩, htg⟩, hit⟩, hif⟩, hx⟩ := h
      refine ⟨?_, rfl⟩
      have hfs : ∀ v, foldedSetIterable iter X.env v = pure v := by
        intro v
        cases iter <;> first | rfl | cases hset
      refine pe_lcE (own := ownN cc.N own) (m := m) (t := tg) (rc := evE F cond) (re := evE F x) ok.calm ok.nd (ii.i ok hit) (by rw [ok.N, ok.sc]; exact blk_ok hb) (fun s H C cl fp => ?_) (fun s H C cl fp => ?_) (fun s H C cl fp => ?_) hfs (by rw [own_ix]; exact hown) fun e st => by rw [own_ix]; rfl
      · have ok' := blk_x ok scope s H C cl fp
        refine pg_tgE ok'.calm ok'.nd ?_
        rw [ok'.N, ok'.sc]
        exact htg
      · have ok' := blk_x ok scope s H C cl fp
        cases ifs with
        | nil =>
          refine PTs.imp pts_nil fun σ H Q ⟨W, en, st, b, R, V, g⟩ => ?_
          dsimp only at hif
          split at hif
          · obtain ⟨t, et, q⟩ := g
            cases et
            exact q W H .refl R
          · cases hif
        | cons s1 r =>
          cases r with
          | nil => exact pts_one (ic.e ok' hif).2
          | cons _ _ => cases hif
      · exact (ix.e (blk_x ok scope s H C cl fp) hx).1
    · cases h) (fun cc tg e h => by simp [chk] at h) (fun cc es h => by simp [chk] at h) (fun cc k es h => by simp [chk] at h)
theorem pts_of {cond : Ex} {ifs : List Expr} (ic : Snd cs G F cond) (ok : XOk cs G F cc X Wx) (hif : (match one? ifs with
        | some (some s) => chk cond cc (.e s)
        | some none => isYes cond
        | none => false) = true) : PTs X ifs (tT cs G Wx (evE F cond)) := by
  cases ifs with
  | nil =>
    refine PTs.imp pts_nil fun σ H Q ⟨W, en, st, b, R, V, g⟩ => ?_
    have h : isYes cond = true := hif
    unfold isYes at h
    split at h
    · obtain ⟨t, et, q⟩ := g
      cases et
      exact q W H .refl R
    · cases h
  | cons s1 r =>
    cases r with
    | nil => exact pts_one (ic.e ok hif).2
    | cons _ _ => cases hif
theorem lc2Of_e {t : Tx} {q : Lc2} (h : lc2Of t = some q) : ∃ pos, t = .e (.ListComp q.elt [⟨q.l, q.iter, q.ifs, 0⟩, ⟨q.l1, q.iter1, q.ifs1, 0⟩] q.scope pos) := by
  unfold lc2Of at h
  split at h
  · cases h; exact ⟨_, rfl⟩
  · cases h
theorem snd_lc2 {m : Bool} {own own1 : List Nat} {tg tg1 : Tg} {it cond it1 cond1 x : Ex} (ii : Snd cs G F it) (ic : Snd cs G F cond) (ii1 : Snd cs G F it1) (ic1 : Snd cs G F cond1) (ix : Snd cs G F x) : Snd cs G F (.lc2 m own own1 tg it cond tg1 it1 cond1 x) := Snd.val (fun {cc X Wx e} ok h => by
    simp only [chk] at h
    split at h
    · rename_i q hq
      obtain ⟨pos, he⟩ := lc2Of_e hq
      cases he
      simp only [Bool.and_eq_true, lc2B] at h
      obtain ⟨⟨⟨⟨⟨⟨⟨⟨⟨⟨⟨⟨hb, hv⟩, hown⟩, hown1⟩, hset⟩, hset1⟩, htg⟩, htg1⟩, hit⟩, hit1⟩, hif⟩, hif1⟩, hx⟩ := h
      obtain ⟨elt, l, iter, ifs, l1, iter1, ifs1, scope⟩ := q
      refine ⟨?_, rfl⟩
      have hfs : ∀ v, foldedSetIterable iter X.env v = pure v := by
        intro v
        cases iter <;> first | rfl | cases hset
      have hfs1 : ∀ env v, foldedSetIterable iter1 env v = pure v := by
        intro env v
        cases iter1 <;> first | rfl | cases hset1
      refine pe_lc2E (own := ownN cc.N own) (own1 := own1) (m := m) (t := tg) (t1 := tg1) (rc := evE F cond) (rc1 := evE F cond1) (ri1 := evE F it1) (re := evE F x) ok.calm ok.nd (ii.i ok hit) (by rw [ok.N, ok.sc]; exact blk_ok hb) (fun i hi => ?_) (fun s H C cl fp => ?_) (fun s H C cl fp => pts_of ic (blk_x ok scope s H C cl fp) hif) (fun s H C cl fp => ii1.i (blk_x ok scope s H C cl fp) hit1) (fun s H C cl fp => ?_) (fun s H C cl fp => pts_of ic1 (blk_x ok scope s H C cl fp) hif1) (fun s H C cl fp => (ix.e (blk_x ok scope s H C cl fp) hx).1) hfs hfs1 (by rw [own_ix]; exact hown) hown1 fun e st => by rw [own_ix]; rfl
      · rw [own_ix]
        have := List.all_eq_true.mp hv i hi
        simpa using this
      · have ok' := blk_x ok scope s H C cl fp
        refine pg_tgE ok'.calm ok'.nd ?_
        rw [ok'.N, ok'.sc]
        exact htg
      · have ok' := blk_x ok scope s H C cl fp
        refine pg_tgE ok'.calm ok'.nd ?_
        rw [ok'.N, ok'.sc]
        exact htg1
    · cases h) (fun cc tg e h => by simp [chk, lc2Of] at h) (fun cc es h => by simp [chk, lc2Of] at h) (fun cc k es h => by simp [chk, lc2Of] at h)
theorem snd_lrg {m : Bool} {a : Ex} (ia : Snd cs G F a) : Snd cs G F (.lrg m a) := Snd.val (fun {cc X Wx e} ok h => by
    simp only [chk] at h
    split at h
    · rename_i x p y p2 r p3 p4 he
      cases he
      simp only [Bool.and_eq_true, beq_iff_eq] at h
      obtain ⟨⟨⟨⟨⟨rfl, rfl⟩, hx⟩, hy⟩, hst⟩, h1⟩ := h
      obtain ⟨g1, _, g3⟩ := ok.blt hx
      obtain ⟨k1, _, k3⟩ := ok.blt hy
      exact ⟨pe_lrgE ok.calm g1 g3 k1 k3 (ia.e ok h1).1 hst fun _ _ => rfl, rfl⟩
    · cases h) (fun cc tg e h => by simp [chk] at h) (fun cc es h => by simp [chk] at h) (fun cc k es h => by simp [chk] at h)
theorem snd_litm {a : Ex} (ia : Snd cs G F a) : Snd cs G F (.litm a) := Snd.val (fun {cc X Wx e} ok h => by
    simp only [chk] at h
    split at h
    · rename_i x p l n ap q pos he
      cases he
      simp only [Bool.and_eq_true, beq_iff_eq] at h
      obtain ⟨⟨⟨⟨⟨rfl, rfl⟩, hx⟩, hn⟩, hl⟩, h1⟩ := h
      obtain ⟨g1, _, g3⟩ := ok.blt hx
      exact ⟨pe_litmE ok.calm g1 g3 (ia.e ok h1).1 (by cases l <;> first | rfl | cases hn) (by simpa using hl) fun _ _ => rfl, rfl⟩
    · cases h) (fun cc tg e h => by simp [chk] at h) (fun cc es h => by simp [chk] at h) (fun cc k es h => by simp [chk] at h)
mutual
/-- the checker of expressions is right -/
theorem sound : ∀ x : Ex, Snd cs G F x
  | .nope => snd_nope
  | .c d => snd_c d
  | .v i => snd_v i
  | .gc _ _ => .no fun cc t h => by simp [chk] at h
  | .bin _ a b => snd_bin (sound a) (sound b)
  | .neg a => snd_neg (sound a)
  | .bo _ a b => snd_bo (sound a) (sound b)
  | .not a => snd_not (sound a)
  | .cmp _ a b => snd_cmp (sound a) (sound b)
  | .cmp2 _ _ a b c => snd_cmp2 (sound a) (sound b) (sound c)
  | .ite t a b => snd_ite (sound t) (sound a) (sound b)
  | .tup es => snd_tup (sound es)
  | .lst _ es => snd_lst (sound es)
  | .dct _ => snd_dct
  | .ix a b => snd_ix (sound a) (sound b)
  | .sl a lo hi => snd_sl (sound a) (sound lo) (sound hi)
  | .rev a => snd_rev (sound a)
  | .fld _ _ => .no fun cc t h => by simp [chk] at h
  | .isi a _ => snd_isi (sound a)
  | .call _ _ es => snd_call (sound es)
  | .callk _ _ _ es => snd_callk (soundK es)
  | .met _ _ b => snd_met (sound b)
  | .bi _ es => snd_bi (sound es)
  | .wk _ es => snd_wk (sound es)
  | .wm _ _ => .no fun cc t h => by simp [chk] at h
  | .mt _ o es => snd_mt (sound o) (sound es)
  | .thk => .no fun cc t h => by simp [chk] at h
  | .lc _ _ _ it cond x => snd_lc (sound it) (sound cond) (sound x)
  | .lc2 _ _ _ _ it cond _ it1 cond1 x => snd_lc2 (sound it) (sound cond) (sound it1) (sound cond1) (sound x)
  | .frz a => snd_frz (sound a)
  | .lrg _ a => snd_lrg (sound a)
  | .litm a => snd_litm (sound a)
  | .nil => snd_nil
  | .cons a b => snd_cons (sound a) (sound b)
theorem soundK : ∀ x : Ex, SndK cs G F x
  | .nil => sndK_nil
  | .cons a b => sndK_cons (sound a) (soundK b)
  | .nope => fun _ _ => ⟨fun _ _ _ _ _ _ _ q => (here_err (K := fun W H => KA G W H _) (fun _ _ => rfl) q).elim⟩
  | .c _ => fun _ h => by simp [chk, lc2Of] at h
  | .v _ => fun _ h => by simp [chk, lc2Of] at h
  | .gc _ _ => fun _ h => by simp [chk, lc2Of] at h
  | .bin _ _ _ => fun _ h => by simp [chk, lc2Of] at h
  | .neg _ => fun _ h => by simp [chk, lc2Of] at h
  | .bo _ _ _ => fun _ h => by simp [chk, lc2Of] at h
  | .not _ => fun _ h => by simp [chk, lc2Of] at h
  | .cmp _ _ _ => fun _ h => by simp [chk, lc2Of] at h
  | .cmp2 _ _ _ _ _ => fun _ h => by simp [chk, lc2Of] at h
  | .ite _ _ _ => fun _ h => by simp [chk, lc2Of] at h
  | .tup _ => fun _ h => by simp [chk, lc2Of] at h
  | .lst _ _ => fun _ h => by simp [chk, lc2Of] at h
  | .dct _ => fun _ h => by simp [chk, lc2Of] at h
  | .ix _ _ => fun _ h => by simp [chk, lc2Of] at h
  | .sl _ _ _ => fun _ h => by simp [chk, lc2Of] at h
  | .rev _ => fun _ h => by simp [chk, lc2Of] at h
  | .fld _ _ => fun _ h => by simp [chk, lc2Of] at h
  | .isi _ _ => fun _ h => by simp [chk, lc2Of] at h
  | .call _ _ _ => fun _ h => by simp [chk, lc2Of] at h
  | .callk _ _ _ _ => fun _ h => by simp [chk, lc2Of] at h
  | .met _ _ _ => fun _ h => by simp [chk, lc2Of] at h
  | .bi _ _ => fun _ h => by simp [chk, lc2Of] at h
  | .wk _ _ => fun _ h => by simp [chk, lc2Of] at h
  | .wm _ _ => fun _ h => by simp [chk, lc2Of] at h
  | .mt _ _ _ => fun _ h => by simp [chk, lc2Of] at h
  | .thk => fun _ h => by simp [chk, lc2Of] at h
  | .lc _ _ _ _ _ _ => fun _ h => by simp [chk, lc2Of] at h
  | .lc2 _ _ _ _ _ _ _ _ _ _ => fun _ h => by simp [chk, lc2Of] at h
  | .frz _ => fun _ h => by simp [chk, lc2Of] at h
  | .lrg _ _ => fun _ h => by simp [chk, lc2Of] at h
  | .litm _ => fun _ h => by simp [chk, lc2Of] at h
end
end
end EV

end
section
set_option Elab.async false
set_option linter.all false
set_option maxRecDepth 100000
set_option maxHeartbeats 4000000
/-! EV 25: the checker of statements. -/
namespace EV
open PySem PySem.Spec PyProof.Rows L2
open LamX (Tabs TabS CodeO ExtN)
inductive Sx where | s (st : Stmt) | b (sts : List Stmt)
/-- names stored from the right: the very names, or none -/
def swNames (ts : List Expr) (sc : Scope) (line : Nat) : List Str := ts.filterMap fun
  | .Name id pos => if sc.names.lookup id == some .local && pos.line == line then some id else none
  | _ => none
def isStar : Expr → Bool
  | .Starred .. => true
  | _ => false
def swK (ts vs : List Expr) (sc : Scope) : Option (Option (List Str)) :=
  if !(ts.length == 2 || ts.length == 3) || vs.length != ts.length then some none
  else if vs.any isStar then some none
  else
    let names := swNames ts sc ((ts.head?.map (·.pos.line)).getD 0)
    if names.length != ts.length || names.eraseDups.length != names.length then some none
    else if vs.all (foldedForSure 8) then some none
    else if vs.all (constantsAlone 8) then none
    else some (some names)
def isTup : Expr → Bool
  | .Tuple _ _ _ => true
  | _ => false
def isTupL : Expr → Bool
  | .Tuple _ _ _ => true
  | .List _ _ => true
  | _ => false
/-- nothing is stored from the right -/
def swNone (tg e : Expr) (sc : Scope) : Bool := !isTupL tg || !isTup e || (match tg, e with
  | .Tuple ts _ _, .Tuple vs _ _ => swK ts vs sc == some none
  | _, _ => false)
/-- name = [.. for ..] whose list is stored from within -/
def lcSw (e : Expr) (tg : Expr) (sc : Scope) : Bool := match e, tg with
  | .ListComp _ _ scope pos, .Name y py => sc.names.lookup y == some .local && py.line == pos.line && !(scope.names.any fun (n, k) => n == y && (k == .local || k == .cell))
  | _, _ => false
def nmIs (N : List Str) (sc : Scope) (i : Nat) : Expr → Bool
  | .Name x _ => N[i]? == some x && sc.names.lookup x == some .local
  | _ => false
def lcOk (e : Expr) : Bool := match e with
  | .ListComp _ _ _ _ => true
  | e => notLc e
def borN : St → Option Nat
  | .bor n _ => some n
  | _ => none
def chkS : St → CC → Sx → Bool
  | .nope, _, _ => true
  | .skip, _, t => match t with
    | .s (.Pass _) => true
    | .s (.Expr (.Constant (.str _) _ _) _) => true
    | .b [] => true
    | _ => false
  | .seq s r, c, t => match t with
    | .b sts => match borN s with
      | some n => chkS s c (.b (sts.take n)) && chkS r c (.b (sts.drop n))
      | none => match sts with
        | st :: sts => chkS s c (.s st) && chkS r c (.b sts)
        | [] => false
    | _ => false
  | .bor _ b, c, t => match t with
    | .b sts => chkS b c (.b sts)
    | _ => false
  | .ex x, c, t => match t with
    | .s (.Expr e _) => notLc e && chk x c (.e e)
    | _ => false
  | .ret x, c, t => match t with
    | .s (.Return (some e) _) => chk x c (.e e)
    | .s (.Return none _) => (match x with
      | .c .non => true
      | _ => false)
    | _ => false
  | .set tg x, c, t => match t with
    | .s (.Assign [l] e _) => chkTg c.N c.sc c.fn tg l && lcOk e && (if lcSw e l c.sc then (match x, tg with
        | .lc _ _ _ _ _ _, .nm i => nmIs c.N c.sc i l && chk x c (.e e)
        | _, _ => false) else swNone l e c.sc && chk x c (.e e))
    | _ => false
  | .par is es, c, t => match t with
    | .s (.Assign [.Tuple ts _ _] (.Tuple vs _ _) _) => (match is, ts, vs with
        | [i, j], [x, y], [_, _] => nmIs c.N c.sc i x && nmIs c.N c.sc j y && !(i == j)
        | [i, j, l], [x, y, z], [_, _, _] => nmIs c.N c.sc i x && nmIs c.N c.sc j y && nmIs c.N c.sc l z && !(i == j) && !(i == l) && !(j == l)
        | _, _, _ => false) && (match swK ts vs c.sc with
        | some (some ns) => ns == swNames ts c.sc ((ts.head?.map (·.pos.line)).getD 0) && ns.length == ts.length
        | _ => false) && chk es c (.a vs)
    | _ => false
  | .setix o i x, c, t => match t with
    | .s (.Assign [.Subscript l r _] e _) => notLc e && plainB r && chk x c (.e e) && chk o c (.e l) && chk i c (.e r)
    | _ => false
  | .aug i o x, c, t => match t with
    | .s (.AugAssign (.Name y p) q e _) => (o == .add || o == .sub) && decide (q = bopOf o) && chkNm c.N c.sc c.fn i (.Name y p) && chk x c (.e e)
    | _ => false
  | .iff x a b, c, t => match t with
    | .s (.If e l r _) => chk x c (.e e) && chkS a c (.b l) && chkS b c (.b r)
    | _ => false
  | .whl x b, c, t => match t with
    | .s (.While e l [] _) => chk x c (.e e) && chkS b c (.b l)
    | _ => false
  | .for tg it b, c, t => match t with
    | .s (.For l e r [] _) => noSet e && chkTg c.N c.sc c.fn tg l && chk it c (.i l e) && chkS b c (.b r)
    | _ => false
  | .raise k es, c, t => match t with
    | .s (.Raise (some (.Call (.Name x _) [e] [] _)) none _) => c.gl x && notStar e && decide (exLen es = 1) && (match c.gt.lookup x with
        | some (.err k') => k' == k
        | _ => false) && chk es c (.a [e])
    | _ => false
  | .brk, _, t => match t with
    | .s (.Break _) => true
    | _ => false
  | .cont, _, t => match t with
    | .s (.Continue _) => true
    | _ => false
  | _, _, _ => false
/-! ### what the checks mean -/
theorem blockKind_of {env : PySem.Env} (h : env.scope.kind = .function) : env.blockKind = .function := by
  unfold Env.blockKind; rw [h]; rfl
theorem swNames_of {ts : List Expr} {env : PySem.Env} {line : Nat} : (ts.filterMap fun
    | .Name id pos => if env.kindOf id == some .local && pos.line == line then some id else none
    | _ => none) = swNames ts env.scope line := rfl
theorem sw_eq (ts vs : List Expr) (env : PySem.Env) (k k2 : Nat) (p p2 : Pos) : swappedStores [.Tuple ts k p] (.Tuple vs k2 p2) env =
    if (!(ts.length == 2 || ts.length == 3) || vs.length != ts.length || env.blockKind != .function) = true then pure none
    else if vs.any isStar = true then pure none
    else if ((swNames ts env.scope ((ts.head?.map (·.pos.line)).getD 0)).length != ts.length || (swNames ts env.scope ((ts.head?.map (·.pos.line)).getD 0)).eraseDups.length != (swNames ts env.scope ((ts.head?.map (·.pos.line)).getD 0)).length) = true then pure none
    else if vs.all (foldedForSure 8) = true then pure none
    else if vs.all (constantsAlone 8) = true then (do let _ : PUnit ← unsupported "assign.tuple-of-constant-expressions:order-of-the-stores"; pure (some (swNames ts env.scope ((ts.head?.map (·.pos.line)).getD 0))))
    else pure (some (swNames ts env.scope ((ts.head?.map (·.pos.line)).getD 0))) := by
  rfl
theorem swK_ok {ts vs : List Expr} {env : PySem.Env} {r : Option (List Str)} {k k2 : Nat} {p p2 : Pos} (hk : env.scope.kind = .function) (h : swK ts vs env.scope = some r) : swappedStores [.Tuple ts k p] (.Tuple vs k2 p2) env = pure r := by
  unfold swK at h
  rw [sw_eq, blockKind_of hk]
  have e0 : ∀ b : Bool, (b || PySem.ScopeKind.function != .function) = b := fun b => by cases b <;> rfl
  rw [e0]
  split at h
  · rename_i c; cases h; rw [if_pos c]
  · rename_i c
    rw [if_neg c]
    split at h
    · rename_i c; cases h; rw [if_pos c]
    · rename_i c
      rw [if_neg c]
      dsimp only at h
      split at h
      · rename_i c; cases h; rw [if_pos c]
      · rename_i c
        rw [if_neg c]
        split at h
        · rename_i c; cases h; rw [if_pos c]
        · rename_i c
          rw [if_neg c]
          split at h
          · cases h
          · rename_i c; cases h; rw [if_neg c]
theorem swNone_ok {tg e : Expr} {env : PySem.Env} (hk : env.scope.kind = .function) (h : swNone tg e env.scope = true) : swappedStores [tg] e env = pure none := by
  simp only [swNone, Bool.or_eq_true, Bool.not_eq_true'] at h
  rcases h with (h | h) | h
  · cases tg <;> first | rfl | cases h
  · cases e <;> first | (cases tg <;> rfl) | cases h
  · split at h
    · exact swK_ok hk (by simpa using h)
    · cases h
theorem swLc {elt : Expr} {gs : List Comprehension} {scope : Scope} {pos py : Pos} {y : Str} {l : Nat} {env : PySem.Env} (hk : env.scope.kind = .function) :
    swapsWith (.ListComp elt gs scope pos) (some (.Name y py)) l env = pure (env.scope.names.lookup y == some .local && py.line == pos.line && !(scope.names.any fun (n, k) => n == y && (k == .local || k == .cell))) := by
  have e : swapsWith (.ListComp elt gs scope pos) (some (.Name y py)) l env = pure (env.blockKind == .function && env.kindOf y == some .local && py.line == pos.line && !(scope.names.any fun (n, k) => n == y && (k == .local || k == .cell))) := rfl
  rw [e, blockKind_of hk]
  rfl
theorem swSole {tg e : Expr} {l : Nat} {env : PySem.Env} (hk : env.scope.kind = .function) (ho : lcOk e = true) (h : lcSw e tg env.scope = false) : swapsWithSole [tg] e l env = pure false := by
  show swapsWith e (some tg) l env = pure false
  cases e <;> (try (cases ho; done)) <;> (try rfl)
  cases tg <;> (try rfl)
  rw [swLc hk]
  exact congrArg pure h
theorem assign_one {N : List Str} {sc : Scope} {fn : Str → Bool} {t : Tg} {l : Expr} {env : PySem.Env} (h : chkTg N sc fn t l = true) : (assignEach [l] env).map (·.2) = [assign l env] := by
  cases t <;> cases l <;> first | rfl | (simp [chkTg, chkNm] at h)
end EV

end
section
set_option Elab.async false
set_option linter.all false
set_option maxRecDepth 100000
set_option maxHeartbeats 4000000
/-! EV 26: the checker of statements is right. -/
namespace EV
open PySem PySem.Spec PyProof.Rows L2
open LamX (Tabs TabS CodeO ExtN)
structure SOk (cs : List ErrC) (G : Gd) (F : Cfg) (cc : CC) (X : Cx) (Wx : WX) : Prop extends XOk cs G F cc X Wx where
  hp : PassesOwn (model X.prog X.w) X.A X.env X.xe
  kind : X.env.scope.kind = .function
  errs : ∀ x c, cc.gt.lookup x = some (.err c) → ∃ ec k, cs[c]? = some ec ∧ X.mg x = some (.ref ec.at') ∧ ErrMk X k ec ∧ Room (k + 1) X.A
section
variable {cs : List ErrC} {G : Gd} {F : Cfg} {cc : CC} {X : Cx} {Wx : WX}
structure SndS (cs : List ErrC) (G : Gd) (F : Cfg) (x : St) : Prop where
  s : ∀ {cc X Wx st}, SOk cs G F cc X Wx → chkS x cc (.s st) = true → PS X st (tS cs G Wx (evS F x))
  b : ∀ {cc X Wx sts rest t}, SOk cs G F cc X Wx → chkS x cc (.b sts) = true → PSs X rest t → PSs X (sts ++ rest) (tSeq (tS cs G Wx (evS F x)) t)
theorem SndS.one {x : St} (h : ∀ {cc X Wx st}, SOk cs G F cc X Wx → chkS x cc (.s st) = true → PS X st (tS cs G Wx (evS F x))) (hb : ∀ cc sts, chkS x cc (.b sts) = true → False) : SndS cs G F x := ⟨h, fun _ q => (hb _ _ q).elim⟩
theorem SndS.no {x : St} (h : ∀ cc t, chkS x cc t = true → False) : SndS cs G F x := ⟨fun _ q => (h _ _ q).elim, fun _ q => (h _ _ q).elim⟩
theorem ss_nope : SndS cs G F .nope where
  s := fun ok _ => ⟨fun _ _ _ _ _ _ ⟨_, _, _, _, _, _, g⟩ => g.elim⟩
  b := fun ok _ _ => ⟨fun _ _ _ _ _ _ ⟨_, _, _, _, _, _, g⟩ => g.elim⟩
theorem ss_skip : SndS cs G F .skip where
  s := fun ok h => by
    simp only [chkS] at h
    split at h
    · rename_i he; cases he; exact ps_passE fun _ _ => rfl
    · rename_i he; cases he; exact ps_docE fun _ _ => rfl
    · rename_i he; cases he
    · cases h
  b := fun {cc X Wx sts rest t} ok h hr => by
    simp only [chkS] at h
    split at h
    · rename_i he; cases he
    · rename_i he; cases he
    · rename_i he; cases he
      exact PSs.imp hr fun Dn σ H ⟨W, e, st, b, R, V, g⟩ => g W H σ .refl R V
    · cases h
theorem ss_bor {n : Nat} {b : St} (ib : SndS cs G F b) : SndS cs G F (.bor n b) where
  s := fun ok h => by simp [chkS] at h
  b := fun {cc X Wx sts rest t} ok h hr => by
    simp only [chkS] at h
    exact PSs.imp (ib.b ok h hr) fun Dn σ H q => bor_read (run := evS F b) q
theorem ss_seq {s r : St} (is : SndS cs G F s) (ir : SndS cs G F r) : SndS cs G F (.seq s r) where
  s := fun ok h => by simp [chkS] at h
  b := fun {cc X Wx sts rest t} ok h hr => by
    simp only [chkS] at h
    have imp : ∀ Dn σ H, tSeq (tS cs G Wx (evS F (.seq s r))) t Dn σ H → tSeq (tS cs G Wx (evS F s)) (tSeq (tS cs G Wx (evS F r)) t) Dn σ H := fun Dn σ H q => seq_read (ra := evS F s) (rb := evS F r) (Dn := { Dn with nx := t Dn }) q
    split at h
    · rename_i n hn
      simp only [Bool.and_eq_true] at h
      have q := is.b ok h.1 (ir.b ok h.2 hr)
      rw [← List.append_assoc, List.take_append_drop] at q
      exact PSs.imp q imp
    · cases sts with
      | nil => cases h
      | cons st sts =>
        have h' : (chkS s cc (.s st) && chkS r cc (.b sts)) = true := h
        simp only [Bool.and_eq_true] at h'
        exact PSs.imp (pss_cons (is.s ok h'.1) (ir.b ok h'.2 hr)) imp
theorem ss_ex {x : Ex} : SndS cs G F (.ex x) := SndS.one (fun {cc X Wx st} ok h => by
    simp only [chkS] at h
    split at h
    · rename_i e pos he
      cases he
      simp only [Bool.and_eq_true] at h
      have hs : swapsWith e none pos.line X.env = pure false := by
        have h1 := h.1
        cases e <;> first | rfl | cases h1
      exact ps_exprE ((sound x).e ok.toXOk h.2).1 hs fun _ _ => rfl
    · cases h) fun cc sts h => by simp [chkS] at h
theorem ss_ret {x : Ex} : SndS cs G F (.ret x) := SndS.one (fun {cc X Wx st} ok h => by
    simp only [chkS] at h
    split at h
    · rename_i e pos he
      cases he
      exact ps_retE ((sound x).e ok.toXOk h).1 fun _ _ => rfl
    · rename_i pos he
      cases he
      split at h
      · exact ps_retNE fun _ _ => rfl
      · cases h
    · cases h) fun cc sts h => by simp [chkS] at h
theorem ss_set {t : Tg} {x : Ex} : SndS cs G F (.set t x) := SndS.one (fun {cc X Wx st} ok h => by
    simp only [chkS] at h
    split at h
    · rename_i l e pos he
      cases he
      simp only [Bool.and_eq_true] at h
      obtain ⟨⟨htg, ho⟩, h⟩ := h
      have hk := ok.kind
      have htg' : chkTg X.N X.env.scope X.fn t l = true := by
        rw [ok.N, ok.sc, show X.fn = cc.fn from funext ok.fn]; exact htg
      split at h
      · rename_i hsw
        split at h
        · rename_i m own tg it cond x i
          simp only [Bool.and_eq_true] at h
          obtain ⟨hn, h⟩ := h
          -- the parts of the comprehension
          cases l <;> try (cases hn; done)
          rename_i y py
          simp only [nmIs, Bool.and_eq_true, beq_iff_eq] at hn
          simp only [chk] at h
          split at h
          · rename_i elt tg' iter ifs scope lp he
            cases he
            simp only [Bool.and_eq_true] at h
            obtain ⟨⟨⟨⟨⟨⟨hb, hown⟩, hset⟩, htg2⟩, hit⟩, hif⟩, hx⟩ := h
            have hfs : ∀ v, foldedSetIterable iter X.env v = pure v := by
              intro v
              cases iter <;> first | rfl | cases hset
            refine ps_setLcE (own := ownN cc.N own) (m := m) (t := tg) (rc := evE F cond) (re := evE F x) (ri := evE F it) ok.calm ok.nd (by rw [ok.N]; exact hn.1) (by rw [ok.sc]; exact hn.2) ?_ ((sound it).i ok.toXOk hit) (by rw [ok.N, ok.sc]; exact blk_ok hb) (fun s H C cl fp => ?_) (fun s H C cl fp => ?_) (fun s H C cl fp => ?_) hfs (by rw [own_ix]; exact hown) fun e st => by rw [own_ix]; rfl
            · rw [swLc hk, ok.sc]
              exact congrArg pure hsw
            · have ok' := blk_x ok.toXOk scope s H C cl fp
              refine pg_tgE ok'.calm ok'.nd ?_
              rw [ok'.N, ok'.sc]
              exact htg2
            · have ok' := blk_x ok.toXOk scope s H C cl fp
              cases ifs with
              | nil =>
                refine PTs.imp pts_nil fun σ H Q ⟨W, en, st, b, R, V, g⟩ => ?_
                dsimp only at hif
                split at hif
                · obtain ⟨t, et, q⟩ := g
                  cases et
                  exact q W H .refl R
                · cases hif
              | cons s1 r =>
                cases r with
                | nil => exact pts_one ((sound cond).e ok' hif).2
                | cons _ _ => cases hif
            · exact ((sound x).e (blk_x ok.toXOk scope s H C cl fp) hx).1
          · cases h
        · cases h
      · rename_i hsw
        simp only [Bool.and_eq_true] at h
        have hsw' : lcSw e l cc.sc = false := by simpa using hsw
        exact ps_setE ((sound x).e ok.toXOk h.2).1 (pg_tgE ok.calm ok.nd htg') (swSole hk ho (by rw [ok.sc]; exact hsw')) (swNone_ok hk (by rw [ok.sc]; exact h.1)) (assign_one htg) fun _ _ => rfl
    · cases h) fun cc sts h => by simp [chkS] at h
theorem ss_setix {o i x : Ex} : SndS cs G F (.setix o i x) := SndS.one (fun {cc X Wx st} ok h => by
    simp only [chkS] at h
    split at h
    · rename_i l r p e pos he
      cases he
      simp only [Bool.and_eq_true] at h
      obtain ⟨⟨⟨⟨hl, hp⟩, h1⟩, h2⟩, h3⟩ := h
      obtain ⟨k, rm, _⟩ := ok.room
      refine ps_setixE (by have := rm.un; omega) ((sound x).e ok.toXOk h1).1 ((sound o).e ok.toXOk h2).1 ((sound i).e ok.toXOk h3).1 (fun v => ?_) ?_ ?_ fun _ _ => rfl
      · cases r <;> first | rfl | cases hp
      · show swapsWith e (some (.Subscript l r p)) pos.line X.env = pure false
        cases e <;> first | rfl | cases hl
      · rfl
    · cases h) fun cc sts h => by simp [chkS] at h
theorem ss_aug {i : Nat} {o : EV.BOp} {x : Ex} : SndS cs G F (.aug i o x) := SndS.one (fun {cc X Wx st} ok h => by
    simp only [chkS] at h
    split at h
    · rename_i y p q e pos he
      cases he
      simp only [Bool.and_eq_true, Bool.or_eq_true, beq_iff_eq, decide_eq_true_eq] at h
      obtain ⟨⟨⟨ho, rfl⟩, hn⟩, h1⟩ := h
      simp only [chkNm, Bool.and_eq_true, Bool.or_eq_true, beq_iff_eq] at hn
      obtain ⟨n1, n2⟩ := hn
      refine ps_augE ho ok.nd (by rw [ok.N]; exact n1) ?_ ?_ ((sound x).e ok.toXOk h1).1 fun _ _ => rfl
      · rw [ok.sc]
        rcases n2 with n2 | ⟨n2, _⟩
        · exact .inl n2
        · exact .inr n2
      · rw [ok.sc, ok.fn]
        rcases n2 with n2 | ⟨_, n2⟩
        · exact .inr n2
        · exact .inl n2
    · cases h) fun cc sts h => by simp [chkS] at h
theorem ss_iff {x : Ex} {a b : St} (ia : SndS cs G F a) (ib : SndS cs G F b) : SndS cs G F (.iff x a b) := SndS.one (fun {cc X Wx st} ok h => by
    simp only [chkS] at h
    split at h
    · rename_i e l r pos he
      cases he
      simp only [Bool.and_eq_true] at h
      obtain ⟨⟨h1, h2⟩, h3⟩ := h
      have pa := ia.b ok h2 pss_nil
      have pb := ib.b ok h3 pss_nil
      rw [List.append_nil] at pa pb
      exact ps_ifE ((sound x).e ok.toXOk h1).2 (PSs.imp pa fun Dn σ H q => q) (PSs.imp pb fun Dn σ H q => q) fun _ _ => rfl
    · cases h) fun cc sts h => by simp [chkS] at h
theorem ss_whl {x : Ex} {b : St} (ib : SndS cs G F b) : SndS cs G F (.whl x b) := SndS.one (fun {cc X Wx st} ok h => by
    simp only [chkS] at h
    split at h
    · rename_i e l pos he
      cases he
      simp only [Bool.and_eq_true] at h
      obtain ⟨h1, h3⟩ := h
      have pb := ib.b ok h3 pss_nil
      rw [List.append_nil] at pb
      exact ps_whlE ok.hp ((sound x).e ok.toXOk h1).2 (PSs.imp pb fun Dn σ H q => q) fun _ _ => rfl
    · cases h) fun cc sts h => by simp [chkS] at h
theorem ss_for {t : Tg} {it : Ex} {b : St} (ib : SndS cs G F b) : SndS cs G F (.for t it b) := SndS.one (fun {cc X Wx st} ok h => by
    simp only [chkS] at h
    split at h
    · rename_i l e r pos he
      cases he
      simp only [Bool.and_eq_true] at h
      obtain ⟨⟨⟨hn, htg⟩, h1⟩, h3⟩ := h
      have pb := ib.b ok h3 pss_nil
      rw [List.append_nil] at pb
      have htg' : chkTg X.N X.env.scope X.fn t l = true := by
        rw [ok.N, ok.sc, show X.fn = cc.fn from funext ok.fn]; exact htg
      refine ps_forE ok.hp ok.calm ((sound it).i ok.toXOk h1) (pg_tgE ok.calm ok.nd htg') (PSs.imp pb fun Dn σ H q => q) (fun v => ?_) fun _ _ => rfl
      cases e <;> first | rfl | cases hn
    · cases h) fun cc sts h => by simp [chkS] at h
theorem ss_raise {c : Nat} {es : Ex} : SndS cs G F (.raise c es) := SndS.one (fun {cc X Wx st} ok h => by
    simp only [chkS] at h
    split at h
    · rename_i x p e cp pos he
      cases he
      simp only [Bool.and_eq_true, decide_eq_true_eq] at h
      obtain ⟨⟨⟨⟨hg, hst⟩, hl⟩, hx⟩, h1⟩ := h
      obtain ⟨g1, g2⟩ := ok.gl hg
      split at hx
      · rename_i k' hk'
        have : k' = c := by simpa using hx
        subst this
        obtain ⟨ec, k, e1, e2, e3, e4⟩ := ok.errs x k' hk'
        exact ps_raiseE ok.calm ok.tk e1 e3 e4 g1 e2 ((sound es).a ok.toXOk h1) hst g2 fun e st => by
          show sBnd (evE F es e st) e _ = _
          first | (rw [hl]; rfl) | rw [hl]
      · cases hx
    · cases h) fun cc sts h => by simp [chkS] at h
theorem ss_brk : SndS cs G F .brk := SndS.one (fun {cc X Wx st} ok h => by
    simp only [chkS] at h
    split at h
    · rename_i pos he; cases he; exact ps_brkE fun _ _ => rfl
    · cases h) fun cc sts h => by simp [chkS] at h
theorem ss_cont : SndS cs G F .cont := SndS.one (fun {cc X Wx st} ok h => by
    simp only [chkS] at h
    split at h
    · rename_i pos he; cases he; exact ps_contE fun _ _ => rfl
    · cases h) fun cc sts h => by simp [chkS] at h
end
end EV

end
section
set_option Elab.async false
set_option linter.all false
set_option maxRecDepth 100000
set_option maxHeartbeats 4000000
/-! EV 27: defs. -/
namespace EV
open PySem PySem.Spec PyProof.Rows L2
open LamX (Tabs TabS CodeO ExtN)
section
variable {cs : List ErrC} {G : Gd} {F : Cfg}
theorem soundS : ∀ x : St, SndS cs G F x
  | .nope => ss_nope
  | .skip => ss_skip
  | .seq a b => ss_seq (soundS a) (soundS b)
  | .ex _ => ss_ex
  | .ret _ => ss_ret
  | .set _ _ => ss_set
  | .par is es => SndS.one (fun {cc X Wx st} ok h => by
      simp only [chkS] at h
      split at h
      · rename_i ts k p vs k2 p2 pos he
        cases he
        simp only [Bool.and_eq_true] at h
        obtain ⟨⟨h1, h2⟩, h3⟩ := h
        have hA := (sound es).a ok.toXOk h3
        have hk := ok.kind
        split at h2
        · rename_i ns hsw
          simp only [Bool.and_eq_true, beq_iff_eq] at h2
          obtain ⟨h2, h2l⟩ := h2
          have nm : ∀ {i : Nat} {e : Expr}, nmIs cc.N cc.sc i e = true → ∃ x px, e = .Name x px ∧ X.N[i]? = some x ∧ X.env.scope.names.lookup x = some .local := fun {i e} q => by
            cases e <;> try (cases q; done)
            rename_i x px
            simp only [nmIs, Bool.and_eq_true, beq_iff_eq] at q
            exact ⟨x, px, rfl, by rw [ok.N]; exact q.1, by rw [ok.sc]; exact q.2⟩
          have hsw' : swK ts vs X.env.scope = some (some ns) := by rw [ok.sc]; exact hsw
          -- the names, all of them
          have full : ∀ {l : List Expr} {line : Nat}, (swNames l cc.sc line).length = l.length → ∀ xs : List (Str × Pos), l = xs.map (fun q => Expr.Name q.1 q.2) → swNames l cc.sc line = xs.map (·.1) := fun {l line} hl xs e => by
            subst e
            clear hsw hsw' h2 h2l h1 h3 hA
            induction xs with
            | nil => rfl
            | cons q xs ih =>
              have step : swNames ((q :: xs).map fun q => Expr.Name q.1 q.2) cc.sc line = (if cc.sc.names.lookup q.1 == some .local && q.2.line == line then [q.1] else []) ++ swNames (xs.map fun q => Expr.Name q.1 q.2) cc.sc line := by
                unfold swNames
                rw [List.map_cons, List.filterMap_cons]
                dsimp only
                split <;> rename_i z
                · split at z
                  · cases z
                  · rename_i c; rw [if_neg c]; rfl
                · split at z
                  · rename_i c; cases z; rw [if_pos c]; rfl
                  · cases z
              have le : (swNames (xs.map fun q => Expr.Name q.1 q.2) cc.sc line).length ≤ xs.length := by
                unfold swNames
                refine Nat.le_trans (List.length_filterMap_le _ _) (by simp)
              rw [step] at hl ⊢
              split
              · rename_i c
                rw [if_pos c] at hl
                rw [ih (by simp at hl ⊢; omega)]
                rfl
              · rename_i c
                rw [if_neg c] at hl
                simp at hl le
                omega
          split at h1
          · rename_i i j x y a b
            simp only [Bool.and_eq_true, Bool.not_eq_true', beq_eq_false_iff_ne] at h1
            obtain ⟨⟨n1, n2⟩, n3⟩ := h1
            obtain ⟨x, px, rfl, a1, a2⟩ := nm n1
            obtain ⟨y, py, rfl, b1, b2⟩ := nm n2
            have hns : ns = [x, y] := by
              rw [h2]
              exact full (by rw [← h2]; exact h2l) [(x, px), (y, py)] rfl
            subst hns
            exact ps_par2E ok.calm ok.nd a1 b1 n3 a2 b2 hA (swK_ok hk hsw') fun _ _ => rfl
          · rename_i i j l x y z a b d
            simp only [Bool.and_eq_true, Bool.not_eq_true', beq_eq_false_iff_ne] at h1
            obtain ⟨⟨⟨⟨⟨n1, n2⟩, n3⟩, m1⟩, m2⟩, m3⟩ := h1
            obtain ⟨x, px, rfl, a1, a2⟩ := nm n1
            obtain ⟨y, py, rfl, b1, b2⟩ := nm n2
            obtain ⟨z, pz, rfl, c1, c2⟩ := nm n3
            have hns : ns = [x, y, z] := by
              rw [h2]
              exact full (by rw [← h2]; exact h2l) [(x, px), (y, py), (z, pz)] rfl
            subst hns
            exact ps_par3E ok.calm ok.nd a1 b1 c1 m1 m2 m3 a2 b2 c2 hA (swK_ok hk hsw') fun _ _ => rfl
          · cases h1
        · cases h2
      · cases h) fun cc sts h => by simp [chkS] at h
  | .setix _ _ _ => ss_setix
  | .setfld _ _ _ => .no fun cc t h => by simp [chkS] at h
  | .aug _ _ _ => ss_aug
  | .iff _ a b => ss_iff (soundS a) (soundS b)
  | .whl _ b => ss_whl (soundS b)
  | .for _ _ b => ss_for (soundS b)
  | .raise _ _ => ss_raise
  | .tryx _ _ => .no fun cc t h => by simp [chkS] at h
  | .hd _ _ _ _ => .no fun cc t h => by simp [chkS] at h
  | .brk => ss_brk
  | .cont => ss_cont
  | .bor _ b => ss_bor (soundS b)
/-- levels of room -/
def lev (n : Nat) : Nat := 4 * n + 4
theorem fill_full {f : Fn} {as : List Vl} (h : as.length = f.ps) : fill f as = as := by
  unfold fill
  rw [h, Nat.add_sub_cancel, List.drop_length]
  simp
/-- a def's text, checked -/
theorem def_ok {fns : List FnK} {turns n i : Nat} {fn : Fn} {cc : CC} {P : Program} {w : World} {K : PySem.W.Frag} {mg : Str → Option Value} {base : Heap} {fa : Addr} {name qual : Str} {params : Arguments} {body : List Stmt} {scope : Scope} {dV kV doc pm cdv ct oc : Value} {an od : Option Addr}
    {osl : Array (Option Value)} {ps : List Str} (lk : K.lookup fa = some ⟨oc, od, .func (PySem.W.fnOf name qual params body scope dV kV doc pm an cdv ct), osl⟩) (hcd : PySem.W.codeIn K cdv qual = true) (S : FnScope cc.N ps scope)
    (hi : fns[i]? = some (.plain fn)) (hps : fn.ps = ps.length) (hsl : fn.slots = cc.N.length) (hsc : cc.sc = scope) (hbk : cc.blk = none) (hc : chkS fn.body cc (.b body) = true)
    (glo : GloOk cs G ⟨callN fns turns n, fun _ => .err, turns⟩ (lev n) P w K mg base cc.gt cc.bs cc.kt) (hrep : cc.rep = false) (met : ∀ x hs, cc.mt = some (x, hs) → MetOk cs G K mg base cdv (qual ++ ".<locals>.") x hs)
    (errs : ∀ x c, cc.gt.lookup x = some (.err c) → ∃ ec, cs[c]? = some ec ∧ mg x = some (.ref ec.at') ∧ ∀ X : Cx, X.prog = P → X.w = w → X.K = K → X.mg = mg → X.base = base → ErrMk X 1 ec) :
    FnOk P w K mg base (L2.CX P w) (lev (n + 1)) fa (PySem.W.fnOf name qual params body scope dV kV doc pm an cdv ct) ps (spF cs G fn.ps (callN fns turns (n + 1) i)) := by
  have elev : lev (n + 1) = lev n + 3 + 1 := by unfold lev; omega
  rw [elev]
  refine fn_of (k := lev n + 3) lk hcd S (fun vs H Q E h => h.1.trans hps) fun A outer s H vs Q E hr ⟨hl, W, st, b, as, R, r, g⟩ => ?_
  have ok : SOk cs G ⟨callN fns turns n, fun _ => .err, turns⟩ cc (cxOf (L2.CX P w) P w K mg base cc.N qual scope fa cdv A outer s H E) (fun cls d _ H => E cls d H) :=
    { N := rfl, nd := S.nd, calm := rfl, sc := hsc.symm, fn := fun x => by show true = cc.fn x; unfold CC.fn; rw [hbk], tk := takes_of rfl rfl rfl rfl, room := ⟨lev n, hr.mono (by omega), glo⟩, rep := fun h => (by rw [hrep] at h; cases h), met := fun x hs h => ⟨met x hs h, lev n, hr, glo⟩, hp := passes_of rfl, kind := S.kind,
      errs := fun x c h => by
        obtain ⟨ec, e1, e2, e3⟩ := errs x c h
        exact ⟨ec, 1, e1, e2, e3 _ rfl rfl rfl rfl rfl, hr.mono (by unfold lev; omega)⟩ }
  have p := (soundS fn.body).b ok hc pss_nil
  rw [List.append_nil] at p
  refine ⟨tS cs G (fun cls d _ H => E cls d H) (evS ⟨callN fns turns n, fun _ => .err, turns⟩ fn.body), PSs.imp p fun Dn σ H q => q, ?_⟩
  have hla : as.length = fn.ps := (paired_len r).trans hl
  unfold callN at g
  rw [hi] at g
  dsimp only at g
  unfold runFn at g
  rw [fill_full hla, if_pos hla] at g
  unfold EG at g
  rw [good_bind] at g
  refine ⟨W, as.map some ++ List.replicate (fn.slots - fn.ps) none, st, b, R, ?_, good_mono (fun o b2 q => ?_) g⟩
  · refine ⟨?_, fun j a h => ?_⟩
    · unfold L2.start
      have := S.pre
      have hle : ps.length ≤ cc.N.length := by rw [← this]; simp; omega
      simp [hla, hsl, hps, hl]
    · by_cases hj : j < as.length
      · rw [List.getElem?_append_left (by simpa using hj), List.getElem?_map] at h
        cases e : as[j]? with
        | none => rw [e] at h; cases h
        | some a' =>
          rw [e] at h
          cases h
          obtain ⟨v, hv, rv⟩ := VlRs.get r e
          refine ⟨v, ?_, rv⟩
          unfold L2.start
          rw [List.getElem?_append_left (by rw [List.length_map, ← paired_len r]; exact hj), List.getElem?_map, hv]
          rfl
      · rw [List.getElem?_append_right (by simpa using hj), List.getElem?_replicate] at h
        split at h <;> cases h
  · cases o with
    | nx e s2 => exact fun W' H' σ' x R' V' => q W' H' _ x R' VlR_non
    | bk e s2 => exact False.elim q
    | ct e s2 => exact False.elim q
    | rt v s2 => exact fun W' H' u x R' r' => q W' H' u x R' r'
    | x c fs e s2 => exact fun W' H' σ' cls d x R' V' k => q W' H' cls d x R' k
/-- without fuel nothing is promised -/
theorem def_zero {fns : List FnK} {turns i np : Nat} {P : Program} {w : World} {K : PySem.W.Frag} {mg : Str → Option Value} {base : Heap} {fa : Addr} {fd : FuncData} {ps : List Str} {CX : CXT} {k : Nat} (h : ps.length = np) : FnOk P w K mg base CX k fa fd ps (spF cs G np (callN fns turns 0 i)) :=
  ⟨fun vs H Q E q => q.1.trans h.symm, fun A outer s H args us vs Q E _ _ _ _ ⟨_, _, _, _, _, _, _, g⟩ => g.elim⟩
theorem fills_of {fns : List FnK} {turns m i n : Nat} {fn : Fn} {dvs : List V} (hi : fns[i]? = some (.plain fn)) (h1 : n ≤ fn.ps) (h2 : fn.ps ≤ n + fn.dfl.length) (hr : ∀ W H, VlRs G W H ((fn.dfl.drop (n + fn.dfl.length - fn.ps)).map .d) dvs) :
    Fills cs G ⟨callN fns turns m, fun _ => .err, turns⟩ i n fn.ps (fn.dfl.drop (n + fn.dfl.length - fn.ps)) dvs where
  len := by simp; omega
  rel := hr
  same := fun as st hl => by
    have e1 : fill fn as = as ++ (fn.dfl.drop (n + fn.dfl.length - fn.ps)).map .d := by
      unfold fill
      rw [hl, Nat.add_comm fn.dfl.length n]
    have e2 : fill fn (as ++ (fn.dfl.drop (n + fn.dfl.length - fn.ps)).map .d) = as ++ (fn.dfl.drop (n + fn.dfl.length - fn.ps)).map .d := fill_full (by simp; omega)
    cases m with
    | zero => rfl
    | succ m =>
      show callN fns turns (m + 1) i as st = callN fns turns (m + 1) i _ st
      unfold callN
      rw [hi]
      dsimp only
      unfold runFn
      rw [e1, e2]
end
end EV

end
section
set_option Elab.async false
set_option linter.all false
set_option maxRecDepth 1000000
set_option maxHeartbeats 0
namespace EV
open PySem PySem.Spec PyProof.Rows L2
def prg : Program := PySem.Challenge.pw_farfolder_k84_whole_spans_and_periods
def top (i : Nat) : Stmt := prg.main.body.getD i (.Pass ⟨0, 0, 0, 0⟩)
def metHs : List (Nat × List Nat × List Nat) := [(1, [99, 108, 111, 99, 107, 115], [0]), (2, [108, 101, 110, 103, 116, 104], [0]), (4, [115, 112, 97, 110], [0]), (3, [110, 117, 109, 98, 101, 114], [0])]
def gtab : List (Str × Glob) := ("is_list", .fn 0 1 []) :: ("is_integer", .fn 1 1 []) :: ("is_number", .fn 2 1 []) :: ("is_fraction", .fn 3 1 []) :: ("lowest", .fn 4 2 []) :: ("plus", .fn 5 2 []) :: ("minus", .fn 6 2 []) :: ("times", .fn 7 2 []) :: ("over", .fn 8 2 []) :: ("is_less", .fn 9 2 []) :: ("lesser", .fn 10 2 []) :: ("greater", .fn 11 2 []) :: ("checked_clocks", .fn 12 1 []) :: ("checked_length", .fn 13 1 []) :: ("is_ask", .fn 14 2 []) :: ("checked_asks", .fn 15 2 []) :: ("kept_asks", .fn 16 3 []) :: ("until", .fn 17 3 []) :: ("greatest_until", .fn 18 3 []) :: ("believe_until", .fn 19 3 []) :: ("span_of", .fn 20 2 []) :: ("span_for", .fn 21 2 []) :: ("length_for", .fn 22 2 []) :: ("longest_period", .fn 23 3 []) :: ("_law_l_lowest", .fn 24 2 []) :: ("_law_l_plus", .fn 25 2 []) :: ("_law_l_times", .fn 26 2 []) :: ("_law_l_over", .fn 27 2 []) :: ("_law_l_minus", .fn 28 2 []) :: ("_law_l_less", .fn 29 2 []) :: ("_law_l_clocks", .fn 30 1 []) :: ("_law_l_loose", .fn 31 2 []) :: ("_law_l_until", .fn 32 3 []) :: ("_law_draw", .fn 34 2 []) :: ("_law_pick", .fn 35 2 []) :: ("_law_same", .fn 36 2 []) :: ("_law_greater_clocks", .fn 38 2 []) :: ("_law_span_right", .fn 39 3 []) :: ("_law_period_right", .fn 40 3 []) :: ("_law_refused_right", .fn 41 2 []) :: ("BadAsks", .err 0) :: ("BadClocks", .err 1) :: ("BadLength", .err 2) :: ("BadNumber", .err 3) :: ("BadSpan", .err 4) :: ("gcd", .gcd) :: []
def btab : List Str := ["abs", "all", "any", "bool", "dict", "enumerate", "int", "isinstance", "len", "list", "max", "min", "range", "repr", "sorted", "str", "tuple", "zip"]
def ktab : List (Str × List Str × List Nat) := []
def ir_is_list : St := (.seq (.ret (.isi (.v 0) [.list, .tuple])) .skip)
def cc_is_list : CC := ⟨["thing"], defScope (top 9), none, gtab, btab, ktab, false, none⟩
theorem ck_is_list : chkS ir_is_list cc_is_list (.b (defBody (top 9))) = true := by decide +kernel
def ir_is_integer : St := (.seq (.ret (.bo true (.isi (.v 0) [.int]) (.not (.isi (.v 0) [.bool])))) .skip)
def cc_is_integer : CC := ⟨["thing"], defScope (top 10), none, gtab, btab, ktab, false, none⟩
theorem ck_is_integer : chkS ir_is_integer cc_is_integer (.b (defBody (top 10))) = true := by decide +kernel
def ir_is_number : St := (.seq (.ret (.bo true (.call .frz 1 (.cons (.v 0) .nil)) (.cmp .ge (.v 0) (.c (.int 0))))) .skip)
def cc_is_number : CC := ⟨["thing"], defScope (top 11), none, gtab, btab, ktab, false, none⟩
theorem ck_is_number : chkS ir_is_number cc_is_number (.b (defBody (top 11))) = true := by decide +kernel
def ir_is_fraction : St := (.seq (.ret (.bo true (.call .frz 0 (.cons (.v 0) .nil)) (.bo true (.cmp .eq (.bi .len (.cons (.v 0) .nil)) (.c (.int 2))) (.bo true (.bi .all (.cons (.lc false [1] (.nm 1) (.v 0) (.c (.bl true)) (.call .frz 1 (.cons (.v 1) .nil))) .nil)) (.cmp .ge (.ix (.v 0) (.c (.int 1))) (.c (.int 1))))))) .skip)
def cc_is_fraction : CC := ⟨["thing", "number"], defScope (top 13), none, gtab, btab, ktab, false, none⟩
theorem ck_is_fraction : chkS ir_is_fraction cc_is_fraction (.b (defBody (top 13))) = true := by decide +kernel
def ir_lowest : St := (.seq (.set (.nm 2) (.ite (.cmp .gt (.v 1) (.c (.int 0))) (.bi .gcd (.cons (.v 0) (.cons (.v 1) .nil))) (.neg (.bi .gcd (.cons (.v 0) (.cons (.v 1) .nil)))))) (.seq (.ret (.tup (.cons (.bin .fdiv (.v 0) (.v 2)) (.cons (.bin .fdiv (.v 1) (.v 2)) .nil)))) .skip))
def cc_lowest : CC := ⟨["top", "bottom", "common"], defScope (top 14), none, gtab, btab, ktab, false, none⟩
theorem ck_lowest : chkS ir_lowest cc_lowest (.b (defBody (top 14))) = true := by decide +kernel
def ir_plus : St := (.seq (.ret (.call .frz 4 (.cons (.bin .add (.bin .mul (.ix (.v 0) (.c (.int 0))) (.ix (.v 1) (.c (.int 1)))) (.bin .mul (.ix (.v 1) (.c (.int 0))) (.ix (.v 0) (.c (.int 1))))) (.cons (.bin .mul (.ix (.v 0) (.c (.int 1))) (.ix (.v 1) (.c (.int 1)))) .nil)))) .skip)
def cc_plus : CC := ⟨["one", "other"], defScope (top 15), none, gtab, btab, ktab, false, none⟩
theorem ck_plus : chkS ir_plus cc_plus (.b (defBody (top 15))) = true := by decide +kernel
def ir_minus : St := (.seq (.ret (.call .frz 4 (.cons (.bin .sub (.bin .mul (.ix (.v 0) (.c (.int 0))) (.ix (.v 1) (.c (.int 1)))) (.bin .mul (.ix (.v 1) (.c (.int 0))) (.ix (.v 0) (.c (.int 1))))) (.cons (.bin .mul (.ix (.v 0) (.c (.int 1))) (.ix (.v 1) (.c (.int 1)))) .nil)))) .skip)
def cc_minus : CC := ⟨["one", "other"], defScope (top 16), none, gtab, btab, ktab, false, none⟩
theorem ck_minus : chkS ir_minus cc_minus (.b (defBody (top 16))) = true := by decide +kernel
def ir_times : St := (.seq (.ret (.call .frz 4 (.cons (.bin .mul (.ix (.v 0) (.c (.int 0))) (.ix (.v 1) (.c (.int 0)))) (.cons (.bin .mul (.ix (.v 0) (.c (.int 1))) (.ix (.v 1) (.c (.int 1)))) .nil)))) .skip)
def cc_times : CC := ⟨["one", "other"], defScope (top 17), none, gtab, btab, ktab, false, none⟩
theorem ck_times : chkS ir_times cc_times (.b (defBody (top 17))) = true := by decide +kernel
def ir_over : St := (.seq (.ret (.call .frz 4 (.cons (.bin .mul (.ix (.v 0) (.c (.int 0))) (.ix (.v 1) (.c (.int 1)))) (.cons (.bin .mul (.ix (.v 0) (.c (.int 1))) (.ix (.v 1) (.c (.int 0)))) .nil)))) .skip)
def cc_over : CC := ⟨["one", "other"], defScope (top 18), none, gtab, btab, ktab, false, none⟩
theorem ck_over : chkS ir_over cc_over (.b (defBody (top 18))) = true := by decide +kernel
def ir_is_less : St := (.seq (.ret (.cmp .lt (.bin .mul (.ix (.v 0) (.c (.int 0))) (.ix (.v 1) (.c (.int 1)))) (.bin .mul (.ix (.v 1) (.c (.int 0))) (.ix (.v 0) (.c (.int 1)))))) .skip)
def cc_is_less : CC := ⟨["one", "other"], defScope (top 19), none, gtab, btab, ktab, false, none⟩
theorem ck_is_less : chkS ir_is_less cc_is_less (.b (defBody (top 19))) = true := by decide +kernel
def ir_lesser : St := (.seq (.ret (.ite (.call .frz 9 (.cons (.v 0) (.cons (.v 1) .nil))) (.v 0) (.v 1))) .skip)
def cc_lesser : CC := ⟨["one", "other"], defScope (top 20), none, gtab, btab, ktab, false, none⟩
theorem ck_lesser : chkS ir_lesser cc_lesser (.b (defBody (top 20))) = true := by decide +kernel
def ir_greater : St := (.seq (.ret (.ite (.call .frz 9 (.cons (.v 0) (.cons (.v 1) .nil))) (.v 1) (.v 0))) .skip)
def cc_greater : CC := ⟨["one", "other"], defScope (top 21), none, gtab, btab, ktab, false, none⟩
theorem ck_greater : chkS ir_greater cc_greater (.b (defBody (top 21))) = true := by decide +kernel
def ir_checked_clocks : St := (.seq (.iff (.bo false (.not (.call .frz 0 (.cons (.v 0) .nil))) (.bo false (.cmp .ne (.bi .len (.cons (.v 0) .nil)) (.c (.int 4))) (.not (.bi .all (.cons (.lc false [5] (.nm 5) (.sl (.v 0) .nil (.c (.int 3))) (.c (.bl true)) (.call .frz 3 (.cons (.v 5) .nil))) .nil))))) (.seq (.raise 1 (.cons (.v 0) .nil)) .skip) .skip) (.seq (.set (.tp (.cons (.nm 1) (.cons (.nm 2) (.cons (.nm 3) (.cons (.nm 4) .nil))))) (.v 0)) (.seq (.iff (.bo false (.cmp .lt (.ix (.v 1) (.c (.int 0))) (.c (.int 1))) (.bo false (.call .frz 9 (.cons (.v 2) (.cons (.v 1) .nil))) (.cmp .lt (.ix (.v 3) (.c (.int 0))) (.c (.int 0))))) (.seq (.raise 1 (.cons (.v 0) .nil)) .skip) .skip) (.seq (.iff (.bo true (.cmp .notN (.v 4) (.c .non)) (.bo false (.not (.call .frz 3 (.cons (.v 4) .nil))) (.call .frz 9 (.cons (.v 4) (.cons (.v 3) .nil))))) (.seq (.raise 1 (.cons (.v 0) .nil)) .skip) .skip) (.seq (.ret (.bi .tuple (.cons (.lc false [5] (.nm 5) (.v 0) (.c (.bl true)) (.ite (.cmp .isN (.v 5) (.c .non)) (.c .non) (.call .frz 4 (.cons (.ix (.v 5) (.c (.int 0))) (.cons (.ix (.v 5) (.c (.int 1))) .nil))))) .nil))) .skip)))))
def cc_checked_clocks : CC := ⟨["clocks", "low", "high", "least", "most", "part"], defScope (top 23), none, gtab, btab, ktab, false, none⟩
theorem ck_checked_clocks : chkS ir_checked_clocks cc_checked_clocks (.b (defBody (top 23))) = true := by decide +kernel
def ir_checked_length : St := (.seq (.iff (.bo false (.not (.call .frz 1 (.cons (.v 0) .nil))) (.cmp .lt (.v 0) (.c (.int 1)))) (.seq (.raise 2 (.cons (.v 0) .nil)) .skip) .skip) .skip)
def cc_checked_length : CC := ⟨["length"], defScope (top 25), none, gtab, btab, ktab, false, none⟩
theorem ck_checked_length : chkS ir_checked_length cc_checked_length (.b (defBody (top 25))) = true := by decide +kernel
def ir_is_ask : St := (.seq (.iff (.bo false (.not (.call .frz 0 (.cons (.v 0) .nil))) (.bo false (.cmp .ne (.bi .len (.cons (.v 0) .nil)) (.c (.int 2))) (.not (.bi .all (.cons (.lc false [3] (.nm 3) (.v 0) (.c (.bl true)) (.call .frz 1 (.cons (.v 3) .nil))) .nil))))) (.seq (.ret (.c (.bl false))) .skip) .skip) (.seq (.set (.nm 2) (.call .frz 8 (.cons (.tup (.cons (.bin .sub (.ix (.v 0) (.c (.int 1))) (.ix (.v 0) (.c (.int 0)))) (.cons (.c (.int 1)) .nil))) (.cons (.ix (.v 1) (.c (.int 0))) .nil)))) (.seq (.ret (.bo true (.cmp .ge (.ix (.v 0) (.c (.int 1))) (.ix (.v 0) (.c (.int 0)))) (.not (.call .frz 9 (.cons (.v 2) (.cons (.call .frz 7 (.cons (.tup (.cons (.c (.int 2)) (.cons (.c (.int 1)) .nil))) (.cons (.ix (.v 1) (.c (.int 2))) .nil))) .nil)))))) .skip)))
def cc_is_ask : CC := ⟨["thing", "clocks", "gone", "reading"], defScope (top 26), none, gtab, btab, ktab, false, none⟩
theorem ck_is_ask : chkS ir_is_ask cc_is_ask (.b (defBody (top 26))) = true := by decide +kernel
def ir_checked_asks : St := (.seq (.iff (.bo false (.not (.call .frz 0 (.cons (.v 0) .nil))) (.cmp .eq (.bi .len (.cons (.v 0) .nil)) (.c (.int 0)))) (.seq (.raise 0 (.cons (.c (.int 0)) .nil)) .skip) .skip) (.seq (.for (.tp (.cons (.nm 2) (.cons (.nm 3) .nil))) (.wk .enumr (.cons (.v 0) .nil)) (.seq (.iff (.not (.call .frz 14 (.cons (.v 3) (.cons (.v 1) .nil)))) (.seq (.raise 0 (.cons (.v 2) .nil)) .skip) .skip) .skip)) (.seq (.ret (.lc false [3] (.nm 3) (.v 0) (.c (.bl true)) (.bi .tuple (.cons (.v 3) .nil)))) .skip)))
def cc_checked_asks : CC := ⟨["asks", "clocks", "index", "ask"], defScope (top 27), none, gtab, btab, ktab, false, none⟩
theorem ck_checked_asks : chkS ir_checked_asks cc_checked_asks (.b (defBody (top 27))) = true := by decide +kernel
def ir_kept_asks : St := (.seq (.set (.nm 3) (.call .frz 12 (.cons (.v 0) .nil))) (.seq (.ex (.call .frz 13 (.cons (.v 1) .nil))) (.seq (.ret (.tup (.cons (.v 3) (.cons (.call .frz 15 (.cons (.v 2) (.cons (.v 3) .nil))) .nil)))) .skip)))
def cc_kept_asks : CC := ⟨["clocks", "length", "asks", "bounds"], defScope (top 28), none, gtab, btab, ktab, false, none⟩
theorem ck_kept_asks : chkS ir_kept_asks cc_kept_asks (.b (defBody (top 28))) = true := by decide +kernel
def ir_until : St := (.seq (.set (.tp (.cons (.nm 5) (.cons (.nm 6) (.cons (.nm 7) (.cons (.nm 8) .nil))))) (.v 0)) (.seq (.set (.nm 3) (.call .frz 6 (.cons (.call .frz 8 (.cons (.tup (.cons (.bin .sub (.ix (.v 2) (.c (.int 1))) (.ix (.v 2) (.c (.int 0)))) (.cons (.c (.int 1)) .nil))) (.cons (.v 5) .nil))) (.cons (.v 7) .nil)))) (.seq (.set (.nm 4) (.ite (.cmp .isN (.v 8) (.c .non)) (.v 3) (.call .frz 10 (.cons (.v 3) (.cons (.v 8) .nil))))) (.seq (.ret (.call .frz 5 (.cons (.tup (.cons (.ix (.v 2) (.c (.int 1))) (.cons (.c (.int 1)) .nil))) (.cons (.call .frz 7 (.cons (.v 5) (.cons (.call .frz 6 (.cons (.call .frz 8 (.cons (.tup (.cons (.v 1) (.cons (.c (.int 1)) .nil))) (.cons (.v 6) .nil))) (.cons (.v 4) .nil))) .nil))) .nil)))) .skip))))
def cc_until : CC := ⟨["clocks", "length", "ask", "back", "gone", "low", "high", "least", "most"], defScope (top 29), none, gtab, btab, ktab, false, none⟩
theorem ck_until : chkS ir_until cc_until (.b (defBody (top 29))) = true := by decide +kernel
def ir_greatest_until : St := (.seq (.set (.nm 3) (.call .frz 17 (.cons (.v 0) (.cons (.v 1) (.cons (.ix (.v 2) (.c (.int 0))) .nil))))) (.seq (.for (.nm 4) (.sl (.v 2) (.c (.int 1)) .nil) (.seq (.set (.nm 3) (.call .frz 11 (.cons (.v 3) (.cons (.call .frz 17 (.cons (.v 0) (.cons (.v 1) (.cons (.v 4) .nil)))) .nil)))) .skip)) (.seq (.ret (.v 3)) .skip)))
def cc_greatest_until : CC := ⟨["clocks", "length", "asks", "found", "ask"], defScope (top 30), none, gtab, btab, ktab, false, none⟩
theorem ck_greatest_until : chkS ir_greatest_until cc_greatest_until (.b (defBody (top 30))) = true := by decide +kernel
def ir_believe_until : St := (.seq (.set (.tp (.cons (.nm 3) (.cons (.nm 4) .nil))) (.call .frz 16 (.cons (.v 0) (.cons (.v 1) (.cons (.v 2) .nil))))) (.seq (.par [5, 6] (.cons (.call .frz 18 (.cons (.v 3) (.cons (.v 1) (.cons (.v 4) .nil)))) (.cons (.bi .max (.cons (.lc false [7] (.nm 7) (.v 4) (.c (.bl true)) (.ix (.v 7) (.c (.int 1)))) .nil)) .nil))) (.seq (.ret (.ite (.call .frz 9 (.cons (.v 5) (.cons (.tup (.cons (.v 6) (.cons (.c (.int 1)) .nil))) .nil))) (.c .non) (.v 5))) .skip)))
def cc_believe_until : CC := ⟨["clocks", "length", "asks", "bounds", "some", "found", "last", "ask"], defScope (top 31), none, gtab, btab, ktab, false, none⟩
theorem ck_believe_until : chkS ir_believe_until cc_believe_until (.b (defBody (top 31))) = true := by decide +kernel
def ir_span_of : St := (.seq (.ret (.call .frz 7 (.cons (.ix (.v 0) (.c (.int 0))) (.cons (.call .frz 5 (.cons (.ix (.v 0) (.c (.int 2))) (.cons (.call .frz 8 (.cons (.tup (.cons (.v 1) (.cons (.c (.int 1)) .nil))) (.cons (.ix (.v 0) (.c (.int 1))) .nil))) .nil))) .nil)))) .skip)
def cc_span_of : CC := ⟨["bounds", "length"], defScope (top 32), none, gtab, btab, ktab, false, none⟩
theorem ck_span_of : chkS ir_span_of cc_span_of (.b (defBody (top 32))) = true := by decide +kernel
def ir_span_for : St := (.seq (.set (.nm 2) (.call .frz 12 (.cons (.v 0) .nil))) (.seq (.ex (.call .frz 13 (.cons (.v 1) .nil))) (.seq (.ret (.call .frz 20 (.cons (.v 2) (.cons (.v 1) .nil)))) .skip)))
def cc_span_for : CC := ⟨["clocks", "length", "bounds"], defScope (top 33), none, gtab, btab, ktab, false, none⟩
theorem ck_span_for : chkS ir_span_for cc_span_for (.b (defBody (top 33))) = true := by decide +kernel
def ir_length_for : St := (.seq (.set (.nm 2) (.call .frz 12 (.cons (.v 0) .nil))) (.seq (.iff (.not (.call .frz 2 (.cons (.v 1) .nil))) (.seq (.raise 4 (.cons (.v 1) .nil)) .skip) .skip) (.seq (.ret (.call .frz 11 (.cons (.tup (.cons (.c (.int 0)) (.cons (.c (.int 1)) .nil))) (.cons (.call .frz 7 (.cons (.ix (.v 2) (.c (.int 1))) (.cons (.call .frz 6 (.cons (.call .frz 8 (.cons (.tup (.cons (.v 1) (.cons (.c (.int 1)) .nil))) (.cons (.ix (.v 2) (.c (.int 0))) .nil))) (.cons (.ix (.v 2) (.c (.int 2))) .nil))) .nil))) .nil)))) .skip)))
def cc_length_for : CC := ⟨["clocks", "span", "bounds"], defScope (top 34), none, gtab, btab, ktab, false, none⟩
theorem ck_length_for : chkS ir_length_for cc_length_for (.b (defBody (top 34))) = true := by decide +kernel
def ir_longest_period : St := (.seq (.set (.nm 3) (.call .frz 12 (.cons (.v 0) .nil))) (.seq (.ex (.call .frz 13 (.cons (.v 1) .nil))) (.seq (.iff (.not (.call .frz 2 (.cons (.v 2) .nil))) (.seq (.raise 3 (.cons (.v 2) .nil)) .skip) .skip) (.seq (.iff (.cmp .isN (.ix (.v 3) (.c (.int 3))) (.c .non)) (.seq (.ret (.c .non)) .skip) .skip) (.seq (.set (.nm 4) (.call .frz 6 (.cons (.call .frz 20 (.cons (.v 3) (.cons (.v 1) .nil))) (.cons (.call .frz 7 (.cons (.tup (.cons (.c (.int 2)) (.cons (.c (.int 1)) .nil))) (.cons (.call .frz 7 (.cons (.ix (.v 3) (.c (.int 1))) (.cons (.ix (.v 3) (.c (.int 3))) .nil))) .nil))) .nil)))) (.seq (.ret (.ite (.cmp .gt (.ix (.v 4) (.c (.int 0))) (.c (.int 0))) (.call .frz 8 (.cons (.v 4) (.cons (.tup (.cons (.bin .add (.v 2) (.c (.int 1))) (.cons (.c (.int 1)) .nil))) .nil))) (.c .non))) .skip))))))
def cc_longest_period : CC := ⟨["clocks", "length", "lost", "bounds", "rest"], defScope (top 35), none, gtab, btab, ktab, false, none⟩
theorem ck_longest_period : chkS ir_longest_period cc_longest_period (.b (defBody (top 35))) = true := by decide +kernel
def ir__law_l_lowest : St := (.seq (.par [3, 4] (.cons (.bi .abs (.cons (.v 0) .nil)) (.cons (.bi .abs (.cons (.v 1) .nil)) .nil))) (.seq (.whl (.cmp .gt (.v 4) (.c (.int 0))) (.seq (.par [3, 4] (.cons (.v 4) (.cons (.bin .mod (.bi .int (.cons (.v 3) .nil)) (.v 4)) .nil))) .skip)) (.seq (.set (.nm 2) (.ite (.cmp .gt (.v 1) (.c (.int 0))) (.v 3) (.bin .sub (.c (.int 0)) (.v 3)))) (.seq (.ret (.tup (.cons (.bin .fdiv (.v 0) (.v 2)) (.cons (.bin .fdiv (.v 1) (.v 2)) .nil)))) .skip))))
def cc__law_l_lowest : CC := ⟨["_law_top", "_law_bottom", "_law_sign", "_law_one", "_law_other"], defScope (top 37), none, gtab, btab, ktab, false, none⟩
theorem ck__law_l_lowest : chkS ir__law_l_lowest cc__law_l_lowest (.b (defBody (top 37))) = true := by decide +kernel
def ir__law_l_plus : St := (.seq (.ret (.call .frz 24 (.cons (.bin .add (.bin .mul (.ix (.v 0) (.c (.int 0))) (.ix (.v 1) (.c (.int 1)))) (.bin .mul (.ix (.v 1) (.c (.int 0))) (.ix (.v 0) (.c (.int 1))))) (.cons (.bin .mul (.ix (.v 0) (.c (.int 1))) (.ix (.v 1) (.c (.int 1)))) .nil)))) .skip)
def cc__law_l_plus : CC := ⟨["_law_one", "_law_other"], defScope (top 38), none, gtab, btab, ktab, false, none⟩
theorem ck__law_l_plus : chkS ir__law_l_plus cc__law_l_plus (.b (defBody (top 38))) = true := by decide +kernel
def ir__law_l_times : St := (.seq (.ret (.call .frz 24 (.cons (.bin .mul (.ix (.v 0) (.c (.int 0))) (.ix (.v 1) (.c (.int 0)))) (.cons (.bin .mul (.ix (.v 0) (.c (.int 1))) (.ix (.v 1) (.c (.int 1)))) .nil)))) .skip)
def cc__law_l_times : CC := ⟨["_law_one", "_law_other"], defScope (top 39), none, gtab, btab, ktab, false, none⟩
theorem ck__law_l_times : chkS ir__law_l_times cc__law_l_times (.b (defBody (top 39))) = true := by decide +kernel
def ir__law_l_over : St := (.seq (.ret (.call .frz 24 (.cons (.bin .mul (.ix (.v 0) (.c (.int 0))) (.ix (.v 1) (.c (.int 1)))) (.cons (.bin .mul (.ix (.v 0) (.c (.int 1))) (.ix (.v 1) (.c (.int 0)))) .nil)))) .skip)
def cc__law_l_over : CC := ⟨["_law_one", "_law_other"], defScope (top 40), none, gtab, btab, ktab, false, none⟩
theorem ck__law_l_over : chkS ir__law_l_over cc__law_l_over (.b (defBody (top 40))) = true := by decide +kernel
def ir__law_l_minus : St := (.seq (.ret (.call .frz 25 (.cons (.v 0) (.cons (.tup (.cons (.bin .sub (.c (.int 0)) (.ix (.v 1) (.c (.int 0)))) (.cons (.ix (.v 1) (.c (.int 1))) .nil))) .nil)))) .skip)
def cc__law_l_minus : CC := ⟨["_law_one", "_law_other"], defScope (top 41), none, gtab, btab, ktab, false, none⟩
theorem ck__law_l_minus : chkS ir__law_l_minus cc__law_l_minus (.b (defBody (top 41))) = true := by decide +kernel
def ir__law_l_less : St := (.seq (.ret (.cmp .lt (.bin .mul (.ix (.v 0) (.c (.int 0))) (.ix (.v 1) (.c (.int 1)))) (.bin .mul (.ix (.v 1) (.c (.int 0))) (.ix (.v 0) (.c (.int 1)))))) .skip)
def cc__law_l_less : CC := ⟨["_law_one", "_law_other"], defScope (top 42), none, gtab, btab, ktab, false, none⟩
theorem ck__law_l_less : chkS ir__law_l_less cc__law_l_less (.b (defBody (top 42))) = true := by decide +kernel
def ir__law_l_clocks : St := (.seq (.set (.nm 1) (.call .frz 24 (.cons (.bin .add (.c (.int 1)) (.call .frz 34 (.cons (.v 0) (.cons (.c (.int 10)) .nil)))) (.cons (.c (.int 10)) .nil)))) (.seq (.set (.nm 2) (.call .frz 25 (.cons (.v 1) (.cons (.call .frz 24 (.cons (.call .frz 34 (.cons (.v 0) (.cons (.c (.int 4)) .nil))) (.cons (.bin .add (.c (.int 1)) (.call .frz 34 (.cons (.v 0) (.cons (.c (.int 5)) .nil)))) .nil))) .nil)))) (.seq (.set (.nm 3) (.call .frz 35 (.cons (.v 0) (.cons (.lst false (.cons (.tup (.cons (.c (.int 0)) (.cons (.c (.int 1)) .nil))) (.cons (.tup (.cons (.c (.int 1)) (.cons (.c (.int 1)) .nil))) (.cons (.tup (.cons (.c (.int 1)) (.cons (.c (.int 2)) .nil))) (.cons (.tup (.cons (.c (.int 3)) (.cons (.c (.int 1)) .nil))) .nil))))) .nil)))) (.seq (.set (.nm 4) (.call .frz 25 (.cons (.v 3) (.cons (.call .frz 35 (.cons (.v 0) (.cons (.lst false (.cons (.tup (.cons (.c (.int 0)) (.cons (.c (.int 1)) .nil))) (.cons (.tup (.cons (.c (.int 1)) (.cons (.c (.int 3)) .nil))) (.cons (.tup (.cons (.c (.int 2)) (.cons (.c (.int 1)) .nil))) (.cons (.tup (.cons (.c (.int 9)) (.cons (.c (.int 1)) .nil))) .nil))))) .nil))) .nil)))) (.seq (.ret (.tup (.cons (.v 1) (.cons (.v 2) (.cons (.v 3) (.cons (.ite (.cmp .eq (.call .frz 34 (.cons (.v 0) (.cons (.c (.int 5)) .nil))) (.c (.int 0))) (.c .non) (.v 4)) .nil)))))) .skip)))))
def cc__law_l_clocks : CC := ⟨["_law_stream", "_law_low", "_law_high", "_law_least", "_law_most"], defScope (top 43), none, gtab, btab, ktab, false, none⟩
theorem ck__law_l_clocks : chkS ir__law_l_clocks cc__law_l_clocks (.b (defBody (top 43))) = true := by decide +kernel
def ir__law_l_loose : St := (.seq (.iff (.bo true (.isi (.v 1) [.list, .tuple]) (.bo true (.cmp .eq (.bi .len (.cons (.v 1) .nil)) (.c (.int 2))) (.bi .all (.cons (.lc false [3] (.nm 3) (.v 1) (.c (.bl true)) (.isi (.v 3) [.int])) .nil)))) (.seq (.set (.nm 2) (.bin .add (.c (.int 1)) (.call .frz 34 (.cons (.v 0) (.cons (.c (.int 3)) .nil))))) (.seq (.ret (.call .frz 35 (.cons (.v 0) (.cons (.lst false (.cons (.lst false (.cons (.bin .mul (.v 2) (.ix (.v 1) (.c (.int 0)))) (.cons (.bin .mul (.v 2) (.ix (.v 1) (.c (.int 1)))) .nil))) (.cons (.tup (.cons (.bin .mul (.v 2) (.ix (.v 1) (.c (.int 0)))) (.cons (.bin .mul (.v 2) (.ix (.v 1) (.c (.int 1)))) .nil))) .nil))) .nil)))) .skip)) .skip) (.seq (.ret (.ite (.isi (.v 1) [.list, .tuple]) (.lc false [3] (.nm 3) (.v 1) (.c (.bl true)) (.call .frz 31 (.cons (.v 0) (.cons (.v 3) .nil)))) (.v 1))) .skip))
def cc__law_l_loose : CC := ⟨["_law_stream", "_law_thing", "_law_scale", "_law_part"], defScope (top 44), none, gtab, btab, ktab, false, none⟩
theorem ck__law_l_loose : chkS ir__law_l_loose cc__law_l_loose (.b (defBody (top 44))) = true := by decide +kernel
def ir__law_l_until : St := (.seq (.set (.tp (.cons (.nm 4) (.cons (.nm 5) (.cons (.nm 6) (.cons (.nm 7) .nil))))) (.v 0)) (.seq (.set (.nm 3) (.c .non)) (.seq (.for (.tp (.cons (.nm 8) (.cons (.nm 9) .nil))) (.v 2) (.seq (.set (.nm 10) (.call .frz 28 (.cons (.call .frz 27 (.cons (.tup (.cons (.bin .sub (.v 9) (.v 8)) (.cons (.c (.int 1)) .nil))) (.cons (.v 4) .nil))) (.cons (.v 6) .nil)))) (.seq (.set (.nm 10) (.ite (.bo true (.cmp .notN (.v 7) (.c .non)) (.call .frz 29 (.cons (.v 7) (.cons (.v 10) .nil)))) (.v 7) (.v 10))) (.seq (.set (.nm 11) (.call .frz 25 (.cons (.tup (.cons (.v 9) (.cons (.c (.int 1)) .nil))) (.cons (.call .frz 26 (.cons (.v 4) (.cons (.call .frz 28 (.cons (.call .frz 27 (.cons (.tup (.cons (.v 1) (.cons (.c (.int 1)) .nil))) (.cons (.v 5) .nil))) (.cons (.v 10) .nil))) .nil))) .nil)))) (.seq (.set (.nm 3) (.ite (.bo false (.cmp .isN (.v 3) (.c .non)) (.call .frz 29 (.cons (.v 3) (.cons (.v 11) .nil)))) (.v 11) (.v 3))) .skip))))) (.seq (.ret (.v 3)) .skip))))
def cc__law_l_until : CC := ⟨["_law_clocks", "_law_length", "_law_asks", "_law_found", "_law_low", "_law_high", "_law_least", "_law_most", "_law_sent", "_law_came", "_law_back", "_law_mine"], defScope (top 45), none, gtab, btab, ktab, false, none⟩
theorem ck__law_l_until : chkS ir__law_l_until cc__law_l_until (.b (defBody (top 45))) = true := by decide +kernel
def ir__law_pick : St := (.seq (.ret (.ix (.v 1) (.call .frz 34 (.cons (.v 0) (.cons (.bi .len (.cons (.v 1) .nil)) .nil))))) .skip)
def cc__law_pick : CC := ⟨["_law_stream", "_law_some"], defScope (top 48), none, gtab, btab, ktab, false, none⟩
theorem ck__law_pick : chkS ir__law_pick cc__law_pick (.b (defBody (top 48))) = true := by decide +kernel
def ir__law_same : St := (.seq (.iff (.isi (.v 1) [.list, .tuple]) (.seq (.iff (.bo false (.cmp .ne (.isi (.v 0) [.list]) (.isi (.v 1) [.list])) (.cmp .ne (.isi (.v 0) [.tuple]) (.isi (.v 1) [.tuple]))) (.seq (.ret (.c (.bl false))) .skip) .skip) (.seq (.ret (.bo true (.cmp .eq (.bi .len (.cons (.v 0) .nil)) (.bi .len (.cons (.v 1) .nil))) (.bi .all (.cons (.lc false [2, 3] (.tp (.cons (.nm 2) (.cons (.nm 3) .nil))) (.wk .zip (.cons (.v 0) (.cons (.v 1) .nil))) (.c (.bl true)) (.call .frz 36 (.cons (.v 2) (.cons (.v 3) .nil)))) .nil)))) .skip)) .skip) (.seq (.iff (.isi (.v 1) [.dict]) (.seq (.ret (.bo true (.isi (.v 0) [.dict]) (.call .frz 36 (.cons (.litm (.v 0)) (.cons (.litm (.v 1)) .nil))))) .skip) .skip) (.seq (.iff (.isi (.v 1) [.int]) (.seq (.ret (.bo true (.isi (.v 0) [.int]) (.bo true (.cmp .eq (.isi (.v 0) [.bool]) (.isi (.v 1) [.bool])) (.cmp .eq (.v 0) (.v 1))))) .skip) .skip) (.seq (.ret (.bo true (.not (.isi (.v 0) [.int, .list, .tuple, .dict])) (.cmp .eq (.v 0) (.v 1)))) .skip))))
def cc__law_same : CC := ⟨["_law_found", "_law_due", "_law_x", "_law_y"], defScope (top 49), none, gtab, btab, ktab, false, none⟩
theorem ck__law_same : chkS ir__law_same cc__law_same (.b (defBody (top 49))) = true := by decide +kernel
def ir__law_greater_clocks : St := (.seq (.par [3, 4] (.cons (.ix (.v 0) (.c (.int 2))) (.cons (.ix (.v 0) (.c (.int 3))) .nil))) (.seq (.set (.nm 2) (.ite (.cmp .isN (.v 4) (.c .non)) (.c .non) (.call .frz 24 (.cons (.bin .mul (.ix (.v 4) (.c (.int 0))) (.v 1)) (.cons (.ix (.v 4) (.c (.int 1))) .nil))))) (.seq (.ret (.tup (.cons (.ix (.v 0) (.c (.int 0))) (.cons (.ix (.v 0) (.c (.int 1))) (.cons (.call .frz 24 (.cons (.bin .mul (.ix (.v 3) (.c (.int 0))) (.v 1)) (.cons (.ix (.v 3) (.c (.int 1))) .nil))) (.cons (.v 2) .nil)))))) .skip)))
def cc__law_greater_clocks : CC := ⟨["_law_clocks", "_law_scale", "_law_wide", "_law_least", "_law_most"], defScope (top 51), none, gtab, btab, ktab, false, none⟩
theorem ck__law_greater_clocks : chkS ir__law_greater_clocks cc__law_greater_clocks (.b (defBody (top 51))) = true := by decide +kernel
def ir__law_span_right : St := (.seq (.par [5, 6] (.cons (.call .frz 21 (.cons (.v 0) (.cons (.v 1) .nil))) (.cons (.lst false .nil) .nil))) (.seq (.set (.nm 3) (.call .frz 26 (.cons (.ix (.v 0) (.c (.int 0))) (.cons (.call .frz 25 (.cons (.ix (.v 0) (.c (.int 2))) (.cons (.call .frz 27 (.cons (.tup (.cons (.v 1) (.cons (.c (.int 1)) .nil))) (.cons (.ix (.v 0) (.c (.int 1))) .nil))) .nil))) .nil)))) (.seq (.iff (.not (.call .frz 36 (.cons (.v 5) (.cons (.v 3) .nil)))) (.seq (.ret (.c (.bl false))) .skip) .skip) (.seq (.for (.nm 4) (.v 2) (.seq (.set (.nm 7) (.call .frz 32 (.cons (.v 0) (.cons (.v 1) (.cons (.lst false (.cons (.tup (.cons (.c (.int 0)) (.cons (.v 4) .nil))) .nil)) .nil))))) (.seq (.set (.nm 8) (.call .frz 28 (.cons (.call .frz 27 (.cons (.tup (.cons (.v 4) (.cons (.c (.int 1)) .nil))) (.cons (.ix (.v 0) (.c (.int 0))) .nil))) (.cons (.ix (.v 0) (.c (.int 2))) .nil)))) (.seq (.set (.nm 9) (.bo false (.cmp .isN (.ix (.v 0) (.c (.int 3))) (.c .non)) (.not (.call .frz 29 (.cons (.ix (.v 0) (.c (.int 3))) (.cons (.v 8) .nil)))))) (.seq (.iff (.bo false (.call .frz 29 (.cons (.v 7) (.cons (.v 5) .nil))) (.bo true (.v 9) (.cmp .ne (.v 7) (.v 5)))) (.seq (.ret (.c (.bl false))) .skip) .skip) (.seq (.set (.nm 10) (.call .frz 19 (.cons (.v 0) (.cons (.v 1) (.cons (.lst false (.cons (.tup (.cons (.c (.int 0)) (.cons (.v 4) .nil))) .nil)) .nil))))) (.seq (.iff (.bo true (.cmp .notN (.v 10) (.c .non)) (.cmp .ne (.v 10) (.v 7))) (.seq (.ret (.c (.bl false))) .skip) .skip) .skip))))))) (.seq (.ret (.c (.bl true))) .skip)))))
def cc__law_span_right : CC := ⟨["_law_clocks", "_law_length", "_law_answered", "_law_due", "_law_came", "_law_span", "_law_found", "_law_until", "_law_back", "_law_is_quick", "_law_told"], defScope (top 52), none, gtab, btab, ktab, false, none⟩
theorem ck__law_span_right : chkS ir__law_span_right cc__law_span_right (.b (defBody (top 52))) = true := by decide +kernel
def ir__law_period_right : St := (.seq (.set (.nm 3) (.call .frz 23 (.cons (.v 0) (.cons (.v 1) (.cons (.v 2) .nil))))) (.seq (.set (.nm 4) (.call .frz 26 (.cons (.ix (.v 0) (.c (.int 0))) (.cons (.call .frz 25 (.cons (.ix (.v 0) (.c (.int 2))) (.cons (.call .frz 27 (.cons (.tup (.cons (.v 1) (.cons (.c (.int 1)) .nil))) (.cons (.ix (.v 0) (.c (.int 1))) .nil))) .nil))) .nil)))) (.seq (.iff (.cmp .isN (.ix (.v 0) (.c (.int 3))) (.c .non)) (.seq (.ret (.cmp .isN (.v 3) (.c .non))) .skip) .skip) (.seq (.set (.nm 5) (.call .frz 26 (.cons (.tup (.cons (.c (.int 2)) (.cons (.c (.int 1)) .nil))) (.cons (.call .frz 26 (.cons (.ix (.v 0) (.c (.int 1))) (.cons (.ix (.v 0) (.c (.int 3))) .nil))) .nil)))) (.seq (.iff (.not (.call .frz 29 (.cons (.v 5) (.cons (.v 4) .nil)))) (.seq (.ret (.cmp .isN (.v 3) (.c .non))) .skip) .skip) (.seq (.iff (.bo false (.not (.isi (.v 3) [.tuple])) (.bo false (.not (.call .frz 36 (.cons (.v 3) (.cons (.call .frz 24 (.cons (.ix (.v 3) (.c (.int 0))) (.cons (.ix (.v 3) (.c (.int 1))) .nil))) .nil)))) (.cmp .lt (.ix (.v 3) (.c (.int 0))) (.c (.int 1))))) (.seq (.ret (.c (.bl false))) .skip) .skip) (.seq (.set (.nm 6) (.bin .mul (.bin .mul (.bin .mul (.bin .mul (.ix (.v 3) (.c (.int 1))) (.ix (.v 5) (.c (.int 1)))) (.ix (.ix (.v 0) (.c (.int 0))) (.c (.int 1)))) (.ix (.ix (.v 0) (.c (.int 2))) (.c (.int 1)))) (.ix (.ix (.v 0) (.c (.int 2))) (.c (.int 1))))) (.seq (.set (.tp (.cons (.nm 10) (.cons (.nm 11) .nil))) (.tup (.cons (.call .frz 38 (.cons (.v 0) (.cons (.v 6) .nil))) (.cons (.bin .mul (.ix (.v 3) (.c (.int 0))) (.bin .fdiv (.v 6) (.ix (.v 3) (.c (.int 1))))) .nil)))) (.seq (.set (.nm 7) (.call .frz 26 (.cons (.ix (.v 0) (.c (.int 0))) (.cons (.call .frz 26 (.cons (.tup (.cons (.c (.int 2)) (.cons (.c (.int 1)) .nil))) (.cons (.ix (.v 10) (.c (.int 2))) .nil))) .nil)))) (.seq (.set (.tp (.cons (.nm 12) (.cons (.nm 13) .nil))) (.tup (.cons (.neg (.bin .fdiv (.neg (.ix (.v 7) (.c (.int 0)))) (.ix (.v 7) (.c (.int 1))))) (.cons (.bin .mul (.ix (.v 5) (.c (.int 0))) (.bin .fdiv (.v 6) (.ix (.v 5) (.c (.int 1))))) .nil)))) (.seq (.set (.nm 8) (.call .frz 32 (.cons (.v 10) (.cons (.bin .mul (.v 1) (.v 6)) (.cons (.lst false (.cons (.tup (.cons (.c (.int 0)) (.cons (.v 12) .nil))) .nil)) .nil))))) (.seq (.set (.nm 9) (.lc false [14] (.nm 14) (.tup (.cons (.c (.int 0)) (.cons (.c (.int 1)) .nil))) (.c (.bl true)) (.not (.call .frz 29 (.cons (.v 8) (.cons (.tup (.cons (.bin .add (.bin .mul (.bin .add (.v 2) (.c (.int 1))) (.bin .add (.v 11) (.v 14))) (.v 13)) (.cons (.c (.int 1)) .nil))) .nil)))))) (.seq (.iff (.bo true (.cmp .lt (.v 6) (.c (.int 61))) (.not (.call .frz 36 (.cons (.call .frz 23 (.cons (.v 10) (.cons (.bin .mul (.v 1) (.v 6)) (.cons (.v 2) .nil)))) (.cons (.tup (.cons (.v 11) (.cons (.c (.int 1)) .nil))) .nil))))) (.seq (.ret (.c (.bl false))) .skip) .skip) (.seq (.ret (.cmp .eq (.v 9) (.lst false (.cons (.c (.bl true)) (.cons (.c (.bl false)) .nil))))) .skip))))))))))))))
def cc__law_period_right : CC := ⟨["_law_clocks", "_law_length", "_law_lost", "_law_told", "_law_span", "_law_late", "_law_scale", "_law_quick", "_law_until", "_law_is_kept", "_law_wide", "_law_period", "_law_first", "_law_last", "_law_more"], defScope (top 53), none, gtab, btab, ktab, false, none⟩
theorem ck__law_period_right : chkS ir__law_period_right cc__law_period_right (.b (defBody (top 53))) = true := by decide +kernel
def ir__law_refused_right : St := (.seq (.set (.nm 2) (.lst true (.cons (.c .non) (.cons (.c (.int 5)) (.cons (.c (.str [97, 98, 99, 100])) (.cons (.dct false) (.cons (.tup .nil) (.cons (.sl (.v 1) .nil (.c (.int 3))) (.cons (.bin .add (.v 1) (.tup (.cons (.c .non) .nil))) (.cons (.bin .add (.tup (.cons (.tup (.cons (.c (.int 0)) (.cons (.c (.int 1)) .nil))) .nil)) (.sl (.v 1) (.c (.int 1)) .nil)) (.cons (.bin .add (.tup (.cons (.tup (.cons (.neg (.c (.int 1))) (.cons (.c (.int 2)) .nil))) .nil)) (.sl (.v 1) (.c (.int 1)) .nil)) .nil))))))))))) (.seq (.ex (.mt .extend (.v 2) (.cons (.lst false (.cons (.tup (.cons (.ix (.v 1) (.c (.int 0))) (.cons (.tup (.cons (.c (.int 1)) (.cons (.c (.int 99)) .nil))) (.cons (.tup (.cons (.c (.int 0)) (.cons (.c (.int 1)) .nil))) (.cons (.c .non) .nil))))) (.cons (.tup (.cons (.ix (.v 1) (.c (.int 0))) (.cons (.ix (.v 1) (.c (.int 1))) (.cons (.tup (.cons (.neg (.c (.int 1))) (.cons (.c (.int 1)) .nil))) (.cons (.c .non) .nil))))) (.cons (.tup (.cons (.c (.int 1)) (.cons (.c (.int 1)) (.cons (.c (.int 0)) (.cons (.c .non) .nil))))) .nil)))) .nil))) (.seq (.ex (.mt .extend (.v 2) (.cons (.lst false (.cons (.bin .add (.tup (.cons (.tup (.cons (.c (.int 1)) (.cons (.c (.int 0)) .nil))) .nil)) (.sl (.v 1) (.c (.int 1)) .nil)) (.cons (.bin .add (.tup (.cons (.tup (.cons (.c (.bl true)) (.cons (.c (.int 1)) .nil))) .nil)) (.sl (.v 1) (.c (.int 1)) .nil)) (.cons (.tup (.cons (.ix (.v 1) (.c (.int 0))) (.cons (.c .non) (.cons (.tup (.cons (.c (.int 0)) (.cons (.c (.int 1)) .nil))) (.cons (.c .non) .nil))))) .nil)))) .nil))) (.seq (.set (.nm 3) (.call .frz 35 (.cons (.v 0) (.cons (.bin .add (.v 2) (.lst false (.cons (.tup (.cons (.ix (.v 1) (.c (.int 0))) (.cons (.ix (.v 1) (.c (.int 1))) (.cons (.tup (.cons (.c (.int 2)) (.cons (.c (.int 1)) .nil))) (.cons (.tup (.cons (.c (.int 1)) (.cons (.c (.int 1)) .nil))) .nil))))) (.cons (.tup (.cons (.ix (.v 1) (.c (.int 0))) (.cons (.ix (.v 1) (.c (.int 1))) (.cons (.tup (.cons (.c (.int 0)) (.cons (.c (.int 1)) .nil))) (.cons (.c (.int 5)) .nil))))) .nil)))) .nil)))) (.seq (.set (.tp (.cons (.nm 6) (.cons (.nm 7) .nil))) (.tup (.cons (.call .frz 35 (.cons (.v 0) (.cons (.lst false (.cons (.c (.int 0)) (.cons (.neg (.c (.int 1))) (.cons (.c .non) (.cons (.c (.str [49])) (.cons (.c (.bl true)) (.cons (.tup (.cons (.c (.int 1)) (.cons (.c (.int 1)) .nil))) .nil))))))) .nil))) (.cons (.call .frz 35 (.cons (.v 0) (.cons (.lst false (.cons (.neg (.c (.int 1))) (.cons (.c .non) (.cons (.c (.str [49])) (.cons (.c (.bl true)) (.cons (.lst false .nil) .nil)))))) .nil))) .nil)))) (.seq (.set (.nm 4) (.lst true (.cons (.met metHs 0 (.call .frz 21 (.cons (.v 3) (.cons (.v 6) .nil)))) .nil))) (.seq (.ex (.mt .append (.v 4) (.cons (.met metHs 0 (.call .frz 22 (.cons (.v 1) (.cons (.v 7) .nil)))) .nil))) (.seq (.ex (.mt .append (.v 4) (.cons (.met metHs 0 (.call .frz 21 (.cons (.v 1) (.cons (.v 6) .nil)))) .nil))) (.seq (.ex (.mt .append (.v 4) (.cons (.met metHs 0 (.call .frz 22 (.cons (.v 3) (.cons (.v 7) .nil)))) .nil))) (.seq (.ex (.mt .append (.v 4) (.cons (.met metHs 0 (.call .frz 23 (.cons (.v 3) (.cons (.v 6) (.cons (.v 7) .nil))))) .nil))) (.seq (.ex (.mt .append (.v 4) (.cons (.met metHs 0 (.call .frz 23 (.cons (.v 1) (.cons (.v 6) (.cons (.v 7) .nil))))) .nil))) (.seq (.ex (.mt .append (.v 4) (.cons (.met metHs 0 (.call .frz 23 (.cons (.v 1) (.cons (.c (.int 5)) (.cons (.v 7) .nil))))) .nil))) (.seq (.set (.nm 5) (.lst false (.cons (.tup (.cons (.c (.str [99, 108, 111, 99, 107, 115])) (.cons (.v 3) .nil))) (.cons (.tup (.cons (.c (.str [115, 112, 97, 110])) (.cons (.v 7) .nil))) (.cons (.tup (.cons (.c (.str [108, 101, 110, 103, 116, 104])) (.cons (.v 6) .nil))) (.cons (.tup (.cons (.c (.str [99, 108, 111, 99, 107, 115])) (.cons (.v 3) .nil))) (.cons (.tup (.cons (.c (.str [99, 108, 111, 99, 107, 115])) (.cons (.v 3) .nil))) (.cons (.tup (.cons (.c (.str [108, 101, 110, 103, 116, 104])) (.cons (.v 6) .nil))) .nil)))))))) (.seq (.ret (.call .frz 36 (.cons (.frz (.v 4)) (.cons (.bin .add (.v 5) (.lst false (.cons (.tup (.cons (.c (.str [110, 117, 109, 98, 101, 114])) (.cons (.v 7) .nil))) .nil))) .nil)))) .skip))))))))))))))
def cc__law_refused_right : CC := ⟨["_law_stream", "_law_clocks", "_law_odds", "_law_odd", "_law_found", "_law_due", "_law_wrong", "_law_none"], defScope (top 54), none, gtab, btab, ktab, false, some ("_law_met", metHs)⟩
theorem ck__law_refused_right : chkS ir__law_refused_right cc__law_refused_right (.b (defBody (top 54))) = true := by decide +kernel
def ir_law : St := (.seq (.for (.nm 2) (.wk .range (.cons (.c (.int 5)) .nil)) (.seq (.par [12, 13] (.cons (.call .frz 30 (.cons (.v 1) .nil)) (.cons (.bin .add (.c (.int 1)) (.call .frz 34 (.cons (.v 1) (.cons (.c (.int 90)) .nil)))) .nil))) (.seq (.set (.nm 3) (.call .frz 26 (.cons (.ix (.v 12) (.c (.int 0))) (.cons (.call .frz 26 (.cons (.tup (.cons (.c (.int 2)) (.cons (.c (.int 1)) .nil))) (.cons (.ix (.v 12) (.c (.int 2))) .nil))) .nil)))) (.seq (.set (.nm 4) (.neg (.bin .fdiv (.neg (.ix (.v 3) (.c (.int 0)))) (.ix (.v 3) (.c (.int 1)))))) (.seq (.set (.nm 5) (.lst false (.cons (.v 4) (.cons (.bin .add (.v 4) (.call .frz 34 (.cons (.v 1) (.cons (.c (.int 5)) .nil)))) (.cons (.bin .add (.v 4) (.call .frz 34 (.cons (.v 1) (.cons (.c (.int 60)) .nil)))) .nil))))) (.seq (.iff (.not (.call .frz 39 (.cons (.v 12) (.cons (.v 13) (.cons (.v 5) .nil))))) (.seq (.ret (.c (.bl false))) .skip) .skip) (.seq (.set (.nm 6) (.call .frz 34 (.cons (.v 1) (.cons (.c (.int 80)) .nil)))) (.seq (.set (.nm 7) (.call .frz 28 (.cons (.call .frz 27 (.cons (.tup (.cons (.v 6) (.cons (.c (.int 1)) .nil))) (.cons (.ix (.v 12) (.c (.int 0))) .nil))) (.cons (.ix (.v 12) (.c (.int 2))) .nil)))) (.seq (.set (.nm 8) (.ite (.cmp .gt (.ix (.v 7) (.c (.int 0))) (.c (.int 0))) (.call .frz 26 (.cons (.ix (.v 12) (.c (.int 1))) (.cons (.v 7) .nil))) (.tup (.cons (.c (.int 0)) (.cons (.c (.int 1)) .nil))))) (.seq (.set (.nm 9) (.call .frz 22 (.cons (.call .frz 31 (.cons (.v 1) (.cons (.v 12) .nil))) (.cons (.v 6) .nil)))) (.seq (.iff (.not (.call .frz 36 (.cons (.v 9) (.cons (.v 8) .nil)))) (.seq (.ret (.c (.bl false))) .skip) .skip) (.seq (.for (.nm 10) (.tup (.cons (.c (.int 0)) (.cons (.c (.int 1)) .nil))) (.seq (.set (.nm 14) (.bin .sub (.neg (.bin .fdiv (.neg (.ix (.v 9) (.c (.int 0)))) (.ix (.v 9) (.c (.int 1))))) (.v 10))) (.seq (.set (.nm 15) (.bo true (.cmp .gt (.v 14) (.c (.int 0))) (.not (.call .frz 29 (.cons (.call .frz 21 (.cons (.v 12) (.cons (.v 14) .nil))) (.cons (.tup (.cons (.v 6) (.cons (.c (.int 1)) .nil))) .nil)))))) (.seq (.iff (.bo true (.cmp .gt (.v 14) (.c (.int 0))) (.cmp .ne (.v 15) (.cmp .eq (.v 10) (.c (.int 0))))) (.seq (.ret (.c (.bl false))) .skip) .skip) .skip)))) (.seq (.for (.nm 11) (.tup (.cons (.c (.int 0)) (.cons (.c (.int 1)) (.cons (.call .frz 34 (.cons (.v 1) (.cons (.c (.int 5)) .nil))) .nil)))) (.seq (.iff (.not (.call .frz 40 (.cons (.v 12) (.cons (.v 13) (.cons (.v 11) .nil))))) (.seq (.ret (.c (.bl false))) .skip) .skip) .skip)) (.seq (.iff (.not (.call .frz 41 (.cons (.v 1) (.cons (.v 12) .nil)))) (.seq (.ret (.c (.bl false))) .skip) .skip) .skip)))))))))))))) (.seq (.ret (.c (.bl true))) .skip))
def cc_law : CC := ⟨["_law_script", "_law_stream", "_law_turn", "_law_least", "_law_first", "_law_answered", "_law_span", "_law_back", "_law_due", "_law_told", "_law_more", "_law_lost", "_law_clocks", "_law_length", "_law_whole", "_law_is_enough"], defScope (top 55), none, gtab, btab, ktab, true, none⟩
theorem ck_law : chkS ir_law cc_law (.b (defBody (top 55)).tail) = true := by decide +kernel
def fd_is_list : Fn := ⟨1, 1, [], ir_is_list⟩
def fn_is_list : FnK := .plain fd_is_list
def fd_is_integer : Fn := ⟨1, 1, [], ir_is_integer⟩
def fn_is_integer : FnK := .plain fd_is_integer
def fd_is_number : Fn := ⟨1, 1, [], ir_is_number⟩
def fn_is_number : FnK := .plain fd_is_number
def fd_is_fraction : Fn := ⟨1, 2, [], ir_is_fraction⟩
def fn_is_fraction : FnK := .plain fd_is_fraction
def fd_lowest : Fn := ⟨2, 3, [], ir_lowest⟩
def fn_lowest : FnK := .plain fd_lowest
def fd_plus : Fn := ⟨2, 2, [], ir_plus⟩
def fn_plus : FnK := .plain fd_plus
def fd_minus : Fn := ⟨2, 2, [], ir_minus⟩
def fn_minus : FnK := .plain fd_minus
def fd_times : Fn := ⟨2, 2, [], ir_times⟩
def fn_times : FnK := .plain fd_times
def fd_over : Fn := ⟨2, 2, [], ir_over⟩
def fn_over : FnK := .plain fd_over
def fd_is_less : Fn := ⟨2, 2, [], ir_is_less⟩
def fn_is_less : FnK := .plain fd_is_less
def fd_lesser : Fn := ⟨2, 2, [], ir_lesser⟩
def fn_lesser : FnK := .plain fd_lesser
def fd_greater : Fn := ⟨2, 2, [], ir_greater⟩
def fn_greater : FnK := .plain fd_greater
def fd_checked_clocks : Fn := ⟨1, 6, [], ir_checked_clocks⟩
def fn_checked_clocks : FnK := .plain fd_checked_clocks
def fd_checked_length : Fn := ⟨1, 1, [], ir_checked_length⟩
def fn_checked_length : FnK := .plain fd_checked_length
def fd_is_ask : Fn := ⟨2, 4, [], ir_is_ask⟩
def fn_is_ask : FnK := .plain fd_is_ask
def fd_checked_asks : Fn := ⟨2, 4, [], ir_checked_asks⟩
def fn_checked_asks : FnK := .plain fd_checked_asks
def fd_kept_asks : Fn := ⟨3, 4, [], ir_kept_asks⟩
def fn_kept_asks : FnK := .plain fd_kept_asks
def fd_until : Fn := ⟨3, 9, [], ir_until⟩
def fn_until : FnK := .plain fd_until
def fd_greatest_until : Fn := ⟨3, 5, [], ir_greatest_until⟩
def fn_greatest_until : FnK := .plain fd_greatest_until
def fd_believe_until : Fn := ⟨3, 8, [], ir_believe_until⟩
def fn_believe_until : FnK := .plain fd_believe_until
def fd_span_of : Fn := ⟨2, 2, [], ir_span_of⟩
def fn_span_of : FnK := .plain fd_span_of
def fd_span_for : Fn := ⟨2, 3, [], ir_span_for⟩
def fn_span_for : FnK := .plain fd_span_for
def fd_length_for : Fn := ⟨2, 3, [], ir_length_for⟩
def fn_length_for : FnK := .plain fd_length_for
def fd_longest_period : Fn := ⟨3, 5, [], ir_longest_period⟩
def fn_longest_period : FnK := .plain fd_longest_period
def fd__law_l_lowest : Fn := ⟨2, 5, [], ir__law_l_lowest⟩
def fn__law_l_lowest : FnK := .plain fd__law_l_lowest
def fd__law_l_plus : Fn := ⟨2, 2, [], ir__law_l_plus⟩
def fn__law_l_plus : FnK := .plain fd__law_l_plus
def fd__law_l_times : Fn := ⟨2, 2, [], ir__law_l_times⟩
def fn__law_l_times : FnK := .plain fd__law_l_times
def fd__law_l_over : Fn := ⟨2, 2, [], ir__law_l_over⟩
def fn__law_l_over : FnK := .plain fd__law_l_over
def fd__law_l_minus : Fn := ⟨2, 2, [], ir__law_l_minus⟩
def fn__law_l_minus : FnK := .plain fd__law_l_minus
def fd__law_l_less : Fn := ⟨2, 2, [], ir__law_l_less⟩
def fn__law_l_less : FnK := .plain fd__law_l_less
def fd__law_l_clocks : Fn := ⟨1, 5, [], ir__law_l_clocks⟩
def fn__law_l_clocks : FnK := .plain fd__law_l_clocks
def fd__law_l_loose : Fn := ⟨2, 4, [], ir__law_l_loose⟩
def fn__law_l_loose : FnK := .plain fd__law_l_loose
def fd__law_l_until : Fn := ⟨3, 12, [], ir__law_l_until⟩
def fn__law_l_until : FnK := .plain fd__law_l_until
def fd__law_pick : Fn := ⟨2, 2, [], ir__law_pick⟩
def fn__law_pick : FnK := .plain fd__law_pick
def fd__law_same : Fn := ⟨2, 4, [], ir__law_same⟩
def fn__law_same : FnK := .plain fd__law_same
def fd__law_greater_clocks : Fn := ⟨2, 5, [], ir__law_greater_clocks⟩
def fn__law_greater_clocks : FnK := .plain fd__law_greater_clocks
def fd__law_span_right : Fn := ⟨3, 11, [], ir__law_span_right⟩
def fn__law_span_right : FnK := .plain fd__law_span_right
def fd__law_period_right : Fn := ⟨3, 15, [], ir__law_period_right⟩
def fn__law_period_right : FnK := .plain fd__law_period_right
def fd__law_refused_right : Fn := ⟨2, 8, [], ir__law_refused_right⟩
def fn__law_refused_right : FnK := .plain fd__law_refused_right
def fd_law : Fn := ⟨1, 16, [], ir_law⟩
def fn_law : FnK := .plain fd_law
def fns : List FnK := fn_is_list :: fn_is_integer :: fn_is_number :: fn_is_fraction :: fn_lowest :: fn_plus :: fn_minus :: fn_times :: fn_over :: fn_is_less :: fn_lesser :: fn_greater :: fn_checked_clocks :: fn_checked_length :: fn_is_ask :: fn_checked_asks :: fn_kept_asks :: fn_until :: fn_greatest_until :: fn_believe_until :: fn_span_of :: fn_span_for :: fn_length_for :: fn_longest_period :: fn__law_l_lowest :: fn__law_l_plus :: fn__law_l_times :: fn__law_l_over :: fn__law_l_minus :: fn__law_l_less :: fn__law_l_clocks :: fn__law_l_loose :: fn__law_l_until :: .spring :: .draw :: fn__law_pick :: fn__law_same :: .plain ⟨1, 2, [], .nope⟩ :: fn__law_greater_clocks :: fn__law_span_right :: fn__law_period_right :: fn__law_refused_right :: fn_law :: []

end EV

end
section
set_option Elab.async false
set_option linter.all false
set_option maxRecDepth 1000000
set_option maxHeartbeats 1000000
/-! the draw -/
namespace EV
open PySem PySem.Spec PyProof.Rows L2
open LamX (Tabs TabS CodeO ExtN)
/-- the spring alone has changed -/
structure SprTo (G : Gd) (H H' : Hp) : Prop where
  out : ∀ q o, H q = some o → q ≠ G.sp → q ≠ G.sc → H' q = some o
theorem Nn.lst {H : Hp} {q : Addr} {l : List V} (h : H q = some (.lst l)) : ¬ Nn H q := Nn.no h nofun
theorem spr_ext {G : Gd} {W : Wd} {H H' : Hp} {l1 l2 : List V} (s : SprTo G H H') (h1 : H' G.sp = some (.lst l1)) (h2 : H' G.sc = some (.lst l2)) : Ext G W H W H' :=
  ⟨fun q o h nt n => s.out q o h (fun e => n (.inr (.inl e))) (fun e => n (.inr (.inr e))),
   fun q n => by
    by_cases e1 : q = G.sp
    · subst e1; exact (Nn.lst h1 n).elim
    · by_cases e2 : q = G.sc
      · subst e2; exact (Nn.lst h2 n).elim
      · exact fun o h => n o (s.out q o h e1 e2),
   Nat.le_refl _, fun _ _ _ h => h, fun _ h => .inl h, fun _ h => .inl h, fun _ h => h, rfl⟩
theorem spr_rel {G : Gd} {W : Wd} {st : Store} {b b' : Nat} {H H' : Hp} (R : Rel G W st b H) (s : SprTo G H H') (o : SprOk G H' b') : Rel G W st b' H' := by
  obtain ⟨ns, g, m, c, h1, h2, h3⟩ := id o
  have x := spr_ext (W := W) s h1 h2
  have tb : ∀ q ps, H q = some (.tbl ps) → H' q = some (.tbl ps) := fun q ps e => by
    obtain ⟨_, _, _, _, k1, k2, _⟩ := R.spr
    exact s.out q _ e (fun z => by rw [z, k1] at e; cases e) (fun z => by rw [z, k2] at e; cases e)
  refine ⟨R.len, R.inj, fun i c h => ?_, R.dead, o, R.nosp, fun a h n => R.avt a h (x.there a n), R.avl, fun p hp => ?_⟩
  · obtain ⟨a, k1, k2⟩ := R.cell i c h
    refine ⟨a, k1, k2.keeps x ?_⟩
    obtain ⟨n1, n2⟩ := spr_ne R ⟨i, k1⟩
    obtain ⟨o', ho, _⟩ := live_obj R ⟨i, k1⟩
    rw [ho]
    exact s.out a _ ho n1 n2
  · obtain ⟨ps, t1, t2, t3⟩ := R.tabs p hp
    obtain ⟨_, _, _, _, k1, k2, _⟩ := R.spr
    refine ⟨ps, tb _ _ t1, t2, fun pos cv hc => ?_⟩
    obtain ⟨c', e1, e2⟩ := t3 pos cv hc
    refine ⟨c', e1, ?_⟩
    exact s.out c' _ e2 (fun z => by rw [z, k1] at e2; unfold CodeO at e2; cases e2) (fun z => by rw [z, k2] at e2; unfold CodeO at e2; cases e2)
theorem SprTo.trans {G : Gd} {H H1 H2 : Hp} (a : SprTo G H H1) (b : SprTo G H1 H2) : SprTo G H H2 := ⟨fun q o e n1 n2 => b.out q o (a.out q o e n1 n2) n1 n2⟩
theorem SprTo.sp {G : Gd} {H : Hp} (o : HO) : SprTo G H (upd H G.sp o) := ⟨fun q o e n1 n2 => by rw [upd_ne n1]; exact e⟩
theorem SprTo.sc {G : Gd} {H : Hp} (o : HO) : SprTo G H (upd H G.sc o) := ⟨fun q o e n1 n2 => by rw [upd_ne n2]; exact e⟩
theorem SprTo.new {G : Gd} {H : Hp} {p : Addr} (o : HO) (hp : H p = none) : SprTo G H (upd H p o) := ⟨fun q o e n1 n2 => by rw [upd_ne (ne_of_none e hp)]; exact e⟩
theorem okBs_ints (l : List Int) (n : Nat) : okBs (l.map .int) n = true := by
  induction l with
  | nil => rfl
  | cons a l ih => simp [okBs, okB, ih]
theorem ne_nil_D (l : List Int) : (eqD (.lst (l.map .int)) (.lst [])).map not = some (!l.isEmpty) := by
  unfold eqD
  simp only [okB, okBs_ints, okBs, Bool.and_self, if_true]
  cases l <;> rfl
/-- where the spring stands -/
structure SprAt (G : Gd) (H : Hp) (ns : List Int) (g c m : Int) : Prop where
  sp : H G.sp = some (.lst [.ref G.sc, .int g, .int c, .int m])
  sc : H G.sc = some (.lst (ns.map V.int))
/-- its numbers are small enough -/
structure SprNs (ns : List Int) (g m : Int) : Prop where
  g0 : 0 ≤ g
  gl : g.natAbs < 2 ^ 1048576
  nl : ∀ n ∈ ns, n.natAbs < 2 ^ 1048576
  len : ns.length ≤ 63
  m0 : 0 ≤ m
  ml : m < 2147483647
theorem ite_false' {c : Bool} {a b : Prop} (h : c = false) (hb : b) : if c = true then a else b := by rw [h]; exact hb
theorem ite_true' {c : Bool} {a b : Prop} (h : c = true) (hb : a) : if c = true then a else b := by rw [h]; exact hb
theorem base_small {m : Int} {c b : Nat} (h0 : 0 ≤ m) (h1 : m < 2147483647) (hc : c + (b + 1) ≤ 2 ^ 40) : (m + 7919 * ((c + 1 : Nat) : Int) + 104729).natAbs < 2 ^ 64 := by
  omega
theorem base2_small {m : Int} {c b : Nat} (h0 : 0 ≤ m) (h1 : m < 2147483629) (hc : c + (b + 1) ≤ 2 ^ 40) : (m * 48271 + 30011 * ((c + 1 : Nat) : Int) + 29).natAbs < 2 ^ 64 := by
  omega
theorem many_log {M : Int} (h0 : 0 < M) (h1 : M < 1000000) : M.natAbs.log2 < 9000 := by
  have : M.natAbs.log2 < 20 := (Nat.log2_lt (by omega)).mpr (by omega)
  omega
theorem div_small {g M : Int} (h0 : 0 ≤ g) (hM : 0 < M) (h : g.natAbs < 2 ^ 1048576) : (g / M).natAbs < 2 ^ 1048576 := by
  refine Nat.lt_of_le_of_lt ?_ h
  have h1 : g / M ≤ g := Int.ediv_le_self _ h0
  have h2 : 0 ≤ g / M := Int.ediv_nonneg h0 (by omega)
  omega
abbrev sDraw : Stmt := top 47
theorem scDraw : FnScope ["_law_stream", "_law_many", "_law_cell", "_law_digit", "_law_mixed"] ["_law_stream", "_law_many"] (defScope sDraw) := ⟨rfl, rfl, rfl, by decide +kernel, rfl, by decide +kernel, by decide +kernel⟩
section
variable {P : Program} {w : World} {K : PySem.W.Frag} {mg : Str → Option Value} {base : Heap} {cs : List ErrC} {G : Gd}
theorem draw_ok {fa : Addr} {params : Arguments} {dV kV doc pm cdv ct oc : Value} {an od : Option Addr} {osl : Array (Option Value)} (lk : K.lookup fa = some ⟨oc, od, .func (PySem.W.fnOf "_law_draw" "_law_draw" params (defBody sDraw) (defScope sDraw) dV kV doc pm an cdv ct), osl⟩) (hcd : PySem.W.codeIn K cdv "_law_draw" = true)
    (mI : mg "int" = none) : FnOk P w K mg base (L2.CX P w) (1 + 1) fa (PySem.W.fnOf "_law_draw" "_law_draw" params (defBody sDraw) (defScope sDraw) dV kV doc pm an cdv ct) ["_law_stream", "_law_many"] (spF cs G 2 drawE) := by
  refine fn_of (k := 1) lk hcd scDraw (fun vs H Q E h => h.1) fun A outer s H vs Q E hr ⟨hl, W, st, b, as, R, r, g⟩ => ?_
  have hu : (A.deeper (envOfC "_law_draw" (defScope sDraw) s.heap.objs.size fa cdv)).units + 64 < cLine := hr.units
  refine ⟨_, pss_cons (ps_asg (pe_op op_add (pe_ix ix_list (pv 0) pe_int (fun _ _ => rfl)) pe_int) (pg_sub (pv 0) pe_int set_list))
    (pss_cons (ps_while (passes_of rfl) (pw_and (pt_cmpR op_eq (pe_ix ix_list (pv 0) pe_int (fun _ _ => rfl)) pe_int (nomark _)) (pw_and1 (pt_cmpR (cD_ne (G := G) hu) (pe_ix ix_list (pv 0) pe_int (fun _ _ => rfl)) (pe_lst pa_nil) (nomark _)))).pt
      (pss_cons (ps_set (i := 2) scDraw.nd rfl (.inl rfl) (pe_bm PySem.F.plainAttrs_list PySem.F.slot_list_pop (by rfl) mt_popAt (pe_ix ix_list (pv 0) pe_int (fun _ _ => rfl)) (pa_cons pe_int pa_nil)))
      (pss_cons (ps_asg (pe_op op_mod (pe_callTy call_int1 (by rfl) mI PyProof.Rows.Boot.«int» (pa_cons (pe_op op_add (pe_op op_add (pe_op op_mul (pe_ix ix_list (pv 0) pe_int (fun _ _ => rfl)) pe_int) (pv 2)) pe_int) pa_nil)) pe_int) (pg_sub (pv 0) pe_int set_list))
      (pss_one (ps_asg (pe_ifExp (pt_cmpR op_ge (pv 2) (pe_op op_pow pe_int pe_int) (nomark _)) (pv 2) pe_int) (pg_sub (pv 0) pe_int set_list))))))
    (pss_cons (ps_if (pt_cmpR op_gt (pe_ix ix_list (pv 0) pe_int (fun _ _ => rfl)) pe_int (nomark _))
      (pss_cons (ps_set (i := 3) scDraw.nd rfl (.inl rfl) (pe_op op_mod (pe_callTy call_int1 (by rfl) mI PyProof.Rows.Boot.«int» (pa_cons (pe_ix ix_list (pv 0) pe_int (fun _ _ => rfl)) pa_nil)) (pv 1)))
      (pss_cons (ps_asg (pe_op op_fdivW (pe_ix ix_list (pv 0) pe_int (fun _ _ => rfl)) (pv 1)) (pg_sub (pv 0) pe_int set_list))
      (pss_one (ps_ret (pv 3))))) pss_nil)
    (pss_cons (ps_set (i := 4) scDraw.nd rfl (.inl rfl) (pe_op op_mod (pe_callTy call_int1 (by rfl) mI PyProof.Rows.Boot.«int» (pa_cons (pe_op op_pow (pe_op op_add (pe_op op_add (pe_ix ix_list (pv 0) pe_int (fun _ _ => rfl)) (pe_op op_mul pe_int (pe_ix ix_list (pv 0) pe_int (fun _ _ => rfl)))) pe_int) pe_int) pa_nil)) pe_int))
    (pss_one (ps_ret (pe_op op_mod (pe_op op_mod (pe_callTy call_int1 (by rfl) mI PyProof.Rows.Boot.«int» (pa_cons (pe_op op_pow (pe_op op_add (pe_op op_add (pe_op op_mul (pv 4) pe_int) (pe_op op_mul pe_int (pe_ix ix_list (pv 0) pe_int (fun _ _ => rfl)))) pe_int) pe_int) pa_nil)) pe_int) (pv 1))))))), ?_⟩
  -- what is handed
  have hh : ∃ M : Int, as = [.d .strm, .d (.int M)] ∧ 0 < M ∧ M < 1000000 ∧ ∃ b', b = b' + 1 ∧ ∀ d, d < M.toNat → KV' G W H Q (.d (.int (d : Nat))) st b' := by
    unfold drawE at g
    split at g
    · rename_i M
      split at g
      · rename_i hM
        obtain ⟨b', e, _, q⟩ := g
        exact ⟨M, rfl, hM.1, hM.2, b', e, fun d hd => q d hd⟩
      · exact g.elim
    · exact g.elim
  obtain ⟨M, rfl, hM0, hM1, b', rfl, hQ⟩ := hh
  obtain ⟨v1, v2, rfl, r1, r2⟩ : ∃ v1 v2, vs = [v1, v2] ∧ VlR G W H (.d .strm) v1 ∧ VlR G W H (.d (.int M)) v2 := by
    cases r with
    | cons r1 t => cases t with
      | cons r2 t => cases t; exact ⟨_, _, rfl, r1, r2⟩
  have e1 : v1 = .ref G.sp := by unfold VlR VR at r1; exact r1
  have e2 : v2 = .int M := by unfold VlR VR at r2; exact r2
  subst e1 e2
  obtain ⟨ns, gg, mm, c, h1, h2, hne, hg0, hgl, hnl, hlen, hm0, hml, hcb⟩ := R.spr
  -- the end, from any state of the spring
  have done : ∀ (H' : Hp) (ns' : List Int) (g' m' : Int) (d : Int), SprTo G H H' → SprAt G H' ns' g' ((c + 1 : Nat) : Int) m' → SprNs ns' g' m' → 0 ≤ d → d < M → Q (.int d) H' := by
    intro H' ns' g' m' d s a n hd0 hd1
    have o : SprOk G H' b' := ⟨ns', g', m', c + 1, a.sp, a.sc, hne, n.g0, n.gl, n.nl, n.len, n.m0, n.ml, by omega⟩
    have e : d = ((d.toNat : Nat) : Int) := by omega
    rw [e]
    exact hQ d.toNat (by omega) W H' _ (spr_ext s a.sp a.sc) (spr_rel R s o) (by unfold VlR VR; rfl)
  -- stream[2] = stream[2] + 1
  refine ⟨_, rfl, G.sp, _, _, _, rfl, rfl, SqL.of h1, rfl, _, _, rfl, rfl, _, rfl, G.sp, _, _, 2, rfl, rfl, h1, rfl, ?_⟩
  have a1 : SprAt G (upd H G.sp (.lst [.ref G.sc, .int gg, .int ((c + 1 : Nat) : Int), .int mm])) ns gg ((c + 1 : Nat) : Int) mm := ⟨upd_same, by rw [upd_ne hne.symm]; exact h2⟩
  -- while stream[1] == 0 and stream[0] != []
  refine ⟨fun k σ H' => ∃ ns' g' m' x2, k = ns'.length ∧ σ = [some (.ref G.sp), some (.int M), x2, none, none] ∧ SprTo G H H' ∧ SprAt G H' ns' g' ((c + 1 : Nat) : Int) m' ∧ SprNs ns' g' m',
    ⟨_, ns, gg, mm, none, rfl, rfl, .sp _, a1, ⟨hg0, hgl, hnl, hlen, hm0, hml⟩⟩, ?_⟩
  rintro k σ H1 ⟨ns', g', m', x2, rfl, rfl, s1, at1, n1⟩
  refine ⟨_, rfl, G.sp, _, _, _, rfl, rfl, SqL.of at1.sp, rfl, rfl, _, rfl, ?_⟩
  refine ite2 (fun hc => ?_) (fun hc => ?_)
  · -- stream[0] != []
    refine ⟨_, rfl, G.sp, _, _, _, rfl, rfl, SqL.of at1.sp, rfl, Nat.zero_le _, fun p hp => ?_⟩
    have psc : G.sc ≠ p := ne_of_none at1.sc hp
    have psp : G.sp ≠ p := ne_of_none at1.sp hp
    have s : SprTo G H (upd H1 p (.lst [])) := s1.trans (.new _ hp)
    have a : SprAt G (upd H1 p (.lst [])) ns' g' ((c + 1 : Nat) : Int) m' := ⟨by rw [upd_ne psp]; exact at1.sp, by rw [upd_ne psc]; exact at1.sc⟩
    refine ⟨fun _ => False, .lst (ns'.map .int), .lst [], !ns'.isEmpty, ⟨G.sc, _, rfl, a.sc, VRs_ints _⟩, ⟨p, [], rfl, upd_same, VRs.nil⟩, ne_nil_D _, _, rfl, ?_⟩
    cases ns' with
    | nil =>
      refine ite_false' rfl ?_

      refine ⟨_, rfl, G.sp, _, _, _, rfl, rfl, SqL.of a.sp, rfl, _, _, rfl, rfl, _, rfl, ?_⟩
      refine ite2 (fun hc => ?_) (fun hc => ?_)
      · -- digit = int(stream[1]) % many
        refine ⟨_, rfl, G.sp, _, _, _, rfl, rfl, SqL.of a.sp, rfl, .inl ⟨_, rfl, _, rfl, _, _, rfl, rfl, hM0, ?_⟩⟩
        refine ⟨_, rfl, G.sp, _, _, _, rfl, rfl, SqL.of a.sp, rfl, _, rfl, _, _, rfl, rfl, ⟨hM0, many_log hM0 hM1⟩, _, rfl, G.sp, _, _, 1, rfl, rfl, a.sp, rfl, ?_⟩
        refine ⟨_, rfl, ?_⟩
        exact done _ [] (g' / M) m' (g' % M) (s.trans (.sp _)) ⟨upd_same, by rw [upd_ne hne.symm]; exact a.sc⟩ ⟨Int.ediv_nonneg n1.g0 (Int.le_of_lt hM0), div_small n1.g0 hM0 n1.gl, n1.nl, n1.len, n1.m0, n1.ml⟩ (Int.emod_nonneg _ (Int.ne_of_gt hM0)) (Int.emod_lt_of_pos _ hM0)
      · -- mixed
        refine ⟨_, rfl, G.sp, _, _, _, rfl, rfl, SqL.of a.sp, rfl, _, rfl, G.sp, _, _, _, rfl, rfl, SqL.of a.sp, rfl, _, _, rfl, rfl, .inl ⟨by decide, by decide⟩, _, _, rfl, rfl, _, _, rfl, rfl, _, _, rfl, rfl, ⟨by decide, by decide, base_small n1.m0 n1.ml hcb⟩, .inl ⟨_, rfl, _, _, rfl, rfl, (show (0 : Int) < 2147483629 by decide), ?_⟩⟩
        have x0 := Int.emod_nonneg ((m' + 7919 * ((c + 1 : Nat) : Int) + 104729) ^ (Int.toNat 5)) (show (2147483629 : Int) ≠ 0 by decide)
        have x1 := Int.emod_lt_of_pos ((m' + 7919 * ((c + 1 : Nat) : Int) + 104729) ^ (Int.toNat 5)) (show (0 : Int) < 2147483629 by decide)
        refine ⟨_, rfl, _, _, rfl, rfl, .inl ⟨Int.lt_of_lt_of_le (by decide) x0, Int.lt_trans x1 (by decide)⟩, _, rfl, G.sp, _, _, _, rfl, rfl, SqL.of a.sp, rfl, _, _, rfl, rfl, .inl ⟨by decide, by decide⟩, _, _, rfl, rfl, _, _, rfl, rfl, _, _, rfl, rfl, ⟨by decide, by decide, ?_⟩, .inl ⟨_, rfl, _, _, rfl, rfl, (show (0 : Int) < 1000000007 by decide), _, rfl, _, _, rfl, rfl, hM0, ?_⟩⟩
        · exact base2_small x0 x1 hcb
        · exact done _ [] g' m' _ s a n1 (Int.emod_nonneg _ (Int.ne_of_gt hM0)) (Int.emod_lt_of_pos _ hM0)

    | cons n0 ns0 =>
      refine ite_true' rfl ?_
      have hb := n1.nl n0 List.mem_cons_self
      refine ⟨fun σ' H' => ∃ g2 m2 x2, σ' = [some (.ref G.sp), some (.int M), x2, none, none] ∧ SprTo G H H' ∧ SprAt G H' ns0 g2 ((c + 1 : Nat) : Int) m2 ∧ SprNs ns0 g2 m2, fun σ' H' ⟨g2, m2, x2, q1, q2, q3, q4⟩ => ⟨ns0.length, Nat.lt_succ_self _, ns0, g2, m2, x2, rfl, q1, q2, q3, q4⟩, ?_⟩
      -- cell = stream[0].pop(0)
      refine ⟨_, rfl, G.sp, _, _, _, rfl, rfl, SqL.of a.sp, rfl, .inl ⟨rfl, _, .inl (.inl a.sc)⟩, G.sc, _, 0, 0, _, rfl, rfl, a.sc, by decide, by decide, by simp [seqIndex?], rfl, ?_⟩
      have s2 := s.trans (.sc (.lst (ns0.map V.int)))
      have a2 : SprAt G (upd (upd H1 p (.lst [])) G.sc (.lst (ns0.map V.int))) ns0 g' ((c + 1 : Nat) : Int) m' := ⟨by rw [upd_ne hne]; exact a.sp, upd_same⟩
      -- stream[3] = int(stream[3] * 8191 + cell + 3) % 2147483647
      refine ⟨_, rfl, G.sp, _, _, _, rfl, rfl, SqL.of a2.sp, rfl, _, _, rfl, rfl, .inl ⟨Int.lt_of_lt_of_le (by decide) n1.m0, Int.lt_trans n1.ml (by decide)⟩, _, rfl, _, _, rfl, rfl, _, _, rfl, rfl, .inl ⟨_, rfl, _, _, rfl, rfl, (show (0 : Int) < 2147483647 by decide), _, rfl, G.sp, _, _, 3, rfl, rfl, a2.sp, rfl, ?_⟩⟩
      have y0 := Int.emod_nonneg (m' * 8191 + n0 + 3) (show (2147483647 : Int) ≠ 0 by decide)
      have y1 := Int.emod_lt_of_pos (m' * 8191 + n0 + 3) (show (0 : Int) < 2147483647 by decide)
      have s3 := s2.trans (.sp (.lst [.ref G.sc, .int g', .int ((c + 1 : Nat) : Int), .int ((m' * 8191 + n0 + 3) % 2147483647)]))
      have a3 : SprAt G (upd (upd (upd H1 p (.lst [])) G.sc (.lst (ns0.map V.int))) G.sp (.lst [.ref G.sc, .int g', .int ((c + 1 : Nat) : Int), .int ((m' * 8191 + n0 + 3) % 2147483647)])) ns0 g' ((c + 1 : Nat) : Int) ((m' * 8191 + n0 + 3) % 2147483647) := ⟨upd_same, by rw [upd_ne hne.symm]; exact a2.sc⟩
      -- stream[1] = cell if cell >= 10 ** 18 else 0
      refine ⟨_, rfl, _, _, rfl, rfl, ⟨by decide, by decide, by decide⟩, _, _, rfl, rfl, _, rfl, ?_⟩
      refine ite2 (fun hc2 => ?_) (fun hc2 => ?_)
      · have hc3 := of_decide_eq_true hc2
        refine ⟨_, rfl, _, rfl, G.sp, _, _, 1, rfl, rfl, a3.sp, rfl, ?_⟩
        refine ⟨n0, ((m' * 8191 + n0 + 3) % 2147483647), _, rfl, s3.trans (.sp _), ⟨upd_same, by rw [upd_ne hne.symm]; exact a3.sc⟩, ⟨Int.le_trans (by decide) hc3, hb, fun n hn => n1.nl n (List.mem_cons_of_mem _ hn), Nat.le_trans (Nat.le_succ _) n1.len, y0, y1⟩⟩
      · refine ⟨_, rfl, G.sp, _, _, 1, rfl, rfl, a3.sp, rfl, ?_⟩
        refine ⟨0, ((m' * 8191 + n0 + 3) % 2147483647), _, rfl, s3.trans (.sp _), ⟨upd_same, by rw [upd_ne hne.symm]; exact a3.sc⟩, ⟨Int.le_refl 0, Nat.two_pow_pos _, fun n hn => n1.nl n (List.mem_cons_of_mem _ hn), Nat.le_trans (Nat.le_succ _) n1.len, y0, y1⟩⟩
  · refine ite_false' rfl ?_
    have s := s1
    have a := at1

    refine ⟨_, rfl, G.sp, _, _, _, rfl, rfl, SqL.of a.sp, rfl, _, _, rfl, rfl, _, rfl, ?_⟩
    refine ite2 (fun hc => ?_) (fun hc => ?_)
    · -- digit = int(stream[1]) % many
      refine ⟨_, rfl, G.sp, _, _, _, rfl, rfl, SqL.of a.sp, rfl, .inl ⟨_, rfl, _, rfl, _, _, rfl, rfl, hM0, ?_⟩⟩
      refine ⟨_, rfl, G.sp, _, _, _, rfl, rfl, SqL.of a.sp, rfl, _, rfl, _, _, rfl, rfl, ⟨hM0, many_log hM0 hM1⟩, _, rfl, G.sp, _, _, 1, rfl, rfl, a.sp, rfl, ?_⟩
      refine ⟨_, rfl, ?_⟩
      exact done _ ns' (g' / M) m' (g' % M) (s.trans (.sp _)) ⟨upd_same, by rw [upd_ne hne.symm]; exact a.sc⟩ ⟨Int.ediv_nonneg n1.g0 (Int.le_of_lt hM0), div_small n1.g0 hM0 n1.gl, n1.nl, n1.len, n1.m0, n1.ml⟩ (Int.emod_nonneg _ (Int.ne_of_gt hM0)) (Int.emod_lt_of_pos _ hM0)
    · -- mixed
      refine ⟨_, rfl, G.sp, _, _, _, rfl, rfl, SqL.of a.sp, rfl, _, rfl, G.sp, _, _, _, rfl, rfl, SqL.of a.sp, rfl, _, _, rfl, rfl, .inl ⟨by decide, by decide⟩, _, _, rfl, rfl, _, _, rfl, rfl, _, _, rfl, rfl, ⟨by decide, by decide, base_small n1.m0 n1.ml hcb⟩, .inl ⟨_, rfl, _, _, rfl, rfl, (show (0 : Int) < 2147483629 by decide), ?_⟩⟩
      have x0 := Int.emod_nonneg ((m' + 7919 * ((c + 1 : Nat) : Int) + 104729) ^ (Int.toNat 5)) (show (2147483629 : Int) ≠ 0 by decide)
      have x1 := Int.emod_lt_of_pos ((m' + 7919 * ((c + 1 : Nat) : Int) + 104729) ^ (Int.toNat 5)) (show (0 : Int) < 2147483629 by decide)
      refine ⟨_, rfl, _, _, rfl, rfl, .inl ⟨Int.lt_of_lt_of_le (by decide) x0, Int.lt_trans x1 (by decide)⟩, _, rfl, G.sp, _, _, _, rfl, rfl, SqL.of a.sp, rfl, _, _, rfl, rfl, .inl ⟨by decide, by decide⟩, _, _, rfl, rfl, _, _, rfl, rfl, _, _, rfl, rfl, ⟨by decide, by decide, ?_⟩, .inl ⟨_, rfl, _, _, rfl, rfl, (show (0 : Int) < 1000000007 by decide), _, rfl, _, _, rfl, rfl, hM0, ?_⟩⟩
      · exact base2_small x0 x1 hcb
      · exact done _ ns' g' m' _ s a n1 (Int.emod_nonneg _ (Int.ne_of_gt hM0)) (Int.emod_lt_of_pos _ hM0)

end
end EV

end
section
set_option Elab.async false
set_option linter.all false
set_option maxRecDepth 1000000
set_option maxHeartbeats 1000000
/-! the end: the law's call from the outermost place, where nothing is being shown -/
namespace EV
open PySem PySem.Spec PyProof.Rows L2
open LamX (Tabs TabS CodeO ExtN TabB)
/-- what is tracked ahead of the law's call: the tables of code, and the script where the top does not know it -/
structure Dawn (H : Hp) (h : Heap) (tabs : List Addr) (a : Addr) (vs : List Value) (ns : List Int) : Prop where
  tab : ∀ t ∈ tabs, H t = some (.tbl #[])
  only : ∀ b u, H b = some u → b ∈ tabs ∨ (b = a ∧ u = .frz { cls := .type "list", data := .seq vs.toArray } (.lst (ns.map V.int)))
section
variable {P : Program} {w : World} {K : PySem.W.Frag} {mg mb : Str → Option Value} {h : Heap} {tabs : List Addr} {a : Addr} {vs : List Value} {zs : List Int} {H : Hp}
/-- an object of no list and no table is not tracked -/
theorem Dawn.none (D : Dawn H h tabs a vs zs) (hT : ∀ t ∈ tabs, h.get? t = some { cls := .none, data := .fields #[] }) (ha : h.get? a = some { cls := .type "list", data := .seq vs.toArray }) {b : Addr} {o : Obj} (e : h.get? b = some o) (n1 : o.data ≠ .seq vs.toArray) (n2 : o.data ≠ .fields #[]) : H b = .none := by
  cases q : H b with
  | none => rfl
  | some u =>
    exfalso
    rcases D.only b u q with m | ⟨rfl, _⟩
    · rw [hT b m] at e; cases e; exact n2 rfl
    · rw [ha] at e; cases e; exact n1 rfl
theorem Dawn.ns (D : Dawn H h tabs a vs zs) (hT : ∀ t ∈ tabs, h.get? t = some { cls := .none, data := .fields #[] }) (ha : h.get? a = some { cls := .type "list", data := .seq vs.toArray }) {b : Addr} {m : Str → Option Value} (q : h.Ns b m) : (hidT h H).Ns b m := by
  obtain ⟨o, es, ep, e, d, r⟩ := q
  refine ⟨o, es, ep, hidT_get e (D.none hT ha e ?_ ?_), d, r⟩ <;> (rw [d]; exact nofun)
theorem Dawn.in (D : Dawn H h tabs a vs zs) (hk : ∀ b, H b ≠ .none → K.lookup b = .none) (KX : K.In h) : K.In (hidT h H) := fun b o e => by
  refine hidT_get (KX b o e) ?_
  cases q : H b with
  | none => rfl
  | some u =>
    have z := hk b (by rw [q]; exact nofun)
    rw [e] at z; cases z
theorem Dawn.code (D : Dawn H h tabs a vs zs) (hT : ∀ t ∈ tabs, h.get? t = some { cls := .none, data := .fields #[] }) (ha : h.get? a = some { cls := .type "list", data := .seq vs.toArray }) (g : h.Ns mainGlobals mg)
    (hbm : ∃ (bm : Addr) (ob : Obj), mg "__builtins__" = some (.ref bm) ∧ bm ≠ builtinsNs ∧ h.get? bm = some ob ∧ ob.cls = .type "module" ∧ ob.dict = some builtinsNs ∧ ob.data = .plain) {c t : Addr} (ht : t ∈ tabs) (C : PySem.W.CodeHd h c t) : TabB (hidT h H) mg c t := by
  constructor
  · obtain ⟨o, us, fl, tf, fg, tg, inF, tx, tt, c1, c2, c3, c4, c5, c6, c7, c8, c9, c10⟩ := C
    refine ⟨o, us, fl, tf, fg, tg, inF, tx, tt, hidT_get c1 (D.none hT ha c1 ?_ ?_), c2, c3, c4, c5, c6, c7, c8, c9, c10⟩
    · rw [c3]; exact nofun
    · rw [c3]; intro z; cases z; simp at c4
  · obtain ⟨bm, ob, b1, b2, b3, b4, b5, b6⟩ := hbm
    refine ⟨bm, ob, b1, b2, fun q => ?_, fun q => ?_, hidT_get b3 (D.none hT ha b3 ?_ ?_), b4, b5, b6⟩
    · obtain ⟨o, es, ep, e, d, _⟩ := g
      rw [← q, b3] at e; cases e; rw [b6] at d; cases d
    · rw [q, hT t ht] at b3; cases b3; cases b6
    · rw [b6]; exact nofun
    · rw [b6]; exact nofun
  · intro q
    obtain ⟨o, es, ep, e, d, _⟩ := g
    rw [q, hT t ht] at e; cases e; cases d
/-- the table's place is in the list of tables -/
theorem law_at {cs : List (Addr × Addr)} {fa : Addr} {s : Shared} (KX : K.In s.heap) (g : s.heap.Ns mainGlobals mg) (gb : s.heap.Ns builtinsNs mb) (bb : ∀ x : Str, x ≠ "__name__" → mb x = bootBuiltins x) (lim : s.heap.NoLimit) (gens : s.gens = #[])
    (hT : ∀ p ∈ cs, s.heap.get? p.2 = some { cls := .none, data := .fields #[] }) (nT : ∀ p ∈ cs, K.lookup p.2 = none) (C : ∀ p ∈ cs, PySem.W.CodeHd s.heap p.1 p.2)
    (hbm : ∃ (bm : Addr) (ob : Obj), mg "__builtins__" = some (.ref bm) ∧ bm ≠ builtinsNs ∧ s.heap.get? bm = some ob ∧ ob.cls = .type "module" ∧ ob.dict = some builtinsNs ∧ ob.data = .plain)
    (ha : s.heap.get? a = some { cls := .type "list", data := .seq vs.toArray }) (hi : IntsAre vs zs) (hl : zs.length ≤ sizeLine)
    (F : ∀ (base : Heap) (H : Hp), Env0 P w K mg base callerA [] s H → K.In base → base.Ns mainGlobals mg → (∀ p ∈ cs, TabB base mg p.1 p.2) → (∀ p ∈ cs, H p.2 = some (.tbl #[])) → SqL K H a (zs.map V.int) →
      codeAny (model P w) callerA (.call (.ref fa) ⟨[.ref a], []⟩) (CR (L2.CX P w) [] P w H s (fun v _ => v = .bl true) fun _ _ _ => False) s) :
    codeAny (model P w) callerA (.call (.ref fa) ⟨[.ref a], []⟩) (fun r s' => r = .ok (.ret (.bool true)) ∧ OldK s.heap s'.heap ∧ s'.os = s.os ∧ AllBare s'.gens) s := by
  have hT' : ∀ t ∈ cs.map (·.2), s.heap.get? t = some { cls := .none, data := .fields #[] } := fun t ht => by
    obtain ⟨p, hp, rfl⟩ := List.mem_map.mp ht
    exact hT p hp
  have nT' : ∀ t ∈ cs.map (·.2), K.lookup t = none := fun t ht => by
    obtain ⟨p, hp, rfl⟩ := List.mem_map.mp ht
    exact nT p hp
  have rv := vals_ints hi
  have lv := hi.length
  have aT : a ∉ cs.map (·.2) := fun z => by
    have q := hT' a z
    rw [ha] at q
    cases q
  -- the heap that is told, by whether the top knows the script
  obtain ⟨H, D, hk, hS, hok⟩ : ∃ H : Hp, Dawn H s.heap (cs.map (·.2)) a vs zs ∧ (∀ b, H b ≠ none → K.lookup b = none) ∧ SqL K H a (zs.map V.int) ∧ HOk P w H s.heap := by
    have tabOk : ∀ (H : Hp) b, b ∈ cs.map (·.2) → ObjOk P w H s.heap b (.tbl #[]) := fun H b hb => hT' b hb
    cases hk : K.lookup a with
    | some o =>
      have e := KX a o hk
      rw [ha] at e
      cases e
      refine ⟨fun b => if b ∈ cs.map (·.2) then some (.tbl #[]) else none, ⟨fun t ht => if_pos ht, fun b u q => .inl ?_⟩, fun b q => ?_, .inr ⟨_, vs.toArray, _, hk, rfl, rfl, rfl, by rw [List.size_toArray, lv]; exact hl, by simpa using rv⟩, fun b u q => ?_⟩
      · exact Classical.byContradiction fun n => by rw [if_neg n] at q; cases q
      · exact nT' b (Classical.byContradiction fun n => q (if_neg n))
      · dsimp only at q
        have hb : b ∈ cs.map (·.2) := Classical.byContradiction fun n => by rw [if_neg n] at q; cases q
        rw [if_pos hb] at q
        cases q
        exact tabOk _ b hb
    | none =>
      have tab : ∀ t ∈ cs.map (·.2), (if t = a then some (HO.frz { cls := .type "list", data := .seq vs.toArray } (.lst (zs.map V.int))) else if t ∈ cs.map (·.2) then some (.tbl #[]) else none) = some (.tbl #[]) := fun t ht => by
        have ne : ¬ t = a := fun z => aT (by rw [← z]; exact ht)
        rw [if_neg ne, if_pos ht]
      refine ⟨fun b => if b = a then some (.frz { cls := .type "list", data := .seq vs.toArray } (.lst (zs.map V.int))) else if b ∈ cs.map (·.2) then some (.tbl #[]) else none, ⟨tab, fun b u q => ?_⟩, fun b q => ?_, .inl (.inr ⟨{ cls := .type "list", data := .seq vs.toArray }, if_pos rfl⟩), fun b u q => ?_⟩
      · by_cases hb : b = a
        · rw [if_pos hb] at q; cases q; exact .inr ⟨hb, rfl⟩
        · rw [if_neg hb] at q
          exact .inl (Classical.byContradiction fun n => by rw [if_neg n] at q; cases q)
      · by_cases hb : b = a
        · rw [hb]; exact hk
        · exact nT' b (Classical.byContradiction fun n => q (by dsimp only; rw [if_neg hb, if_neg n]))
      · dsimp only at q
        by_cases hb : b = a
        · rw [if_pos hb] at q
          cases q
          rw [hb]
          exact ⟨ha, by rw [List.length_map]; exact hl, vs, _, rv, ha⟩
        · rw [if_neg hb] at q
          have hb2 : b ∈ cs.map (·.2) := Classical.byContradiction fun n => by rw [if_neg n] at q; cases q
          rw [if_pos hb2] at q
          cases q
          exact tabOk _ b hb2
  have md : L2.Mod K mg (hidT s.heap H) := ⟨D.in hk KX, D.ns hT' ha g, ⟨mb, D.ns hT' ha gb, bb⟩, let ⟨mc, l1, l2⟩ := lim; ⟨mc, D.ns hT' ha l1, l2⟩⟩
  have e0 : Env0 P w K mg (hidT s.heap H) callerA [] s H :=
    { frames := rfl, mod := md, bs := fun b o e => of_hidT e, bsz := Nat.le_of_eq (hidT_size _ _), funs := trivial, frf := fun b hb => absurd (show b ∈ ([] : List Addr) from hb) List.not_mem_nil, hok := hok, bare := .of_eq gens }
  refine codeAny_mono (F _ H e0 (D.in hk KX) (D.ns hT' ha g) (fun p hp => D.code hT' ha g hbm (List.mem_map.mpr ⟨p, hp, rfl⟩) (C p hp)) (fun p hp => D.tab _ (List.mem_map.mpr ⟨p, hp, rfl⟩)) hS) fun r s' q => ?_
  match r, q with
  | .error e, q =>
    obtain ⟨_, _, _, _, _, _, _, _, _, _, _, _, z⟩ := q
    exact z.elim
  | .ok (.ret u), q =>
    obtain ⟨v, H2, os, bare, un, ok2, ru, rfl⟩ := q
    obtain rfl : u = Value.bool true := ru
    -- what stood there stands there still
    have stay : ∀ b o, b ∉ cs.map (·.2) → s.heap.get? b = some o → s'.heap.get? b = some o := fun b o nb e => by
      cases hb : H b with
      | none => exact un.keep b o e hb (by simp [frs]) (by simp)
      | some u =>
        rcases D.only b u hb with m | ⟨rfl, rfl⟩
        · exact absurd m nb
        · have z1 := (hok b _ hb).1
          have z2 := (ok2 b _ (un.frzs b _ _ hb)).1
          rw [e] at z1
          cases z1
          exact z2
    have more : ∀ b, b ∈ cs.map (·.2) → ∃ l : Array Value, s'.heap.get? b = some { cls := .none, data := .fields l } := fun b hb => by
      obtain ⟨l, hl⟩ := un.tbls b #[] (D.tab b hb)
      exact ⟨_, ok2 b _ hl⟩
    refine ⟨rfl, ⟨fun b o e => ?_, fun b o e => ?_⟩, os, bare⟩
    · by_cases hb : b ∈ cs.map (·.2)
      · obtain ⟨l, hl⟩ := more b hb
        obtain ⟨p, hp, rfl⟩ := List.mem_map.mp hb
        rw [hT p hp] at e
        cases e
        refine .inr (.inl ⟨((C p hp).tab (hT p hp)).isCodeTable, rfl, #[], l, rfl, ?_⟩)
        rw [Array.empty_append]
        exact hl
      · exact .inl (stay b o hb e)
    · by_cases hb : b ∈ cs.map (·.2)
      · obtain ⟨l, hl⟩ := more b hb
        exact ⟨_, hl⟩
      · exact ⟨o, stay b o hb e⟩
end
end EV

end
section
set_option Elab.async false
set_option linter.all false
set_option maxRecDepth 1000000
set_option maxHeartbeats 4000000
/-! what the top has made; the promises of all defs at every fuel -/
namespace EV
open PySem PySem.Spec PyProof.Rows L2
open LamX (Tabs TabS CodeO ExtN TabB)
/-- a def as the top has made it -/
structure DefF (K : PySem.W.Frag) (name : Str) (st : Stmt) (f : Addr) (dV cd : Value) : Prop where
  ns : PySem.W.nsIn K mainGlobals name = some (some (.ref f))
  lk : ∃ (oc kV dc pm ct : Value) (od an : Option Addr) (sl : Array (Option Value)), K.lookup f = some ⟨oc, od, .func (PySem.W.fnOf name name (defArgs st) (defBody st) (defScope st) dV kV dc pm an cd ct), sl⟩
  cd : PySem.W.codeIn K cd name = true
  kp : PySem.W.keepIn K (.ref f) = true
/-- the text of a class whose __init__ keeps one thing -/
structure ErrT (st : Stmt) (fld : Str) : Prop where
  sc : FnScope ["self", fld] ["self", fld] (defScope (inClass st 0))
  hb : chkInit fld (defBody (inClass st 0)) = true
  h1 : (defScope (inClass st 0)).names.lookup ("self" : Str) = some .local
  h2 : (defScope (inClass st 0)).names.lookup fld = some .local
  hd : (fld == ("__debug__" : Str)) = false
  hc : (fld == ("__classdict__" : Str)) = false
  bd : ∀ (q : Str) (kV dc pm cd ct : Value) (an : Option Addr) (us : List Value), us.length = 2 → bindArgs (PySem.W.fnOf "__init__" q (defArgs (inClass st 0)) (defBody (inClass st 0)) (defScope (inClass st 0)) .none kV dc pm an cd ct) ⟨us, []⟩ = pure ((["self", fld] : List Str).zip us)
/-- such a class as the top has made it -/
structure ErrF (K : PySem.W.Frag) (name : Str) (st : Stmt) (fld : Str) (C : Addr) : Prop where
  ns : PySem.W.nsIn K mainGlobals name = some (some (.ref C))
  ox : OexC K C
  xf : XfC K C
  no : PySem.W.findIn K (.ref C) fld = some none
  ini : ∃ (fI : Addr) (q : Str) (oc kV dc pm cd ct : Value) (od an : Option Addr) (sl : Array (Option Value)), PySem.W.findIn K (.ref C) "__init__" = some (some (.ref fI)) ∧ PySem.W.typeIn K (.ref fI) = some (.type "function") ∧
    K.lookup fI = some ⟨oc, od, .func (PySem.W.fnOf "__init__" q (defArgs (inClass st 0)) (defBody (inClass st 0)) (defScope (inClass st 0)) .none kV dc pm an cd ct), sl⟩ ∧ PySem.W.codeIn K cd q = true
  tx : ErrT st fld
theorem ErrF.mk' {Y : Cx} {name : Str} {st : Stmt} {fld : Str} {C : Addr} (E : ErrF Y.K name st fld C) : ErrMk Y 1 ⟨C, [fld], name⟩ := by
  obtain ⟨fI, q, oc, kV, dc, pm, cd, ct, od, an, sl, i1, i2, i3, i4⟩ := E.ini
  exact ⟨fI, _, _, fld, E.ox, i1, i2, init1 (k := 0) E.ox E.no i3 i4 E.tx.sc E.tx.hb E.tx.h1 E.tx.h2 E.tx.hd E.tx.hc, Binds.all fun us hl => E.tx.bd q kV dc pm cd ct an us hl, rfl⟩
def csK (C0 C1 C2 C3 C4 : Addr) : List ErrC := [⟨C0, ["index"], "BadAsks"⟩, ⟨C1, ["thing"], "BadClocks"⟩, ⟨C2, ["thing"], "BadLength"⟩, ⟨C3, ["thing"], "BadNumber"⟩, ⟨C4, ["thing"], "BadSpan"⟩]
structure AllF (K : PySem.W.Frag) (C0 C1 C2 C3 C4 c__law_refused_right P__law_refused_right : Addr) : Prop where
  d_is_list : ∃ f cd, DefF K "is_list" (top 9) f .none cd
  d_is_integer : ∃ f cd, DefF K "is_integer" (top 10) f .none cd
  d_is_number : ∃ f cd, DefF K "is_number" (top 11) f .none cd
  d_is_fraction : ∃ f cd, DefF K "is_fraction" (top 13) f .none cd
  d_lowest : ∃ f cd, DefF K "lowest" (top 14) f .none cd
  d_plus : ∃ f cd, DefF K "plus" (top 15) f .none cd
  d_minus : ∃ f cd, DefF K "minus" (top 16) f .none cd
  d_times : ∃ f cd, DefF K "times" (top 17) f .none cd
  d_over : ∃ f cd, DefF K "over" (top 18) f .none cd
  d_is_less : ∃ f cd, DefF K "is_less" (top 19) f .none cd
  d_lesser : ∃ f cd, DefF K "lesser" (top 20) f .none cd
  d_greater : ∃ f cd, DefF K "greater" (top 21) f .none cd
  d_checked_clocks : ∃ f cd, DefF K "checked_clocks" (top 23) f .none cd
  d_checked_length : ∃ f cd, DefF K "checked_length" (top 25) f .none cd
  d_is_ask : ∃ f cd, DefF K "is_ask" (top 26) f .none cd
  d_checked_asks : ∃ f cd, DefF K "checked_asks" (top 27) f .none cd
  d_kept_asks : ∃ f cd, DefF K "kept_asks" (top 28) f .none cd
  d_until : ∃ f cd, DefF K "until" (top 29) f .none cd
  d_greatest_until : ∃ f cd, DefF K "greatest_until" (top 30) f .none cd
  d_believe_until : ∃ f cd, DefF K "believe_until" (top 31) f .none cd
  d_span_of : ∃ f cd, DefF K "span_of" (top 32) f .none cd
  d_span_for : ∃ f cd, DefF K "span_for" (top 33) f .none cd
  d_length_for : ∃ f cd, DefF K "length_for" (top 34) f .none cd
  d_longest_period : ∃ f cd, DefF K "longest_period" (top 35) f .none cd
  d__law_l_lowest : ∃ f cd, DefF K "_law_l_lowest" (top 37) f .none cd
  d__law_l_plus : ∃ f cd, DefF K "_law_l_plus" (top 38) f .none cd
  d__law_l_times : ∃ f cd, DefF K "_law_l_times" (top 39) f .none cd
  d__law_l_over : ∃ f cd, DefF K "_law_l_over" (top 40) f .none cd
  d__law_l_minus : ∃ f cd, DefF K "_law_l_minus" (top 41) f .none cd
  d__law_l_less : ∃ f cd, DefF K "_law_l_less" (top 42) f .none cd
  d__law_l_clocks : ∃ f cd, DefF K "_law_l_clocks" (top 43) f .none cd
  d__law_l_loose : ∃ f cd, DefF K "_law_l_loose" (top 44) f .none cd
  d__law_l_until : ∃ f cd, DefF K "_law_l_until" (top 45) f .none cd
  d__law_start : ∃ f cd, DefF K "_law_start" (top 46) f .none cd
  d__law_draw : ∃ f cd, DefF K "_law_draw" (top 47) f .none cd
  d__law_pick : ∃ f cd, DefF K "_law_pick" (top 48) f .none cd
  d__law_same : ∃ f cd, DefF K "_law_same" (top 49) f .none cd
  d__law_met : ∃ f cd, DefF K "_law_met" (top 50) f .none cd
  d__law_greater_clocks : ∃ f cd, DefF K "_law_greater_clocks" (top 51) f .none cd
  d__law_span_right : ∃ f cd, DefF K "_law_span_right" (top 52) f .none cd
  d__law_period_right : ∃ f cd, DefF K "_law_period_right" (top 53) f .none cd
  d__law_refused_right : ∃ f, DefF K "_law_refused_right" (top 54) f .none (.ref c__law_refused_right)
  d_law : ∃ f cd, DefF K "law" (top 55) f .none cd
  e_BadAsks : ErrF K "BadAsks" (top 3) "index" C0
  e_BadClocks : ErrF K "BadClocks" (top 4) "thing" C1
  e_BadLength : ErrF K "BadLength" (top 5) "thing" C2
  e_BadNumber : ErrF K "BadNumber" (top 6) "thing" C3
  e_BadSpan : ErrF K "BadSpan" (top 7) "thing" C4
  x_0_0 : PySem.W.subIn K (.ref C0) (.ref C0) = some true
  x_0_1 : PySem.W.subIn K (.ref C0) (.ref C1) = some false
  x_0_2 : PySem.W.subIn K (.ref C0) (.ref C2) = some false
  x_0_3 : PySem.W.subIn K (.ref C0) (.ref C3) = some false
  x_0_4 : PySem.W.subIn K (.ref C0) (.ref C4) = some false
  x_1_0 : PySem.W.subIn K (.ref C1) (.ref C0) = some false
  x_1_1 : PySem.W.subIn K (.ref C1) (.ref C1) = some true
  x_1_2 : PySem.W.subIn K (.ref C1) (.ref C2) = some false
  x_1_3 : PySem.W.subIn K (.ref C1) (.ref C3) = some false
  x_1_4 : PySem.W.subIn K (.ref C1) (.ref C4) = some false
  x_2_0 : PySem.W.subIn K (.ref C2) (.ref C0) = some false
  x_2_1 : PySem.W.subIn K (.ref C2) (.ref C1) = some false
  x_2_2 : PySem.W.subIn K (.ref C2) (.ref C2) = some true
  x_2_3 : PySem.W.subIn K (.ref C2) (.ref C3) = some false
  x_2_4 : PySem.W.subIn K (.ref C2) (.ref C4) = some false
  x_3_0 : PySem.W.subIn K (.ref C3) (.ref C0) = some false
  x_3_1 : PySem.W.subIn K (.ref C3) (.ref C1) = some false
  x_3_2 : PySem.W.subIn K (.ref C3) (.ref C2) = some false
  x_3_3 : PySem.W.subIn K (.ref C3) (.ref C3) = some true
  x_3_4 : PySem.W.subIn K (.ref C3) (.ref C4) = some false
  x_4_0 : PySem.W.subIn K (.ref C4) (.ref C0) = some false
  x_4_1 : PySem.W.subIn K (.ref C4) (.ref C1) = some false
  x_4_2 : PySem.W.subIn K (.ref C4) (.ref C2) = some false
  x_4_3 : PySem.W.subIn K (.ref C4) (.ref C3) = some false
  x_4_4 : PySem.W.subIn K (.ref C4) (.ref C4) = some true
  g_gcd : PySem.W.nsIn K mainGlobals "gcd" = some (some (.builtin "math.gcd"))
  bt : ∀ x ∈ btab, PySem.W.nsIn K mainGlobals x = some none
section
variable {P : Program} {w : World} {K : PySem.W.Frag} {mg : Str → Option Value} {base h : Heap} {G : Gd} {C0 C1 C2 C3 C4 c__law_refused_right P__law_refused_right : Addr}
theorem cs_mem {ec : ErrC} (m : ec ∈ (csK C0 C1 C2 C3 C4)) : ec = ⟨C0, ["index"], "BadAsks"⟩ ∨ ec = ⟨C1, ["thing"], "BadClocks"⟩ ∨ ec = ⟨C2, ["thing"], "BadLength"⟩ ∨ ec = ⟨C3, ["thing"], "BadNumber"⟩ ∨ ec = ⟨C4, ["thing"], "BadSpan"⟩ := by simpa [csK] using m
theorem errsOk (A : AllF K C0 C1 C2 C3 C4 c__law_refused_right P__law_refused_right) (X : K.In h) (g : h.Ns mainGlobals mg) : ErrsOk K mg (csK C0 C1 C2 C3 C4) where
  xf := fun ec m => by
    rcases cs_mem m with rfl | rfl | rfl | rfl | rfl
    · exact (A.e_BadAsks).xf
    · exact (A.e_BadClocks).xf
    · exact (A.e_BadLength).xf
    · exact (A.e_BadNumber).xf
    · exact (A.e_BadSpan).xf
  no := fun ec m f hf => by
    rcases cs_mem m with rfl | rfl | rfl | rfl | rfl
    · rw [List.mem_singleton.mp hf]; exact (A.e_BadAsks).no
    · rw [List.mem_singleton.mp hf]; exact (A.e_BadClocks).no
    · rw [List.mem_singleton.mp hf]; exact (A.e_BadLength).no
    · rw [List.mem_singleton.mp hf]; exact (A.e_BadNumber).no
    · rw [List.mem_singleton.mp hf]; exact (A.e_BadSpan).no
  mg := fun ec m => by
    rcases cs_mem m with rfl | rfl | rfl | rfl | rfl
    · exact PySem.W.mg_of X g (A.e_BadAsks).ns
    · exact PySem.W.mg_of X g (A.e_BadClocks).ns
    · exact PySem.W.mg_of X g (A.e_BadLength).ns
    · exact PySem.W.mg_of X g (A.e_BadNumber).ns
    · exact PySem.W.mg_of X g (A.e_BadSpan).ns
  exm := fun i j e1 e2 h1 h2 => by
    have hi : i < 5 := by have := (List.getElem?_eq_some_iff.mp h1).1; simpa [csK] using this
    have hj : j < 5 := by have := (List.getElem?_eq_some_iff.mp h2).1; simpa [csK] using this
    match i, j, hi, hj, h1, h2 with
    | 0, 0, _, _, h1, h2 => cases h1; cases h2; exact PySem.W.exm_ref (A.e_BadAsks).ox.exC (A.e_BadAsks).xf.hdC (A.e_BadAsks).ox.tyC A.x_0_0
    | 0, 1, _, _, h1, h2 => cases h1; cases h2; exact PySem.W.exm_ref (A.e_BadClocks).ox.exC (A.e_BadClocks).xf.hdC (A.e_BadClocks).ox.tyC A.x_0_1
    | 0, 2, _, _, h1, h2 => cases h1; cases h2; exact PySem.W.exm_ref (A.e_BadLength).ox.exC (A.e_BadLength).xf.hdC (A.e_BadLength).ox.tyC A.x_0_2
    | 0, 3, _, _, h1, h2 => cases h1; cases h2; exact PySem.W.exm_ref (A.e_BadNumber).ox.exC (A.e_BadNumber).xf.hdC (A.e_BadNumber).ox.tyC A.x_0_3
    | 0, 4, _, _, h1, h2 => cases h1; cases h2; exact PySem.W.exm_ref (A.e_BadSpan).ox.exC (A.e_BadSpan).xf.hdC (A.e_BadSpan).ox.tyC A.x_0_4
    | 1, 0, _, _, h1, h2 => cases h1; cases h2; exact PySem.W.exm_ref (A.e_BadAsks).ox.exC (A.e_BadAsks).xf.hdC (A.e_BadAsks).ox.tyC A.x_1_0
    | 1, 1, _, _, h1, h2 => cases h1; cases h2; exact PySem.W.exm_ref (A.e_BadClocks).ox.exC (A.e_BadClocks).xf.hdC (A.e_BadClocks).ox.tyC A.x_1_1
    | 1, 2, _, _, h1, h2 => cases h1; cases h2; exact PySem.W.exm_ref (A.e_BadLength).ox.exC (A.e_BadLength).xf.hdC (A.e_BadLength).ox.tyC A.x_1_2
    | 1, 3, _, _, h1, h2 => cases h1; cases h2; exact PySem.W.exm_ref (A.e_BadNumber).ox.exC (A.e_BadNumber).xf.hdC (A.e_BadNumber).ox.tyC A.x_1_3
    | 1, 4, _, _, h1, h2 => cases h1; cases h2; exact PySem.W.exm_ref (A.e_BadSpan).ox.exC (A.e_BadSpan).xf.hdC (A.e_BadSpan).ox.tyC A.x_1_4
    | 2, 0, _, _, h1, h2 => cases h1; cases h2; exact PySem.W.exm_ref (A.e_BadAsks).ox.exC (A.e_BadAsks).xf.hdC (A.e_BadAsks).ox.tyC A.x_2_0
    | 2, 1, _, _, h1, h2 => cases h1; cases h2; exact PySem.W.exm_ref (A.e_BadClocks).ox.exC (A.e_BadClocks).xf.hdC (A.e_BadClocks).ox.tyC A.x_2_1
    | 2, 2, _, _, h1, h2 => cases h1; cases h2; exact PySem.W.exm_ref (A.e_BadLength).ox.exC (A.e_BadLength).xf.hdC (A.e_BadLength).ox.tyC A.x_2_2
    | 2, 3, _, _, h1, h2 => cases h1; cases h2; exact PySem.W.exm_ref (A.e_BadNumber).ox.exC (A.e_BadNumber).xf.hdC (A.e_BadNumber).ox.tyC A.x_2_3
    | 2, 4, _, _, h1, h2 => cases h1; cases h2; exact PySem.W.exm_ref (A.e_BadSpan).ox.exC (A.e_BadSpan).xf.hdC (A.e_BadSpan).ox.tyC A.x_2_4
    | 3, 0, _, _, h1, h2 => cases h1; cases h2; exact PySem.W.exm_ref (A.e_BadAsks).ox.exC (A.e_BadAsks).xf.hdC (A.e_BadAsks).ox.tyC A.x_3_0
    | 3, 1, _, _, h1, h2 => cases h1; cases h2; exact PySem.W.exm_ref (A.e_BadClocks).ox.exC (A.e_BadClocks).xf.hdC (A.e_BadClocks).ox.tyC A.x_3_1
    | 3, 2, _, _, h1, h2 => cases h1; cases h2; exact PySem.W.exm_ref (A.e_BadLength).ox.exC (A.e_BadLength).xf.hdC (A.e_BadLength).ox.tyC A.x_3_2
    | 3, 3, _, _, h1, h2 => cases h1; cases h2; exact PySem.W.exm_ref (A.e_BadNumber).ox.exC (A.e_BadNumber).xf.hdC (A.e_BadNumber).ox.tyC A.x_3_3
    | 3, 4, _, _, h1, h2 => cases h1; cases h2; exact PySem.W.exm_ref (A.e_BadSpan).ox.exC (A.e_BadSpan).xf.hdC (A.e_BadSpan).ox.tyC A.x_3_4
    | 4, 0, _, _, h1, h2 => cases h1; cases h2; exact PySem.W.exm_ref (A.e_BadAsks).ox.exC (A.e_BadAsks).xf.hdC (A.e_BadAsks).ox.tyC A.x_4_0
    | 4, 1, _, _, h1, h2 => cases h1; cases h2; exact PySem.W.exm_ref (A.e_BadClocks).ox.exC (A.e_BadClocks).xf.hdC (A.e_BadClocks).ox.tyC A.x_4_1
    | 4, 2, _, _, h1, h2 => cases h1; cases h2; exact PySem.W.exm_ref (A.e_BadLength).ox.exC (A.e_BadLength).xf.hdC (A.e_BadLength).ox.tyC A.x_4_2
    | 4, 3, _, _, h1, h2 => cases h1; cases h2; exact PySem.W.exm_ref (A.e_BadNumber).ox.exC (A.e_BadNumber).xf.hdC (A.e_BadNumber).ox.tyC A.x_4_3
    | 4, 4, _, _, h1, h2 => cases h1; cases h2; exact PySem.W.exm_ref (A.e_BadSpan).ox.exC (A.e_BadSpan).xf.hdC (A.e_BadSpan).ox.tyC A.x_4_4
  nd := fun ec m => by rcases cs_mem m with rfl | rfl | rfl | rfl | rfl <;> exact List.nodup_cons.mpr ⟨List.not_mem_nil, List.nodup_nil⟩
  nm := fun ec m => by
    rcases cs_mem m with rfl | rfl | rfl | rfl | rfl
    · show ((("BadAsks" : Str)) == ("__debug__" : Str)) = false; decide +kernel
    · show ((("BadClocks" : Str)) == ("__debug__" : Str)) = false; decide +kernel
    · show ((("BadLength" : Str)) == ("__debug__" : Str)) = false; decide +kernel
    · show ((("BadNumber" : Str)) == ("__debug__" : Str)) = false; decide +kernel
    · show ((("BadSpan" : Str)) == ("__debug__" : Str)) = false; decide +kernel
theorem errs_at (A : AllF K C0 C1 C2 C3 C4 c__law_refused_right P__law_refused_right) (X : K.In h) (g : h.Ns mainGlobals mg) : ∀ x c, gtab.lookup x = some (.err c) → ∃ ec, (csK C0 C1 C2 C3 C4)[c]? = some ec ∧ mg x = some (.ref ec.at') ∧ ∀ Y : Cx, Y.prog = P → Y.w = w → Y.K = K → Y.mg = mg → Y.base = base → ErrMk Y 1 ec := by
  intro x c hl
  have m := PySem.mem_of_lookup hl
  simp only [gtab, List.mem_cons, Prod.mk.injEq, reduceCtorEq, and_false, Glob.err.injEq, List.not_mem_nil, or_false, false_or] at m
  rcases m with ⟨rfl, rfl⟩ | ⟨rfl, rfl⟩ | ⟨rfl, rfl⟩ | ⟨rfl, rfl⟩ | ⟨rfl, rfl⟩
  · exact ⟨_, rfl, PySem.W.mg_of X g (A.e_BadAsks).ns, fun Y e1 e2 e3 e4 e5 => by subst e1 e2 e3 e4 e5; exact (A.e_BadAsks).mk'⟩
  · exact ⟨_, rfl, PySem.W.mg_of X g (A.e_BadClocks).ns, fun Y e1 e2 e3 e4 e5 => by subst e1 e2 e3 e4 e5; exact (A.e_BadClocks).mk'⟩
  · exact ⟨_, rfl, PySem.W.mg_of X g (A.e_BadLength).ns, fun Y e1 e2 e3 e4 e5 => by subst e1 e2 e3 e4 e5; exact (A.e_BadLength).mk'⟩
  · exact ⟨_, rfl, PySem.W.mg_of X g (A.e_BadNumber).ns, fun Y e1 e2 e3 e4 e5 => by subst e1 e2 e3 e4 e5; exact (A.e_BadNumber).mk'⟩
  · exact ⟨_, rfl, PySem.W.mg_of X g (A.e_BadSpan).ns, fun Y e1 e2 e3 e4 e5 => by subst e1 e2 e3 e4 e5; exact (A.e_BadSpan).mk'⟩
theorem sc_is_list : FnScope cc_is_list.N ["thing"] (defScope (top 9)) := ⟨rfl, rfl, rfl, by decide +kernel, rfl, by decide +kernel, by decide +kernel⟩
theorem sc_is_integer : FnScope cc_is_integer.N ["thing"] (defScope (top 10)) := ⟨rfl, rfl, rfl, by decide +kernel, rfl, by decide +kernel, by decide +kernel⟩
theorem sc_is_number : FnScope cc_is_number.N ["thing"] (defScope (top 11)) := ⟨rfl, rfl, rfl, by decide +kernel, rfl, by decide +kernel, by decide +kernel⟩
theorem sc_is_fraction : FnScope cc_is_fraction.N ["thing"] (defScope (top 13)) := ⟨rfl, rfl, rfl, by decide +kernel, rfl, by decide +kernel, by decide +kernel⟩
theorem sc_lowest : FnScope cc_lowest.N ["top", "bottom"] (defScope (top 14)) := ⟨rfl, rfl, rfl, by decide +kernel, rfl, by decide +kernel, by decide +kernel⟩
theorem sc_plus : FnScope cc_plus.N ["one", "other"] (defScope (top 15)) := ⟨rfl, rfl, rfl, by decide +kernel, rfl, by decide +kernel, by decide +kernel⟩
theorem sc_minus : FnScope cc_minus.N ["one", "other"] (defScope (top 16)) := ⟨rfl, rfl, rfl, by decide +kernel, rfl, by decide +kernel, by decide +kernel⟩
theorem sc_times : FnScope cc_times.N ["one", "other"] (defScope (top 17)) := ⟨rfl, rfl, rfl, by decide +kernel, rfl, by decide +kernel, by decide +kernel⟩
theorem sc_over : FnScope cc_over.N ["one", "other"] (defScope (top 18)) := ⟨rfl, rfl, rfl, by decide +kernel, rfl, by decide +kernel, by decide +kernel⟩
theorem sc_is_less : FnScope cc_is_less.N ["one", "other"] (defScope (top 19)) := ⟨rfl, rfl, rfl, by decide +kernel, rfl, by decide +kernel, by decide +kernel⟩
theorem sc_lesser : FnScope cc_lesser.N ["one", "other"] (defScope (top 20)) := ⟨rfl, rfl, rfl, by decide +kernel, rfl, by decide +kernel, by decide +kernel⟩
theorem sc_greater : FnScope cc_greater.N ["one", "other"] (defScope (top 21)) := ⟨rfl, rfl, rfl, by decide +kernel, rfl, by decide +kernel, by decide +kernel⟩
theorem sc_checked_clocks : FnScope cc_checked_clocks.N ["clocks"] (defScope (top 23)) := ⟨rfl, rfl, rfl, by decide +kernel, rfl, by decide +kernel, by decide +kernel⟩
theorem sc_checked_length : FnScope cc_checked_length.N ["length"] (defScope (top 25)) := ⟨rfl, rfl, rfl, by decide +kernel, rfl, by decide +kernel, by decide +kernel⟩
theorem sc_is_ask : FnScope cc_is_ask.N ["thing", "clocks"] (defScope (top 26)) := ⟨rfl, rfl, rfl, by decide +kernel, rfl, by decide +kernel, by decide +kernel⟩
theorem sc_checked_asks : FnScope cc_checked_asks.N ["asks", "clocks"] (defScope (top 27)) := ⟨rfl, rfl, rfl, by decide +kernel, rfl, by decide +kernel, by decide +kernel⟩
theorem sc_kept_asks : FnScope cc_kept_asks.N ["clocks", "length", "asks"] (defScope (top 28)) := ⟨rfl, rfl, rfl, by decide +kernel, rfl, by decide +kernel, by decide +kernel⟩
theorem sc_until : FnScope cc_until.N ["clocks", "length", "ask"] (defScope (top 29)) := ⟨rfl, rfl, rfl, by decide +kernel, rfl, by decide +kernel, by decide +kernel⟩
theorem sc_greatest_until : FnScope cc_greatest_until.N ["clocks", "length", "asks"] (defScope (top 30)) := ⟨rfl, rfl, rfl, by decide +kernel, rfl, by decide +kernel, by decide +kernel⟩
theorem sc_believe_until : FnScope cc_believe_until.N ["clocks", "length", "asks"] (defScope (top 31)) := ⟨rfl, rfl, rfl, by decide +kernel, rfl, by decide +kernel, by decide +kernel⟩
theorem sc_span_of : FnScope cc_span_of.N ["bounds", "length"] (defScope (top 32)) := ⟨rfl, rfl, rfl, by decide +kernel, rfl, by decide +kernel, by decide +kernel⟩
theorem sc_span_for : FnScope cc_span_for.N ["clocks", "length"] (defScope (top 33)) := ⟨rfl, rfl, rfl, by decide +kernel, rfl, by decide +kernel, by decide +kernel⟩
theorem sc_length_for : FnScope cc_length_for.N ["clocks", "span"] (defScope (top 34)) := ⟨rfl, rfl, rfl, by decide +kernel, rfl, by decide +kernel, by decide +kernel⟩
theorem sc_longest_period : FnScope cc_longest_period.N ["clocks", "length", "lost"] (defScope (top 35)) := ⟨rfl, rfl, rfl, by decide +kernel, rfl, by decide +kernel, by decide +kernel⟩
theorem sc__law_l_lowest : FnScope cc__law_l_lowest.N ["_law_top", "_law_bottom"] (defScope (top 37)) := ⟨rfl, rfl, rfl, by decide +kernel, rfl, by decide +kernel, by decide +kernel⟩
theorem sc__law_l_plus : FnScope cc__law_l_plus.N ["_law_one", "_law_other"] (defScope (top 38)) := ⟨rfl, rfl, rfl, by decide +kernel, rfl, by decide +kernel, by decide +kernel⟩
theorem sc__law_l_times : FnScope cc__law_l_times.N ["_law_one", "_law_other"] (defScope (top 39)) := ⟨rfl, rfl, rfl, by decide +kernel, rfl, by decide +kernel, by decide +kernel⟩
theorem sc__law_l_over : FnScope cc__law_l_over.N ["_law_one", "_law_other"] (defScope (top 40)) := ⟨rfl, rfl, rfl, by decide +kernel, rfl, by decide +kernel, by decide +kernel⟩
theorem sc__law_l_minus : FnScope cc__law_l_minus.N ["_law_one", "_law_other"] (defScope (top 41)) := ⟨rfl, rfl, rfl, by decide +kernel, rfl, by decide +kernel, by decide +kernel⟩
theorem sc__law_l_less : FnScope cc__law_l_less.N ["_law_one", "_law_other"] (defScope (top 42)) := ⟨rfl, rfl, rfl, by decide +kernel, rfl, by decide +kernel, by decide +kernel⟩
theorem sc__law_l_clocks : FnScope cc__law_l_clocks.N ["_law_stream"] (defScope (top 43)) := ⟨rfl, rfl, rfl, by decide +kernel, rfl, by decide +kernel, by decide +kernel⟩
theorem sc__law_l_loose : FnScope cc__law_l_loose.N ["_law_stream", "_law_thing"] (defScope (top 44)) := ⟨rfl, rfl, rfl, by decide +kernel, rfl, by decide +kernel, by decide +kernel⟩
theorem sc__law_l_until : FnScope cc__law_l_until.N ["_law_clocks", "_law_length", "_law_asks"] (defScope (top 45)) := ⟨rfl, rfl, rfl, by decide +kernel, rfl, by decide +kernel, by decide +kernel⟩
theorem sc__law_pick : FnScope cc__law_pick.N ["_law_stream", "_law_some"] (defScope (top 48)) := ⟨rfl, rfl, rfl, by decide +kernel, rfl, by decide +kernel, by decide +kernel⟩
theorem sc__law_same : FnScope cc__law_same.N ["_law_found", "_law_due"] (defScope (top 49)) := ⟨rfl, rfl, rfl, by decide +kernel, rfl, by decide +kernel, by decide +kernel⟩
theorem sc__law_greater_clocks : FnScope cc__law_greater_clocks.N ["_law_clocks", "_law_scale"] (defScope (top 51)) := ⟨rfl, rfl, rfl, by decide +kernel, rfl, by decide +kernel, by decide +kernel⟩
theorem sc__law_span_right : FnScope cc__law_span_right.N ["_law_clocks", "_law_length", "_law_answered"] (defScope (top 52)) := ⟨rfl, rfl, rfl, by decide +kernel, rfl, by decide +kernel, by decide +kernel⟩
theorem sc__law_period_right : FnScope cc__law_period_right.N ["_law_clocks", "_law_length", "_law_lost"] (defScope (top 53)) := ⟨rfl, rfl, rfl, by decide +kernel, rfl, by decide +kernel, by decide +kernel⟩
theorem sc__law_refused_right : FnScope cc__law_refused_right.N ["_law_stream", "_law_clocks"] (defScope (top 54)) := ⟨rfl, rfl, rfl, by decide +kernel, rfl, by decide +kernel, by decide +kernel⟩
theorem fn_ok_is_list (A : AllF K C0 C1 C2 C3 C4 c__law_refused_right P__law_refused_right) (X : K.In h) (g : h.Ns mainGlobals mg) {f : Addr} {cd : Value} (D : DefF K "is_list" (top 9) f .none cd) (n : Nat) (gl : GloOk (csK C0 C1 C2 C3 C4) G ⟨callN fns 3000 n, fun _ => .err, 3000⟩ (lev n) P w K mg base gtab btab ktab) :
    ∃ fd, (∃ (oc kV dc pm ct : Value) (od an : Option Addr) (sl : Array (Option Value)), fd = PySem.W.fnOf "is_list" "is_list" (defArgs (top 9)) (defBody (top 9)) (defScope (top 9)) .none kV dc pm an cd ct) ∧ FnOk P w K mg base (L2.CX P w) (lev (n + 1)) f fd ["thing"] (spF (csK C0 C1 C2 C3 C4) G 1 (callN fns 3000 (n + 1) 0)) := by
  obtain ⟨oc, kV, dc, pm, ct, od, an, sl, lk⟩ := D.lk
  exact ⟨_, ⟨oc, kV, dc, pm, ct, od, an, sl, rfl⟩, def_ok (fn := fd_is_list) (cc := cc_is_list) lk D.cd sc_is_list rfl rfl rfl rfl rfl ck_is_list gl rfl (fun x hs h => by cases h) (errs_at A X g)⟩
theorem fn_ok_is_integer (A : AllF K C0 C1 C2 C3 C4 c__law_refused_right P__law_refused_right) (X : K.In h) (g : h.Ns mainGlobals mg) {f : Addr} {cd : Value} (D : DefF K "is_integer" (top 10) f .none cd) (n : Nat) (gl : GloOk (csK C0 C1 C2 C3 C4) G ⟨callN fns 3000 n, fun _ => .err, 3000⟩ (lev n) P w K mg base gtab btab ktab) :
    ∃ fd, (∃ (oc kV dc pm ct : Value) (od an : Option Addr) (sl : Array (Option Value)), fd = PySem.W.fnOf "is_integer" "is_integer" (defArgs (top 10)) (defBody (top 10)) (defScope (top 10)) .none kV dc pm an cd ct) ∧ FnOk P w K mg base (L2.CX P w) (lev (n + 1)) f fd ["thing"] (spF (csK C0 C1 C2 C3 C4) G 1 (callN fns 3000 (n + 1) 1)) := by
  obtain ⟨oc, kV, dc, pm, ct, od, an, sl, lk⟩ := D.lk
  exact ⟨_, ⟨oc, kV, dc, pm, ct, od, an, sl, rfl⟩, def_ok (fn := fd_is_integer) (cc := cc_is_integer) lk D.cd sc_is_integer rfl rfl rfl rfl rfl ck_is_integer gl rfl (fun x hs h => by cases h) (errs_at A X g)⟩
theorem fn_ok_is_number (A : AllF K C0 C1 C2 C3 C4 c__law_refused_right P__law_refused_right) (X : K.In h) (g : h.Ns mainGlobals mg) {f : Addr} {cd : Value} (D : DefF K "is_number" (top 11) f .none cd) (n : Nat) (gl : GloOk (csK C0 C1 C2 C3 C4) G ⟨callN fns 3000 n, fun _ => .err, 3000⟩ (lev n) P w K mg base gtab btab ktab) :
    ∃ fd, (∃ (oc kV dc pm ct : Value) (od an : Option Addr) (sl : Array (Option Value)), fd = PySem.W.fnOf "is_number" "is_number" (defArgs (top 11)) (defBody (top 11)) (defScope (top 11)) .none kV dc pm an cd ct) ∧ FnOk P w K mg base (L2.CX P w) (lev (n + 1)) f fd ["thing"] (spF (csK C0 C1 C2 C3 C4) G 1 (callN fns 3000 (n + 1) 2)) := by
  obtain ⟨oc, kV, dc, pm, ct, od, an, sl, lk⟩ := D.lk
  exact ⟨_, ⟨oc, kV, dc, pm, ct, od, an, sl, rfl⟩, def_ok (fn := fd_is_number) (cc := cc_is_number) lk D.cd sc_is_number rfl rfl rfl rfl rfl ck_is_number gl rfl (fun x hs h => by cases h) (errs_at A X g)⟩
theorem fn_ok_is_fraction (A : AllF K C0 C1 C2 C3 C4 c__law_refused_right P__law_refused_right) (X : K.In h) (g : h.Ns mainGlobals mg) {f : Addr} {cd : Value} (D : DefF K "is_fraction" (top 13) f .none cd) (n : Nat) (gl : GloOk (csK C0 C1 C2 C3 C4) G ⟨callN fns 3000 n, fun _ => .err, 3000⟩ (lev n) P w K mg base gtab btab ktab) :
    ∃ fd, (∃ (oc kV dc pm ct : Value) (od an : Option Addr) (sl : Array (Option Value)), fd = PySem.W.fnOf "is_fraction" "is_fraction" (defArgs (top 13)) (defBody (top 13)) (defScope (top 13)) .none kV dc pm an cd ct) ∧ FnOk P w K mg base (L2.CX P w) (lev (n + 1)) f fd ["thing"] (spF (csK C0 C1 C2 C3 C4) G 1 (callN fns 3000 (n + 1) 3)) := by
  obtain ⟨oc, kV, dc, pm, ct, od, an, sl, lk⟩ := D.lk
  exact ⟨_, ⟨oc, kV, dc, pm, ct, od, an, sl, rfl⟩, def_ok (fn := fd_is_fraction) (cc := cc_is_fraction) lk D.cd sc_is_fraction rfl rfl rfl rfl rfl ck_is_fraction gl rfl (fun x hs h => by cases h) (errs_at A X g)⟩
theorem fn_ok_lowest (A : AllF K C0 C1 C2 C3 C4 c__law_refused_right P__law_refused_right) (X : K.In h) (g : h.Ns mainGlobals mg) {f : Addr} {cd : Value} (D : DefF K "lowest" (top 14) f .none cd) (n : Nat) (gl : GloOk (csK C0 C1 C2 C3 C4) G ⟨callN fns 3000 n, fun _ => .err, 3000⟩ (lev n) P w K mg base gtab btab ktab) :
    ∃ fd, (∃ (oc kV dc pm ct : Value) (od an : Option Addr) (sl : Array (Option Value)), fd = PySem.W.fnOf "lowest" "lowest" (defArgs (top 14)) (defBody (top 14)) (defScope (top 14)) .none kV dc pm an cd ct) ∧ FnOk P w K mg base (L2.CX P w) (lev (n + 1)) f fd ["top", "bottom"] (spF (csK C0 C1 C2 C3 C4) G 2 (callN fns 3000 (n + 1) 4)) := by
  obtain ⟨oc, kV, dc, pm, ct, od, an, sl, lk⟩ := D.lk
  exact ⟨_, ⟨oc, kV, dc, pm, ct, od, an, sl, rfl⟩, def_ok (fn := fd_lowest) (cc := cc_lowest) lk D.cd sc_lowest rfl rfl rfl rfl rfl ck_lowest gl rfl (fun x hs h => by cases h) (errs_at A X g)⟩
theorem fn_ok_plus (A : AllF K C0 C1 C2 C3 C4 c__law_refused_right P__law_refused_right) (X : K.In h) (g : h.Ns mainGlobals mg) {f : Addr} {cd : Value} (D : DefF K "plus" (top 15) f .none cd) (n : Nat) (gl : GloOk (csK C0 C1 C2 C3 C4) G ⟨callN fns 3000 n, fun _ => .err, 3000⟩ (lev n) P w K mg base gtab btab ktab) :
    ∃ fd, (∃ (oc kV dc pm ct : Value) (od an : Option Addr) (sl : Array (Option Value)), fd = PySem.W.fnOf "plus" "plus" (defArgs (top 15)) (defBody (top 15)) (defScope (top 15)) .none kV dc pm an cd ct) ∧ FnOk P w K mg base (L2.CX P w) (lev (n + 1)) f fd ["one", "other"] (spF (csK C0 C1 C2 C3 C4) G 2 (callN fns 3000 (n + 1) 5)) := by
  obtain ⟨oc, kV, dc, pm, ct, od, an, sl, lk⟩ := D.lk
  exact ⟨_, ⟨oc, kV, dc, pm, ct, od, an, sl, rfl⟩, def_ok (fn := fd_plus) (cc := cc_plus) lk D.cd sc_plus rfl rfl rfl rfl rfl ck_plus gl rfl (fun x hs h => by cases h) (errs_at A X g)⟩
theorem fn_ok_minus (A : AllF K C0 C1 C2 C3 C4 c__law_refused_right P__law_refused_right) (X : K.In h) (g : h.Ns mainGlobals mg) {f : Addr} {cd : Value} (D : DefF K "minus" (top 16) f .none cd) (n : Nat) (gl : GloOk (csK C0 C1 C2 C3 C4) G ⟨callN fns 3000 n, fun _ => .err, 3000⟩ (lev n) P w K mg base gtab btab ktab) :
    ∃ fd, (∃ (oc kV dc pm ct : Value) (od an : Option Addr) (sl : Array (Option Value)), fd = PySem.W.fnOf "minus" "minus" (defArgs (top 16)) (defBody (top 16)) (defScope (top 16)) .none kV dc pm an cd ct) ∧ FnOk P w K mg base (L2.CX P w) (lev (n + 1)) f fd ["one", "other"] (spF (csK C0 C1 C2 C3 C4) G 2 (callN fns 3000 (n + 1) 6)) := by
  obtain ⟨oc, kV, dc, pm, ct, od, an, sl, lk⟩ := D.lk
  exact ⟨_, ⟨oc, kV, dc, pm, ct, od, an, sl, rfl⟩, def_ok (fn := fd_minus) (cc := cc_minus) lk D.cd sc_minus rfl rfl rfl rfl rfl ck_minus gl rfl (fun x hs h => by cases h) (errs_at A X g)⟩
theorem fn_ok_times (A : AllF K C0 C1 C2 C3 C4 c__law_refused_right P__law_refused_right) (X : K.In h) (g : h.Ns mainGlobals mg) {f : Addr} {cd : Value} (D : DefF K "times" (top 17) f .none cd) (n : Nat) (gl : GloOk (csK C0 C1 C2 C3 C4) G ⟨callN fns 3000 n, fun _ => .err, 3000⟩ (lev n) P w K mg base gtab btab ktab) :
    ∃ fd, (∃ (oc kV dc pm ct : Value) (od an : Option Addr) (sl : Array (Option Value)), fd = PySem.W.fnOf "times" "times" (defArgs (top 17)) (defBody (top 17)) (defScope (top 17)) .none kV dc pm an cd ct) ∧ FnOk P w K mg base (L2.CX P w) (lev (n + 1)) f fd ["one", "other"] (spF (csK C0 C1 C2 C3 C4) G 2 (callN fns 3000 (n + 1) 7)) := by
  obtain ⟨oc, kV, dc, pm, ct, od, an, sl, lk⟩ := D.lk
  exact ⟨_, ⟨oc, kV, dc, pm, ct, od, an, sl, rfl⟩, def_ok (fn := fd_times) (cc := cc_times) lk D.cd sc_times rfl rfl rfl rfl rfl ck_times gl rfl (fun x hs h => by cases h) (errs_at A X g)⟩
theorem fn_ok_over (A : AllF K C0 C1 C2 C3 C4 c__law_refused_right P__law_refused_right) (X : K.In h) (g : h.Ns mainGlobals mg) {f : Addr} {cd : Value} (D : DefF K "over" (top 18) f .none cd) (n : Nat) (gl : GloOk (csK C0 C1 C2 C3 C4) G ⟨callN fns 3000 n, fun _ => .err, 3000⟩ (lev n) P w K mg base gtab btab ktab) :
    ∃ fd, (∃ (oc kV dc pm ct : Value) (od an : Option Addr) (sl : Array (Option Value)), fd = PySem.W.fnOf "over" "over" (defArgs (top 18)) (defBody (top 18)) (defScope (top 18)) .none kV dc pm an cd ct) ∧ FnOk P w K mg base (L2.CX P w) (lev (n + 1)) f fd ["one", "other"] (spF (csK C0 C1 C2 C3 C4) G 2 (callN fns 3000 (n + 1) 8)) := by
  obtain ⟨oc, kV, dc, pm, ct, od, an, sl, lk⟩ := D.lk
  exact ⟨_, ⟨oc, kV, dc, pm, ct, od, an, sl, rfl⟩, def_ok (fn := fd_over) (cc := cc_over) lk D.cd sc_over rfl rfl rfl rfl rfl ck_over gl rfl (fun x hs h => by cases h) (errs_at A X g)⟩
theorem fn_ok_is_less (A : AllF K C0 C1 C2 C3 C4 c__law_refused_right P__law_refused_right) (X : K.In h) (g : h.Ns mainGlobals mg) {f : Addr} {cd : Value} (D : DefF K "is_less" (top 19) f .none cd) (n : Nat) (gl : GloOk (csK C0 C1 C2 C3 C4) G ⟨callN fns 3000 n, fun _ => .err, 3000⟩ (lev n) P w K mg base gtab btab ktab) :
    ∃ fd, (∃ (oc kV dc pm ct : Value) (od an : Option Addr) (sl : Array (Option Value)), fd = PySem.W.fnOf "is_less" "is_less" (defArgs (top 19)) (defBody (top 19)) (defScope (top 19)) .none kV dc pm an cd ct) ∧ FnOk P w K mg base (L2.CX P w) (lev (n + 1)) f fd ["one", "other"] (spF (csK C0 C1 C2 C3 C4) G 2 (callN fns 3000 (n + 1) 9)) := by
  obtain ⟨oc, kV, dc, pm, ct, od, an, sl, lk⟩ := D.lk
  exact ⟨_, ⟨oc, kV, dc, pm, ct, od, an, sl, rfl⟩, def_ok (fn := fd_is_less) (cc := cc_is_less) lk D.cd sc_is_less rfl rfl rfl rfl rfl ck_is_less gl rfl (fun x hs h => by cases h) (errs_at A X g)⟩
theorem fn_ok_lesser (A : AllF K C0 C1 C2 C3 C4 c__law_refused_right P__law_refused_right) (X : K.In h) (g : h.Ns mainGlobals mg) {f : Addr} {cd : Value} (D : DefF K "lesser" (top 20) f .none cd) (n : Nat) (gl : GloOk (csK C0 C1 C2 C3 C4) G ⟨callN fns 3000 n, fun _ => .err, 3000⟩ (lev n) P w K mg base gtab btab ktab) :
    ∃ fd, (∃ (oc kV dc pm ct : Value) (od an : Option Addr) (sl : Array (Option Value)), fd = PySem.W.fnOf "lesser" "lesser" (defArgs (top 20)) (defBody (top 20)) (defScope (top 20)) .none kV dc pm an cd ct) ∧ FnOk P w K mg base (L2.CX P w) (lev (n + 1)) f fd ["one", "other"] (spF (csK C0 C1 C2 C3 C4) G 2 (callN fns 3000 (n + 1) 10)) := by
  obtain ⟨oc, kV, dc, pm, ct, od, an, sl, lk⟩ := D.lk
  exact ⟨_, ⟨oc, kV, dc, pm, ct, od, an, sl, rfl⟩, def_ok (fn := fd_lesser) (cc := cc_lesser) lk D.cd sc_lesser rfl rfl rfl rfl rfl ck_lesser gl rfl (fun x hs h => by cases h) (errs_at A X g)⟩
theorem fn_ok_greater (A : AllF K C0 C1 C2 C3 C4 c__law_refused_right P__law_refused_right) (X : K.In h) (g : h.Ns mainGlobals mg) {f : Addr} {cd : Value} (D : DefF K "greater" (top 21) f .none cd) (n : Nat) (gl : GloOk (csK C0 C1 C2 C3 C4) G ⟨callN fns 3000 n, fun _ => .err, 3000⟩ (lev n) P w K mg base gtab btab ktab) :
    ∃ fd, (∃ (oc kV dc pm ct : Value) (od an : Option Addr) (sl : Array (Option Value)), fd = PySem.W.fnOf "greater" "greater" (defArgs (top 21)) (defBody (top 21)) (defScope (top 21)) .none kV dc pm an cd ct) ∧ FnOk P w K mg base (L2.CX P w) (lev (n + 1)) f fd ["one", "other"] (spF (csK C0 C1 C2 C3 C4) G 2 (callN fns 3000 (n + 1) 11)) := by
  obtain ⟨oc, kV, dc, pm, ct, od, an, sl, lk⟩ := D.lk
  exact ⟨_, ⟨oc, kV, dc, pm, ct, od, an, sl, rfl⟩, def_ok (fn := fd_greater) (cc := cc_greater) lk D.cd sc_greater rfl rfl rfl rfl rfl ck_greater gl rfl (fun x hs h => by cases h) (errs_at A X g)⟩
theorem fn_ok_checked_clocks (A : AllF K C0 C1 C2 C3 C4 c__law_refused_right P__law_refused_right) (X : K.In h) (g : h.Ns mainGlobals mg) {f : Addr} {cd : Value} (D : DefF K "checked_clocks" (top 23) f .none cd) (n : Nat) (gl : GloOk (csK C0 C1 C2 C3 C4) G ⟨callN fns 3000 n, fun _ => .err, 3000⟩ (lev n) P w K mg base gtab btab ktab) :
    ∃ fd, (∃ (oc kV dc pm ct : Value) (od an : Option Addr) (sl : Array (Option Value)), fd = PySem.W.fnOf "checked_clocks" "checked_clocks" (defArgs (top 23)) (defBody (top 23)) (defScope (top 23)) .none kV dc pm an cd ct) ∧ FnOk P w K mg base (L2.CX P w) (lev (n + 1)) f fd ["clocks"] (spF (csK C0 C1 C2 C3 C4) G 1 (callN fns 3000 (n + 1) 12)) := by
  obtain ⟨oc, kV, dc, pm, ct, od, an, sl, lk⟩ := D.lk
  exact ⟨_, ⟨oc, kV, dc, pm, ct, od, an, sl, rfl⟩, def_ok (fn := fd_checked_clocks) (cc := cc_checked_clocks) lk D.cd sc_checked_clocks rfl rfl rfl rfl rfl ck_checked_clocks gl rfl (fun x hs h => by cases h) (errs_at A X g)⟩
theorem fn_ok_checked_length (A : AllF K C0 C1 C2 C3 C4 c__law_refused_right P__law_refused_right) (X : K.In h) (g : h.Ns mainGlobals mg) {f : Addr} {cd : Value} (D : DefF K "checked_length" (top 25) f .none cd) (n : Nat) (gl : GloOk (csK C0 C1 C2 C3 C4) G ⟨callN fns 3000 n, fun _ => .err, 3000⟩ (lev n) P w K mg base gtab btab ktab) :
    ∃ fd, (∃ (oc kV dc pm ct : Value) (od an : Option Addr) (sl : Array (Option Value)), fd = PySem.W.fnOf "checked_length" "checked_length" (defArgs (top 25)) (defBody (top 25)) (defScope (top 25)) .none kV dc pm an cd ct) ∧ FnOk P w K mg base (L2.CX P w) (lev (n + 1)) f fd ["length"] (spF (csK C0 C1 C2 C3 C4) G 1 (callN fns 3000 (n + 1) 13)) := by
  obtain ⟨oc, kV, dc, pm, ct, od, an, sl, lk⟩ := D.lk
  exact ⟨_, ⟨oc, kV, dc, pm, ct, od, an, sl, rfl⟩, def_ok (fn := fd_checked_length) (cc := cc_checked_length) lk D.cd sc_checked_length rfl rfl rfl rfl rfl ck_checked_length gl rfl (fun x hs h => by cases h) (errs_at A X g)⟩
theorem fn_ok_is_ask (A : AllF K C0 C1 C2 C3 C4 c__law_refused_right P__law_refused_right) (X : K.In h) (g : h.Ns mainGlobals mg) {f : Addr} {cd : Value} (D : DefF K "is_ask" (top 26) f .none cd) (n : Nat) (gl : GloOk (csK C0 C1 C2 C3 C4) G ⟨callN fns 3000 n, fun _ => .err, 3000⟩ (lev n) P w K mg base gtab btab ktab) :
    ∃ fd, (∃ (oc kV dc pm ct : Value) (od an : Option Addr) (sl : Array (Option Value)), fd = PySem.W.fnOf "is_ask" "is_ask" (defArgs (top 26)) (defBody (top 26)) (defScope (top 26)) .none kV dc pm an cd ct) ∧ FnOk P w K mg base (L2.CX P w) (lev (n + 1)) f fd ["thing", "clocks"] (spF (csK C0 C1 C2 C3 C4) G 2 (callN fns 3000 (n + 1) 14)) := by
  obtain ⟨oc, kV, dc, pm, ct, od, an, sl, lk⟩ := D.lk
  exact ⟨_, ⟨oc, kV, dc, pm, ct, od, an, sl, rfl⟩, def_ok (fn := fd_is_ask) (cc := cc_is_ask) lk D.cd sc_is_ask rfl rfl rfl rfl rfl ck_is_ask gl rfl (fun x hs h => by cases h) (errs_at A X g)⟩
theorem fn_ok_checked_asks (A : AllF K C0 C1 C2 C3 C4 c__law_refused_right P__law_refused_right) (X : K.In h) (g : h.Ns mainGlobals mg) {f : Addr} {cd : Value} (D : DefF K "checked_asks" (top 27) f .none cd) (n : Nat) (gl : GloOk (csK C0 C1 C2 C3 C4) G ⟨callN fns 3000 n, fun _ => .err, 3000⟩ (lev n) P w K mg base gtab btab ktab) :
    ∃ fd, (∃ (oc kV dc pm ct : Value) (od an : Option Addr) (sl : Array (Option Value)), fd = PySem.W.fnOf "checked_asks" "checked_asks" (defArgs (top 27)) (defBody (top 27)) (defScope (top 27)) .none kV dc pm an cd ct) ∧ FnOk P w K mg base (L2.CX P w) (lev (n + 1)) f fd ["asks", "clocks"] (spF (csK C0 C1 C2 C3 C4) G 2 (callN fns 3000 (n + 1) 15)) := by
  obtain ⟨oc, kV, dc, pm, ct, od, an, sl, lk⟩ := D.lk
  exact ⟨_, ⟨oc, kV, dc, pm, ct, od, an, sl, rfl⟩, def_ok (fn := fd_checked_asks) (cc := cc_checked_asks) lk D.cd sc_checked_asks rfl rfl rfl rfl rfl ck_checked_asks gl rfl (fun x hs h => by cases h) (errs_at A X g)⟩
theorem fn_ok_kept_asks (A : AllF K C0 C1 C2 C3 C4 c__law_refused_right P__law_refused_right) (X : K.In h) (g : h.Ns mainGlobals mg) {f : Addr} {cd : Value} (D : DefF K "kept_asks" (top 28) f .none cd) (n : Nat) (gl : GloOk (csK C0 C1 C2 C3 C4) G ⟨callN fns 3000 n, fun _ => .err, 3000⟩ (lev n) P w K mg base gtab btab ktab) :
    ∃ fd, (∃ (oc kV dc pm ct : Value) (od an : Option Addr) (sl : Array (Option Value)), fd = PySem.W.fnOf "kept_asks" "kept_asks" (defArgs (top 28)) (defBody (top 28)) (defScope (top 28)) .none kV dc pm an cd ct) ∧ FnOk P w K mg base (L2.CX P w) (lev (n + 1)) f fd ["clocks", "length", "asks"] (spF (csK C0 C1 C2 C3 C4) G 3 (callN fns 3000 (n + 1) 16)) := by
  obtain ⟨oc, kV, dc, pm, ct, od, an, sl, lk⟩ := D.lk
  exact ⟨_, ⟨oc, kV, dc, pm, ct, od, an, sl, rfl⟩, def_ok (fn := fd_kept_asks) (cc := cc_kept_asks) lk D.cd sc_kept_asks rfl rfl rfl rfl rfl ck_kept_asks gl rfl (fun x hs h => by cases h) (errs_at A X g)⟩
theorem fn_ok_until (A : AllF K C0 C1 C2 C3 C4 c__law_refused_right P__law_refused_right) (X : K.In h) (g : h.Ns mainGlobals mg) {f : Addr} {cd : Value} (D : DefF K "until" (top 29) f .none cd) (n : Nat) (gl : GloOk (csK C0 C1 C2 C3 C4) G ⟨callN fns 3000 n, fun _ => .err, 3000⟩ (lev n) P w K mg base gtab btab ktab) :
    ∃ fd, (∃ (oc kV dc pm ct : Value) (od an : Option Addr) (sl : Array (Option Value)), fd = PySem.W.fnOf "until" "until" (defArgs (top 29)) (defBody (top 29)) (defScope (top 29)) .none kV dc pm an cd ct) ∧ FnOk P w K mg base (L2.CX P w) (lev (n + 1)) f fd ["clocks", "length", "ask"] (spF (csK C0 C1 C2 C3 C4) G 3 (callN fns 3000 (n + 1) 17)) := by
  obtain ⟨oc, kV, dc, pm, ct, od, an, sl, lk⟩ := D.lk
  exact ⟨_, ⟨oc, kV, dc, pm, ct, od, an, sl, rfl⟩, def_ok (fn := fd_until) (cc := cc_until) lk D.cd sc_until rfl rfl rfl rfl rfl ck_until gl rfl (fun x hs h => by cases h) (errs_at A X g)⟩
theorem fn_ok_greatest_until (A : AllF K C0 C1 C2 C3 C4 c__law_refused_right P__law_refused_right) (X : K.In h) (g : h.Ns mainGlobals mg) {f : Addr} {cd : Value} (D : DefF K "greatest_until" (top 30) f .none cd) (n : Nat) (gl : GloOk (csK C0 C1 C2 C3 C4) G ⟨callN fns 3000 n, fun _ => .err, 3000⟩ (lev n) P w K mg base gtab btab ktab) :
    ∃ fd, (∃ (oc kV dc pm ct : Value) (od an : Option Addr) (sl : Array (Option Value)), fd = PySem.W.fnOf "greatest_until" "greatest_until" (defArgs (top 30)) (defBody (top 30)) (defScope (top 30)) .none kV dc pm an cd ct) ∧ FnOk P w K mg base (L2.CX P w) (lev (n + 1)) f fd ["clocks", "length", "asks"] (spF (csK C0 C1 C2 C3 C4) G 3 (callN fns 3000 (n + 1) 18)) := by
  obtain ⟨oc, kV, dc, pm, ct, od, an, sl, lk⟩ := D.lk
  exact ⟨_, ⟨oc, kV, dc, pm, ct, od, an, sl, rfl⟩, def_ok (fn := fd_greatest_until) (cc := cc_greatest_until) lk D.cd sc_greatest_until rfl rfl rfl rfl rfl ck_greatest_until gl rfl (fun x hs h => by cases h) (errs_at A X g)⟩
theorem fn_ok_believe_until (A : AllF K C0 C1 C2 C3 C4 c__law_refused_right P__law_refused_right) (X : K.In h) (g : h.Ns mainGlobals mg) {f : Addr} {cd : Value} (D : DefF K "believe_until" (top 31) f .none cd) (n : Nat) (gl : GloOk (csK C0 C1 C2 C3 C4) G ⟨callN fns 3000 n, fun _ => .err, 3000⟩ (lev n) P w K mg base gtab btab ktab) :
    ∃ fd, (∃ (oc kV dc pm ct : Value) (od an : Option Addr) (sl : Array (Option Value)), fd = PySem.W.fnOf "believe_until" "believe_until" (defArgs (top 31)) (defBody (top 31)) (defScope (top 31)) .none kV dc pm an cd ct) ∧ FnOk P w K mg base (L2.CX P w) (lev (n + 1)) f fd ["clocks", "length", "asks"] (spF (csK C0 C1 C2 C3 C4) G 3 (callN fns 3000 (n + 1) 19)) := by
  obtain ⟨oc, kV, dc, pm, ct, od, an, sl, lk⟩ := D.lk
  exact ⟨_, ⟨oc, kV, dc, pm, ct, od, an, sl, rfl⟩, def_ok (fn := fd_believe_until) (cc := cc_believe_until) lk D.cd sc_believe_until rfl rfl rfl rfl rfl ck_believe_until gl rfl (fun x hs h => by cases h) (errs_at A X g)⟩
theorem fn_ok_span_of (A : AllF K C0 C1 C2 C3 C4 c__law_refused_right P__law_refused_right) (X : K.In h) (g : h.Ns mainGlobals mg) {f : Addr} {cd : Value} (D : DefF K "span_of" (top 32) f .none cd) (n : Nat) (gl : GloOk (csK C0 C1 C2 C3 C4) G ⟨callN fns 3000 n, fun _ => .err, 3000⟩ (lev n) P w K mg base gtab btab ktab) :
    ∃ fd, (∃ (oc kV dc pm ct : Value) (od an : Option Addr) (sl : Array (Option Value)), fd = PySem.W.fnOf "span_of" "span_of" (defArgs (top 32)) (defBody (top 32)) (defScope (top 32)) .none kV dc pm an cd ct) ∧ FnOk P w K mg base (L2.CX P w) (lev (n + 1)) f fd ["bounds", "length"] (spF (csK C0 C1 C2 C3 C4) G 2 (callN fns 3000 (n + 1) 20)) := by
  obtain ⟨oc, kV, dc, pm, ct, od, an, sl, lk⟩ := D.lk
  exact ⟨_, ⟨oc, kV, dc, pm, ct, od, an, sl, rfl⟩, def_ok (fn := fd_span_of) (cc := cc_span_of) lk D.cd sc_span_of rfl rfl rfl rfl rfl ck_span_of gl rfl (fun x hs h => by cases h) (errs_at A X g)⟩
theorem fn_ok_span_for (A : AllF K C0 C1 C2 C3 C4 c__law_refused_right P__law_refused_right) (X : K.In h) (g : h.Ns mainGlobals mg) {f : Addr} {cd : Value} (D : DefF K "span_for" (top 33) f .none cd) (n : Nat) (gl : GloOk (csK C0 C1 C2 C3 C4) G ⟨callN fns 3000 n, fun _ => .err, 3000⟩ (lev n) P w K mg base gtab btab ktab) :
    ∃ fd, (∃ (oc kV dc pm ct : Value) (od an : Option Addr) (sl : Array (Option Value)), fd = PySem.W.fnOf "span_for" "span_for" (defArgs (top 33)) (defBody (top 33)) (defScope (top 33)) .none kV dc pm an cd ct) ∧ FnOk P w K mg base (L2.CX P w) (lev (n + 1)) f fd ["clocks", "length"] (spF (csK C0 C1 C2 C3 C4) G 2 (callN fns 3000 (n + 1) 21)) := by
  obtain ⟨oc, kV, dc, pm, ct, od, an, sl, lk⟩ := D.lk
  exact ⟨_, ⟨oc, kV, dc, pm, ct, od, an, sl, rfl⟩, def_ok (fn := fd_span_for) (cc := cc_span_for) lk D.cd sc_span_for rfl rfl rfl rfl rfl ck_span_for gl rfl (fun x hs h => by cases h) (errs_at A X g)⟩
theorem fn_ok_length_for (A : AllF K C0 C1 C2 C3 C4 c__law_refused_right P__law_refused_right) (X : K.In h) (g : h.Ns mainGlobals mg) {f : Addr} {cd : Value} (D : DefF K "length_for" (top 34) f .none cd) (n : Nat) (gl : GloOk (csK C0 C1 C2 C3 C4) G ⟨callN fns 3000 n, fun _ => .err, 3000⟩ (lev n) P w K mg base gtab btab ktab) :
    ∃ fd, (∃ (oc kV dc pm ct : Value) (od an : Option Addr) (sl : Array (Option Value)), fd = PySem.W.fnOf "length_for" "length_for" (defArgs (top 34)) (defBody (top 34)) (defScope (top 34)) .none kV dc pm an cd ct) ∧ FnOk P w K mg base (L2.CX P w) (lev (n + 1)) f fd ["clocks", "span"] (spF (csK C0 C1 C2 C3 C4) G 2 (callN fns 3000 (n + 1) 22)) := by
  obtain ⟨oc, kV, dc, pm, ct, od, an, sl, lk⟩ := D.lk
  exact ⟨_, ⟨oc, kV, dc, pm, ct, od, an, sl, rfl⟩, def_ok (fn := fd_length_for) (cc := cc_length_for) lk D.cd sc_length_for rfl rfl rfl rfl rfl ck_length_for gl rfl (fun x hs h => by cases h) (errs_at A X g)⟩
theorem fn_ok_longest_period (A : AllF K C0 C1 C2 C3 C4 c__law_refused_right P__law_refused_right) (X : K.In h) (g : h.Ns mainGlobals mg) {f : Addr} {cd : Value} (D : DefF K "longest_period" (top 35) f .none cd) (n : Nat) (gl : GloOk (csK C0 C1 C2 C3 C4) G ⟨callN fns 3000 n, fun _ => .err, 3000⟩ (lev n) P w K mg base gtab btab ktab) :
    ∃ fd, (∃ (oc kV dc pm ct : Value) (od an : Option Addr) (sl : Array (Option Value)), fd = PySem.W.fnOf "longest_period" "longest_period" (defArgs (top 35)) (defBody (top 35)) (defScope (top 35)) .none kV dc pm an cd ct) ∧ FnOk P w K mg base (L2.CX P w) (lev (n + 1)) f fd ["clocks", "length", "lost"] (spF (csK C0 C1 C2 C3 C4) G 3 (callN fns 3000 (n + 1) 23)) := by
  obtain ⟨oc, kV, dc, pm, ct, od, an, sl, lk⟩ := D.lk
  exact ⟨_, ⟨oc, kV, dc, pm, ct, od, an, sl, rfl⟩, def_ok (fn := fd_longest_period) (cc := cc_longest_period) lk D.cd sc_longest_period rfl rfl rfl rfl rfl ck_longest_period gl rfl (fun x hs h => by cases h) (errs_at A X g)⟩
theorem fn_ok__law_l_lowest (A : AllF K C0 C1 C2 C3 C4 c__law_refused_right P__law_refused_right) (X : K.In h) (g : h.Ns mainGlobals mg) {f : Addr} {cd : Value} (D : DefF K "_law_l_lowest" (top 37) f .none cd) (n : Nat) (gl : GloOk (csK C0 C1 C2 C3 C4) G ⟨callN fns 3000 n, fun _ => .err, 3000⟩ (lev n) P w K mg base gtab btab ktab) :
    ∃ fd, (∃ (oc kV dc pm ct : Value) (od an : Option Addr) (sl : Array (Option Value)), fd = PySem.W.fnOf "_law_l_lowest" "_law_l_lowest" (defArgs (top 37)) (defBody (top 37)) (defScope (top 37)) .none kV dc pm an cd ct) ∧ FnOk P w K mg base (L2.CX P w) (lev (n + 1)) f fd ["_law_top", "_law_bottom"] (spF (csK C0 C1 C2 C3 C4) G 2 (callN fns 3000 (n + 1) 24)) := by
  obtain ⟨oc, kV, dc, pm, ct, od, an, sl, lk⟩ := D.lk
  exact ⟨_, ⟨oc, kV, dc, pm, ct, od, an, sl, rfl⟩, def_ok (fn := fd__law_l_lowest) (cc := cc__law_l_lowest) lk D.cd sc__law_l_lowest rfl rfl rfl rfl rfl ck__law_l_lowest gl rfl (fun x hs h => by cases h) (errs_at A X g)⟩
theorem fn_ok__law_l_plus (A : AllF K C0 C1 C2 C3 C4 c__law_refused_right P__law_refused_right) (X : K.In h) (g : h.Ns mainGlobals mg) {f : Addr} {cd : Value} (D : DefF K "_law_l_plus" (top 38) f .none cd) (n : Nat) (gl : GloOk (csK C0 C1 C2 C3 C4) G ⟨callN fns 3000 n, fun _ => .err, 3000⟩ (lev n) P w K mg base gtab btab ktab) :
    ∃ fd, (∃ (oc kV dc pm ct : Value) (od an : Option Addr) (sl : Array (Option Value)), fd = PySem.W.fnOf "_law_l_plus" "_law_l_plus" (defArgs (top 38)) (defBody (top 38)) (defScope (top 38)) .none kV dc pm an cd ct) ∧ FnOk P w K mg base (L2.CX P w) (lev (n + 1)) f fd ["_law_one", "_law_other"] (spF (csK C0 C1 C2 C3 C4) G 2 (callN fns 3000 (n + 1) 25)) := by
  obtain ⟨oc, kV, dc, pm, ct, od, an, sl, lk⟩ := D.lk
  exact ⟨_, ⟨oc, kV, dc, pm, ct, od, an, sl, rfl⟩, def_ok (fn := fd__law_l_plus) (cc := cc__law_l_plus) lk D.cd sc__law_l_plus rfl rfl rfl rfl rfl ck__law_l_plus gl rfl (fun x hs h => by cases h) (errs_at A X g)⟩
theorem fn_ok__law_l_times (A : AllF K C0 C1 C2 C3 C4 c__law_refused_right P__law_refused_right) (X : K.In h) (g : h.Ns mainGlobals mg) {f : Addr} {cd : Value} (D : DefF K "_law_l_times" (top 39) f .none cd) (n : Nat) (gl : GloOk (csK C0 C1 C2 C3 C4) G ⟨callN fns 3000 n, fun _ => .err, 3000⟩ (lev n) P w K mg base gtab btab ktab) :
    ∃ fd, (∃ (oc kV dc pm ct : Value) (od an : Option Addr) (sl : Array (Option Value)), fd = PySem.W.fnOf "_law_l_times" "_law_l_times" (defArgs (top 39)) (defBody (top 39)) (defScope (top 39)) .none kV dc pm an cd ct) ∧ FnOk P w K mg base (L2.CX P w) (lev (n + 1)) f fd ["_law_one", "_law_other"] (spF (csK C0 C1 C2 C3 C4) G 2 (callN fns 3000 (n + 1) 26)) := by
  obtain ⟨oc, kV, dc, pm, ct, od, an, sl, lk⟩ := D.lk
  exact ⟨_, ⟨oc, kV, dc, pm, ct, od, an, sl, rfl⟩, def_ok (fn := fd__law_l_times) (cc := cc__law_l_times) lk D.cd sc__law_l_times rfl rfl rfl rfl rfl ck__law_l_times gl rfl (fun x hs h => by cases h) (errs_at A X g)⟩
theorem fn_ok__law_l_over (A : AllF K C0 C1 C2 C3 C4 c__law_refused_right P__law_refused_right) (X : K.In h) (g : h.Ns mainGlobals mg) {f : Addr} {cd : Value} (D : DefF K "_law_l_over" (top 40) f .none cd) (n : Nat) (gl : GloOk (csK C0 C1 C2 C3 C4) G ⟨callN fns 3000 n, fun _ => .err, 3000⟩ (lev n) P w K mg base gtab btab ktab) :
    ∃ fd, (∃ (oc kV dc pm ct : Value) (od an : Option Addr) (sl : Array (Option Value)), fd = PySem.W.fnOf "_law_l_over" "_law_l_over" (defArgs (top 40)) (defBody (top 40)) (defScope (top 40)) .none kV dc pm an cd ct) ∧ FnOk P w K mg base (L2.CX P w) (lev (n + 1)) f fd ["_law_one", "_law_other"] (spF (csK C0 C1 C2 C3 C4) G 2 (callN fns 3000 (n + 1) 27)) := by
  obtain ⟨oc, kV, dc, pm, ct, od, an, sl, lk⟩ := D.lk
  exact ⟨_, ⟨oc, kV, dc, pm, ct, od, an, sl, rfl⟩, def_ok (fn := fd__law_l_over) (cc := cc__law_l_over) lk D.cd sc__law_l_over rfl rfl rfl rfl rfl ck__law_l_over gl rfl (fun x hs h => by cases h) (errs_at A X g)⟩
theorem fn_ok__law_l_minus (A : AllF K C0 C1 C2 C3 C4 c__law_refused_right P__law_refused_right) (X : K.In h) (g : h.Ns mainGlobals mg) {f : Addr} {cd : Value} (D : DefF K "_law_l_minus" (top 41) f .none cd) (n : Nat) (gl : GloOk (csK C0 C1 C2 C3 C4) G ⟨callN fns 3000 n, fun _ => .err, 3000⟩ (lev n) P w K mg base gtab btab ktab) :
    ∃ fd, (∃ (oc kV dc pm ct : Value) (od an : Option Addr) (sl : Array (Option Value)), fd = PySem.W.fnOf "_law_l_minus" "_law_l_minus" (defArgs (top 41)) (defBody (top 41)) (defScope (top 41)) .none kV dc pm an cd ct) ∧ FnOk P w K mg base (L2.CX P w) (lev (n + 1)) f fd ["_law_one", "_law_other"] (spF (csK C0 C1 C2 C3 C4) G 2 (callN fns 3000 (n + 1) 28)) := by
  obtain ⟨oc, kV, dc, pm, ct, od, an, sl, lk⟩ := D.lk
  exact ⟨_, ⟨oc, kV, dc, pm, ct, od, an, sl, rfl⟩, def_ok (fn := fd__law_l_minus) (cc := cc__law_l_minus) lk D.cd sc__law_l_minus rfl rfl rfl rfl rfl ck__law_l_minus gl rfl (fun x hs h => by cases h) (errs_at A X g)⟩
theorem fn_ok__law_l_less (A : AllF K C0 C1 C2 C3 C4 c__law_refused_right P__law_refused_right) (X : K.In h) (g : h.Ns mainGlobals mg) {f : Addr} {cd : Value} (D : DefF K "_law_l_less" (top 42) f .none cd) (n : Nat) (gl : GloOk (csK C0 C1 C2 C3 C4) G ⟨callN fns 3000 n, fun _ => .err, 3000⟩ (lev n) P w K mg base gtab btab ktab) :
    ∃ fd, (∃ (oc kV dc pm ct : Value) (od an : Option Addr) (sl : Array (Option Value)), fd = PySem.W.fnOf "_law_l_less" "_law_l_less" (defArgs (top 42)) (defBody (top 42)) (defScope (top 42)) .none kV dc pm an cd ct) ∧ FnOk P w K mg base (L2.CX P w) (lev (n + 1)) f fd ["_law_one", "_law_other"] (spF (csK C0 C1 C2 C3 C4) G 2 (callN fns 3000 (n + 1) 29)) := by
  obtain ⟨oc, kV, dc, pm, ct, od, an, sl, lk⟩ := D.lk
  exact ⟨_, ⟨oc, kV, dc, pm, ct, od, an, sl, rfl⟩, def_ok (fn := fd__law_l_less) (cc := cc__law_l_less) lk D.cd sc__law_l_less rfl rfl rfl rfl rfl ck__law_l_less gl rfl (fun x hs h => by cases h) (errs_at A X g)⟩
theorem fn_ok__law_l_clocks (A : AllF K C0 C1 C2 C3 C4 c__law_refused_right P__law_refused_right) (X : K.In h) (g : h.Ns mainGlobals mg) {f : Addr} {cd : Value} (D : DefF K "_law_l_clocks" (top 43) f .none cd) (n : Nat) (gl : GloOk (csK C0 C1 C2 C3 C4) G ⟨callN fns 3000 n, fun _ => .err, 3000⟩ (lev n) P w K mg base gtab btab ktab) :
    ∃ fd, (∃ (oc kV dc pm ct : Value) (od an : Option Addr) (sl : Array (Option Value)), fd = PySem.W.fnOf "_law_l_clocks" "_law_l_clocks" (defArgs (top 43)) (defBody (top 43)) (defScope (top 43)) .none kV dc pm an cd ct) ∧ FnOk P w K mg base (L2.CX P w) (lev (n + 1)) f fd ["_law_stream"] (spF (csK C0 C1 C2 C3 C4) G 1 (callN fns 3000 (n + 1) 30)) := by
  obtain ⟨oc, kV, dc, pm, ct, od, an, sl, lk⟩ := D.lk
  exact ⟨_, ⟨oc, kV, dc, pm, ct, od, an, sl, rfl⟩, def_ok (fn := fd__law_l_clocks) (cc := cc__law_l_clocks) lk D.cd sc__law_l_clocks rfl rfl rfl rfl rfl ck__law_l_clocks gl rfl (fun x hs h => by cases h) (errs_at A X g)⟩
theorem fn_ok__law_l_loose (A : AllF K C0 C1 C2 C3 C4 c__law_refused_right P__law_refused_right) (X : K.In h) (g : h.Ns mainGlobals mg) {f : Addr} {cd : Value} (D : DefF K "_law_l_loose" (top 44) f .none cd) (n : Nat) (gl : GloOk (csK C0 C1 C2 C3 C4) G ⟨callN fns 3000 n, fun _ => .err, 3000⟩ (lev n) P w K mg base gtab btab ktab) :
    ∃ fd, (∃ (oc kV dc pm ct : Value) (od an : Option Addr) (sl : Array (Option Value)), fd = PySem.W.fnOf "_law_l_loose" "_law_l_loose" (defArgs (top 44)) (defBody (top 44)) (defScope (top 44)) .none kV dc pm an cd ct) ∧ FnOk P w K mg base (L2.CX P w) (lev (n + 1)) f fd ["_law_stream", "_law_thing"] (spF (csK C0 C1 C2 C3 C4) G 2 (callN fns 3000 (n + 1) 31)) := by
  obtain ⟨oc, kV, dc, pm, ct, od, an, sl, lk⟩ := D.lk
  exact ⟨_, ⟨oc, kV, dc, pm, ct, od, an, sl, rfl⟩, def_ok (fn := fd__law_l_loose) (cc := cc__law_l_loose) lk D.cd sc__law_l_loose rfl rfl rfl rfl rfl ck__law_l_loose gl rfl (fun x hs h => by cases h) (errs_at A X g)⟩
theorem fn_ok__law_l_until (A : AllF K C0 C1 C2 C3 C4 c__law_refused_right P__law_refused_right) (X : K.In h) (g : h.Ns mainGlobals mg) {f : Addr} {cd : Value} (D : DefF K "_law_l_until" (top 45) f .none cd) (n : Nat) (gl : GloOk (csK C0 C1 C2 C3 C4) G ⟨callN fns 3000 n, fun _ => .err, 3000⟩ (lev n) P w K mg base gtab btab ktab) :
    ∃ fd, (∃ (oc kV dc pm ct : Value) (od an : Option Addr) (sl : Array (Option Value)), fd = PySem.W.fnOf "_law_l_until" "_law_l_until" (defArgs (top 45)) (defBody (top 45)) (defScope (top 45)) .none kV dc pm an cd ct) ∧ FnOk P w K mg base (L2.CX P w) (lev (n + 1)) f fd ["_law_clocks", "_law_length", "_law_asks"] (spF (csK C0 C1 C2 C3 C4) G 3 (callN fns 3000 (n + 1) 32)) := by
  obtain ⟨oc, kV, dc, pm, ct, od, an, sl, lk⟩ := D.lk
  exact ⟨_, ⟨oc, kV, dc, pm, ct, od, an, sl, rfl⟩, def_ok (fn := fd__law_l_until) (cc := cc__law_l_until) lk D.cd sc__law_l_until rfl rfl rfl rfl rfl ck__law_l_until gl rfl (fun x hs h => by cases h) (errs_at A X g)⟩
theorem fn_ok__law_pick (A : AllF K C0 C1 C2 C3 C4 c__law_refused_right P__law_refused_right) (X : K.In h) (g : h.Ns mainGlobals mg) {f : Addr} {cd : Value} (D : DefF K "_law_pick" (top 48) f .none cd) (n : Nat) (gl : GloOk (csK C0 C1 C2 C3 C4) G ⟨callN fns 3000 n, fun _ => .err, 3000⟩ (lev n) P w K mg base gtab btab ktab) :
    ∃ fd, (∃ (oc kV dc pm ct : Value) (od an : Option Addr) (sl : Array (Option Value)), fd = PySem.W.fnOf "_law_pick" "_law_pick" (defArgs (top 48)) (defBody (top 48)) (defScope (top 48)) .none kV dc pm an cd ct) ∧ FnOk P w K mg base (L2.CX P w) (lev (n + 1)) f fd ["_law_stream", "_law_some"] (spF (csK C0 C1 C2 C3 C4) G 2 (callN fns 3000 (n + 1) 35)) := by
  obtain ⟨oc, kV, dc, pm, ct, od, an, sl, lk⟩ := D.lk
  exact ⟨_, ⟨oc, kV, dc, pm, ct, od, an, sl, rfl⟩, def_ok (fn := fd__law_pick) (cc := cc__law_pick) lk D.cd sc__law_pick rfl rfl rfl rfl rfl ck__law_pick gl rfl (fun x hs h => by cases h) (errs_at A X g)⟩
theorem fn_ok__law_same (A : AllF K C0 C1 C2 C3 C4 c__law_refused_right P__law_refused_right) (X : K.In h) (g : h.Ns mainGlobals mg) {f : Addr} {cd : Value} (D : DefF K "_law_same" (top 49) f .none cd) (n : Nat) (gl : GloOk (csK C0 C1 C2 C3 C4) G ⟨callN fns 3000 n, fun _ => .err, 3000⟩ (lev n) P w K mg base gtab btab ktab) :
    ∃ fd, (∃ (oc kV dc pm ct : Value) (od an : Option Addr) (sl : Array (Option Value)), fd = PySem.W.fnOf "_law_same" "_law_same" (defArgs (top 49)) (defBody (top 49)) (defScope (top 49)) .none kV dc pm an cd ct) ∧ FnOk P w K mg base (L2.CX P w) (lev (n + 1)) f fd ["_law_found", "_law_due"] (spF (csK C0 C1 C2 C3 C4) G 2 (callN fns 3000 (n + 1) 36)) := by
  obtain ⟨oc, kV, dc, pm, ct, od, an, sl, lk⟩ := D.lk
  exact ⟨_, ⟨oc, kV, dc, pm, ct, od, an, sl, rfl⟩, def_ok (fn := fd__law_same) (cc := cc__law_same) lk D.cd sc__law_same rfl rfl rfl rfl rfl ck__law_same gl rfl (fun x hs h => by cases h) (errs_at A X g)⟩
theorem fn_ok__law_greater_clocks (A : AllF K C0 C1 C2 C3 C4 c__law_refused_right P__law_refused_right) (X : K.In h) (g : h.Ns mainGlobals mg) {f : Addr} {cd : Value} (D : DefF K "_law_greater_clocks" (top 51) f .none cd) (n : Nat) (gl : GloOk (csK C0 C1 C2 C3 C4) G ⟨callN fns 3000 n, fun _ => .err, 3000⟩ (lev n) P w K mg base gtab btab ktab) :
    ∃ fd, (∃ (oc kV dc pm ct : Value) (od an : Option Addr) (sl : Array (Option Value)), fd = PySem.W.fnOf "_law_greater_clocks" "_law_greater_clocks" (defArgs (top 51)) (defBody (top 51)) (defScope (top 51)) .none kV dc pm an cd ct) ∧ FnOk P w K mg base (L2.CX P w) (lev (n + 1)) f fd ["_law_clocks", "_law_scale"] (spF (csK C0 C1 C2 C3 C4) G 2 (callN fns 3000 (n + 1) 38)) := by
  obtain ⟨oc, kV, dc, pm, ct, od, an, sl, lk⟩ := D.lk
  exact ⟨_, ⟨oc, kV, dc, pm, ct, od, an, sl, rfl⟩, def_ok (fn := fd__law_greater_clocks) (cc := cc__law_greater_clocks) lk D.cd sc__law_greater_clocks rfl rfl rfl rfl rfl ck__law_greater_clocks gl rfl (fun x hs h => by cases h) (errs_at A X g)⟩
theorem fn_ok__law_span_right (A : AllF K C0 C1 C2 C3 C4 c__law_refused_right P__law_refused_right) (X : K.In h) (g : h.Ns mainGlobals mg) {f : Addr} {cd : Value} (D : DefF K "_law_span_right" (top 52) f .none cd) (n : Nat) (gl : GloOk (csK C0 C1 C2 C3 C4) G ⟨callN fns 3000 n, fun _ => .err, 3000⟩ (lev n) P w K mg base gtab btab ktab) :
    ∃ fd, (∃ (oc kV dc pm ct : Value) (od an : Option Addr) (sl : Array (Option Value)), fd = PySem.W.fnOf "_law_span_right" "_law_span_right" (defArgs (top 52)) (defBody (top 52)) (defScope (top 52)) .none kV dc pm an cd ct) ∧ FnOk P w K mg base (L2.CX P w) (lev (n + 1)) f fd ["_law_clocks", "_law_length", "_law_answered"] (spF (csK C0 C1 C2 C3 C4) G 3 (callN fns 3000 (n + 1) 39)) := by
  obtain ⟨oc, kV, dc, pm, ct, od, an, sl, lk⟩ := D.lk
  exact ⟨_, ⟨oc, kV, dc, pm, ct, od, an, sl, rfl⟩, def_ok (fn := fd__law_span_right) (cc := cc__law_span_right) lk D.cd sc__law_span_right rfl rfl rfl rfl rfl ck__law_span_right gl rfl (fun x hs h => by cases h) (errs_at A X g)⟩
theorem fn_ok__law_period_right (A : AllF K C0 C1 C2 C3 C4 c__law_refused_right P__law_refused_right) (X : K.In h) (g : h.Ns mainGlobals mg) {f : Addr} {cd : Value} (D : DefF K "_law_period_right" (top 53) f .none cd) (n : Nat) (gl : GloOk (csK C0 C1 C2 C3 C4) G ⟨callN fns 3000 n, fun _ => .err, 3000⟩ (lev n) P w K mg base gtab btab ktab) :
    ∃ fd, (∃ (oc kV dc pm ct : Value) (od an : Option Addr) (sl : Array (Option Value)), fd = PySem.W.fnOf "_law_period_right" "_law_period_right" (defArgs (top 53)) (defBody (top 53)) (defScope (top 53)) .none kV dc pm an cd ct) ∧ FnOk P w K mg base (L2.CX P w) (lev (n + 1)) f fd ["_law_clocks", "_law_length", "_law_lost"] (spF (csK C0 C1 C2 C3 C4) G 3 (callN fns 3000 (n + 1) 40)) := by
  obtain ⟨oc, kV, dc, pm, ct, od, an, sl, lk⟩ := D.lk
  exact ⟨_, ⟨oc, kV, dc, pm, ct, od, an, sl, rfl⟩, def_ok (fn := fd__law_period_right) (cc := cc__law_period_right) lk D.cd sc__law_period_right rfl rfl rfl rfl rfl ck__law_period_right gl rfl (fun x hs h => by cases h) (errs_at A X g)⟩
theorem met__law_refused_right (A : AllF K C0 C1 C2 C3 C4 c__law_refused_right P__law_refused_right) (X : K.In h) (g : h.Ns mainGlobals mg) (TB : LamX.TabB base mg c__law_refused_right P__law_refused_right) (hT : G.T = [(P__law_refused_right, ("_law_refused_right" : Str) ++ ".<locals>." ++ "<lambda>")]) {x : Str} {hs : List (Nat × List Nat × List Nat)} (hm : cc__law_refused_right.mt = some (x, hs)) :
    MetOk (csK C0 C1 C2 C3 C4) G K mg base (.ref c__law_refused_right) (("_law_refused_right" : Str) ++ ".<locals>.") x hs := by
  have e : (("_law_met" : Str), metHs) = (x, hs) := Option.some.inj hm
  cases e
  obtain ⟨f, cd, D⟩ := A.d__law_met
  obtain ⟨oc, kV, dc, pm, ct, od, an, sl, lk⟩ := D.lk
  refine ⟨f, c__law_refused_right, P__law_refused_right, _, _, _, _, _, _, _, _, _, _, _, _, _, ["_law_ask", "e"], "_law_ask", "e", PySem.W.mg_of X g D.ns, D.kp, lk, D.cd, Binds.all fun us hl => match us, hl with | [_], _ => rfl, ⟨rfl, rfl, rfl, by decide +kernel, rfl, by decide +kernel, by decide +kernel⟩, ⟨rfl, rfl, rfl⟩, .inl (by decide +kernel), by decide +kernel, errsOk A X g, by kernel_rfl, by kernel_rfl, TB, rfl, ⟨by rw [hT]; exact List.mem_singleton.mpr rfl, fun p hp _ => by rw [hT] at hp; rw [List.mem_singleton.mp hp]⟩, by decide +kernel, by decide +kernel, by decide +kernel, by decide +kernel, by decide +kernel⟩
theorem fn_ok__law_refused_right (A : AllF K C0 C1 C2 C3 C4 c__law_refused_right P__law_refused_right) (X : K.In h) (g : h.Ns mainGlobals mg) {f : Addr} (D : DefF K "_law_refused_right" (top 54) f .none (.ref c__law_refused_right)) (TB : LamX.TabB base mg c__law_refused_right P__law_refused_right) (hT : G.T = [(P__law_refused_right, ("_law_refused_right" : Str) ++ ".<locals>." ++ "<lambda>")]) (n : Nat) (gl : GloOk (csK C0 C1 C2 C3 C4) G ⟨callN fns 3000 n, fun _ => .err, 3000⟩ (lev n) P w K mg base gtab btab ktab) :
    ∃ fd, (∃ (oc kV dc pm ct : Value) (od an : Option Addr) (sl : Array (Option Value)), fd = PySem.W.fnOf "_law_refused_right" "_law_refused_right" (defArgs (top 54)) (defBody (top 54)) (defScope (top 54)) .none kV dc pm an (.ref c__law_refused_right) ct) ∧ FnOk P w K mg base (L2.CX P w) (lev (n + 1)) f fd ["_law_stream", "_law_clocks"] (spF (csK C0 C1 C2 C3 C4) G 2 (callN fns 3000 (n + 1) 41)) := by
  obtain ⟨oc, kV, dc, pm, ct, od, an, sl, lk⟩ := D.lk
  exact ⟨_, ⟨oc, kV, dc, pm, ct, od, an, sl, rfl⟩, def_ok (fn := fd__law_refused_right) (cc := cc__law_refused_right) lk D.cd sc__law_refused_right rfl rfl rfl rfl rfl ck__law_refused_right gl rfl (fun x hs h => met__law_refused_right A X g TB hT h) (errs_at A X g)⟩
theorem bts (A : AllF K C0 C1 C2 C3 C4 c__law_refused_right P__law_refused_right) (X : K.In h) (g : h.Ns mainGlobals mg) : ∀ x ∈ btab, mg x = none := fun x m => PySem.W.mg_none_of X g (A.bt x m)
theorem glo_ok (A : AllF K C0 C1 C2 C3 C4 c__law_refused_right P__law_refused_right) (X : K.In h) (g : h.Ns mainGlobals mg) (TB__law_refused_right : LamX.TabB base mg c__law_refused_right P__law_refused_right) (hT : G.T = [(P__law_refused_right, ("_law_refused_right" : Str) ++ ".<locals>." ++ "<lambda>")]) : ∀ n, GloOk (csK C0 C1 C2 C3 C4) G ⟨callN fns 3000 n, fun _ => .err, 3000⟩ (lev n) P w K mg base gtab btab ktab
  | n => by
    have prev : ∀ m, n = m + 1 → GloOk (csK C0 C1 C2 C3 C4) G ⟨callN fns 3000 m, fun _ => .err, 3000⟩ (lev m) P w K mg base gtab btab ktab := fun m e => by
      subst e
      exact glo_ok A X g TB__law_refused_right hT m
    have F_is_list : ∃ f fd cd, mg "is_list" = some (.ref f) ∧ PySem.W.keepIn K (.ref f) = true ∧ (∃ (oc kV dc pm ct : Value) (od an : Option Addr) (sl : Array (Option Value)), fd = PySem.W.fnOf "is_list" "is_list" (defArgs (top 9)) (defBody (top 9)) (defScope (top 9)) .none kV dc pm an cd ct) ∧ FnOk P w K mg base (L2.CX P w) (lev n) f fd ["thing"] (spF (csK C0 C1 C2 C3 C4) G 1 (callN fns 3000 n 0)) := by
      obtain ⟨f, cd, D⟩ := A.d_is_list
      obtain ⟨oc, kV, dc, pm, ct, od, an, sl, lk⟩ := D.lk
      have q : ∃ fd, (∃ (oc kV dc pm ct : Value) (od an : Option Addr) (sl : Array (Option Value)), fd = PySem.W.fnOf "is_list" "is_list" (defArgs (top 9)) (defBody (top 9)) (defScope (top 9)) .none kV dc pm an cd ct) ∧ FnOk P w K mg base (L2.CX P w) (lev n) f fd ["thing"] (spF (csK C0 C1 C2 C3 C4) G 1 (callN fns 3000 n 0)) := by
        obtain hz | ⟨m, hz⟩ : n = 0 ∨ ∃ m, n = m + 1 := by cases n <;> simp
        · subst hz; exact ⟨_, ⟨oc, kV, dc, pm, ct, od, an, sl, rfl⟩, def_zero rfl⟩
        · subst hz; exact fn_ok_is_list A X g D m (prev m rfl)
      obtain ⟨fd, e, q⟩ := q
      exact ⟨f, fd, cd, PySem.W.mg_of X g D.ns, D.kp, e, q⟩
    have F_is_integer : ∃ f fd cd, mg "is_integer" = some (.ref f) ∧ PySem.W.keepIn K (.ref f) = true ∧ (∃ (oc kV dc pm ct : Value) (od an : Option Addr) (sl : Array (Option Value)), fd = PySem.W.fnOf "is_integer" "is_integer" (defArgs (top 10)) (defBody (top 10)) (defScope (top 10)) .none kV dc pm an cd ct) ∧ FnOk P w K mg base (L2.CX P w) (lev n) f fd ["thing"] (spF (csK C0 C1 C2 C3 C4) G 1 (callN fns 3000 n 1)) := by
      obtain ⟨f, cd, D⟩ := A.d_is_integer
      obtain ⟨oc, kV, dc, pm, ct, od, an, sl, lk⟩ := D.lk
      have q : ∃ fd, (∃ (oc kV dc pm ct : Value) (od an : Option Addr) (sl : Array (Option Value)), fd = PySem.W.fnOf "is_integer" "is_integer" (defArgs (top 10)) (defBody (top 10)) (defScope (top 10)) .none kV dc pm an cd ct) ∧ FnOk P w K mg base (L2.CX P w) (lev n) f fd ["thing"] (spF (csK C0 C1 C2 C3 C4) G 1 (callN fns 3000 n 1)) := by
        obtain hz | ⟨m, hz⟩ : n = 0 ∨ ∃ m, n = m + 1 := by cases n <;> simp
        · subst hz; exact ⟨_, ⟨oc, kV, dc, pm, ct, od, an, sl, rfl⟩, def_zero rfl⟩
        · subst hz; exact fn_ok_is_integer A X g D m (prev m rfl)
      obtain ⟨fd, e, q⟩ := q
      exact ⟨f, fd, cd, PySem.W.mg_of X g D.ns, D.kp, e, q⟩
    have F_is_number : ∃ f fd cd, mg "is_number" = some (.ref f) ∧ PySem.W.keepIn K (.ref f) = true ∧ (∃ (oc kV dc pm ct : Value) (od an : Option Addr) (sl : Array (Option Value)), fd = PySem.W.fnOf "is_number" "is_number" (defArgs (top 11)) (defBody (top 11)) (defScope (top 11)) .none kV dc pm an cd ct) ∧ FnOk P w K mg base (L2.CX P w) (lev n) f fd ["thing"] (spF (csK C0 C1 C2 C3 C4) G 1 (callN fns 3000 n 2)) := by
      obtain ⟨f, cd, D⟩ := A.d_is_number
      obtain ⟨oc, kV, dc, pm, ct, od, an, sl, lk⟩ := D.lk
      have q : ∃ fd, (∃ (oc kV dc pm ct : Value) (od an : Option Addr) (sl : Array (Option Value)), fd = PySem.W.fnOf "is_number" "is_number" (defArgs (top 11)) (defBody (top 11)) (defScope (top 11)) .none kV dc pm an cd ct) ∧ FnOk P w K mg base (L2.CX P w) (lev n) f fd ["thing"] (spF (csK C0 C1 C2 C3 C4) G 1 (callN fns 3000 n 2)) := by
        obtain hz | ⟨m, hz⟩ : n = 0 ∨ ∃ m, n = m + 1 := by cases n <;> simp
        · subst hz; exact ⟨_, ⟨oc, kV, dc, pm, ct, od, an, sl, rfl⟩, def_zero rfl⟩
        · subst hz; exact fn_ok_is_number A X g D m (prev m rfl)
      obtain ⟨fd, e, q⟩ := q
      exact ⟨f, fd, cd, PySem.W.mg_of X g D.ns, D.kp, e, q⟩
    have F_is_fraction : ∃ f fd cd, mg "is_fraction" = some (.ref f) ∧ PySem.W.keepIn K (.ref f) = true ∧ (∃ (oc kV dc pm ct : Value) (od an : Option Addr) (sl : Array (Option Value)), fd = PySem.W.fnOf "is_fraction" "is_fraction" (defArgs (top 13)) (defBody (top 13)) (defScope (top 13)) .none kV dc pm an cd ct) ∧ FnOk P w K mg base (L2.CX P w) (lev n) f fd ["thing"] (spF (csK C0 C1 C2 C3 C4) G 1 (callN fns 3000 n 3)) := by
      obtain ⟨f, cd, D⟩ := A.d_is_fraction
      obtain ⟨oc, kV, dc, pm, ct, od, an, sl, lk⟩ := D.lk
      have q : ∃ fd, (∃ (oc kV dc pm ct : Value) (od an : Option Addr) (sl : Array (Option Value)), fd = PySem.W.fnOf "is_fraction" "is_fraction" (defArgs (top 13)) (defBody (top 13)) (defScope (top 13)) .none kV dc pm an cd ct) ∧ FnOk P w K mg base (L2.CX P w) (lev n) f fd ["thing"] (spF (csK C0 C1 C2 C3 C4) G 1 (callN fns 3000 n 3)) := by
        obtain hz | ⟨m, hz⟩ : n = 0 ∨ ∃ m, n = m + 1 := by cases n <;> simp
        · subst hz; exact ⟨_, ⟨oc, kV, dc, pm, ct, od, an, sl, rfl⟩, def_zero rfl⟩
        · subst hz; exact fn_ok_is_fraction A X g D m (prev m rfl)
      obtain ⟨fd, e, q⟩ := q
      exact ⟨f, fd, cd, PySem.W.mg_of X g D.ns, D.kp, e, q⟩
    have F_lowest : ∃ f fd cd, mg "lowest" = some (.ref f) ∧ PySem.W.keepIn K (.ref f) = true ∧ (∃ (oc kV dc pm ct : Value) (od an : Option Addr) (sl : Array (Option Value)), fd = PySem.W.fnOf "lowest" "lowest" (defArgs (top 14)) (defBody (top 14)) (defScope (top 14)) .none kV dc pm an cd ct) ∧ FnOk P w K mg base (L2.CX P w) (lev n) f fd ["top", "bottom"] (spF (csK C0 C1 C2 C3 C4) G 2 (callN fns 3000 n 4)) := by
      obtain ⟨f, cd, D⟩ := A.d_lowest
      obtain ⟨oc, kV, dc, pm, ct, od, an, sl, lk⟩ := D.lk
      have q : ∃ fd, (∃ (oc kV dc pm ct : Value) (od an : Option Addr) (sl : Array (Option Value)), fd = PySem.W.fnOf "lowest" "lowest" (defArgs (top 14)) (defBody (top 14)) (defScope (top 14)) .none kV dc pm an cd ct) ∧ FnOk P w K mg base (L2.CX P w) (lev n) f fd ["top", "bottom"] (spF (csK C0 C1 C2 C3 C4) G 2 (callN fns 3000 n 4)) := by
        obtain hz | ⟨m, hz⟩ : n = 0 ∨ ∃ m, n = m + 1 := by cases n <;> simp
        · subst hz; exact ⟨_, ⟨oc, kV, dc, pm, ct, od, an, sl, rfl⟩, def_zero rfl⟩
        · subst hz; exact fn_ok_lowest A X g D m (prev m rfl)
      obtain ⟨fd, e, q⟩ := q
      exact ⟨f, fd, cd, PySem.W.mg_of X g D.ns, D.kp, e, q⟩
    have F_plus : ∃ f fd cd, mg "plus" = some (.ref f) ∧ PySem.W.keepIn K (.ref f) = true ∧ (∃ (oc kV dc pm ct : Value) (od an : Option Addr) (sl : Array (Option Value)), fd = PySem.W.fnOf "plus" "plus" (defArgs (top 15)) (defBody (top 15)) (defScope (top 15)) .none kV dc pm an cd ct) ∧ FnOk P w K mg base (L2.CX P w) (lev n) f fd ["one", "other"] (spF (csK C0 C1 C2 C3 C4) G 2 (callN fns 3000 n 5)) := by
      obtain ⟨f, cd, D⟩ := A.d_plus
      obtain ⟨oc, kV, dc, pm, ct, od, an, sl, lk⟩ := D.lk
      have q : ∃ fd, (∃ (oc kV dc pm ct : Value) (od an : Option Addr) (sl : Array (Option Value)), fd = PySem.W.fnOf "plus" "plus" (defArgs (top 15)) (defBody (top 15)) (defScope (top 15)) .none kV dc pm an cd ct) ∧ FnOk P w K mg base (L2.CX P w) (lev n) f fd ["one", "other"] (spF (csK C0 C1 C2 C3 C4) G 2 (callN fns 3000 n 5)) := by
        obtain hz | ⟨m, hz⟩ : n = 0 ∨ ∃ m, n = m + 1 := by cases n <;> simp
        · subst hz; exact ⟨_, ⟨oc, kV, dc, pm, ct, od, an, sl, rfl⟩, def_zero rfl⟩
        · subst hz; exact fn_ok_plus A X g D m (prev m rfl)
      obtain ⟨fd, e, q⟩ := q
      exact ⟨f, fd, cd, PySem.W.mg_of X g D.ns, D.kp, e, q⟩
    have F_minus : ∃ f fd cd, mg "minus" = some (.ref f) ∧ PySem.W.keepIn K (.ref f) = true ∧ (∃ (oc kV dc pm ct : Value) (od an : Option Addr) (sl : Array (Option Value)), fd = PySem.W.fnOf "minus" "minus" (defArgs (top 16)) (defBody (top 16)) (defScope (top 16)) .none kV dc pm an cd ct) ∧ FnOk P w K mg base (L2.CX P w) (lev n) f fd ["one", "other"] (spF (csK C0 C1 C2 C3 C4) G 2 (callN fns 3000 n 6)) := by
      obtain ⟨f, cd, D⟩ := A.d_minus
      obtain ⟨oc, kV, dc, pm, ct, od, an, sl, lk⟩ := D.lk
      have q : ∃ fd, (∃ (oc kV dc pm ct : Value) (od an : Option Addr) (sl : Array (Option Value)), fd = PySem.W.fnOf "minus" "minus" (defArgs (top 16)) (defBody (top 16)) (defScope (top 16)) .none kV dc pm an cd ct) ∧ FnOk P w K mg base (L2.CX P w) (lev n) f fd ["one", "other"] (spF (csK C0 C1 C2 C3 C4) G 2 (callN fns 3000 n 6)) := by
        obtain hz | ⟨m, hz⟩ : n = 0 ∨ ∃ m, n = m + 1 := by cases n <;> simp
        · subst hz; exact ⟨_, ⟨oc, kV, dc, pm, ct, od, an, sl, rfl⟩, def_zero rfl⟩
        · subst hz; exact fn_ok_minus A X g D m (prev m rfl)
      obtain ⟨fd, e, q⟩ := q
      exact ⟨f, fd, cd, PySem.W.mg_of X g D.ns, D.kp, e, q⟩
    have F_times : ∃ f fd cd, mg "times" = some (.ref f) ∧ PySem.W.keepIn K (.ref f) = true ∧ (∃ (oc kV dc pm ct : Value) (od an : Option Addr) (sl : Array (Option Value)), fd = PySem.W.fnOf "times" "times" (defArgs (top 17)) (defBody (top 17)) (defScope (top 17)) .none kV dc pm an cd ct) ∧ FnOk P w K mg base (L2.CX P w) (lev n) f fd ["one", "other"] (spF (csK C0 C1 C2 C3 C4) G 2 (callN fns 3000 n 7)) := by
      obtain ⟨f, cd, D⟩ := A.d_times
      obtain ⟨oc, kV, dc, pm, ct, od, an, sl, lk⟩ := D.lk
      have q : ∃ fd, (∃ (oc kV dc pm ct : Value) (od an : Option Addr) (sl : Array (Option Value)), fd = PySem.W.fnOf "times" "times" (defArgs (top 17)) (defBody (top 17)) (defScope (top 17)) .none kV dc pm an cd ct) ∧ FnOk P w K mg base (L2.CX P w) (lev n) f fd ["one", "other"] (spF (csK C0 C1 C2 C3 C4) G 2 (callN fns 3000 n 7)) := by
        obtain hz | ⟨m, hz⟩ : n = 0 ∨ ∃ m, n = m + 1 := by cases n <;> simp
        · subst hz; exact ⟨_, ⟨oc, kV, dc, pm, ct, od, an, sl, rfl⟩, def_zero rfl⟩
        · subst hz; exact fn_ok_times A X g D m (prev m rfl)
      obtain ⟨fd, e, q⟩ := q
      exact ⟨f, fd, cd, PySem.W.mg_of X g D.ns, D.kp, e, q⟩
    have F_over : ∃ f fd cd, mg "over" = some (.ref f) ∧ PySem.W.keepIn K (.ref f) = true ∧ (∃ (oc kV dc pm ct : Value) (od an : Option Addr) (sl : Array (Option Value)), fd = PySem.W.fnOf "over" "over" (defArgs (top 18)) (defBody (top 18)) (defScope (top 18)) .none kV dc pm an cd ct) ∧ FnOk P w K mg base (L2.CX P w) (lev n) f fd ["one", "other"] (spF (csK C0 C1 C2 C3 C4) G 2 (callN fns 3000 n 8)) := by
      obtain ⟨f, cd, D⟩ := A.d_over
      obtain ⟨oc, kV, dc, pm, ct, od, an, sl, lk⟩ := D.lk
      have q : ∃ fd, (∃ (oc kV dc pm ct : Value) (od an : Option Addr) (sl : Array (Option Value)), fd = PySem.W.fnOf "over" "over" (defArgs (top 18)) (defBody (top 18)) (defScope (top 18)) .none kV dc pm an cd ct) ∧ FnOk P w K mg base (L2.CX P w) (lev n) f fd ["one", "other"] (spF (csK C0 C1 C2 C3 C4) G 2 (callN fns 3000 n 8)) := by
        obtain hz | ⟨m, hz⟩ : n = 0 ∨ ∃ m, n = m + 1 := by cases n <;> simp
        · subst hz; exact ⟨_, ⟨oc, kV, dc, pm, ct, od, an, sl, rfl⟩, def_zero rfl⟩
        · subst hz; exact fn_ok_over A X g D m (prev m rfl)
      obtain ⟨fd, e, q⟩ := q
      exact ⟨f, fd, cd, PySem.W.mg_of X g D.ns, D.kp, e, q⟩
    have F_is_less : ∃ f fd cd, mg "is_less" = some (.ref f) ∧ PySem.W.keepIn K (.ref f) = true ∧ (∃ (oc kV dc pm ct : Value) (od an : Option Addr) (sl : Array (Option Value)), fd = PySem.W.fnOf "is_less" "is_less" (defArgs (top 19)) (defBody (top 19)) (defScope (top 19)) .none kV dc pm an cd ct) ∧ FnOk P w K mg base (L2.CX P w) (lev n) f fd ["one", "other"] (spF (csK C0 C1 C2 C3 C4) G 2 (callN fns 3000 n 9)) := by
      obtain ⟨f, cd, D⟩ := A.d_is_less
      obtain ⟨oc, kV, dc, pm, ct, od, an, sl, lk⟩ := D.lk
      have q : ∃ fd, (∃ (oc kV dc pm ct : Value) (od an : Option Addr) (sl : Array (Option Value)), fd = PySem.W.fnOf "is_less" "is_less" (defArgs (top 19)) (defBody (top 19)) (defScope (top 19)) .none kV dc pm an cd ct) ∧ FnOk P w K mg base (L2.CX P w) (lev n) f fd ["one", "other"] (spF (csK C0 C1 C2 C3 C4) G 2 (callN fns 3000 n 9)) := by
        obtain hz | ⟨m, hz⟩ : n = 0 ∨ ∃ m, n = m + 1 := by cases n <;> simp
        · subst hz; exact ⟨_, ⟨oc, kV, dc, pm, ct, od, an, sl, rfl⟩, def_zero rfl⟩
        · subst hz; exact fn_ok_is_less A X g D m (prev m rfl)
      obtain ⟨fd, e, q⟩ := q
      exact ⟨f, fd, cd, PySem.W.mg_of X g D.ns, D.kp, e, q⟩
    have F_lesser : ∃ f fd cd, mg "lesser" = some (.ref f) ∧ PySem.W.keepIn K (.ref f) = true ∧ (∃ (oc kV dc pm ct : Value) (od an : Option Addr) (sl : Array (Option Value)), fd = PySem.W.fnOf "lesser" "lesser" (defArgs (top 20)) (defBody (top 20)) (defScope (top 20)) .none kV dc pm an cd ct) ∧ FnOk P w K mg base (L2.CX P w) (lev n) f fd ["one", "other"] (spF (csK C0 C1 C2 C3 C4) G 2 (callN fns 3000 n 10)) := by
      obtain ⟨f, cd, D⟩ := A.d_lesser
      obtain ⟨oc, kV, dc, pm, ct, od, an, sl, lk⟩ := D.lk
      have q : ∃ fd, (∃ (oc kV dc pm ct : Value) (od an : Option Addr) (sl : Array (Option Value)), fd = PySem.W.fnOf "lesser" "lesser" (defArgs (top 20)) (defBody (top 20)) (defScope (top 20)) .none kV dc pm an cd ct) ∧ FnOk P w K mg base (L2.CX P w) (lev n) f fd ["one", "other"] (spF (csK C0 C1 C2 C3 C4) G 2 (callN fns 3000 n 10)) := by
        obtain hz | ⟨m, hz⟩ : n = 0 ∨ ∃ m, n = m + 1 := by cases n <;> simp
        · subst hz; exact ⟨_, ⟨oc, kV, dc, pm, ct, od, an, sl, rfl⟩, def_zero rfl⟩
        · subst hz; exact fn_ok_lesser A X g D m (prev m rfl)
      obtain ⟨fd, e, q⟩ := q
      exact ⟨f, fd, cd, PySem.W.mg_of X g D.ns, D.kp, e, q⟩
    have F_greater : ∃ f fd cd, mg "greater" = some (.ref f) ∧ PySem.W.keepIn K (.ref f) = true ∧ (∃ (oc kV dc pm ct : Value) (od an : Option Addr) (sl : Array (Option Value)), fd = PySem.W.fnOf "greater" "greater" (defArgs (top 21)) (defBody (top 21)) (defScope (top 21)) .none kV dc pm an cd ct) ∧ FnOk P w K mg base (L2.CX P w) (lev n) f fd ["one", "other"] (spF (csK C0 C1 C2 C3 C4) G 2 (callN fns 3000 n 11)) := by
      obtain ⟨f, cd, D⟩ := A.d_greater
      obtain ⟨oc, kV, dc, pm, ct, od, an, sl, lk⟩ := D.lk
      have q : ∃ fd, (∃ (oc kV dc pm ct : Value) (od an : Option Addr) (sl : Array (Option Value)), fd = PySem.W.fnOf "greater" "greater" (defArgs (top 21)) (defBody (top 21)) (defScope (top 21)) .none kV dc pm an cd ct) ∧ FnOk P w K mg base (L2.CX P w) (lev n) f fd ["one", "other"] (spF (csK C0 C1 C2 C3 C4) G 2 (callN fns 3000 n 11)) := by
        obtain hz | ⟨m, hz⟩ : n = 0 ∨ ∃ m, n = m + 1 := by cases n <;> simp
        · subst hz; exact ⟨_, ⟨oc, kV, dc, pm, ct, od, an, sl, rfl⟩, def_zero rfl⟩
        · subst hz; exact fn_ok_greater A X g D m (prev m rfl)
      obtain ⟨fd, e, q⟩ := q
      exact ⟨f, fd, cd, PySem.W.mg_of X g D.ns, D.kp, e, q⟩
    have F_checked_clocks : ∃ f fd cd, mg "checked_clocks" = some (.ref f) ∧ PySem.W.keepIn K (.ref f) = true ∧ (∃ (oc kV dc pm ct : Value) (od an : Option Addr) (sl : Array (Option Value)), fd = PySem.W.fnOf "checked_clocks" "checked_clocks" (defArgs (top 23)) (defBody (top 23)) (defScope (top 23)) .none kV dc pm an cd ct) ∧ FnOk P w K mg base (L2.CX P w) (lev n) f fd ["clocks"] (spF (csK C0 C1 C2 C3 C4) G 1 (callN fns 3000 n 12)) := by
      obtain ⟨f, cd, D⟩ := A.d_checked_clocks
      obtain ⟨oc, kV, dc, pm, ct, od, an, sl, lk⟩ := D.lk
      have q : ∃ fd, (∃ (oc kV dc pm ct : Value) (od an : Option Addr) (sl : Array (Option Value)), fd = PySem.W.fnOf "checked_clocks" "checked_clocks" (defArgs (top 23)) (defBody (top 23)) (defScope (top 23)) .none kV dc pm an cd ct) ∧ FnOk P w K mg base (L2.CX P w) (lev n) f fd ["clocks"] (spF (csK C0 C1 C2 C3 C4) G 1 (callN fns 3000 n 12)) := by
        obtain hz | ⟨m, hz⟩ : n = 0 ∨ ∃ m, n = m + 1 := by cases n <;> simp
        · subst hz; exact ⟨_, ⟨oc, kV, dc, pm, ct, od, an, sl, rfl⟩, def_zero rfl⟩
        · subst hz; exact fn_ok_checked_clocks A X g D m (prev m rfl)
      obtain ⟨fd, e, q⟩ := q
      exact ⟨f, fd, cd, PySem.W.mg_of X g D.ns, D.kp, e, q⟩
    have F_checked_length : ∃ f fd cd, mg "checked_length" = some (.ref f) ∧ PySem.W.keepIn K (.ref f) = true ∧ (∃ (oc kV dc pm ct : Value) (od an : Option Addr) (sl : Array (Option Value)), fd = PySem.W.fnOf "checked_length" "checked_length" (defArgs (top 25)) (defBody (top 25)) (defScope (top 25)) .none kV dc pm an cd ct) ∧ FnOk P w K mg base (L2.CX P w) (lev n) f fd ["length"] (spF (csK C0 C1 C2 C3 C4) G 1 (callN fns 3000 n 13)) := by
      obtain ⟨f, cd, D⟩ := A.d_checked_length
      obtain ⟨oc, kV, dc, pm, ct, od, an, sl, lk⟩ := D.lk
      have q : ∃ fd, (∃ (oc kV dc pm ct : Value) (od an : Option Addr) (sl : Array (Option Value)), fd = PySem.W.fnOf "checked_length" "checked_length" (defArgs (top 25)) (defBody (top 25)) (defScope (top 25)) .none kV dc pm an cd ct) ∧ FnOk P w K mg base (L2.CX P w) (lev n) f fd ["length"] (spF (csK C0 C1 C2 C3 C4) G 1 (callN fns 3000 n 13)) := by
        obtain hz | ⟨m, hz⟩ : n = 0 ∨ ∃ m, n = m + 1 := by cases n <;> simp
        · subst hz; exact ⟨_, ⟨oc, kV, dc, pm, ct, od, an, sl, rfl⟩, def_zero rfl⟩
        · subst hz; exact fn_ok_checked_length A X g D m (prev m rfl)
      obtain ⟨fd, e, q⟩ := q
      exact ⟨f, fd, cd, PySem.W.mg_of X g D.ns, D.kp, e, q⟩
    have F_is_ask : ∃ f fd cd, mg "is_ask" = some (.ref f) ∧ PySem.W.keepIn K (.ref f) = true ∧ (∃ (oc kV dc pm ct : Value) (od an : Option Addr) (sl : Array (Option Value)), fd = PySem.W.fnOf "is_ask" "is_ask" (defArgs (top 26)) (defBody (top 26)) (defScope (top 26)) .none kV dc pm an cd ct) ∧ FnOk P w K mg base (L2.CX P w) (lev n) f fd ["thing", "clocks"] (spF (csK C0 C1 C2 C3 C4) G 2 (callN fns 3000 n 14)) := by
      obtain ⟨f, cd, D⟩ := A.d_is_ask
      obtain ⟨oc, kV, dc, pm, ct, od, an, sl, lk⟩ := D.lk
      have q : ∃ fd, (∃ (oc kV dc pm ct : Value) (od an : Option Addr) (sl : Array (Option Value)), fd = PySem.W.fnOf "is_ask" "is_ask" (defArgs (top 26)) (defBody (top 26)) (defScope (top 26)) .none kV dc pm an cd ct) ∧ FnOk P w K mg base (L2.CX P w) (lev n) f fd ["thing", "clocks"] (spF (csK C0 C1 C2 C3 C4) G 2 (callN fns 3000 n 14)) := by
        obtain hz | ⟨m, hz⟩ : n = 0 ∨ ∃ m, n = m + 1 := by cases n <;> simp
        · subst hz; exact ⟨_, ⟨oc, kV, dc, pm, ct, od, an, sl, rfl⟩, def_zero rfl⟩
        · subst hz; exact fn_ok_is_ask A X g D m (prev m rfl)
      obtain ⟨fd, e, q⟩ := q
      exact ⟨f, fd, cd, PySem.W.mg_of X g D.ns, D.kp, e, q⟩
    have F_checked_asks : ∃ f fd cd, mg "checked_asks" = some (.ref f) ∧ PySem.W.keepIn K (.ref f) = true ∧ (∃ (oc kV dc pm ct : Value) (od an : Option Addr) (sl : Array (Option Value)), fd = PySem.W.fnOf "checked_asks" "checked_asks" (defArgs (top 27)) (defBody (top 27)) (defScope (top 27)) .none kV dc pm an cd ct) ∧ FnOk P w K mg base (L2.CX P w) (lev n) f fd ["asks", "clocks"] (spF (csK C0 C1 C2 C3 C4) G 2 (callN fns 3000 n 15)) := by
      obtain ⟨f, cd, D⟩ := A.d_checked_asks
      obtain ⟨oc, kV, dc, pm, ct, od, an, sl, lk⟩ := D.lk
      have q : ∃ fd, (∃ (oc kV dc pm ct : Value) (od an : Option Addr) (sl : Array (Option Value)), fd = PySem.W.fnOf "checked_asks" "checked_asks" (defArgs (top 27)) (defBody (top 27)) (defScope (top 27)) .none kV dc pm an cd ct) ∧ FnOk P w K mg base (L2.CX P w) (lev n) f fd ["asks", "clocks"] (spF (csK C0 C1 C2 C3 C4) G 2 (callN fns 3000 n 15)) := by
        obtain hz | ⟨m, hz⟩ : n = 0 ∨ ∃ m, n = m + 1 := by cases n <;> simp
        · subst hz; exact ⟨_, ⟨oc, kV, dc, pm, ct, od, an, sl, rfl⟩, def_zero rfl⟩
        · subst hz; exact fn_ok_checked_asks A X g D m (prev m rfl)
      obtain ⟨fd, e, q⟩ := q
      exact ⟨f, fd, cd, PySem.W.mg_of X g D.ns, D.kp, e, q⟩
    have F_kept_asks : ∃ f fd cd, mg "kept_asks" = some (.ref f) ∧ PySem.W.keepIn K (.ref f) = true ∧ (∃ (oc kV dc pm ct : Value) (od an : Option Addr) (sl : Array (Option Value)), fd = PySem.W.fnOf "kept_asks" "kept_asks" (defArgs (top 28)) (defBody (top 28)) (defScope (top 28)) .none kV dc pm an cd ct) ∧ FnOk P w K mg base (L2.CX P w) (lev n) f fd ["clocks", "length", "asks"] (spF (csK C0 C1 C2 C3 C4) G 3 (callN fns 3000 n 16)) := by
      obtain ⟨f, cd, D⟩ := A.d_kept_asks
      obtain ⟨oc, kV, dc, pm, ct, od, an, sl, lk⟩ := D.lk
      have q : ∃ fd, (∃ (oc kV dc pm ct : Value) (od an : Option Addr) (sl : Array (Option Value)), fd = PySem.W.fnOf "kept_asks" "kept_asks" (defArgs (top 28)) (defBody (top 28)) (defScope (top 28)) .none kV dc pm an cd ct) ∧ FnOk P w K mg base (L2.CX P w) (lev n) f fd ["clocks", "length", "asks"] (spF (csK C0 C1 C2 C3 C4) G 3 (callN fns 3000 n 16)) := by
        obtain hz | ⟨m, hz⟩ : n = 0 ∨ ∃ m, n = m + 1 := by cases n <;> simp
        · subst hz; exact ⟨_, ⟨oc, kV, dc, pm, ct, od, an, sl, rfl⟩, def_zero rfl⟩
        · subst hz; exact fn_ok_kept_asks A X g D m (prev m rfl)
      obtain ⟨fd, e, q⟩ := q
      exact ⟨f, fd, cd, PySem.W.mg_of X g D.ns, D.kp, e, q⟩
    have F_until : ∃ f fd cd, mg "until" = some (.ref f) ∧ PySem.W.keepIn K (.ref f) = true ∧ (∃ (oc kV dc pm ct : Value) (od an : Option Addr) (sl : Array (Option Value)), fd = PySem.W.fnOf "until" "until" (defArgs (top 29)) (defBody (top 29)) (defScope (top 29)) .none kV dc pm an cd ct) ∧ FnOk P w K mg base (L2.CX P w) (lev n) f fd ["clocks", "length", "ask"] (spF (csK C0 C1 C2 C3 C4) G 3 (callN fns 3000 n 17)) := by
      obtain ⟨f, cd, D⟩ := A.d_until
      obtain ⟨oc, kV, dc, pm, ct, od, an, sl, lk⟩ := D.lk
      have q : ∃ fd, (∃ (oc kV dc pm ct : Value) (od an : Option Addr) (sl : Array (Option Value)), fd = PySem.W.fnOf "until" "until" (defArgs (top 29)) (defBody (top 29)) (defScope (top 29)) .none kV dc pm an cd ct) ∧ FnOk P w K mg base (L2.CX P w) (lev n) f fd ["clocks", "length", "ask"] (spF (csK C0 C1 C2 C3 C4) G 3 (callN fns 3000 n 17)) := by
        obtain hz | ⟨m, hz⟩ : n = 0 ∨ ∃ m, n = m + 1 := by cases n <;> simp
        · subst hz; exact ⟨_, ⟨oc, kV, dc, pm, ct, od, an, sl, rfl⟩, def_zero rfl⟩
        · subst hz; exact fn_ok_until A X g D m (prev m rfl)
      obtain ⟨fd, e, q⟩ := q
      exact ⟨f, fd, cd, PySem.W.mg_of X g D.ns, D.kp, e, q⟩
    have F_greatest_until : ∃ f fd cd, mg "greatest_until" = some (.ref f) ∧ PySem.W.keepIn K (.ref f) = true ∧ (∃ (oc kV dc pm ct : Value) (od an : Option Addr) (sl : Array (Option Value)), fd = PySem.W.fnOf "greatest_until" "greatest_until" (defArgs (top 30)) (defBody (top 30)) (defScope (top 30)) .none kV dc pm an cd ct) ∧ FnOk P w K mg base (L2.CX P w) (lev n) f fd ["clocks", "length", "asks"] (spF (csK C0 C1 C2 C3 C4) G 3 (callN fns 3000 n 18)) := by
      obtain ⟨f, cd, D⟩ := A.d_greatest_until
      obtain ⟨oc, kV, dc, pm, ct, od, an, sl, lk⟩ := D.lk
      have q : ∃ fd, (∃ (oc kV dc pm ct : Value) (od an : Option Addr) (sl : Array (Option Value)), fd = PySem.W.fnOf "greatest_until" "greatest_until" (defArgs (top 30)) (defBody (top 30)) (defScope (top 30)) .none kV dc pm an cd ct) ∧ FnOk P w K mg base (L2.CX P w) (lev n) f fd ["clocks", "length", "asks"] (spF (csK C0 C1 C2 C3 C4) G 3 (callN fns 3000 n 18)) := by
        obtain hz | ⟨m, hz⟩ : n = 0 ∨ ∃ m, n = m + 1 := by cases n <;> simp
        · subst hz; exact ⟨_, ⟨oc, kV, dc, pm, ct, od, an, sl, rfl⟩, def_zero rfl⟩
        · subst hz; exact fn_ok_greatest_until A X g D m (prev m rfl)
      obtain ⟨fd, e, q⟩ := q
      exact ⟨f, fd, cd, PySem.W.mg_of X g D.ns, D.kp, e, q⟩
    have F_believe_until : ∃ f fd cd, mg "believe_until" = some (.ref f) ∧ PySem.W.keepIn K (.ref f) = true ∧ (∃ (oc kV dc pm ct : Value) (od an : Option Addr) (sl : Array (Option Value)), fd = PySem.W.fnOf "believe_until" "believe_until" (defArgs (top 31)) (defBody (top 31)) (defScope (top 31)) .none kV dc pm an cd ct) ∧ FnOk P w K mg base (L2.CX P w) (lev n) f fd ["clocks", "length", "asks"] (spF (csK C0 C1 C2 C3 C4) G 3 (callN fns 3000 n 19)) := by
      obtain ⟨f, cd, D⟩ := A.d_believe_until
      obtain ⟨oc, kV, dc, pm, ct, od, an, sl, lk⟩ := D.lk
      have q : ∃ fd, (∃ (oc kV dc pm ct : Value) (od an : Option Addr) (sl : Array (Option Value)), fd = PySem.W.fnOf "believe_until" "believe_until" (defArgs (top 31)) (defBody (top 31)) (defScope (top 31)) .none kV dc pm an cd ct) ∧ FnOk P w K mg base (L2.CX P w) (lev n) f fd ["clocks", "length", "asks"] (spF (csK C0 C1 C2 C3 C4) G 3 (callN fns 3000 n 19)) := by
        obtain hz | ⟨m, hz⟩ : n = 0 ∨ ∃ m, n = m + 1 := by cases n <;> simp
        · subst hz; exact ⟨_, ⟨oc, kV, dc, pm, ct, od, an, sl, rfl⟩, def_zero rfl⟩
        · subst hz; exact fn_ok_believe_until A X g D m (prev m rfl)
      obtain ⟨fd, e, q⟩ := q
      exact ⟨f, fd, cd, PySem.W.mg_of X g D.ns, D.kp, e, q⟩
    have F_span_of : ∃ f fd cd, mg "span_of" = some (.ref f) ∧ PySem.W.keepIn K (.ref f) = true ∧ (∃ (oc kV dc pm ct : Value) (od an : Option Addr) (sl : Array (Option Value)), fd = PySem.W.fnOf "span_of" "span_of" (defArgs (top 32)) (defBody (top 32)) (defScope (top 32)) .none kV dc pm an cd ct) ∧ FnOk P w K mg base (L2.CX P w) (lev n) f fd ["bounds", "length"] (spF (csK C0 C1 C2 C3 C4) G 2 (callN fns 3000 n 20)) := by
      obtain ⟨f, cd, D⟩ := A.d_span_of
      obtain ⟨oc, kV, dc, pm, ct, od, an, sl, lk⟩ := D.lk
      have q : ∃ fd, (∃ (oc kV dc pm ct : Value) (od an : Option Addr) (sl : Array (Option Value)), fd = PySem.W.fnOf "span_of" "span_of" (defArgs (top 32)) (defBody (top 32)) (defScope (top 32)) .none kV dc pm an cd ct) ∧ FnOk P w K mg base (L2.CX P w) (lev n) f fd ["bounds", "length"] (spF (csK C0 C1 C2 C3 C4) G 2 (callN fns 3000 n 20)) := by
        obtain hz | ⟨m, hz⟩ : n = 0 ∨ ∃ m, n = m + 1 := by cases n <;> simp
        · subst hz; exact ⟨_, ⟨oc, kV, dc, pm, ct, od, an, sl, rfl⟩, def_zero rfl⟩
        · subst hz; exact fn_ok_span_of A X g D m (prev m rfl)
      obtain ⟨fd, e, q⟩ := q
      exact ⟨f, fd, cd, PySem.W.mg_of X g D.ns, D.kp, e, q⟩
    have F_span_for : ∃ f fd cd, mg "span_for" = some (.ref f) ∧ PySem.W.keepIn K (.ref f) = true ∧ (∃ (oc kV dc pm ct : Value) (od an : Option Addr) (sl : Array (Option Value)), fd = PySem.W.fnOf "span_for" "span_for" (defArgs (top 33)) (defBody (top 33)) (defScope (top 33)) .none kV dc pm an cd ct) ∧ FnOk P w K mg base (L2.CX P w) (lev n) f fd ["clocks", "length"] (spF (csK C0 C1 C2 C3 C4) G 2 (callN fns 3000 n 21)) := by
      obtain ⟨f, cd, D⟩ := A.d_span_for
      obtain ⟨oc, kV, dc, pm, ct, od, an, sl, lk⟩ := D.lk
      have q : ∃ fd, (∃ (oc kV dc pm ct : Value) (od an : Option Addr) (sl : Array (Option Value)), fd = PySem.W.fnOf "span_for" "span_for" (defArgs (top 33)) (defBody (top 33)) (defScope (top 33)) .none kV dc pm an cd ct) ∧ FnOk P w K mg base (L2.CX P w) (lev n) f fd ["clocks", "length"] (spF (csK C0 C1 C2 C3 C4) G 2 (callN fns 3000 n 21)) := by
        obtain hz | ⟨m, hz⟩ : n = 0 ∨ ∃ m, n = m + 1 := by cases n <;> simp
        · subst hz; exact ⟨_, ⟨oc, kV, dc, pm, ct, od, an, sl, rfl⟩, def_zero rfl⟩
        · subst hz; exact fn_ok_span_for A X g D m (prev m rfl)
      obtain ⟨fd, e, q⟩ := q
      exact ⟨f, fd, cd, PySem.W.mg_of X g D.ns, D.kp, e, q⟩
    have F_length_for : ∃ f fd cd, mg "length_for" = some (.ref f) ∧ PySem.W.keepIn K (.ref f) = true ∧ (∃ (oc kV dc pm ct : Value) (od an : Option Addr) (sl : Array (Option Value)), fd = PySem.W.fnOf "length_for" "length_for" (defArgs (top 34)) (defBody (top 34)) (defScope (top 34)) .none kV dc pm an cd ct) ∧ FnOk P w K mg base (L2.CX P w) (lev n) f fd ["clocks", "span"] (spF (csK C0 C1 C2 C3 C4) G 2 (callN fns 3000 n 22)) := by
      obtain ⟨f, cd, D⟩ := A.d_length_for
      obtain ⟨oc, kV, dc, pm, ct, od, an, sl, lk⟩ := D.lk
      have q : ∃ fd, (∃ (oc kV dc pm ct : Value) (od an : Option Addr) (sl : Array (Option Value)), fd = PySem.W.fnOf "length_for" "length_for" (defArgs (top 34)) (defBody (top 34)) (defScope (top 34)) .none kV dc pm an cd ct) ∧ FnOk P w K mg base (L2.CX P w) (lev n) f fd ["clocks", "span"] (spF (csK C0 C1 C2 C3 C4) G 2 (callN fns 3000 n 22)) := by
        obtain hz | ⟨m, hz⟩ : n = 0 ∨ ∃ m, n = m + 1 := by cases n <;> simp
        · subst hz; exact ⟨_, ⟨oc, kV, dc, pm, ct, od, an, sl, rfl⟩, def_zero rfl⟩
        · subst hz; exact fn_ok_length_for A X g D m (prev m rfl)
      obtain ⟨fd, e, q⟩ := q
      exact ⟨f, fd, cd, PySem.W.mg_of X g D.ns, D.kp, e, q⟩
    have F_longest_period : ∃ f fd cd, mg "longest_period" = some (.ref f) ∧ PySem.W.keepIn K (.ref f) = true ∧ (∃ (oc kV dc pm ct : Value) (od an : Option Addr) (sl : Array (Option Value)), fd = PySem.W.fnOf "longest_period" "longest_period" (defArgs (top 35)) (defBody (top 35)) (defScope (top 35)) .none kV dc pm an cd ct) ∧ FnOk P w K mg base (L2.CX P w) (lev n) f fd ["clocks", "length", "lost"] (spF (csK C0 C1 C2 C3 C4) G 3 (callN fns 3000 n 23)) := by
      obtain ⟨f, cd, D⟩ := A.d_longest_period
      obtain ⟨oc, kV, dc, pm, ct, od, an, sl, lk⟩ := D.lk
      have q : ∃ fd, (∃ (oc kV dc pm ct : Value) (od an : Option Addr) (sl : Array (Option Value)), fd = PySem.W.fnOf "longest_period" "longest_period" (defArgs (top 35)) (defBody (top 35)) (defScope (top 35)) .none kV dc pm an cd ct) ∧ FnOk P w K mg base (L2.CX P w) (lev n) f fd ["clocks", "length", "lost"] (spF (csK C0 C1 C2 C3 C4) G 3 (callN fns 3000 n 23)) := by
        obtain hz | ⟨m, hz⟩ : n = 0 ∨ ∃ m, n = m + 1 := by cases n <;> simp
        · subst hz; exact ⟨_, ⟨oc, kV, dc, pm, ct, od, an, sl, rfl⟩, def_zero rfl⟩
        · subst hz; exact fn_ok_longest_period A X g D m (prev m rfl)
      obtain ⟨fd, e, q⟩ := q
      exact ⟨f, fd, cd, PySem.W.mg_of X g D.ns, D.kp, e, q⟩
    have F__law_l_lowest : ∃ f fd cd, mg "_law_l_lowest" = some (.ref f) ∧ PySem.W.keepIn K (.ref f) = true ∧ (∃ (oc kV dc pm ct : Value) (od an : Option Addr) (sl : Array (Option Value)), fd = PySem.W.fnOf "_law_l_lowest" "_law_l_lowest" (defArgs (top 37)) (defBody (top 37)) (defScope (top 37)) .none kV dc pm an cd ct) ∧ FnOk P w K mg base (L2.CX P w) (lev n) f fd ["_law_top", "_law_bottom"] (spF (csK C0 C1 C2 C3 C4) G 2 (callN fns 3000 n 24)) := by
      obtain ⟨f, cd, D⟩ := A.d__law_l_lowest
      obtain ⟨oc, kV, dc, pm, ct, od, an, sl, lk⟩ := D.lk
      have q : ∃ fd, (∃ (oc kV dc pm ct : Value) (od an : Option Addr) (sl : Array (Option Value)), fd = PySem.W.fnOf "_law_l_lowest" "_law_l_lowest" (defArgs (top 37)) (defBody (top 37)) (defScope (top 37)) .none kV dc pm an cd ct) ∧ FnOk P w K mg base (L2.CX P w) (lev n) f fd ["_law_top", "_law_bottom"] (spF (csK C0 C1 C2 C3 C4) G 2 (callN fns 3000 n 24)) := by
        obtain hz | ⟨m, hz⟩ : n = 0 ∨ ∃ m, n = m + 1 := by cases n <;> simp
        · subst hz; exact ⟨_, ⟨oc, kV, dc, pm, ct, od, an, sl, rfl⟩, def_zero rfl⟩
        · subst hz; exact fn_ok__law_l_lowest A X g D m (prev m rfl)
      obtain ⟨fd, e, q⟩ := q
      exact ⟨f, fd, cd, PySem.W.mg_of X g D.ns, D.kp, e, q⟩
    have F__law_l_plus : ∃ f fd cd, mg "_law_l_plus" = some (.ref f) ∧ PySem.W.keepIn K (.ref f) = true ∧ (∃ (oc kV dc pm ct : Value) (od an : Option Addr) (sl : Array (Option Value)), fd = PySem.W.fnOf "_law_l_plus" "_law_l_plus" (defArgs (top 38)) (defBody (top 38)) (defScope (top 38)) .none kV dc pm an cd ct) ∧ FnOk P w K mg base (L2.CX P w) (lev n) f fd ["_law_one", "_law_other"] (spF (csK C0 C1 C2 C3 C4) G 2 (callN fns 3000 n 25)) := by
      obtain ⟨f, cd, D⟩ := A.d__law_l_plus
      obtain ⟨oc, kV, dc, pm, ct, od, an, sl, lk⟩ := D.lk
      have q : ∃ fd, (∃ (oc kV dc pm ct : Value) (od an : Option Addr) (sl : Array (Option Value)), fd = PySem.W.fnOf "_law_l_plus" "_law_l_plus" (defArgs (top 38)) (defBody (top 38)) (defScope (top 38)) .none kV dc pm an cd ct) ∧ FnOk P w K mg base (L2.CX P w) (lev n) f fd ["_law_one", "_law_other"] (spF (csK C0 C1 C2 C3 C4) G 2 (callN fns 3000 n 25)) := by
        obtain hz | ⟨m, hz⟩ : n = 0 ∨ ∃ m, n = m + 1 := by cases n <;> simp
        · subst hz; exact ⟨_, ⟨oc, kV, dc, pm, ct, od, an, sl, rfl⟩, def_zero rfl⟩
        · subst hz; exact fn_ok__law_l_plus A X g D m (prev m rfl)
      obtain ⟨fd, e, q⟩ := q
      exact ⟨f, fd, cd, PySem.W.mg_of X g D.ns, D.kp, e, q⟩
    have F__law_l_times : ∃ f fd cd, mg "_law_l_times" = some (.ref f) ∧ PySem.W.keepIn K (.ref f) = true ∧ (∃ (oc kV dc pm ct : Value) (od an : Option Addr) (sl : Array (Option Value)), fd = PySem.W.fnOf "_law_l_times" "_law_l_times" (defArgs (top 39)) (defBody (top 39)) (defScope (top 39)) .none kV dc pm an cd ct) ∧ FnOk P w K mg base (L2.CX P w) (lev n) f fd ["_law_one", "_law_other"] (spF (csK C0 C1 C2 C3 C4) G 2 (callN fns 3000 n 26)) := by
      obtain ⟨f, cd, D⟩ := A.d__law_l_times
      obtain ⟨oc, kV, dc, pm, ct, od, an, sl, lk⟩ := D.lk
      have q : ∃ fd, (∃ (oc kV dc pm ct : Value) (od an : Option Addr) (sl : Array (Option Value)), fd = PySem.W.fnOf "_law_l_times" "_law_l_times" (defArgs (top 39)) (defBody (top 39)) (defScope (top 39)) .none kV dc pm an cd ct) ∧ FnOk P w K mg base (L2.CX P w) (lev n) f fd ["_law_one", "_law_other"] (spF (csK C0 C1 C2 C3 C4) G 2 (callN fns 3000 n 26)) := by
        obtain hz | ⟨m, hz⟩ : n = 0 ∨ ∃ m, n = m + 1 := by cases n <;> simp
        · subst hz; exact ⟨_, ⟨oc, kV, dc, pm, ct, od, an, sl, rfl⟩, def_zero rfl⟩
        · subst hz; exact fn_ok__law_l_times A X g D m (prev m rfl)
      obtain ⟨fd, e, q⟩ := q
      exact ⟨f, fd, cd, PySem.W.mg_of X g D.ns, D.kp, e, q⟩
    have F__law_l_over : ∃ f fd cd, mg "_law_l_over" = some (.ref f) ∧ PySem.W.keepIn K (.ref f) = true ∧ (∃ (oc kV dc pm ct : Value) (od an : Option Addr) (sl : Array (Option Value)), fd = PySem.W.fnOf "_law_l_over" "_law_l_over" (defArgs (top 40)) (defBody (top 40)) (defScope (top 40)) .none kV dc pm an cd ct) ∧ FnOk P w K mg base (L2.CX P w) (lev n) f fd ["_law_one", "_law_other"] (spF (csK C0 C1 C2 C3 C4) G 2 (callN fns 3000 n 27)) := by
      obtain ⟨f, cd, D⟩ := A.d__law_l_over
      obtain ⟨oc, kV, dc, pm, ct, od, an, sl, lk⟩ := D.lk
      have q : ∃ fd, (∃ (oc kV dc pm ct : Value) (od an : Option Addr) (sl : Array (Option Value)), fd = PySem.W.fnOf "_law_l_over" "_law_l_over" (defArgs (top 40)) (defBody (top 40)) (defScope (top 40)) .none kV dc pm an cd ct) ∧ FnOk P w K mg base (L2.CX P w) (lev n) f fd ["_law_one", "_law_other"] (spF (csK C0 C1 C2 C3 C4) G 2 (callN fns 3000 n 27)) := by
        obtain hz | ⟨m, hz⟩ : n = 0 ∨ ∃ m, n = m + 1 := by cases n <;> simp
        · subst hz; exact ⟨_, ⟨oc, kV, dc, pm, ct, od, an, sl, rfl⟩, def_zero rfl⟩
        · subst hz; exact fn_ok__law_l_over A X g D m (prev m rfl)
      obtain ⟨fd, e, q⟩ := q
      exact ⟨f, fd, cd, PySem.W.mg_of X g D.ns, D.kp, e, q⟩
    have F__law_l_minus : ∃ f fd cd, mg "_law_l_minus" = some (.ref f) ∧ PySem.W.keepIn K (.ref f) = true ∧ (∃ (oc kV dc pm ct : Value) (od an : Option Addr) (sl : Array (Option Value)), fd = PySem.W.fnOf "_law_l_minus" "_law_l_minus" (defArgs (top 41)) (defBody (top 41)) (defScope (top 41)) .none kV dc pm an cd ct) ∧ FnOk P w K mg base (L2.CX P w) (lev n) f fd ["_law_one", "_law_other"] (spF (csK C0 C1 C2 C3 C4) G 2 (callN fns 3000 n 28)) := by
      obtain ⟨f, cd, D⟩ := A.d__law_l_minus
      obtain ⟨oc, kV, dc, pm, ct, od, an, sl, lk⟩ := D.lk
      have q : ∃ fd, (∃ (oc kV dc pm ct : Value) (od an : Option Addr) (sl : Array (Option Value)), fd = PySem.W.fnOf "_law_l_minus" "_law_l_minus" (defArgs (top 41)) (defBody (top 41)) (defScope (top 41)) .none kV dc pm an cd ct) ∧ FnOk P w K mg base (L2.CX P w) (lev n) f fd ["_law_one", "_law_other"] (spF (csK C0 C1 C2 C3 C4) G 2 (callN fns 3000 n 28)) := by
        obtain hz | ⟨m, hz⟩ : n = 0 ∨ ∃ m, n = m + 1 := by cases n <;> simp
        · subst hz; exact ⟨_, ⟨oc, kV, dc, pm, ct, od, an, sl, rfl⟩, def_zero rfl⟩
        · subst hz; exact fn_ok__law_l_minus A X g D m (prev m rfl)
      obtain ⟨fd, e, q⟩ := q
      exact ⟨f, fd, cd, PySem.W.mg_of X g D.ns, D.kp, e, q⟩
    have F__law_l_less : ∃ f fd cd, mg "_law_l_less" = some (.ref f) ∧ PySem.W.keepIn K (.ref f) = true ∧ (∃ (oc kV dc pm ct : Value) (od an : Option Addr) (sl : Array (Option Value)), fd = PySem.W.fnOf "_law_l_less" "_law_l_less" (defArgs (top 42)) (defBody (top 42)) (defScope (top 42)) .none kV dc pm an cd ct) ∧ FnOk P w K mg base (L2.CX P w) (lev n) f fd ["_law_one", "_law_other"] (spF (csK C0 C1 C2 C3 C4) G 2 (callN fns 3000 n 29)) := by
      obtain ⟨f, cd, D⟩ := A.d__law_l_less
      obtain ⟨oc, kV, dc, pm, ct, od, an, sl, lk⟩ := D.lk
      have q : ∃ fd, (∃ (oc kV dc pm ct : Value) (od an : Option Addr) (sl : Array (Option Value)), fd = PySem.W.fnOf "_law_l_less" "_law_l_less" (defArgs (top 42)) (defBody (top 42)) (defScope (top 42)) .none kV dc pm an cd ct) ∧ FnOk P w K mg base (L2.CX P w) (lev n) f fd ["_law_one", "_law_other"] (spF (csK C0 C1 C2 C3 C4) G 2 (callN fns 3000 n 29)) := by
        obtain hz | ⟨m, hz⟩ : n = 0 ∨ ∃ m, n = m + 1 := by cases n <;> simp
        · subst hz; exact ⟨_, ⟨oc, kV, dc, pm, ct, od, an, sl, rfl⟩, def_zero rfl⟩
        · subst hz; exact fn_ok__law_l_less A X g D m (prev m rfl)
      obtain ⟨fd, e, q⟩ := q
      exact ⟨f, fd, cd, PySem.W.mg_of X g D.ns, D.kp, e, q⟩
    have F__law_l_clocks : ∃ f fd cd, mg "_law_l_clocks" = some (.ref f) ∧ PySem.W.keepIn K (.ref f) = true ∧ (∃ (oc kV dc pm ct : Value) (od an : Option Addr) (sl : Array (Option Value)), fd = PySem.W.fnOf "_law_l_clocks" "_law_l_clocks" (defArgs (top 43)) (defBody (top 43)) (defScope (top 43)) .none kV dc pm an cd ct) ∧ FnOk P w K mg base (L2.CX P w) (lev n) f fd ["_law_stream"] (spF (csK C0 C1 C2 C3 C4) G 1 (callN fns 3000 n 30)) := by
      obtain ⟨f, cd, D⟩ := A.d__law_l_clocks
      obtain ⟨oc, kV, dc, pm, ct, od, an, sl, lk⟩ := D.lk
      have q : ∃ fd, (∃ (oc kV dc pm ct : Value) (od an : Option Addr) (sl : Array (Option Value)), fd = PySem.W.fnOf "_law_l_clocks" "_law_l_clocks" (defArgs (top 43)) (defBody (top 43)) (defScope (top 43)) .none kV dc pm an cd ct) ∧ FnOk P w K mg base (L2.CX P w) (lev n) f fd ["_law_stream"] (spF (csK C0 C1 C2 C3 C4) G 1 (callN fns 3000 n 30)) := by
        obtain hz | ⟨m, hz⟩ : n = 0 ∨ ∃ m, n = m + 1 := by cases n <;> simp
        · subst hz; exact ⟨_, ⟨oc, kV, dc, pm, ct, od, an, sl, rfl⟩, def_zero rfl⟩
        · subst hz; exact fn_ok__law_l_clocks A X g D m (prev m rfl)
      obtain ⟨fd, e, q⟩ := q
      exact ⟨f, fd, cd, PySem.W.mg_of X g D.ns, D.kp, e, q⟩
    have F__law_l_loose : ∃ f fd cd, mg "_law_l_loose" = some (.ref f) ∧ PySem.W.keepIn K (.ref f) = true ∧ (∃ (oc kV dc pm ct : Value) (od an : Option Addr) (sl : Array (Option Value)), fd = PySem.W.fnOf "_law_l_loose" "_law_l_loose" (defArgs (top 44)) (defBody (top 44)) (defScope (top 44)) .none kV dc pm an cd ct) ∧ FnOk P w K mg base (L2.CX P w) (lev n) f fd ["_law_stream", "_law_thing"] (spF (csK C0 C1 C2 C3 C4) G 2 (callN fns 3000 n 31)) := by
      obtain ⟨f, cd, D⟩ := A.d__law_l_loose
      obtain ⟨oc, kV, dc, pm, ct, od, an, sl, lk⟩ := D.lk
      have q : ∃ fd, (∃ (oc kV dc pm ct : Value) (od an : Option Addr) (sl : Array (Option Value)), fd = PySem.W.fnOf "_law_l_loose" "_law_l_loose" (defArgs (top 44)) (defBody (top 44)) (defScope (top 44)) .none kV dc pm an cd ct) ∧ FnOk P w K mg base (L2.CX P w) (lev n) f fd ["_law_stream", "_law_thing"] (spF (csK C0 C1 C2 C3 C4) G 2 (callN fns 3000 n 31)) := by
        obtain hz | ⟨m, hz⟩ : n = 0 ∨ ∃ m, n = m + 1 := by cases n <;> simp
        · subst hz; exact ⟨_, ⟨oc, kV, dc, pm, ct, od, an, sl, rfl⟩, def_zero rfl⟩
        · subst hz; exact fn_ok__law_l_loose A X g D m (prev m rfl)
      obtain ⟨fd, e, q⟩ := q
      exact ⟨f, fd, cd, PySem.W.mg_of X g D.ns, D.kp, e, q⟩
    have F__law_l_until : ∃ f fd cd, mg "_law_l_until" = some (.ref f) ∧ PySem.W.keepIn K (.ref f) = true ∧ (∃ (oc kV dc pm ct : Value) (od an : Option Addr) (sl : Array (Option Value)), fd = PySem.W.fnOf "_law_l_until" "_law_l_until" (defArgs (top 45)) (defBody (top 45)) (defScope (top 45)) .none kV dc pm an cd ct) ∧ FnOk P w K mg base (L2.CX P w) (lev n) f fd ["_law_clocks", "_law_length", "_law_asks"] (spF (csK C0 C1 C2 C3 C4) G 3 (callN fns 3000 n 32)) := by
      obtain ⟨f, cd, D⟩ := A.d__law_l_until
      obtain ⟨oc, kV, dc, pm, ct, od, an, sl, lk⟩ := D.lk
      have q : ∃ fd, (∃ (oc kV dc pm ct : Value) (od an : Option Addr) (sl : Array (Option Value)), fd = PySem.W.fnOf "_law_l_until" "_law_l_until" (defArgs (top 45)) (defBody (top 45)) (defScope (top 45)) .none kV dc pm an cd ct) ∧ FnOk P w K mg base (L2.CX P w) (lev n) f fd ["_law_clocks", "_law_length", "_law_asks"] (spF (csK C0 C1 C2 C3 C4) G 3 (callN fns 3000 n 32)) := by
        obtain hz | ⟨m, hz⟩ : n = 0 ∨ ∃ m, n = m + 1 := by cases n <;> simp
        · subst hz; exact ⟨_, ⟨oc, kV, dc, pm, ct, od, an, sl, rfl⟩, def_zero rfl⟩
        · subst hz; exact fn_ok__law_l_until A X g D m (prev m rfl)
      obtain ⟨fd, e, q⟩ := q
      exact ⟨f, fd, cd, PySem.W.mg_of X g D.ns, D.kp, e, q⟩
    have F__law_draw : ∃ f fd cd, mg "_law_draw" = some (.ref f) ∧ PySem.W.keepIn K (.ref f) = true ∧ (∃ (oc kV dc pm ct : Value) (od an : Option Addr) (sl : Array (Option Value)), fd = PySem.W.fnOf "_law_draw" "_law_draw" (defArgs (top 47)) (defBody (top 47)) (defScope (top 47)) .none kV dc pm an cd ct) ∧ FnOk P w K mg base (L2.CX P w) (lev n) f fd ["_law_stream", "_law_many"] (spF (csK C0 C1 C2 C3 C4) G 2 (callN fns 3000 n 34)) := by
      obtain ⟨f, cd, D⟩ := A.d__law_draw
      obtain ⟨oc, kV, dc, pm, ct, od, an, sl, lk⟩ := D.lk
      have q : ∃ fd, (∃ (oc kV dc pm ct : Value) (od an : Option Addr) (sl : Array (Option Value)), fd = PySem.W.fnOf "_law_draw" "_law_draw" (defArgs (top 47)) (defBody (top 47)) (defScope (top 47)) .none kV dc pm an cd ct) ∧ FnOk P w K mg base (L2.CX P w) (lev n) f fd ["_law_stream", "_law_many"] (spF (csK C0 C1 C2 C3 C4) G 2 (callN fns 3000 n 34)) := by
        obtain hz | ⟨m, hz⟩ : n = 0 ∨ ∃ m, n = m + 1 := by cases n <;> simp
        · subst hz; exact ⟨_, ⟨oc, kV, dc, pm, ct, od, an, sl, rfl⟩, def_zero rfl⟩
        · subst hz; exact ⟨_, ⟨oc, kV, dc, pm, ct, od, an, sl, rfl⟩, (draw_ok lk D.cd (bts A X g "int" (by decide +kernel))).mono (by unfold lev; omega)⟩
      obtain ⟨fd, e, q⟩ := q
      exact ⟨f, fd, cd, PySem.W.mg_of X g D.ns, D.kp, e, q⟩
    have F__law_pick : ∃ f fd cd, mg "_law_pick" = some (.ref f) ∧ PySem.W.keepIn K (.ref f) = true ∧ (∃ (oc kV dc pm ct : Value) (od an : Option Addr) (sl : Array (Option Value)), fd = PySem.W.fnOf "_law_pick" "_law_pick" (defArgs (top 48)) (defBody (top 48)) (defScope (top 48)) .none kV dc pm an cd ct) ∧ FnOk P w K mg base (L2.CX P w) (lev n) f fd ["_law_stream", "_law_some"] (spF (csK C0 C1 C2 C3 C4) G 2 (callN fns 3000 n 35)) := by
      obtain ⟨f, cd, D⟩ := A.d__law_pick
      obtain ⟨oc, kV, dc, pm, ct, od, an, sl, lk⟩ := D.lk
      have q : ∃ fd, (∃ (oc kV dc pm ct : Value) (od an : Option Addr) (sl : Array (Option Value)), fd = PySem.W.fnOf "_law_pick" "_law_pick" (defArgs (top 48)) (defBody (top 48)) (defScope (top 48)) .none kV dc pm an cd ct) ∧ FnOk P w K mg base (L2.CX P w) (lev n) f fd ["_law_stream", "_law_some"] (spF (csK C0 C1 C2 C3 C4) G 2 (callN fns 3000 n 35)) := by
        obtain hz | ⟨m, hz⟩ : n = 0 ∨ ∃ m, n = m + 1 := by cases n <;> simp
        · subst hz; exact ⟨_, ⟨oc, kV, dc, pm, ct, od, an, sl, rfl⟩, def_zero rfl⟩
        · subst hz; exact fn_ok__law_pick A X g D m (prev m rfl)
      obtain ⟨fd, e, q⟩ := q
      exact ⟨f, fd, cd, PySem.W.mg_of X g D.ns, D.kp, e, q⟩
    have F__law_same : ∃ f fd cd, mg "_law_same" = some (.ref f) ∧ PySem.W.keepIn K (.ref f) = true ∧ (∃ (oc kV dc pm ct : Value) (od an : Option Addr) (sl : Array (Option Value)), fd = PySem.W.fnOf "_law_same" "_law_same" (defArgs (top 49)) (defBody (top 49)) (defScope (top 49)) .none kV dc pm an cd ct) ∧ FnOk P w K mg base (L2.CX P w) (lev n) f fd ["_law_found", "_law_due"] (spF (csK C0 C1 C2 C3 C4) G 2 (callN fns 3000 n 36)) := by
      obtain ⟨f, cd, D⟩ := A.d__law_same
      obtain ⟨oc, kV, dc, pm, ct, od, an, sl, lk⟩ := D.lk
      have q : ∃ fd, (∃ (oc kV dc pm ct : Value) (od an : Option Addr) (sl : Array (Option Value)), fd = PySem.W.fnOf "_law_same" "_law_same" (defArgs (top 49)) (defBody (top 49)) (defScope (top 49)) .none kV dc pm an cd ct) ∧ FnOk P w K mg base (L2.CX P w) (lev n) f fd ["_law_found", "_law_due"] (spF (csK C0 C1 C2 C3 C4) G 2 (callN fns 3000 n 36)) := by
        obtain hz | ⟨m, hz⟩ : n = 0 ∨ ∃ m, n = m + 1 := by cases n <;> simp
        · subst hz; exact ⟨_, ⟨oc, kV, dc, pm, ct, od, an, sl, rfl⟩, def_zero rfl⟩
        · subst hz; exact fn_ok__law_same A X g D m (prev m rfl)
      obtain ⟨fd, e, q⟩ := q
      exact ⟨f, fd, cd, PySem.W.mg_of X g D.ns, D.kp, e, q⟩
    have F__law_greater_clocks : ∃ f fd cd, mg "_law_greater_clocks" = some (.ref f) ∧ PySem.W.keepIn K (.ref f) = true ∧ (∃ (oc kV dc pm ct : Value) (od an : Option Addr) (sl : Array (Option Value)), fd = PySem.W.fnOf "_law_greater_clocks" "_law_greater_clocks" (defArgs (top 51)) (defBody (top 51)) (defScope (top 51)) .none kV dc pm an cd ct) ∧ FnOk P w K mg base (L2.CX P w) (lev n) f fd ["_law_clocks", "_law_scale"] (spF (csK C0 C1 C2 C3 C4) G 2 (callN fns 3000 n 38)) := by
      obtain ⟨f, cd, D⟩ := A.d__law_greater_clocks
      obtain ⟨oc, kV, dc, pm, ct, od, an, sl, lk⟩ := D.lk
      have q : ∃ fd, (∃ (oc kV dc pm ct : Value) (od an : Option Addr) (sl : Array (Option Value)), fd = PySem.W.fnOf "_law_greater_clocks" "_law_greater_clocks" (defArgs (top 51)) (defBody (top 51)) (defScope (top 51)) .none kV dc pm an cd ct) ∧ FnOk P w K mg base (L2.CX P w) (lev n) f fd ["_law_clocks", "_law_scale"] (spF (csK C0 C1 C2 C3 C4) G 2 (callN fns 3000 n 38)) := by
        obtain hz | ⟨m, hz⟩ : n = 0 ∨ ∃ m, n = m + 1 := by cases n <;> simp
        · subst hz; exact ⟨_, ⟨oc, kV, dc, pm, ct, od, an, sl, rfl⟩, def_zero rfl⟩
        · subst hz; exact fn_ok__law_greater_clocks A X g D m (prev m rfl)
      obtain ⟨fd, e, q⟩ := q
      exact ⟨f, fd, cd, PySem.W.mg_of X g D.ns, D.kp, e, q⟩
    have F__law_span_right : ∃ f fd cd, mg "_law_span_right" = some (.ref f) ∧ PySem.W.keepIn K (.ref f) = true ∧ (∃ (oc kV dc pm ct : Value) (od an : Option Addr) (sl : Array (Option Value)), fd = PySem.W.fnOf "_law_span_right" "_law_span_right" (defArgs (top 52)) (defBody (top 52)) (defScope (top 52)) .none kV dc pm an cd ct) ∧ FnOk P w K mg base (L2.CX P w) (lev n) f fd ["_law_clocks", "_law_length", "_law_answered"] (spF (csK C0 C1 C2 C3 C4) G 3 (callN fns 3000 n 39)) := by
      obtain ⟨f, cd, D⟩ := A.d__law_span_right
      obtain ⟨oc, kV, dc, pm, ct, od, an, sl, lk⟩ := D.lk
      have q : ∃ fd, (∃ (oc kV dc pm ct : Value) (od an : Option Addr) (sl : Array (Option Value)), fd = PySem.W.fnOf "_law_span_right" "_law_span_right" (defArgs (top 52)) (defBody (top 52)) (defScope (top 52)) .none kV dc pm an cd ct) ∧ FnOk P w K mg base (L2.CX P w) (lev n) f fd ["_law_clocks", "_law_length", "_law_answered"] (spF (csK C0 C1 C2 C3 C4) G 3 (callN fns 3000 n 39)) := by
        obtain hz | ⟨m, hz⟩ : n = 0 ∨ ∃ m, n = m + 1 := by cases n <;> simp
        · subst hz; exact ⟨_, ⟨oc, kV, dc, pm, ct, od, an, sl, rfl⟩, def_zero rfl⟩
        · subst hz; exact fn_ok__law_span_right A X g D m (prev m rfl)
      obtain ⟨fd, e, q⟩ := q
      exact ⟨f, fd, cd, PySem.W.mg_of X g D.ns, D.kp, e, q⟩
    have F__law_period_right : ∃ f fd cd, mg "_law_period_right" = some (.ref f) ∧ PySem.W.keepIn K (.ref f) = true ∧ (∃ (oc kV dc pm ct : Value) (od an : Option Addr) (sl : Array (Option Value)), fd = PySem.W.fnOf "_law_period_right" "_law_period_right" (defArgs (top 53)) (defBody (top 53)) (defScope (top 53)) .none kV dc pm an cd ct) ∧ FnOk P w K mg base (L2.CX P w) (lev n) f fd ["_law_clocks", "_law_length", "_law_lost"] (spF (csK C0 C1 C2 C3 C4) G 3 (callN fns 3000 n 40)) := by
      obtain ⟨f, cd, D⟩ := A.d__law_period_right
      obtain ⟨oc, kV, dc, pm, ct, od, an, sl, lk⟩ := D.lk
      have q : ∃ fd, (∃ (oc kV dc pm ct : Value) (od an : Option Addr) (sl : Array (Option Value)), fd = PySem.W.fnOf "_law_period_right" "_law_period_right" (defArgs (top 53)) (defBody (top 53)) (defScope (top 53)) .none kV dc pm an cd ct) ∧ FnOk P w K mg base (L2.CX P w) (lev n) f fd ["_law_clocks", "_law_length", "_law_lost"] (spF (csK C0 C1 C2 C3 C4) G 3 (callN fns 3000 n 40)) := by
        obtain hz | ⟨m, hz⟩ : n = 0 ∨ ∃ m, n = m + 1 := by cases n <;> simp
        · subst hz; exact ⟨_, ⟨oc, kV, dc, pm, ct, od, an, sl, rfl⟩, def_zero rfl⟩
        · subst hz; exact fn_ok__law_period_right A X g D m (prev m rfl)
      obtain ⟨fd, e, q⟩ := q
      exact ⟨f, fd, cd, PySem.W.mg_of X g D.ns, D.kp, e, q⟩
    have F__law_refused_right : ∃ f fd, mg "_law_refused_right" = some (.ref f) ∧ PySem.W.keepIn K (.ref f) = true ∧ (∃ (oc kV dc pm ct : Value) (od an : Option Addr) (sl : Array (Option Value)), fd = PySem.W.fnOf "_law_refused_right" "_law_refused_right" (defArgs (top 54)) (defBody (top 54)) (defScope (top 54)) .none kV dc pm an (.ref c__law_refused_right) ct) ∧ FnOk P w K mg base (L2.CX P w) (lev n) f fd ["_law_stream", "_law_clocks"] (spF (csK C0 C1 C2 C3 C4) G 2 (callN fns 3000 n 41)) := by
      obtain ⟨f, D⟩ := A.d__law_refused_right
      obtain ⟨oc, kV, dc, pm, ct, od, an, sl, lk⟩ := D.lk
      have q : ∃ fd, (∃ (oc kV dc pm ct : Value) (od an : Option Addr) (sl : Array (Option Value)), fd = PySem.W.fnOf "_law_refused_right" "_law_refused_right" (defArgs (top 54)) (defBody (top 54)) (defScope (top 54)) .none kV dc pm an (.ref c__law_refused_right) ct) ∧ FnOk P w K mg base (L2.CX P w) (lev n) f fd ["_law_stream", "_law_clocks"] (spF (csK C0 C1 C2 C3 C4) G 2 (callN fns 3000 n 41)) := by
        obtain hz | ⟨m, hz⟩ : n = 0 ∨ ∃ m, n = m + 1 := by cases n <;> simp
        · subst hz; exact ⟨_, ⟨oc, kV, dc, pm, ct, od, an, sl, rfl⟩, def_zero rfl⟩
        · subst hz; exact fn_ok__law_refused_right A X g D TB__law_refused_right hT m (prev m rfl)
      obtain ⟨fd, e, q⟩ := q
      exact ⟨f, fd, PySem.W.mg_of X g D.ns, D.kp, e, q⟩
    have fns' : ∀ x i np dd, gtab.lookup x = some (.fn i np dd) → ∃ fa fd ps, mg x = some (.ref fa) ∧ PySem.W.keepIn K (.ref fa) = true ∧ FnOk P w K mg base (L2.CX P w) (lev n) fa fd ps (spF (csK C0 C1 C2 C3 C4) G np (callN fns 3000 n i)) ∧
        ∀ k, k ≤ np → np ≤ k + dd.length → ∃ dvs ds, L2.Binds K fd ps ds ∧ Vals dvs ds ∧ Fills (csK C0 C1 C2 C3 C4) G ⟨callN fns 3000 n, fun _ => .err, 3000⟩ i k np (dd.drop (k + dd.length - np)) dvs := by
      intro x i np dd hl
      have m := PySem.mem_of_lookup hl
      simp only [gtab, List.mem_cons, Prod.mk.injEq, reduceCtorEq, and_false, Glob.fn.injEq, List.not_mem_nil, or_false] at m
      rcases m with ⟨rfl, rfl, rfl, rfl⟩ | ⟨rfl, rfl, rfl, rfl⟩ | ⟨rfl, rfl, rfl, rfl⟩ | ⟨rfl, rfl, rfl, rfl⟩ | ⟨rfl, rfl, rfl, rfl⟩ | ⟨rfl, rfl, rfl, rfl⟩ | ⟨rfl, rfl, rfl, rfl⟩ | ⟨rfl, rfl, rfl, rfl⟩ | ⟨rfl, rfl, rfl, rfl⟩ | ⟨rfl, rfl, rfl, rfl⟩ | ⟨rfl, rfl, rfl, rfl⟩ | ⟨rfl, rfl, rfl, rfl⟩ | ⟨rfl, rfl, rfl, rfl⟩ | ⟨rfl, rfl, rfl, rfl⟩ | ⟨rfl, rfl, rfl, rfl⟩ | ⟨rfl, rfl, rfl, rfl⟩ | ⟨rfl, rfl, rfl, rfl⟩ | ⟨rfl, rfl, rfl, rfl⟩ | ⟨rfl, rfl, rfl, rfl⟩ | ⟨rfl, rfl, rfl, rfl⟩ | ⟨rfl, rfl, rfl, rfl⟩ | ⟨rfl, rfl, rfl, rfl⟩ | ⟨rfl, rfl, rfl, rfl⟩ | ⟨rfl, rfl, rfl, rfl⟩ | ⟨rfl, rfl, rfl, rfl⟩ | ⟨rfl, rfl, rfl, rfl⟩ | ⟨rfl, rfl, rfl, rfl⟩ | ⟨rfl, rfl, rfl, rfl⟩ | ⟨rfl, rfl, rfl, rfl⟩ | ⟨rfl, rfl, rfl, rfl⟩ | ⟨rfl, rfl, rfl, rfl⟩ | ⟨rfl, rfl, rfl, rfl⟩ | ⟨rfl, rfl, rfl, rfl⟩ | ⟨rfl, rfl, rfl, rfl⟩ | ⟨rfl, rfl, rfl, rfl⟩ | ⟨rfl, rfl, rfl, rfl⟩ | ⟨rfl, rfl, rfl, rfl⟩ | ⟨rfl, rfl, rfl, rfl⟩ | ⟨rfl, rfl, rfl, rfl⟩ | ⟨rfl, rfl, rfl, rfl⟩
      · obtain ⟨f, fd, cd, m1, m2, ⟨oc, kV, dc, pm, ct, od, an, sl, rfl⟩, q⟩ := F_is_list
        refine ⟨f, _, _, m1, m2, q, fun k h1 h2 => ?_⟩
        refine ⟨[], [], Binds.all fun us hl => match us, hl with | [_], _ => rfl, .nil, ?_⟩
        have e : k = 1 := by simp at h2; omega
        subst e
        exact fills_of (fn := fd_is_list) rfl (Nat.le_refl _) (Nat.le_refl _) fun W H => .nil
      · obtain ⟨f, fd, cd, m1, m2, ⟨oc, kV, dc, pm, ct, od, an, sl, rfl⟩, q⟩ := F_is_integer
        refine ⟨f, _, _, m1, m2, q, fun k h1 h2 => ?_⟩
        refine ⟨[], [], Binds.all fun us hl => match us, hl with | [_], _ => rfl, .nil, ?_⟩
        have e : k = 1 := by simp at h2; omega
        subst e
        exact fills_of (fn := fd_is_integer) rfl (Nat.le_refl _) (Nat.le_refl _) fun W H => .nil
      · obtain ⟨f, fd, cd, m1, m2, ⟨oc, kV, dc, pm, ct, od, an, sl, rfl⟩, q⟩ := F_is_number
        refine ⟨f, _, _, m1, m2, q, fun k h1 h2 => ?_⟩
        refine ⟨[], [], Binds.all fun us hl => match us, hl with | [_], _ => rfl, .nil, ?_⟩
        have e : k = 1 := by simp at h2; omega
        subst e
        exact fills_of (fn := fd_is_number) rfl (Nat.le_refl _) (Nat.le_refl _) fun W H => .nil
      · obtain ⟨f, fd, cd, m1, m2, ⟨oc, kV, dc, pm, ct, od, an, sl, rfl⟩, q⟩ := F_is_fraction
        refine ⟨f, _, _, m1, m2, q, fun k h1 h2 => ?_⟩
        refine ⟨[], [], Binds.all fun us hl => match us, hl with | [_], _ => rfl, .nil, ?_⟩
        have e : k = 1 := by simp at h2; omega
        subst e
        exact fills_of (fn := fd_is_fraction) rfl (Nat.le_refl _) (Nat.le_refl _) fun W H => .nil
      · obtain ⟨f, fd, cd, m1, m2, ⟨oc, kV, dc, pm, ct, od, an, sl, rfl⟩, q⟩ := F_lowest
        refine ⟨f, _, _, m1, m2, q, fun k h1 h2 => ?_⟩
        refine ⟨[], [], Binds.all fun us hl => match us, hl with | [_, _], _ => rfl, .nil, ?_⟩
        have e : k = 2 := by simp at h2; omega
        subst e
        exact fills_of (fn := fd_lowest) rfl (Nat.le_refl _) (Nat.le_refl _) fun W H => .nil
      · obtain ⟨f, fd, cd, m1, m2, ⟨oc, kV, dc, pm, ct, od, an, sl, rfl⟩, q⟩ := F_plus
        refine ⟨f, _, _, m1, m2, q, fun k h1 h2 => ?_⟩
        refine ⟨[], [], Binds.all fun us hl => match us, hl with | [_, _], _ => rfl, .nil, ?_⟩
        have e : k = 2 := by simp at h2; omega
        subst e
        exact fills_of (fn := fd_plus) rfl (Nat.le_refl _) (Nat.le_refl _) fun W H => .nil
      · obtain ⟨f, fd, cd, m1, m2, ⟨oc, kV, dc, pm, ct, od, an, sl, rfl⟩, q⟩ := F_minus
        refine ⟨f, _, _, m1, m2, q, fun k h1 h2 => ?_⟩
        refine ⟨[], [], Binds.all fun us hl => match us, hl with | [_, _], _ => rfl, .nil, ?_⟩
        have e : k = 2 := by simp at h2; omega
        subst e
        exact fills_of (fn := fd_minus) rfl (Nat.le_refl _) (Nat.le_refl _) fun W H => .nil
      · obtain ⟨f, fd, cd, m1, m2, ⟨oc, kV, dc, pm, ct, od, an, sl, rfl⟩, q⟩ := F_times
        refine ⟨f, _, _, m1, m2, q, fun k h1 h2 => ?_⟩
        refine ⟨[], [], Binds.all fun us hl => match us, hl with | [_, _], _ => rfl, .nil, ?_⟩
        have e : k = 2 := by simp at h2; omega
        subst e
        exact fills_of (fn := fd_times) rfl (Nat.le_refl _) (Nat.le_refl _) fun W H => .nil
      · obtain ⟨f, fd, cd, m1, m2, ⟨oc, kV, dc, pm, ct, od, an, sl, rfl⟩, q⟩ := F_over
        refine ⟨f, _, _, m1, m2, q, fun k h1 h2 => ?_⟩
        refine ⟨[], [], Binds.all fun us hl => match us, hl with | [_, _], _ => rfl, .nil, ?_⟩
        have e : k = 2 := by simp at h2; omega
        subst e
        exact fills_of (fn := fd_over) rfl (Nat.le_refl _) (Nat.le_refl _) fun W H => .nil
      · obtain ⟨f, fd, cd, m1, m2, ⟨oc, kV, dc, pm, ct, od, an, sl, rfl⟩, q⟩ := F_is_less
        refine ⟨f, _, _, m1, m2, q, fun k h1 h2 => ?_⟩
        refine ⟨[], [], Binds.all fun us hl => match us, hl with | [_, _], _ => rfl, .nil, ?_⟩
        have e : k = 2 := by simp at h2; omega
        subst e
        exact fills_of (fn := fd_is_less) rfl (Nat.le_refl _) (Nat.le_refl _) fun W H => .nil
      · obtain ⟨f, fd, cd, m1, m2, ⟨oc, kV, dc, pm, ct, od, an, sl, rfl⟩, q⟩ := F_lesser
        refine ⟨f, _, _, m1, m2, q, fun k h1 h2 => ?_⟩
        refine ⟨[], [], Binds.all fun us hl => match us, hl with | [_, _], _ => rfl, .nil, ?_⟩
        have e : k = 2 := by simp at h2; omega
        subst e
        exact fills_of (fn := fd_lesser) rfl (Nat.le_refl _) (Nat.le_refl _) fun W H => .nil
      · obtain ⟨f, fd, cd, m1, m2, ⟨oc, kV, dc, pm, ct, od, an, sl, rfl⟩, q⟩ := F_greater
        refine ⟨f, _, _, m1, m2, q, fun k h1 h2 => ?_⟩
        refine ⟨[], [], Binds.all fun us hl => match us, hl with | [_, _], _ => rfl, .nil, ?_⟩
        have e : k = 2 := by simp at h2; omega
        subst e
        exact fills_of (fn := fd_greater) rfl (Nat.le_refl _) (Nat.le_refl _) fun W H => .nil
      · obtain ⟨f, fd, cd, m1, m2, ⟨oc, kV, dc, pm, ct, od, an, sl, rfl⟩, q⟩ := F_checked_clocks
        refine ⟨f, _, _, m1, m2, q, fun k h1 h2 => ?_⟩
        refine ⟨[], [], Binds.all fun us hl => match us, hl with | [_], _ => rfl, .nil, ?_⟩
        have e : k = 1 := by simp at h2; omega
        subst e
        exact fills_of (fn := fd_checked_clocks) rfl (Nat.le_refl _) (Nat.le_refl _) fun W H => .nil
      · obtain ⟨f, fd, cd, m1, m2, ⟨oc, kV, dc, pm, ct, od, an, sl, rfl⟩, q⟩ := F_checked_length
        refine ⟨f, _, _, m1, m2, q, fun k h1 h2 => ?_⟩
        refine ⟨[], [], Binds.all fun us hl => match us, hl with | [_], _ => rfl, .nil, ?_⟩
        have e : k = 1 := by simp at h2; omega
        subst e
        exact fills_of (fn := fd_checked_length) rfl (Nat.le_refl _) (Nat.le_refl _) fun W H => .nil
      · obtain ⟨f, fd, cd, m1, m2, ⟨oc, kV, dc, pm, ct, od, an, sl, rfl⟩, q⟩ := F_is_ask
        refine ⟨f, _, _, m1, m2, q, fun k h1 h2 => ?_⟩
        refine ⟨[], [], Binds.all fun us hl => match us, hl with | [_, _], _ => rfl, .nil, ?_⟩
        have e : k = 2 := by simp at h2; omega
        subst e
        exact fills_of (fn := fd_is_ask) rfl (Nat.le_refl _) (Nat.le_refl _) fun W H => .nil
      · obtain ⟨f, fd, cd, m1, m2, ⟨oc, kV, dc, pm, ct, od, an, sl, rfl⟩, q⟩ := F_checked_asks
        refine ⟨f, _, _, m1, m2, q, fun k h1 h2 => ?_⟩
        refine ⟨[], [], Binds.all fun us hl => match us, hl with | [_, _], _ => rfl, .nil, ?_⟩
        have e : k = 2 := by simp at h2; omega
        subst e
        exact fills_of (fn := fd_checked_asks) rfl (Nat.le_refl _) (Nat.le_refl _) fun W H => .nil
      · obtain ⟨f, fd, cd, m1, m2, ⟨oc, kV, dc, pm, ct, od, an, sl, rfl⟩, q⟩ := F_kept_asks
        refine ⟨f, _, _, m1, m2, q, fun k h1 h2 => ?_⟩
        refine ⟨[], [], Binds.all fun us hl => match us, hl with | [_, _, _], _ => rfl, .nil, ?_⟩
        have e : k = 3 := by simp at h2; omega
        subst e
        exact fills_of (fn := fd_kept_asks) rfl (Nat.le_refl _) (Nat.le_refl _) fun W H => .nil
      · obtain ⟨f, fd, cd, m1, m2, ⟨oc, kV, dc, pm, ct, od, an, sl, rfl⟩, q⟩ := F_until
        refine ⟨f, _, _, m1, m2, q, fun k h1 h2 => ?_⟩
        refine ⟨[], [], Binds.all fun us hl => match us, hl with | [_, _, _], _ => rfl, .nil, ?_⟩
        have e : k = 3 := by simp at h2; omega
        subst e
        exact fills_of (fn := fd_until) rfl (Nat.le_refl _) (Nat.le_refl _) fun W H => .nil
      · obtain ⟨f, fd, cd, m1, m2, ⟨oc, kV, dc, pm, ct, od, an, sl, rfl⟩, q⟩ := F_greatest_until
        refine ⟨f, _, _, m1, m2, q, fun k h1 h2 => ?_⟩
        refine ⟨[], [], Binds.all fun us hl => match us, hl with | [_, _, _], _ => rfl, .nil, ?_⟩
        have e : k = 3 := by simp at h2; omega
        subst e
        exact fills_of (fn := fd_greatest_until) rfl (Nat.le_refl _) (Nat.le_refl _) fun W H => .nil
      · obtain ⟨f, fd, cd, m1, m2, ⟨oc, kV, dc, pm, ct, od, an, sl, rfl⟩, q⟩ := F_believe_until
        refine ⟨f, _, _, m1, m2, q, fun k h1 h2 => ?_⟩
        refine ⟨[], [], Binds.all fun us hl => match us, hl with | [_, _, _], _ => rfl, .nil, ?_⟩
        have e : k = 3 := by simp at h2; omega
        subst e
        exact fills_of (fn := fd_believe_until) rfl (Nat.le_refl _) (Nat.le_refl _) fun W H => .nil
      · obtain ⟨f, fd, cd, m1, m2, ⟨oc, kV, dc, pm, ct, od, an, sl, rfl⟩, q⟩ := F_span_of
        refine ⟨f, _, _, m1, m2, q, fun k h1 h2 => ?_⟩
        refine ⟨[], [], Binds.all fun us hl => match us, hl with | [_, _], _ => rfl, .nil, ?_⟩
        have e : k = 2 := by simp at h2; omega
        subst e
        exact fills_of (fn := fd_span_of) rfl (Nat.le_refl _) (Nat.le_refl _) fun W H => .nil
      · obtain ⟨f, fd, cd, m1, m2, ⟨oc, kV, dc, pm, ct, od, an, sl, rfl⟩, q⟩ := F_span_for
        refine ⟨f, _, _, m1, m2, q, fun k h1 h2 => ?_⟩
        refine ⟨[], [], Binds.all fun us hl => match us, hl with | [_, _], _ => rfl, .nil, ?_⟩
        have e : k = 2 := by simp at h2; omega
        subst e
        exact fills_of (fn := fd_span_for) rfl (Nat.le_refl _) (Nat.le_refl _) fun W H => .nil
      · obtain ⟨f, fd, cd, m1, m2, ⟨oc, kV, dc, pm, ct, od, an, sl, rfl⟩, q⟩ := F_length_for
        refine ⟨f, _, _, m1, m2, q, fun k h1 h2 => ?_⟩
        refine ⟨[], [], Binds.all fun us hl => match us, hl with | [_, _], _ => rfl, .nil, ?_⟩
        have e : k = 2 := by simp at h2; omega
        subst e
        exact fills_of (fn := fd_length_for) rfl (Nat.le_refl _) (Nat.le_refl _) fun W H => .nil
      · obtain ⟨f, fd, cd, m1, m2, ⟨oc, kV, dc, pm, ct, od, an, sl, rfl⟩, q⟩ := F_longest_period
        refine ⟨f, _, _, m1, m2, q, fun k h1 h2 => ?_⟩
        refine ⟨[], [], Binds.all fun us hl => match us, hl with | [_, _, _], _ => rfl, .nil, ?_⟩
        have e : k = 3 := by simp at h2; omega
        subst e
        exact fills_of (fn := fd_longest_period) rfl (Nat.le_refl _) (Nat.le_refl _) fun W H => .nil
      · obtain ⟨f, fd, cd, m1, m2, ⟨oc, kV, dc, pm, ct, od, an, sl, rfl⟩, q⟩ := F__law_l_lowest
        refine ⟨f, _, _, m1, m2, q, fun k h1 h2 => ?_⟩
        refine ⟨[], [], Binds.all fun us hl => match us, hl with | [_, _], _ => rfl, .nil, ?_⟩
        have e : k = 2 := by simp at h2; omega
        subst e
        exact fills_of (fn := fd__law_l_lowest) rfl (Nat.le_refl _) (Nat.le_refl _) fun W H => .nil
      · obtain ⟨f, fd, cd, m1, m2, ⟨oc, kV, dc, pm, ct, od, an, sl, rfl⟩, q⟩ := F__law_l_plus
        refine ⟨f, _, _, m1, m2, q, fun k h1 h2 => ?_⟩
        refine ⟨[], [], Binds.all fun us hl => match us, hl with | [_, _], _ => rfl, .nil, ?_⟩
        have e : k = 2 := by simp at h2; omega
        subst e
        exact fills_of (fn := fd__law_l_plus) rfl (Nat.le_refl _) (Nat.le_refl _) fun W H => .nil
      · obtain ⟨f, fd, cd, m1, m2, ⟨oc, kV, dc, pm, ct, od, an, sl, rfl⟩, q⟩ := F__law_l_times
        refine ⟨f, _, _, m1, m2, q, fun k h1 h2 => ?_⟩
        refine ⟨[], [], Binds.all fun us hl => match us, hl with | [_, _], _ => rfl, .nil, ?_⟩
        have e : k = 2 := by simp at h2; omega
        subst e
        exact fills_of (fn := fd__law_l_times) rfl (Nat.le_refl _) (Nat.le_refl _) fun W H => .nil
      · obtain ⟨f, fd, cd, m1, m2, ⟨oc, kV, dc, pm, ct, od, an, sl, rfl⟩, q⟩ := F__law_l_over
        refine ⟨f, _, _, m1, m2, q, fun k h1 h2 => ?_⟩
        refine ⟨[], [], Binds.all fun us hl => match us, hl with | [_, _], _ => rfl, .nil, ?_⟩
        have e : k = 2 := by simp at h2; omega
        subst e
        exact fills_of (fn := fd__law_l_over) rfl (Nat.le_refl _) (Nat.le_refl _) fun W H => .nil
      · obtain ⟨f, fd, cd, m1, m2, ⟨oc, kV, dc, pm, ct, od, an, sl, rfl⟩, q⟩ := F__law_l_minus
        refine ⟨f, _, _, m1, m2, q, fun k h1 h2 => ?_⟩
        refine ⟨[], [], Binds.all fun us hl => match us, hl with | [_, _], _ => rfl, .nil, ?_⟩
        have e : k = 2 := by simp at h2; omega
        subst e
        exact fills_of (fn := fd__law_l_minus) rfl (Nat.le_refl _) (Nat.le_refl _) fun W H => .nil
      · obtain ⟨f, fd, cd, m1, m2, ⟨oc, kV, dc, pm, ct, od, an, sl, rfl⟩, q⟩ := F__law_l_less
        refine ⟨f, _, _, m1, m2, q, fun k h1 h2 => ?_⟩
        refine ⟨[], [], Binds.all fun us hl => match us, hl with | [_, _], _ => rfl, .nil, ?_⟩
        have e : k = 2 := by simp at h2; omega
        subst e
        exact fills_of (fn := fd__law_l_less) rfl (Nat.le_refl _) (Nat.le_refl _) fun W H => .nil
      · obtain ⟨f, fd, cd, m1, m2, ⟨oc, kV, dc, pm, ct, od, an, sl, rfl⟩, q⟩ := F__law_l_clocks
        refine ⟨f, _, _, m1, m2, q, fun k h1 h2 => ?_⟩
        refine ⟨[], [], Binds.all fun us hl => match us, hl with | [_], _ => rfl, .nil, ?_⟩
        have e : k = 1 := by simp at h2; omega
        subst e
        exact fills_of (fn := fd__law_l_clocks) rfl (Nat.le_refl _) (Nat.le_refl _) fun W H => .nil
      · obtain ⟨f, fd, cd, m1, m2, ⟨oc, kV, dc, pm, ct, od, an, sl, rfl⟩, q⟩ := F__law_l_loose
        refine ⟨f, _, _, m1, m2, q, fun k h1 h2 => ?_⟩
        refine ⟨[], [], Binds.all fun us hl => match us, hl with | [_, _], _ => rfl, .nil, ?_⟩
        have e : k = 2 := by simp at h2; omega
        subst e
        exact fills_of (fn := fd__law_l_loose) rfl (Nat.le_refl _) (Nat.le_refl _) fun W H => .nil
      · obtain ⟨f, fd, cd, m1, m2, ⟨oc, kV, dc, pm, ct, od, an, sl, rfl⟩, q⟩ := F__law_l_until
        refine ⟨f, _, _, m1, m2, q, fun k h1 h2 => ?_⟩
        refine ⟨[], [], Binds.all fun us hl => match us, hl with | [_, _, _], _ => rfl, .nil, ?_⟩
        have e : k = 3 := by simp at h2; omega
        subst e
        exact fills_of (fn := fd__law_l_until) rfl (Nat.le_refl _) (Nat.le_refl _) fun W H => .nil
      · obtain ⟨f, fd, cd, m1, m2, ⟨oc, kV, dc, pm, ct, od, an, sl, rfl⟩, q⟩ := F__law_draw
        refine ⟨f, _, _, m1, m2, q, fun k h1 h2 => ?_⟩
        refine ⟨[], [], Binds.all fun us hl => match us, hl with | [_, _], _ => rfl, .nil, ?_⟩
        have e : k = 2 := by simp at h2; omega
        subst e
        exact ⟨rfl, fun W H => .nil, fun as st _ => by simp⟩
      · obtain ⟨f, fd, cd, m1, m2, ⟨oc, kV, dc, pm, ct, od, an, sl, rfl⟩, q⟩ := F__law_pick
        refine ⟨f, _, _, m1, m2, q, fun k h1 h2 => ?_⟩
        refine ⟨[], [], Binds.all fun us hl => match us, hl with | [_, _], _ => rfl, .nil, ?_⟩
        have e : k = 2 := by simp at h2; omega
        subst e
        exact fills_of (fn := fd__law_pick) rfl (Nat.le_refl _) (Nat.le_refl _) fun W H => .nil
      · obtain ⟨f, fd, cd, m1, m2, ⟨oc, kV, dc, pm, ct, od, an, sl, rfl⟩, q⟩ := F__law_same
        refine ⟨f, _, _, m1, m2, q, fun k h1 h2 => ?_⟩
        refine ⟨[], [], Binds.all fun us hl => match us, hl with | [_, _], _ => rfl, .nil, ?_⟩
        have e : k = 2 := by simp at h2; omega
        subst e
        exact fills_of (fn := fd__law_same) rfl (Nat.le_refl _) (Nat.le_refl _) fun W H => .nil
      · obtain ⟨f, fd, cd, m1, m2, ⟨oc, kV, dc, pm, ct, od, an, sl, rfl⟩, q⟩ := F__law_greater_clocks
        refine ⟨f, _, _, m1, m2, q, fun k h1 h2 => ?_⟩
        refine ⟨[], [], Binds.all fun us hl => match us, hl with | [_, _], _ => rfl, .nil, ?_⟩
        have e : k = 2 := by simp at h2; omega
        subst e
        exact fills_of (fn := fd__law_greater_clocks) rfl (Nat.le_refl _) (Nat.le_refl _) fun W H => .nil
      · obtain ⟨f, fd, cd, m1, m2, ⟨oc, kV, dc, pm, ct, od, an, sl, rfl⟩, q⟩ := F__law_span_right
        refine ⟨f, _, _, m1, m2, q, fun k h1 h2 => ?_⟩
        refine ⟨[], [], Binds.all fun us hl => match us, hl with | [_, _, _], _ => rfl, .nil, ?_⟩
        have e : k = 3 := by simp at h2; omega
        subst e
        exact fills_of (fn := fd__law_span_right) rfl (Nat.le_refl _) (Nat.le_refl _) fun W H => .nil
      · obtain ⟨f, fd, cd, m1, m2, ⟨oc, kV, dc, pm, ct, od, an, sl, rfl⟩, q⟩ := F__law_period_right
        refine ⟨f, _, _, m1, m2, q, fun k h1 h2 => ?_⟩
        refine ⟨[], [], Binds.all fun us hl => match us, hl with | [_, _, _], _ => rfl, .nil, ?_⟩
        have e : k = 3 := by simp at h2; omega
        subst e
        exact fills_of (fn := fd__law_period_right) rfl (Nat.le_refl _) (Nat.le_refl _) fun W H => .nil
      · obtain ⟨f, fd, m1, m2, ⟨oc, kV, dc, pm, ct, od, an, sl, rfl⟩, q⟩ := F__law_refused_right
        refine ⟨f, _, _, m1, m2, q, fun k h1 h2 => ?_⟩
        refine ⟨[], [], Binds.all fun us hl => match us, hl with | [_, _], _ => rfl, .nil, ?_⟩
        have e : k = 2 := by simp at h2; omega
        subst e
        exact fills_of (fn := fd__law_refused_right) rfl (Nat.le_refl _) (Nat.le_refl _) fun W H => .nil
    refine ⟨bts A X g, fun t ht => ?_, fns', fun x ks perm hm i np dd hl => ?_, fun x hl => ?_⟩
    · have hb : tyStr t ∈ btab := by
        cases t <;> first | (decide +kernel) | (cases ht)
      exact bts A X g _ hb
    · simp only [ktab, List.mem_cons, Prod.mk.injEq, List.not_mem_nil, or_false] at hm
    · have m := PySem.mem_of_lookup hl
      simp only [gtab, List.mem_cons, Prod.mk.injEq, reduceCtorEq, and_false, and_true, List.not_mem_nil, or_false, false_or] at m
      rw [m]; exact PySem.W.mg_of X g A.g_gcd
termination_by n => n
decreasing_by omega
end

end EV

end
section
set_option Elab.async false
set_option linter.all false
set_option maxRecDepth 1000000
set_option maxHeartbeats 4000000
/-! the law's own call -/
namespace EV
open PySem PySem.Spec PyProof.Rows L2
open LamX (Tabs TabS CodeO ExtN TabB)
abbrev sStart : Stmt := top 46
abbrev sLaw : Stmt := top 55
theorem scStart : FnScope ["_law_script"] ["_law_script"] (defScope sStart) := ⟨rfl, rfl, rfl, by decide +kernel, rfl, by decide +kernel, by decide +kernel⟩
theorem scLaw : FnScope cc_law.N ["_law_script"] (defScope sLaw) := ⟨rfl, rfl, rfl, by decide +kernel, rfl, by decide +kernel, by decide +kernel⟩
/-- the spring is made -/
def spStart (K : PySem.W.Frag) : Sp := fun vs H Q _ => ∃ (a : Addr) (ns : List Int), vs = [.ref a] ∧ SqL K H a (ns.map V.int) ∧
  ∀ (c p : Addr), H c = none → p ≠ c → H p = none → Q (.ref p) (upd (upd H c (.lst (ns.map V.int))) p (.lst [.ref c, .int 0, .int 0, .int 11]))
section
variable {P : Program} {w : World} {K : PySem.W.Frag} {mg : Str → Option Value} {base : Heap}
theorem start_ok {CX : CXT} {fa : Addr} {params : Arguments} {dV kV doc pm cdv ct oc : Value} {an od : Option Addr} {osl : Array (Option Value)} (lk : K.lookup fa = some ⟨oc, od, .func (PySem.W.fnOf "_law_start" "_law_start" params (defBody sStart) (defScope sStart) dV kV doc pm an cdv ct), osl⟩) (hcd : PySem.W.codeIn K cdv "_law_start" = true)
    (mL : mg "list" = none) : FnOk P w K mg base CX (1 + 1) fa (PySem.W.fnOf "_law_start" "_law_start" params (defBody sStart) (defScope sStart) dV kV doc pm an cdv ct) ["_law_script"] (spStart K) := by
  refine fn_of (k := 1) lk hcd scStart (fun vs H Q E ⟨a, ns, e, _⟩ => by rw [e]; rfl) fun A outer s H vs Q E hr ⟨a, ns, e, hS, q⟩ => ?_
  subst e
  refine ⟨_, pss_one (ps_ret (pe_lst (pa_cons (pe_callTy call_list_of (by rfl) mL PyProof.Rows.Boot.«list» (pa_cons (pv 0) pa_nil)) (pa_cons pe_int (pa_cons pe_int (pa_cons pe_int pa_nil)))))), ?_⟩
  refine ⟨_, rfl, a, _, rfl, .inl hS, fun c hc => ⟨by show 4 ≤ sizeLine; rw [sizeLine_eq]; decide, fun p hp => ?_⟩⟩
  have hpc : p ≠ c := fun z => by rw [z, upd_same] at hp; cases hp
  exact q c p hc hpc (by rw [upd_ne hpc] at hp; exact hp)
theorem bits_lt {z : Int} (h : Builtin.Int.intBits z ≤ 1048576) : z.natAbs < 2 ^ 1048576 := by
  by_cases h0 : z.natAbs = 0
  · rw [h0]; exact Nat.two_pow_pos _
  · refine (Nat.log2_lt h0).mp ?_
    unfold Builtin.Int.intBits at h
    have hz : (z == 0) = false := by
      rw [beq_eq_false_iff_ne]
      intro e
      rw [e] at h0
      exact h0 rfl
    rw [hz] at h
    exact h
end
/-- the frame of the law behind its first statement -/
def env0 : Env := [none, some (.d .strm)] ++ List.replicate 14 none
section
variable {P : Program} {w : World} {K : PySem.W.Frag} {mg : Str → Option Value} {h : Heap} {C0 C1 C2 C3 C4 c_rr P_rr : Addr}
theorem law_run (A : AllF K C0 C1 C2 C3 C4 c_rr P_rr) (X : K.In h) (g : h.Ns mainGlobals mg) {fa a : Addr} (hfa : mg "law" = some (.ref fa)) {s : Shared} {zs : List Int} (hl : zs.length ≤ 63) (hz : ∀ z ∈ zs, Builtin.Int.intBits z ≤ 1048576)
    (plain : good (fun o _ => ∃ st, o = Out.rt (.d (.bl true)) st) (evS ⟨callN fns 3000 20, fun _ => .err, 3000⟩ ir_law env0 []) 1000000) (base : Heap) (H : Hp) (e0 : Env0 P w K mg base callerA [] s H) (Xb : K.In base) (gb : base.Ns mainGlobals mg) (TB : TabB base mg c_rr P_rr)
    (hT : H P_rr = some (.tbl #[])) (hS : SqL K H a (zs.map V.int)) : codeAny (model P w) callerA (.call (.ref fa) ⟨[.ref a], []⟩) (CR (L2.CX P w) [] P w H s (fun v _ => v = .bl true) fun _ _ _ => False) s := by
  obtain ⟨f, cd, D⟩ := A.d_law
  obtain ⟨oc, kV, dc, pm, ct, od, an, sl, lk⟩ := D.lk
  have ef := PySem.W.mg_of X g D.ns
  rw [hfa] at ef
  cases ef
  obtain ⟨fs, cds, Ds⟩ := A.d__law_start
  obtain ⟨ocs, kVs, dcs, pms, cts, ods, ans, sls, lks⟩ := Ds.lk
  have hr : Room (lev 20 + 3 + 1) callerA := ⟨rfl, by decide, by decide⟩
  refine LamX.run_ofS (k := lev 20 + 3) (N := cc_law.N) (ps := ["_law_script"]) (us := [.ref a]) (vs := [.ref a]) lk D.cd scLaw hr e0 (.of_eq rfl) (.cons rfl .nil) rfl fun hr' => ?_
  -- the spring's promise
  have S1 : FnOk P w K mg base L2.CX0 (1 + 1) fs _ ["_law_script"] (spStart K) := start_ok lks Ds.cd (bts A X g "list" (by decide +kernel))
  have key : ∀ (G : Gd), G.T = [(P_rr, ("_law_refused_right" : Str) ++ ".<locals>." ++ "<lambda>")] → PSs (cxOf (L2.CX P w) P w K mg base cc_law.N "law" (defScope sLaw) fa cd callerA [] s H fun _ _ _ => False) (defBody sLaw).tail
      (tS (csK C0 C1 C2 C3 C4) G (fun _ _ _ _ => False) (evS ⟨callN fns 3000 20, fun _ => .err, 3000⟩ ir_law)) := by
    intro G hG
    have gl := glo_ok (P := P) (w := w) (base := base) (G := G) A X g TB hG 20
    have ok : SOk (csK C0 C1 C2 C3 C4) G ⟨callN fns 3000 20, fun _ => .err, 3000⟩ cc_law (cxOf (L2.CX P w) P w K mg base cc_law.N "law" (defScope sLaw) fa cd callerA [] s H fun _ _ _ => False) (fun _ _ _ _ => False) :=
      { N := rfl, nd := scLaw.nd, calm := rfl, sc := rfl, fn := fun x => rfl, tk := takes_of rfl rfl rfl rfl, room := ⟨lev 20, hr'.mono (by omega), gl⟩, rep := fun _ => rfl, met := fun x hs h => (by cases h), hp := passes_of rfl, kind := scLaw.kind,
        errs := fun x c h => by
          obtain ⟨ec, e1, e2, e3⟩ := errs_at (P := P) (w := w) (base := base) A X g x c h
          exact ⟨ec, 1, e1, e2, e3 _ rfl rfl rfl rfl rfl, hr'.mono (by unfold lev; omega)⟩ }
    have p := (soundS ir_law).b ok ck_law pss_nil
    rw [List.append_nil] at p
    exact PSs.imp p fun Dn σ H q => q
  -- what the spring is behind the first statement is not known ahead: the rest's reading is told for each
  have rest : PSs (cxOf (L2.CX P w) P w K mg base cc_law.N "law" (defScope sLaw) fa cd callerA [] s H fun _ _ _ => False) (defBody sLaw).tail
      (fun Dn σ H' => ∃ G : Gd, G.T = [(P_rr, ("_law_refused_right" : Str) ++ ".<locals>." ++ "<lambda>")] ∧ tS (csK C0 C1 C2 C3 C4) G (fun _ _ _ _ => False) (evS ⟨callN fns 3000 20, fun _ => .err, 3000⟩ ir_law) Dn σ H') :=
    ⟨fun pins s' σ H' Dn I ⟨G, hG, q⟩ => (key G hG).run pins s' σ H' Dn I q⟩
  refine ⟨_, pss_cons (ps_set (i := 1) scLaw.nd rfl (by first | exact .inl rfl | exact .inr rfl) (pe_call S1 (hr'.mono (by decide)) rfl (PySem.W.mg_of X g Ds.ns) Ds.kp (Binds.all fun us hl => match us, hl with | [_], _ => rfl) .nil pass0 (pa_cons (pv 0) pa_nil))) rest, ?_⟩
  refine ⟨_, rfl, a, zs, rfl, hS, fun c p hc hpc hp => ?_⟩
  refine ⟨⟨p, c, [(P_rr, ("_law_refused_right" : Str) ++ ".<locals>." ++ "<lambda>")]⟩, rfl, ⟨[], fun _ => False, fun _ => none⟩, env0, [], 1000000, ?_, ?_, good_mono (fun o b q => ?_) plain⟩
  · have hsp : upd (upd H c (.lst (zs.map V.int))) p (.lst [.ref c, .int 0, .int 0, .int 11]) c = some (.lst (zs.map V.int)) := by rw [upd_ne hpc.symm, upd_same]
    refine ⟨rfl, fun i j b q => (by cases q), fun i c' q => (by cases q), fun i q => (by cases q), ⟨zs, 0, 11, 0, upd_same, hsp, hpc, Int.le_refl 0, Nat.two_pow_pos _, fun n hn => bits_lt (hz n hn), hl, by decide, by decide, by decide⟩, ⟨fun ⟨i, q⟩ => (by cases q), fun ⟨i, q⟩ => (by cases q)⟩, fun b q => False.elim q, fun b q => (by obtain ⟨i, q⟩ := q; cases q), fun t ht => ?_⟩
    rw [List.mem_singleton.mp ht]
    exact TabS.nil (by rw [upd_ne (ne_of_none hT hp), upd_ne (ne_of_none hT hc)]; exact hT)
  · refine ⟨rfl, fun i v q => ?_⟩
    match i, q with
    | 1, q => cases q; exact ⟨.ref p, rfl, by unfold VlR VR; rfl⟩
    | 0, q => cases q
    | i + 2, q =>
      have q' : (List.replicate 14 (none : Option Vl))[i]? = some (some v) := q
      rw [List.getElem?_replicate] at q'
      split at q' <;> cases q'
  · obtain ⟨st, rfl⟩ := q
    intro W' H' u x R r
    unfold VlR VR at r
    exact r
end
end EV

end
section
set_option Elab.async false
set_option linter.all false
set_option maxRecDepth 1000000
set_option maxHeartbeats 0
section
namespace EV
section
variable {F : Cfg} {e : Env} {st : Store} {s : Store}
@[simp] theorem R_bind_ok {α β : Type} (a : α) (f : α → R β) : (R.ok a).bind f = f a := rfl
@[simp] theorem R_bind_err {α β : Type} (f : α → R β) : (R.err : R α).bind f = .err := rfl
@[simp] theorem R_bind_draw {α β : Type} (m : Nat) (k : Nat → R α) (f : α → R β) : (R.draw m k).bind f = .draw m fun d => (k d).bind f := rfl
@[simp] theorem R_bind_ret {α β : Type} (a : α) (s : Store) (f : EO α → R β) : (ret a s).bind f = f (.v a s) := rfl
@[simp] theorem bnd_ret {α β : Type} (a : α) (f : α → Store → E β) : bnd (ret a s) f = f a s := rfl
@[simp] theorem bnd_err {α β : Type} (f : α → Store → E β) : bnd (R.err) f = .err := rfl
@[simp] theorem bnd_x {α β : Type} (c : Nat) (fs : List D) (f : α → Store → E β) : bnd (.ok (.x c fs s)) f = .ok (.x c fs s) := rfl
@[simp] theorem bnd_draw {α β : Type} (m : Nat) (k : Nat → E α) (f : α → Store → E β) : bnd (R.draw m k) f = .draw m fun d => bnd (k d) f := rfl
@[simp] theorem sBnd_ret {α : Type} (a : α) (f : α → Store → R Out) : sBnd (ret a s) e f = f a s := rfl
@[simp] theorem sBnd_err {α : Type} (f : α → Store → R Out) : sBnd (R.err) e f = .err := rfl
@[simp] theorem sBnd_x {α : Type} (c : Nat) (fs : List D) (f : α → Store → R Out) : sBnd (.ok (.x c fs s)) e f = .ok (.x c fs e s) := rfl
@[simp] theorem sBnd_draw {α : Type} (m : Nat) (k : Nat → E α) (f : α → Store → R Out) : sBnd (R.draw m k) e f = .draw m fun d => sBnd (k d) e f := rfl
@[simp] theorem lift_some {α : Type} (a : α) : lift (some a) s = ret a s := rfl
@[simp] theorem lift_none {α : Type} : lift (none : Option α) s = .err := rfl
theorem lift_map {α : Type} {o : Option D} {a : α} : True := trivial
@[simp] theorem rdV_d (x : D) : rdV (.d x) = .d x := rfl
@[simp] theorem rdV_ref (x : Nat) : rdV (.ref x) = .ref x := rfl
@[simp] theorem rdV_h (x : D) : rdV (.h x) = .d x := rfl
@[simp] theorem rdV_hr (i : Nat) (x : D) : rdV (.hr i x) = .d x := rfl
@[simp] theorem envGet_0 (v : Option Vl) (e : Env) : envGet (v :: e) 0 = v.map rdV := by cases v <;> rfl
@[simp] theorem envGet_s (v : Option Vl) (e : Env) (i : Nat) : envGet (v :: e) (i + 1) = envGet e i := rfl
@[simp] theorem ev_c (d : D) : evE F (.c d) e st = ret (.d d) st := rfl
@[simp] theorem ev_v (i : Nat) : evE F (.v i) e st = lift (envGet e i) st := rfl
@[simp] theorem ev_nope : evE F .nope e st = .err := rfl
@[simp] theorem ev_met (hs : List (Nat × List Nat × List Nat)) (f : Nat) (b : Ex) : evE F (.met hs f b) e st = R.bind (evE F b e st) (metE hs) := rfl
/-- two data -/
def two (f : D → D → Option Vl) (x y : Vl) (st : Store) : E Vl := match snap st x, snap st y with
  | some x, some y => lift (f x y) st
  | _, _ => .err
@[simp] theorem two_d (f : D → D → Option Vl) (x y : D) : two f (.d x) (.d y) st = lift (f x y) st := rfl
@[simp] theorem ev_bin (o : BOp) (a b : Ex) : evE F (.bin o a b) e st = bnd (evE F a e st) fun x st => bnd (evE F b e st) fun y st => two (fun x y => (binD o x y).map .d) x y st := rfl
@[simp] theorem ev_cmp (o : COp) (a b : Ex) : evE F (.cmp o a b) e st = bnd (evE F a e st) fun x st => bnd (evE F b e st) fun y st => two (fun x y => (cmpD o x y).map fun t => .d (.bl t)) x y st := rfl
def neg1 (x : Vl) (st : Store) : E Vl := match x with
      | .d (.int i) => ret (.d (.int (-i))) st
      | _ => .err
@[simp] theorem neg1_i (i : Int) : neg1 (.d (.int i)) st = ret (.d (.int (-i))) st := rfl
@[simp] theorem ev_neg (a : Ex) : evE F (.neg a) e st = bnd (evE F a e st) fun x st => neg1 x st := rfl
/-- by truth -/
def byT {α : Type} (x : Vl) (a b : R α) : R α := match truth x with
  | some true => a
  | some false => b
  | none => .err
@[simp] theorem byT_bl {α : Type} (t : Bool) (a b : R α) : byT (.d (.bl t)) a b = if t then a else b := by cases t <;> rfl
@[simp] theorem ev_and (a b : Ex) : evE F (.bo true a b) e st = bnd (evE F a e st) fun x st => byT x (evE F b e st) (ret x st) := by
  show bnd _ _ = bnd _ _
  congr 1; funext x st; unfold byT; cases truth x with
  | none => rfl
  | some t => cases t <;> rfl
@[simp] theorem ev_or (a b : Ex) : evE F (.bo false a b) e st = bnd (evE F a e st) fun x st => byT x (ret x st) (evE F b e st) := by
  show bnd _ _ = bnd _ _
  congr 1; funext x st; unfold byT; cases truth x with
  | none => rfl
  | some t => cases t <;> rfl
def not1 (x : Vl) (st : Store) : E Vl := lift ((truth x).map fun t => .d (.bl (!t))) st
@[simp] theorem not1_bl (t : Bool) : not1 (.d (.bl t)) st = ret (.d (.bl (!t))) st := rfl
@[simp] theorem ev_not (a : Ex) : evE F (.not a) e st = bnd (evE F a e st) fun x st => not1 x st := rfl
def cmp2f (o p : COp) (c : Store → E Vl) (x y : Vl) (st : Store) : E Vl := match snap st x, snap st y with
      | some x, some y' => match cmpD o x y' with
        | some true => bnd (c st) fun z st => match snap st y, snap st z with
          | some y, some z => lift ((cmpD p y z).map fun t => .d (.bl t)) st
          | _, _ => .err
        | some false => ret (.d (.bl false)) st
        | none => .err
      | _, _ => .err
@[simp] theorem ev_cmp2 (o p : COp) (a b c : Ex) : evE F (.cmp2 o p a b c) e st = bnd (evE F a e st) fun x st => bnd (evE F b e st) fun y st => cmp2f o p (fun st => evE F c e st) x y st := rfl
@[simp] theorem ev_ite (t a b : Ex) : evE F (.ite t a b) e st = bnd (evE F t e st) fun x st => byT x (evE F a e st) (evE F b e st) := rfl
def tupf (vs : Vl) (st : Store) : E Vl := match vs with
      | .its vs => lift ((dats vs).bind fun l => if l.length ≤ 1000000 then some (.d (.tup l)) else none) st
      | _ => .err
@[simp] theorem ev_tup (es : Ex) : evE F (.tup es) e st = bnd (evE F es e st) tupf := rfl
def lstf (vs : Vl) (st : Store) : E Vl := match vs with
      | .its vs => lift ((dats vs).bind fun l => if l.length ≤ 1000000 then some (.d (.lst l)) else none) st
      | _ => .err
def lstmf (vs : Vl) (st : Store) : E Vl := match vs with
      | .its vs => if vs.length ≤ 1000000 then ret (.ref st.length) (st ++ [some (.lst vs)]) else .err
      | _ => .err
@[simp] theorem ev_lstf (es : Ex) : evE F (.lst false es) e st = bnd (evE F es e st) lstf := rfl
@[simp] theorem ev_lstt (es : Ex) : evE F (.lst true es) e st = bnd (evE F es e st) lstmf := rfl
@[simp] theorem ev_dctt : evE F (.dct true) e st = ret (.ref st.length) (st ++ [some (.dct [] [])]) := rfl
@[simp] theorem ev_dctf : evE F (.dct false) e st = ret (.d (.dct [] [])) st := rfl
def ixf (x y : Vl) (st : Store) : E Vl := match y with
      | .d y => lift (ixD st x y) st
      | _ => .err
@[simp] theorem ixf_d (x : Vl) (y : D) : ixf x (.d y) st = lift (ixD st x y) st := rfl
@[simp] theorem ev_ix (a b : Ex) : evE F (.ix a b) e st = bnd (evE F a e st) fun x st => bnd (evE F b e st) fun y st => ixf x y st := rfl
def slf (x l : Vl) (hi : Store → E Vl) (st : Store) : E Vl := match partOf l with
      | none => .err
      | some l => bnd (hi st) fun h st => match snap st x, partOf h with
        | some x, some h => lift ((slD x l h).map .d) st
        | _, _ => .err
@[simp] theorem ev_sl (a lo hi : Ex) : evE F (.sl a lo hi) e st = bnd (evE F a e st) fun x st => bnd (evE F lo e st) fun l st => slf x l (fun st => evE F hi e st) st := rfl
def revf (x : Vl) (st : Store) : E Vl := match snap st x with
      | some (.lst xs) => ret (.d (.lst xs.reverse)) st
      | _ => .err
@[simp] theorem revf_d (xs : List D) : revf (.d (.lst xs)) st = ret (.d (.lst xs.reverse)) st := rfl
@[simp] theorem ev_rev (a : Ex) : evE F (.rev a) e st = bnd (evE F a e st) revf := rfl
def isif (ts : List Ty) (x : Vl) (st : Store) : E Vl := match snap st x with
      | some x => if isStrm x then .err else ret (.d (.bl (ts.any (isTy x)))) st
      | none => .err
@[simp] theorem isif_d (ts : List Ty) (x : D) : isif ts (.d x) st = if isStrm x then .err else ret (.d (.bl (ts.any (isTy x)))) st := rfl
@[simp] theorem ev_isi (a : Ex) (ts : List Ty) : evE F (.isi a ts) e st = bnd (evE F a e st) (isif ts) := rfl
def calf (F : Cfg) (m : Md) (f n : Nat) (vs : Vl) (st : Store) : E Vl := match vs with
      | .its vs => if vs.length = n then callE F m f vs st else .err
      | _ => .err
@[simp] theorem calf_its (m : Md) (f n : Nat) (vs : List Vl) : calf F m f n (.its vs) st = if vs.length = n then callE F m f vs st else .err := rfl
@[simp] theorem ev_call (m : Md) (f : Nat) (es : Ex) : evE F (.call m f es) e st = bnd (evE F es e st) (calf F m f (exLen es)) := rfl
def calkf (F : Cfg) (m : Md) (f : Nat) (perm : List Nat) (n : Nat) (vs : Vl) (st : Store) : E Vl := match vs with
      | .its vs => if vs.length = n then match perm.mapM fun j => vs[j]? with
          | some us => callE F m f us st
          | none => .err
        else .err
      | _ => .err
@[simp] theorem ev_callk (m : Md) (f : Nat) (perm : List Nat) (es : Ex) : evE F (.callk m f perm es) e st = bnd (evE F es e st) (calkf F m f perm (exLen es)) := rfl
def biq (b : Bi) (vs : Vl) (st : Store) : E Vl := match vs with
      | .its vs => biE b vs st
      | _ => .err
@[simp] theorem biq_its (b : Bi) (vs : List Vl) : biq b (.its vs) st = biE b vs st := rfl
@[simp] theorem ev_bi (b : Bi) (es : Ex) : evE F (.bi b es) e st = bnd (evE F es e st) (biq b) := rfl
def wkf (b : Bi) (vs : Vl) (st : Store) : E Vl := match vs with
      | .its vs => wkE b vs st
      | _ => .err
@[simp] theorem wkf_its (b : Bi) (vs : List Vl) : wkf b (.its vs) st = wkE b vs st := rfl
@[simp] theorem ev_wk (b : Bi) (es : Ex) : evE F (.wk b es) e st = bnd (evE F es e st) (wkf b) := rfl
def mtf (m : Mt) (x : Vl) (es : Store → E Vl) (st : Store) : E Vl := if isLstV st x then bnd (es st) fun vs st => match vs with
      | .its vs => mtE m x vs st
      | _ => .err
    else .err
@[simp] theorem ev_mt (m : Mt) (o es : Ex) : evE F (.mt m o es) e st = bnd (evE F o e st) fun x st => mtf m x (fun st => evE F es e st) st := rfl
/-- a comprehension's step -/
def lcStep (F : Cfg) (own : List Nat) (tg : Tg) (cond x : Ex) (e : Env) (v : Vl) (st : Store) : E (Option Vl) := match setTg tg v (wipeE e own) with
          | some e' => bnd (evE F cond e' st) fun t st => byT t (bnd (evE F x e' st) fun y st => ret (some y) st) (ret none st)
          | none => .err
def lcEnd (m : Bool) (ys : List Vl) (st : Store) : E Vl := if m then ret (.ref st.length) (st ++ [some (.lst ys)]) else lift ((dats ys).map fun l => .d (.lst l)) st
def lcRun (F : Cfg) (m : Bool) (own : List Nat) (tg : Tg) (cond x : Ex) (e : Env) (w : Vl) (st : Store) : E Vl := match itsOf w with
      | none => .err
      | some vs => bnd (compL (lcStep F own tg cond x e) vs [] st) (lcEnd m)
theorem ev_lc (m : Bool) (own : List Nat) (tg : Tg) (it cond x : Ex) : evE F (.lc m own tg it cond x) e st = bnd (evE F it e st) (lcRun F m own tg cond x e) := rfl
def frzf (x : Vl) (st : Store) : E Vl := match frzV st x with
      | some (x, st) => ret (.d x) st
      | none => .err
@[simp] theorem ev_frz (a : Ex) : evE F (.frz a) e st = bnd (evE F a e st) frzf := rfl
def lrgf (m : Bool) (x : Vl) (st : Store) : E Vl := match x with
      | .d (.int i) => if -1000000 < i ∧ i < 1000000 then (if m then ret (.ref st.length) (st ++ [some (.lst (((List.range i.toNat).map fun k => D.int (k : Nat)).map .d))]) else ret (.d (.lst ((List.range i.toNat).map fun k => D.int (k : Nat)))) st) else .err
      | _ => .err
@[simp] theorem ev_lrg (m : Bool) (a : Ex) : evE F (.lrg m a) e st = bnd (evE F a e st) (lrgf m) := rfl
@[simp] theorem ev_nil : evE F .nil e st = ret (.its []) st := rfl
def consf (x y : Vl) (st : Store) : E Vl := match y with
      | .its ys => ret (.its (x :: ys)) st
      | _ => .err
@[simp] theorem consf_its (x : Vl) (ys : List Vl) : consf x (.its ys) st = ret (.its (x :: ys)) st := rfl
@[simp] theorem ev_cons (a b : Ex) : evE F (.cons a b) e st = bnd (evE F a e st) fun x st => bnd (evE F b e st) fun y st => consf x y st := rfl
/-! statements -/
def thn (F : Cfg) (b : St) : Out → R Out
    | .nx e st => evS F b e st
    | o => .ok o
@[simp] theorem thn_nx (b : St) : thn F b (.nx e st) = evS F b e st := rfl
@[simp] theorem thn_rt (b : St) (v : Vl) : thn F b (.rt v st) = .ok (.rt v st) := rfl
@[simp] theorem thn_x (b : St) (c : Nat) (fs : List D) : thn F b (.x c fs e st) = .ok (.x c fs e st) := rfl
@[simp] theorem thn_bk (b : St) : thn F b (.bk e st) = .ok (.bk e st) := rfl
@[simp] theorem thn_ct (b : St) : thn F b (.ct e st) = .ok (.ct e st) := rfl
@[simp] theorem es_skip : evS F .skip e st = .ok (.nx e st) := rfl
@[simp] theorem es_seq (a b : St) : evS F (.seq a b) e st = R.bind (evS F a e st) (thn F b) := rfl
@[simp] theorem es_ex (x : Ex) : evS F (.ex x) e st = sBnd (evE F x e st) e fun _ st => .ok (.nx e st) := rfl
@[simp] theorem es_ret (x : Ex) : evS F (.ret x) e st = sBnd (evE F x e st) e fun v st => .ok (.rt v st) := rfl
def setf (t : Tg) (e : Env) (v : Vl) (st : Store) : R Out := match setTg t v e with
    | some e => .ok (.nx e st)
    | none => .err
@[simp] theorem es_set (t : Tg) (x : Ex) : evS F (.set t x) e st = sBnd (evE F x e st) e (setf t e) := rfl
@[simp] theorem setf_nm (i : Nat) (v : Vl) : setf (.nm i) e v st = .ok (.nx (e.set i (some v)) st) := rfl
def parf (is : List Nat) (e : Env) (v : Vl) (st : Store) : R Out := match v with
    | .its vs => match setPar is vs e with
      | some e => .ok (.nx e st)
      | none => .err
    | _ => .err
@[simp] theorem es_par (is : List Nat) (x : Ex) : evS F (.par is x) e st = sBnd (evE F x e st) e (parf is e) := rfl
def setixf (e : Env) (o i v : Vl) (st : Store) : R Out := match setIx st o i v with
    | some st => .ok (.nx e st)
    | none => .err
@[simp] theorem es_setix (o i x : Ex) : evS F (.setix o i x) e st = sBnd (evE F x e st) e fun v st => sBnd (evE F o e st) e fun o st => sBnd (evE F i e st) e fun i st => setixf e o i v st := rfl
@[simp] theorem es_iff (t : Ex) (a b : St) : evS F (.iff t a b) e st = sBnd (evE F t e st) e fun v st => byT v (evS F a e st) (evS F b e st) := rfl
def forR (F : Cfg) (t : Tg) (b : St) (e : Env) (w : Vl) (st : Store) : R Out := match itsOf w with
    | some vs => forL t (evS F b) vs e st
    | none => .err
@[simp] theorem es_for (t : Tg) (it : Ex) (b : St) : evS F (.for t it b) e st = sBnd (evE F it e st) e (forR F t b e) := rfl
def raisef (c n : Nat) (e : Env) (v : Vl) (st : Store) : R Out := match v with
    | .its vs => match dats vs with
      | some fs => if fs.length = n then .ok (.x c fs e st) else .err
      | none => .err
    | _ => .err
@[simp] theorem es_raise (c : Nat) (es : Ex) : evS F (.raise c es) e st = sBnd (evE F es e st) e (raisef c (exLen es) e) := rfl
@[simp] theorem es_bor (n : Nat) (b : St) : evS F (.bor n b) e st = R.bind (evS F b (e.map (borE st)) (st.map fun _ => none)) (borO st) := rfl
end
/-! ### loops without stores -/
theorem compL_pure {f : Vl → Store → E (Option Vl)} {s : Store} (h : Vl → Option Vl) : ∀ (xs acc : List Vl), (∀ x ∈ xs, f x s = ret (h x) s) → acc.length + xs.length ≤ 1000000 → compL f xs acc s = ret (acc ++ xs.filterMap h) s
  | [], acc, _, _ => by simp [compL]
  | x :: xs, acc, hf, hl => by
    have h1 := hf x List.mem_cons_self
    have h2 := fun a => compL_pure h xs a fun y hy => hf y (List.mem_cons_of_mem _ hy)
    simp only [List.length_cons] at hl
    unfold compL
    rw [h1]
    cases e : h x with
    | none => simp only [R_bind_ret]; rw [h2 acc (by omega), List.filterMap_cons, e]
    | some v =>
      simp only [R_bind_ret]
      rw [if_pos (by omega), h2 _ (by simp; omega), List.filterMap_cons, e]
      simp
/-! ### calls; generic in the defs -/
abbrev FF (fns : List FnK) (T n : Nat) : Cfg := ⟨callN fns T n, fun _ => .err, T⟩
def finF (st : Store) : Out → E Vl
  | .rt v s => lift ((snap s v).map .d) st
  | .nx _ _ => ret (.d .non) st
  | .x c fs _ _ => .ok (.x c fs st)
  | _ => .err
@[simp] theorem finF_d {st s : Store} (x : D) : finF st (.rt (.d x) s) = ret (.d x) st := rfl
@[simp] theorem finF_x {st s : Store} (c : Nat) (fs : List D) (e : Env) : finF st (.x c fs e s) = .ok (.x c fs st) := rfl
theorem bind_bind {α β γ : Type} (r : R α) (f : α → R β) (g : β → R γ) : (r.bind f).bind g = r.bind fun a => (f a).bind g := by
  induction r with
  | ok a => rfl
  | err => rfl
  | draw m k ih => simp only [R.bind]; congr 1; funext d; exact ih d
theorem dats_map : ∀ ds : List D, dats (ds.map .d) = some ds
  | [] => rfl
  | d :: ds => by simp [dats, dats_map ds]
section
variable {fns : List FnK} {T : Nat}
theorem callE_frz {fn : Fn} {f n : Nat} {st : Store} (ds : List D) (hf : fns[f]? = some (.plain fn)) (hl : ds.length = fn.ps) :
    callE (FF fns T (n + 1)) .frz f (ds.map .d) st = R.bind (evS (FF fns T n) fn.body (ds.map (fun d => some (Vl.d d)) ++ List.replicate (fn.slots - fn.ps) none) []) (finF st) := by
  have hfill : fill fn (ds.map Vl.d) = ds.map Vl.d := by
    unfold fill
    rw [List.length_map, hl, Nat.add_sub_cancel, List.drop_length]
    simp
  unfold callE
  simp only [dats_map, callN, hf, runFn, hfill, List.length_map, hl, if_true, List.map_map, bind_bind]
  congr 1
  funext o
  cases o <;> rfl
theorem call1 {fn : Fn} {f n : Nat} {st : Store} {a : D} (hf : fns[f]? = some (.plain fn)) (hl : 1 = fn.ps) :
    callE (FF fns T (n + 1)) .frz f [.d a] st = R.bind (evS (FF fns T n) fn.body ([some (.d a)] ++ List.replicate (fn.slots - fn.ps) none) []) (finF st) := callE_frz [a] hf hl
theorem call2 {fn : Fn} {f n : Nat} {st : Store} {a b : D} (hf : fns[f]? = some (.plain fn)) (hl : 2 = fn.ps) :
    callE (FF fns T (n + 1)) .frz f [.d a, .d b] st = R.bind (evS (FF fns T n) fn.body ([some (.d a), some (.d b)] ++ List.replicate (fn.slots - fn.ps) none) []) (finF st) := callE_frz [a, b] hf hl
theorem call3 {fn : Fn} {f n : Nat} {st : Store} {a b c : D} (hf : fns[f]? = some (.plain fn)) (hl : 3 = fn.ps) :
    callE (FF fns T (n + 1)) .frz f [.d a, .d b, .d c] st = R.bind (evS (FF fns T n) fn.body ([some (.d a), some (.d b), some (.d c)] ++ List.replicate (fn.slots - fn.ps) none) []) (finF st) := callE_frz [a, b, c] hf hl
theorem call4 {fn : Fn} {f n : Nat} {st : Store} {a b c d : D} (hf : fns[f]? = some (.plain fn)) (hl : 4 = fn.ps) :
    callE (FF fns T (n + 1)) .frz f [.d a, .d b, .d c, .d d] st = R.bind (evS (FF fns T n) fn.body ([some (.d a), some (.d b), some (.d c), some (.d d)] ++ List.replicate (fn.slots - fn.ps) none) []) (finF st) := callE_frz [a, b, c, d] hf hl
theorem call5 {fn : Fn} {f n : Nat} {st : Store} {a b c d e : D} (hf : fns[f]? = some (.plain fn)) (hl : 5 = fn.ps) :
    callE (FF fns T (n + 1)) .frz f [.d a, .d b, .d c, .d d, .d e] st = R.bind (evS (FF fns T n) fn.body ([some (.d a), some (.d b), some (.d c), some (.d d), some (.d e)] ++ List.replicate (fn.slots - fn.ps) none) []) (finF st) := callE_frz [a, b, c, d, e] hf hl
end
def noStrm (d : D) : Prop := isStrm d = false
def isInt : D → Bool
  | .int _ => true
  | _ => false
def isNum : D → Bool
  | .int i => decide (0 ≤ i)
  | _ => false
theorem isTy_list (d : D) : (isTy d .list || isTy d .tuple) = isSeq d := by cases d <;> rfl
theorem isTy_int (d : D) : (isTy d .int && !isTy d .bool) = isInt d := by cases d <;> rfl
@[simp] theorem if_false_err {α : Type} {c : Bool} {a b : α} (h : c = false) : (if c = true then a else b) = b := by rw [h]; rfl
theorem pred {n : Nat} (h : 1 ≤ n) : ∃ m, n = m + 1 := ⟨n - 1, by omega⟩
def itemsD : D → List D
  | .lst l => l
  | .tup l => l
  | _ => []
def enumK : Nat → List D → List Vl
  | _, [] => []
  | k, d :: ds => .d (.tup [.int (k : Int), d]) :: enumK (k + 1) ds
theorem enum_eq (ds : List D) : enum ds = enumK 0 ds := by
  unfold enum
  have key : ∀ (ds : List D) (k : Nat), List.zipWith (fun (i : Nat) x => Vl.d (.tup [.int (i : Int), x])) (List.range' k ds.length) ds = enumK k ds := by
    intro ds
    induction ds with
    | nil => intro k; rfl
    | cons d ds ih => intro k; simp only [List.length_cons, List.range'_succ, List.zipWith_cons_cons, enumK, ih (k + 1)]
  rw [List.range_eq_range', key]
theorem cmp_ge0 (i : Int) : cmpD .ge (.int i) (.int 0) = some (decide (0 ≤ i)) := rfl
@[simp] theorem snap_d {st : Store} {x : D} : snap st (.d x) = some x := rfl
def mtk (m : Mt) (x : Vl) (vs : Vl) (st : Store) : E Vl := match vs with
      | .its vs => mtE m x vs st
      | _ => .err
@[simp] theorem mtk_its (m : Mt) (x : Vl) (vs : List Vl) (st : Store) : mtk m x (.its vs) st = mtE m x vs st := rfl
theorem mtf_lst {m : Mt} {x : Vl} {es : Store → E Vl} {st : Store} (h : isLstV st x = true) : mtf m x es st = bnd (es st) (mtk m x) := if_pos h
@[simp] theorem two_dr (f : D → D → Option Vl) (x : D) (i : Nat) (st : Store) : two f (.d x) (.ref i) st = match snap st (.ref i) with
  | some y => lift (f x y) st
  | none => .err := by
  show (match snap st (.d x), snap st (.ref i) with | some x, some y => _ | _, _ => _) = _
  cases snap st (.ref i) <;> rfl
@[simp] theorem two_rd (f : D → D → Option Vl) (x : D) (i : Nat) (st : Store) : two f (.ref i) (.d x) st = match snap st (.ref i) with
  | some y => lift (f y x) st
  | none => .err := by
  show (match snap st (.ref i), snap st (.d x) with | some x, some y => _ | _, _ => _) = _
  cases snap st (.ref i) <;> rfl
theorem forL_nil {t : Tg} {b : Env → Store → R Out} {e : Env} {st : Store} : forL t b [] e st = .ok (.nx e st) := rfl
def forK (t : Tg) (b : Env → Store → R Out) (xs : List Vl) : Out → R Out
      | .nx e st => forL t b xs e st
      | .ct e st => forL t b xs e st
      | .bk e st => .ok (.nx e st)
      | o => .ok o
@[simp] theorem forK_nx {t : Tg} {b : Env → Store → R Out} {e : Env} {st : Store} {xs : List Vl} : forK t b xs (.nx e st) = forL t b xs e st := rfl
@[simp] theorem forK_rt {t : Tg} {b : Env → Store → R Out} {st : Store} {xs : List Vl} {v : Vl} : forK t b xs (.rt v st) = .ok (.rt v st) := rfl
@[simp] theorem forK_x {t : Tg} {b : Env → Store → R Out} {e : Env} {st : Store} {xs : List Vl} {c : Nat} {fs : List D} : forK t b xs (.x c fs e st) = .ok (.x c fs e st) := rfl
theorem forL_cons {t : Tg} {b : Env → Store → R Out} {e e' : Env} {st : Store} {x : Vl} {xs : List Vl} (h : setTg t x e = some e') : forL t b (x :: xs) e st = R.bind (b e' st) (forK t b xs) := by
  show (match setTg t x e with | none => _ | some e => _) = _
  rw [h]; rfl
theorem intsOf_I (l : List Int) : intsOf (l.map .int) = some l := by
  induction l with
  | nil => rfl
  | cons a l ih => simp [intsOf, ih]
def rng (lo hi : Int) : List Int := (List.range (hi - lo).toNat).map fun (k : Nat) => lo + (k : Int)
theorem range_rng (lo hi : Int) : range lo hi = ((rng lo hi).map D.int).map .d := by
  unfold range rng
  rw [List.map_map, List.map_map]
  rfl
theorem mem_rng {lo hi x : Int} : x ∈ rng lo hi ↔ lo ≤ x ∧ x < hi := by
  unfold rng
  rw [List.mem_map]
  constructor
  · rintro ⟨k, hk, rfl⟩
    rw [List.mem_range] at hk
    omega
  · rintro ⟨h1, h2⟩
    exact ⟨(x - lo).toNat, by rw [List.mem_range]; omega, by omega⟩
theorem len_rng (lo hi : Int) : (rng lo hi).length = (hi - lo).toNat := by simp [rng]
theorem allB_map (bs : List Bool) : allB (bs.map fun b => Vl.d (.bl b)) = some (bs.all id) := by
  induction bs with
  | nil => rfl
  | cons b bs ih => simp [allB, ih]
theorem anyB_map (bs : List Bool) : anyB (bs.map fun b => Vl.d (.bl b)) = some (bs.any id) := by
  induction bs with
  | nil => rfl
  | cons b bs ih => simp [anyB, ih]
theorem bi_all {st : Store} (bs : List Bool) : biE .all [.d (.lst (bs.map .bl))] st = ret (.d (.bl (bs.all id))) st := by
  show lift (((some ((bs.map D.bl).map Vl.d)).bind allB).map _) st = _
  rw [List.map_map, Option.bind_some]
  have := allB_map bs
  rw [show (List.map (Vl.d ∘ D.bl) bs) = bs.map fun b => Vl.d (.bl b) from rfl, this]
  rfl
theorem bi_any {st : Store} (bs : List Bool) : biE .any [.d (.lst (bs.map .bl))] st = ret (.d (.bl (bs.any id))) st := by
  show lift (((some ((bs.map D.bl).map Vl.d)).bind anyB).map _) st = _
  rw [List.map_map, Option.bind_some]
  have := anyB_map bs
  rw [show (List.map (Vl.d ∘ D.bl) bs) = bs.map fun b => Vl.d (.bl b) from rfl, this]
  rfl
theorem lc_map {F : Cfg} {own : List Nat} {tg : Tg} {it x : Ex} {e : Env} {st : Store} {α : Type} (xs : List α) (v : α → Vl) (g : α → D) {w : Vl} (hit : evE F it e st = ret w st) (hw : itsOf w = some (xs.map v))
    (hx : ∀ a ∈ xs, ∃ e', setTg tg (v a) (wipeE e own) = some e' ∧ evE F x e' st = ret (.d (g a)) st) (hl : xs.length ≤ 1000000) :
    evE F (.lc false own tg it (.c (.bl true)) x) e st = ret (.d (.lst (xs.map g))) st := by
  rw [ev_lc, hit, bnd_ret]
  unfold lcRun
  rw [hw]
  dsimp only
  have key : ∀ (ys : List α) (acc : List Vl), (∀ a ∈ ys, a ∈ xs) → acc.length + ys.length ≤ 1000000 → compL (lcStep F own tg (.c (.bl true)) x e) (ys.map v) acc st = ret (acc ++ ys.map fun a => Vl.d (g a)) st := by
    intro ys
    induction ys with
    | nil => intro acc _ _; simp [compL]
    | cons a ys ih =>
      intro acc hm hl
      simp only [List.length_cons] at hl
      obtain ⟨e', h1, h2⟩ := hx a (hm a List.mem_cons_self)
      rw [List.map_cons]
      unfold compL
      have hs : lcStep F own tg (.c (.bl true)) x e (v a) st = ret (some (.d (g a))) st := by
        unfold lcStep
        rw [h1]
        simp [h2]
      rw [hs, R_bind_ret]
      dsimp only
      rw [if_pos (by omega), ih _ (fun b hb => hm b (List.mem_cons_of_mem _ hb)) (by simp; omega)]
      simp
  rw [key xs [] (fun a h => h) (by simpa using hl)]
  rw [bnd_ret]
  unfold lcEnd
  have hd : dats ([] ++ xs.map fun a => Vl.d (g a)) = some (xs.map g) := by
    rw [List.nil_append, show (xs.map fun a => Vl.d (g a)) = (xs.map g).map Vl.d by simp, dats_map]
  rw [hd]
  rfl
theorem its_seq {d : D} (h : isSeq d = true) : itsOf (.d d) = some ((itemsD d).map .d) := by
  cases d <;> first | rfl | cases h
theorem len_seq {d : D} {st : Store} (h : isSeq d = true) : biE .len [.d d] st = ret (.d (.int ((itemsD d).length : Int))) st := by
  have hh : lenOf st (.d d) = some (itemsD d).length := by
    cases d <;> first
      | (simp [lenOf, itemsOf, itemsD]; done)
      | cases h
  show lift ((lenOf st (.d d)).map _) st = _
  rw [hh]; rfl
theorem eq_int (i j : Int) : cmpD .eq (.int i) (.int j) = some (decide (i = j)) := by
  have h : cmpD .eq (.int i) (.int j) = some (i == j) := rfl
  rw [h]; rfl
theorem ne_int (i j : Int) : cmpD .ne (.int i) (.int j) = some (!decide (i = j)) := by
  have h : cmpD .ne (.int i) (.int j) = some (!(i == j)) := rfl
  rw [h]; rfl
theorem dec2 (k : Nat) : decide ((k : Int) = 2) = decide (k = 2) := by
  by_cases h : k = 2
  · subst h; rfl
  · have : ¬ (k : Int) = 2 := by omega
    rw [decide_eq_false h, decide_eq_false this]
theorem map_bl {α : Type} (xs : List α) (f : α → Bool) : xs.map (fun x => D.bl (f x)) = (xs.map f).map D.bl := by simp
theorem all_id {α : Type} (xs : List α) (f : α → Bool) : (xs.map f).all id = xs.all f := by
  rw [List.all_map]; rfl
theorem any_id {α : Type} (xs : List α) (f : α → Bool) : (xs.map f).any id = xs.any f := by
  rw [List.any_map]; rfl
theorem all_lc {st : Store} {α : Type} (xs : List α) (f : α → Bool) : biE .all [.d (.lst (xs.map fun x => .bl (f x)))] st = ret (.d (.bl (xs.all f))) st := by
  rw [map_bl, bi_all, all_id]
theorem any_lc {st : Store} {α : Type} (xs : List α) (f : α → Bool) : biE .any [.d (.lst (xs.map fun x => .bl (f x)))] st = ret (.d (.bl (xs.any f))) st := by
  rw [map_bl, bi_any, any_id]
theorem all_lc2 {st : Store} {α β : Type} (xs : List α) (inn : α → List β) (f : α → β → Bool) : biE .all [.d (.lst (xs.flatMap fun a => (inn a).map fun b => .bl (f a b)))] st = ret (.d (.bl (xs.all fun a => (inn a).all (f a)))) st := by
  rw [show (xs.flatMap fun a => (inn a).map fun b => D.bl (f a b)) = (xs.flatMap fun a => (inn a).map (f a)).map D.bl by simp [List.map_flatMap]; rfl, bi_all]
  congr 3
  induction xs with
  | nil => rfl
  | cons a xs ih => simp [ih]
theorem setTg_2 {i j : Nat} {x : D} {a b : Int} {e : Env} (h : itemsD x = [.int a, .int b]) (hs : isSeq x = true) : setTg (.tp (.cons (.nm i) (.cons (.nm j) .nil))) (.d x) e = some ((e.set i (some (.d (.int a)))).set j (some (.d (.int b)))) := by
  cases x <;> simp only [isSeq, Bool.false_eq_true] at hs
  all_goals (simp only [itemsD] at h; subst h; rfl)
theorem setTg_tup {i j : Nat} {a b : D} {e : Env} : setTg (.tp (.cons (.nm i) (.cons (.nm j) .nil))) (.d (.tup [a, b])) e = some ((e.set i (some (.d a))).set j (some (.d b))) := rfl
end EV

end
section
namespace EV

structure gd {α : Type} (P : α → Prop) (n : Nat) (r : R α) : Prop where
  out : ∀ b, n ≤ b → good (fun a b' => P a ∧ b ≤ b' + n) r b
theorem gd_ok {α : Type} {P : α → Prop} {n : Nat} {a : α} (h : P a) : gd P n (.ok a) := ⟨fun b hb => ⟨h, Nat.le_add_right b n⟩⟩
theorem gd_ret {α : Type} {P : EO α → Prop} {n : Nat} {a : α} {s : Store} (h : P (.v a s)) : gd P n (ret a s) := gd_ok h
theorem gd_mono {α : Type} {P Q : α → Prop} {n m : Nat} {r : R α} (h : gd P n r) (hn : n ≤ m) (i : ∀ a, P a → Q a) : gd Q m r := ⟨fun b hb =>
  good_mono (fun a b' q => ⟨i a q.1, by omega⟩) (h.out b (Nat.le_trans hn hb))⟩
theorem gd_draw {α : Type} {P : α → Prop} {n m : Nat} {k : Nat → R α} (hm : 0 < m) (h : ∀ d, d < m → gd P n (k d)) : gd P (n + 1) (.draw m k) := ⟨fun b hb =>
  ⟨b - 1, by omega, hm, fun d hd => good_mono (fun a b' q => ⟨q.1, by omega⟩) ((h d hd).out (b - 1) (by omega))⟩⟩
theorem gd_bind {α β : Type} {P : α → Prop} {Q : β → Prop} {n m : Nat} {r : R α} {f : α → R β} (h : gd P n r) (hf : ∀ a, P a → gd Q m (f a)) : gd Q (n + m) (r.bind f) := ⟨fun b hb => by
  rw [good_bind]
  refine good_mono (fun a b' q => ?_) (h.out b (by omega))
  exact good_mono (fun c b2 q2 => ⟨q2.1, by omega⟩) ((hf a q.1).out b' (by omega))⟩
theorem gd_bnd {α β : Type} {P : α → Store → Prop} {Q : EO β → Prop} {n m : Nat} {r : E α} {f : α → Store → E β} (h : gd (fun o => ∃ a s, o = .v a s ∧ P a s) n r) (hf : ∀ a s, P a s → gd Q m (f a s)) : gd Q (n + m) (bnd r f) := by
  refine gd_bind h fun o ⟨a, s, e, q⟩ => ?_
  subst e
  exact hf a s q
theorem gd_sBnd {α : Type} {P : α → Store → Prop} {Q : Out → Prop} {n m : Nat} {r : E α} {e : Env} {f : α → Store → R Out} (h : gd (fun o => ∃ a s, o = .v a s ∧ P a s) n r) (hf : ∀ a s, P a s → gd Q m (f a s)) : gd Q (n + m) (sBnd r e f) := by
  refine gd_bind h fun o ⟨a, s, e, q⟩ => ?_
  subst e
  exact hf a s q
theorem gd_seq {F : Cfg} {a b : St} {e : Env} {st : Store} {P : Env → Store → Prop} {Q : Out → Prop} {n m : Nat} (h : gd (fun o => ∃ e' s', o = Out.nx e' s' ∧ P e' s') n (evS F a e st)) (hf : ∀ e' s', P e' s' → gd Q m (evS F b e' s')) : gd Q (n + m) (evS F (.seq a b) e st) := by
  rw [es_seq]
  refine gd_bind h fun o ⟨e', s', eo, hp⟩ => ?_
  subst eo
  exact hf e' s' hp
theorem bnd_assoc {α β γ : Type} (r : E α) (f : α → Store → E β) (g : β → Store → E γ) : bnd (bnd r f) g = bnd r fun a s => bnd (f a s) g := by
  unfold bnd
  rw [bind_bind]
  congr 1
  funext o
  cases o <;> rfl
theorem lc_filt {F : Cfg} {m : Bool} {own : List Nat} {tg : Tg} {it cond x : Ex} {e : Env} {st : Store} {α : Type} (xs : List α) (v : α → Vl) (p : α → Bool) (g : α → D) {w : Vl} (hit : evE F it e st = ret w st) (hw : itsOf w = some (xs.map v))
    (hx : ∀ a ∈ xs, ∃ e', setTg tg (v a) (wipeE e own) = some e' ∧ evE F cond e' st = ret (.d (.bl (p a))) st ∧ evE F x e' st = ret (.d (g a)) st) (hl : xs.length ≤ 1000000) :
    evE F (.lc false own tg it cond x) e st = ret (.d (.lst ((xs.filter p).map g))) st := by
  rw [ev_lc, hit, bnd_ret]
  unfold lcRun
  rw [hw]
  dsimp only
  have key : ∀ (ys : List α) (acc : List Vl), (∀ a ∈ ys, a ∈ xs) → acc.length + ys.length ≤ 1000000 → compL (lcStep F own tg cond x e) (ys.map v) acc st = ret (acc ++ (ys.filter p).map fun a => Vl.d (g a)) st := by
    intro ys
    induction ys with
    | nil => intro acc _ _; simp [compL]
    | cons a ys ih =>
      intro acc hm hl
      simp only [List.length_cons] at hl
      obtain ⟨e', h1, h3, h2⟩ := hx a (hm a List.mem_cons_self)
      rw [List.map_cons]
      unfold compL
      have hs : lcStep F own tg cond x e (v a) st = ret (if p a then some (.d (g a)) else none) st := by
        unfold lcStep
        rw [h1]
        dsimp only
        rw [h3, bnd_ret, byT_bl, h2, bnd_ret]
        cases p a <;> rfl
      rw [hs, R_bind_ret]
      cases hp : p a with
      | true =>
        simp only [if_pos]
        rw [if_pos (by omega), ih _ (fun b hb => hm b (List.mem_cons_of_mem _ hb)) (by simp; omega)]
        simp [hp]
      | false =>
        simp only [Bool.false_eq_true, if_false]
        rw [ih _ (fun b hb => hm b (List.mem_cons_of_mem _ hb)) (by omega)]
        simp [hp]
  rw [key xs [] (fun a h => h) (by simpa using hl)]
  rw [bnd_ret]
  unfold lcEnd
  have hd : dats ([] ++ (xs.filter p).map fun a => Vl.d (g a)) = some ((xs.filter p).map g) := by
    rw [List.nil_append, show ((xs.filter p).map fun a => Vl.d (g a)) = ((xs.filter p).map g).map Vl.d by simp, dats_map]
  rw [hd]
  rfl
/-! ### the law's draws, by whatever index -/
def pickIR (dr : Nat) : St := (.seq (.ret (.ix (.v 1) (.call .frz dr (.cons (.v 0) (.cons (.bi .len (.cons (.v 1) .nil)) .nil))))) .skip)
def fdPick (dr : Nat) : Fn := ⟨2, 2, [], pickIR dr⟩
def mixedIR (dr : Nat) : St := (.seq (.set (.nm 2) (.bi .listm (.cons (.v 1) .nil))) (.seq (.ret (.lc false [3] (.nm 3) (.wk .range (.cons (.bi .len (.cons (.v 2) .nil)) .nil)) (.c (.bl true)) (.mt .pop (.v 2) (.cons (.call .frz dr (.cons (.v 0) (.cons (.bi .len (.cons (.v 2) .nil)) .nil))) .nil)))) .skip))
def fdMixed (dr : Nat) : Fn := ⟨2, 4, [], mixedIR dr⟩
def sameIR (i : Nat) : St := (.seq (.iff (.isi (.v 1) [.list, .tuple]) (.seq (.iff (.bo false (.cmp .ne (.isi (.v 0) [.list]) (.isi (.v 1) [.list])) (.cmp .ne (.isi (.v 0) [.tuple]) (.isi (.v 1) [.tuple]))) (.seq (.ret (.c (.bl false))) .skip) .skip) (.seq (.ret (.bo true (.cmp .eq (.bi .len (.cons (.v 0) .nil)) (.bi .len (.cons (.v 1) .nil))) (.bi .all (.cons (.lc false [2, 3] (.tp (.cons (.nm 2) (.cons (.nm 3) .nil))) (.wk .zip (.cons (.v 0) (.cons (.v 1) .nil))) (.c (.bl true)) (.call .frz i (.cons (.v 2) (.cons (.v 3) .nil)))) .nil)))) .skip)) .skip) (.seq (.iff (.isi (.v 1) [.dict]) (.seq (.ret (.bo true (.isi (.v 0) [.dict]) (.call .frz i (.cons (.litm (.v 0)) (.cons (.litm (.v 1)) .nil))))) .skip) .skip) (.seq (.iff (.isi (.v 1) [.int]) (.seq (.ret (.bo true (.isi (.v 0) [.int]) (.bo true (.cmp .eq (.isi (.v 0) [.bool]) (.isi (.v 1) [.bool])) (.cmp .eq (.v 0) (.v 1))))) .skip) .skip) (.seq (.ret (.bo true (.not (.isi (.v 0) [.int, .list, .tuple, .dict])) (.cmp .eq (.v 0) (.v 1)))) .skip))))
def fdSame (i : Nat) : Fn := ⟨2, 4, [], sameIR i⟩
section
variable {fns : List FnK} {T dr pk : Nat}
theorem c_draw (hdr : fns[dr]? = some .draw) {n : Nat} {st : Store} {m : Int} (hn : 1 ≤ n) (h0 : 0 < m) (h1 : m < 1000000) : callE (FF fns T n) .frz dr [.d .strm, .d (.int m)] st = .draw m.toNat fun d => ret (.d (.int (d : Nat))) st := by
  obtain ⟨k, rfl⟩ := pred hn
  unfold callE
  dsimp only [dats, Option.map]
  unfold callN
  rw [hdr]
  dsimp only [List.map, drawE]
  rw [if_pos ⟨h0, h1⟩]
  rfl
theorem ix_nat {xs : List D} {d : Nat} {st : Store} : ixD st (.d (.lst xs)) (.int (d : Nat)) = (xs[d]?).map .d := by
  show ((ixN xs.length (d : Int)).bind fun j => xs[j]?).map Vl.d = _
  unfold ixN
  rw [if_pos (by omega)]
  by_cases h : d < xs.length
  · rw [if_pos (by omega)]; simp
  · rw [if_neg (by omega), List.getElem?_eq_none (by omega)]; rfl
theorem c_pick (hdr : fns[dr]? = some .draw) (hpk : fns[pk]? = some (.plain (fdPick dr))) {n : Nat} {st : Store} {xs : List D} (hn : 2 ≤ n) (h0 : xs ≠ []) (h1 : xs.length < 1000000) : callE (FF fns T n) .frz pk [.d .strm, .d (.lst xs)] st = .draw xs.length fun d => lift ((xs[d]?).map .d) st := by
  obtain ⟨m, rfl⟩ := pred (n := n) (by omega)
  have hl : 0 < xs.length := List.length_pos_iff.mpr h0
  rw [call2 (fn := fdPick dr) hpk rfl]
  have hd := fun (st : Store) => c_draw (T := T) hdr (n := m) (st := st) (m := (xs.length : Int)) (by omega) (by omega) (by omega)
  simp [fdPick, pickIR, exLen, len_seq (d := .lst xs) rfl, itemsD, hd, ix_nat]
  funext d
  cases xs[d]? with
  | none => rfl
  | some x => simp
theorem g_pick (hdr : fns[dr]? = some .draw) (hpk : fns[pk]? = some (.plain (fdPick dr))) {n : Nat} {st : Store} {xs : List D} (hn : 2 ≤ n) (h0 : xs ≠ []) (h1 : xs.length < 1000000) : gd (fun o => ∃ a s, o = .v a s ∧ ∃ x ∈ xs, a = .d x ∧ s = st) 1 (callE (FF fns T n) .frz pk [.d .strm, .d (.lst xs)] st) := by
  rw [c_pick hdr hpk hn h0 h1]
  refine gd_draw (n := 0) (List.length_pos_iff.mpr h0) fun d hd => ?_
  rw [List.getElem?_eq_getElem hd]
  exact gd_ret ⟨_, _, rfl, _, List.getElem_mem hd, rfl, rfl⟩
theorem wk_range {st : Store} {i : Int} (h1 : -1000000 < i) (h2 : i < 1000000) : wkE .range [.d (.int i)] st = ret (.its (range 0 i)) st := by
  have e : wkE .range [.d (.int i)] st = if -1000000 < i ∧ i < 1000000 then ret (.its (range 0 i)) st else .err := rfl
  rw [e, if_pos ⟨h1, h2⟩]
theorem lcRun_its {F : Cfg} {m : Bool} {own : List Nat} {tg : Tg} {cond x : Ex} {e : Env} {xs : List Vl} {st : Store} : lcRun F m own tg cond x e (.its xs) st = bnd (compL (lcStep F own tg cond x e) xs [] st) (lcEnd m) := rfl
def cellD (l : List D) : Option Cell := some (.lst (l.map .d))
@[simp] theorem geti_cellD {l : List D} {r : List (Option Cell)} : geti (cellD l :: r) 0 = some (.lst (l.map .d)) := rfl
@[simp] theorem snap_cellD {l : List D} {r : List (Option Cell)} : snap (cellD l :: r) (.ref 0) = some (.lst l) := by
  show (dats (l.map .d)).map D.lst = _
  rw [dats_map]; rfl
@[simp] theorem mtf_cellD {m : Mt} {es : Store → E Vl} {l : List D} {r : List (Option Cell)} : mtf m (.ref 0) es (cellD l :: r) = bnd (es (cellD l :: r)) (mtk m (.ref 0)) := mtf_lst rfl
theorem len_cellD {l : List D} {r : List (Option Cell)} : biE .len [.ref 0] (cellD l :: r) = ret (.d (.int (l.length : Int))) (cellD l :: r) := by
  have h : lenOf (cellD l :: r) (.ref 0) = some l.length := by simp [lenOf, itemsOf]
  have h2 : biE .len [.ref 0] (cellD l :: r) = lift ((lenOf (cellD l :: r) (.ref 0)).map fun (n : Nat) => Vl.d (.int (n : Int))) (cellD l :: r) := rfl
  rw [h2, h]; rfl
theorem map_erase : ∀ (l : List D) (d : Nat), (l.map Vl.d).eraseIdx d = (l.eraseIdx d).map Vl.d
  | [], _ => rfl
  | _ :: _, 0 => rfl
  | a :: l, d + 1 => by simp [map_erase l d]
theorem perm_erase : ∀ (l : List D) (d : Nat) (h : d < l.length), (l[d]'h :: l.eraseIdx d).Perm l
  | a :: l, 0, _ => List.Perm.refl _
  | a :: l, d + 1, h => by
    have hd : d < l.length := by simpa using h
    have := perm_erase l d hd
    simp only [List.getElem_cons_succ, List.eraseIdx_cons_succ]
    exact (List.Perm.swap a (l[d]'hd) _).trans (this.cons a)
theorem pop_cellD {l : List D} {d : Nat} {x : D} (h : l[d]? = some x) : mtE .pop (.ref 0) [.d (.int (d : Nat))] [cellD l] = ret (.d x) [cellD (l.eraseIdx d)] := by
  have hd : d < l.length := (List.getElem?_eq_some_iff.mp h).1
  show (match (ixN (l.map Vl.d).length (d : Int)).bind fun j => ((l.map Vl.d)[j]?).map fun v => (j, v) with
      | some (j, v) => ret v ([cellD l].set 0 (some (.lst ((l.map Vl.d).eraseIdx j))))
      | none => .err) = _
  unfold ixN
  rw [if_pos (by omega), if_pos (by simp; omega)]
  simp [h, cellD, map_erase]
def mixX (dr : Nat) : Ex := .mt .pop (.v 2) (.cons (.call .frz dr (.cons (.v 0) (.cons (.bi .len (.cons (.v 2) .nil)) .nil))) .nil)
theorem mix_loop (hdr : fns[dr]? = some .draw) {n : Nat} (hn : 1 ≤ n) (v : Option Vl) : ∀ (ks : List Vl) (l : List D) (acc : List Vl), ks.length = l.length → l.length < 1000 → acc.length + l.length < 1000 →
    gd (fun o => ∃ a s, o = .v a s ∧ ∃ es : List D, es.Perm l ∧ a = acc ++ es.map .d) l.length (compL (lcStep (FF fns T n) [3] (.nm 3) (.c (.bl true)) (mixX dr) [some (.d .strm), v, some (.ref 0), none]) ks acc [cellD l]) := by
  intro ks
  induction ks with
  | nil =>
    intro l acc hk _ _
    have : l = [] := List.length_eq_zero_iff.mp (by simpa using hk.symm)
    subst this
    exact gd_ret ⟨_, _, rfl, [], List.Perm.refl _, by simp⟩
  | cons k ks ih =>
    intro l acc hk hl ha
    simp only [List.length_cons] at hk
    have hpos : 0 < l.length := by omega
    have hs : lcStep (FF fns T n) [3] (.nm 3) (.c (.bl true)) (mixX dr) [some (.d .strm), v, some (.ref 0), none] k [cellD l] = .draw l.length fun d => bnd (mtE .pop (.ref 0) [.d (.int (d : Nat))] [cellD l]) fun y st => ret (some y) st := by
      have hst : setTg (.nm 3) k (wipeE [some (.d .strm), v, some (.ref 0), none] [3]) = some [some (.d .strm), v, some (.ref 0), some k] := rfl
      unfold lcStep
      rw [hst]
      have hd := c_draw (T := T) hdr (n := n) (st := [cellD l]) (m := (l.length : Int)) hn (by omega) (by omega)
      simp [mixX, exLen, len_cellD, hd]
    unfold compL
    rw [hs]
    rw [R_bind_draw]
    have el : l.length = (l.length - 1) + 1 := by omega
    rw [show gd _ l.length = gd _ ((l.length - 1) + 1) from by rw [← el]]
    refine gd_draw hpos fun d hd => ?_
    have hx : l[d]? = some l[d] := List.getElem?_eq_getElem hd
    rw [pop_cellD hx, bnd_ret, R_bind_ret]
    dsimp only
    rw [if_pos (by omega)]
    have hlen : (l.eraseIdx d).length = l.length - 1 := by rw [List.length_eraseIdx, if_pos hd]
    have := ih (l.eraseIdx d) (acc ++ [.d l[d]]) (by rw [hlen]; omega) (by omega) (by simp; omega)
    rw [hlen] at this
    refine gd_mono this (Nat.le_refl _) fun o ⟨a, s, e, es, hp, ea⟩ => ⟨a, s, e, l[d] :: es, ?_, by rw [ea]; simp⟩
    exact (List.Perm.cons _ hp).trans (perm_erase l d hd)
theorem mx_list (l : List D) : biE .listm [.d (.lst l)] [] = ret (.ref 0) [cellD l] := by
    show listmE _ _ = _
    unfold listmE
    simp [itemsOf, dats_map, cellD]
theorem mx_range (l : List D) (hl : l.length < 1000) : wkE .range [.d (.int (l.length : Int))] [cellD l] = ret (.its (range 0 (l.length : Int))) [cellD l] := by
    exact wk_range (by omega) (by omega)
theorem mx_len (l : List D) : (range 0 (l.length : Int)).length = l.length := by simp [range]
theorem mx_1 (m : Nat) (l : List D) : evS (FF fns T m) (.set (.nm 2) (.bi .listm (.cons (.v 1) .nil))) [some (.d .strm), some (.d (.lst l)), none, none] [] = .ok (.nx [some (.d .strm), some (.d (.lst l)), some (.ref 0), none] [cellD l]) := by simp [mx_list]
theorem mx_2 (m : Nat) (l : List D) (hl : l.length < 1000) : evE (FF fns T m) (.wk .range (.cons (.bi .len (.cons (.v 2) .nil)) .nil)) [some (.d .strm), some (.d (.lst l)), some (.ref 0), none] [cellD l] = ret (.its (range 0 (l.length : Int))) [cellD l] := by
    have a1 : evE (FF fns T m) (.cons (.v 2) .nil) [some (.d .strm), some (.d (.lst l)), some (.ref 0), none] [cellD l] = ret (.its [.ref 0]) [cellD l] := rfl
    have a2 : evE (FF fns T m) (.bi .len (.cons (.v 2) .nil)) [some (.d .strm), some (.d (.lst l)), some (.ref 0), none] [cellD l] = ret (.d (.int (l.length : Int))) [cellD l] := by
      rw [ev_bi, a1, bnd_ret, biq_its, len_cellD]
    have a3 : evE (FF fns T m) (.cons (.bi .len (.cons (.v 2) .nil)) .nil) [some (.d .strm), some (.d (.lst l)), some (.ref 0), none] [cellD l] = ret (.its [.d (.int (l.length : Int))]) [cellD l] := by
      rw [ev_cons, a2, bnd_ret, ev_nil, bnd_ret, consf_its]
    rw [ev_wk, a3, bnd_ret, wkf_its]
    exact mx_range l hl
theorem mx_body (m : Nat) (l : List D) (hl : l.length < 1000) : evS (FF fns T m) (fdMixed dr).body ([some (.d .strm), some (.d (.lst l))] ++ List.replicate ((fdMixed dr).slots - (fdMixed dr).ps) none) [] =
      R.bind (sBnd (bnd (compL (lcStep (FF fns T m) [3] (.nm 3) (.c (.bl true)) (mixX dr) [some (.d .strm), some (.d (.lst l)), some (.ref 0), none]) (range 0 (l.length : Int)) [] [cellD l]) (lcEnd false)) [some (.d .strm), some (.d (.lst l)), some (.ref 0), none] fun v st => .ok (.rt v st)) (thn (FF fns T m) .skip) := by
    have e1 : ([some (Vl.d .strm), some (.d (.lst l))] ++ List.replicate ((fdMixed dr).slots - (fdMixed dr).ps) none) = [some (.d .strm), some (.d (.lst l)), none, none] := rfl
    rw [e1]
    show evS (FF fns T m) (mixedIR dr) _ [] = _
    unfold mixedIR
    unfold mixX
    rw [es_seq, mx_1, R_bind_ok, thn_nx, es_seq, es_ret, ev_lc, mx_2 m l hl, bnd_ret, lcRun_its]
theorem g_mixed {mx : Nat} (hdr : fns[dr]? = some .draw) (hmx : fns[mx]? = some (.plain (fdMixed dr))) {n : Nat} {st : Store} {l : List D} (hn : 2 ≤ n) (hl : l.length < 1000) : gd (fun o => ∃ a s, o = .v a s ∧ s = st ∧ ∃ es : List D, es.Perm l ∧ a = .d (.lst es)) l.length (callE (FF fns T n) .frz mx [.d .strm, .d (.lst l)] st) := by
  obtain ⟨m, rfl⟩ := pred (n := n) (by omega)
  rw [call2 (fn := (fdMixed dr)) hmx rfl, mx_body m l hl]
  have hloop := mix_loop (T := T) hdr (n := m) (by omega) (some (.d (.lst l))) (range 0 (l.length : Int)) l [] (mx_len l) hl (by simpa using hl)
  have g1 : gd (fun o => ∃ a s, o = .v a s ∧ ∃ es : List D, es.Perm l ∧ a = .d (.lst es)) (l.length + 0) (bnd (compL (lcStep (FF fns T m) [3] (.nm 3) (.c (.bl true)) (mixX dr) [some (.d .strm), some (.d (.lst l)), some (.ref 0), none]) (range 0 (l.length : Int)) [] [cellD l]) (lcEnd false)) := by
    refine gd_bnd (P := fun a s => ∃ es : List D, es.Perm l ∧ a = [] ++ es.map .d) hloop fun a s ⟨es, hp, ea⟩ => ?_
    subst ea
    unfold lcEnd
    rw [List.nil_append, dats_map]
    exact gd_ret ⟨_, _, rfl, es, hp, rfl⟩
  have g2 := gd_sBnd (Q := fun o => ∃ (s : Store) (es : List D), o = Out.rt (.d (.lst es)) s ∧ es.Perm l) (m := 0) (e := [some (.d .strm), some (.d (.lst l)), some (.ref 0), none]) (f := fun v st => .ok (.rt v st)) (P := fun a s => ∃ es : List D, es.Perm l ∧ a = .d (.lst es)) g1 fun a s ⟨es, hp, ea⟩ => gd_ok ⟨s, es, by rw [ea], hp⟩
  have g3 := gd_bind (Q := fun o => ∃ (s : Store) (es : List D), o = Out.rt (.d (.lst es)) s ∧ es.Perm l) (m := 0) (f := thn (FF fns T m) .skip) g2 fun o ⟨s, es, e, hp⟩ => by subst e; exact gd_ok ⟨s, es, rfl, hp⟩
  exact gd_bind (Q := fun o => ∃ a s, o = EO.v a s ∧ s = st ∧ ∃ es : List D, es.Perm l ∧ a = .d (.lst es)) (m := 0) (f := finF st) g3 fun o ⟨s, es, e, hp⟩ => by subst e; exact gd_ret ⟨_, _, rfl, rfl, es, hp, rfl⟩
end
/-! ### same -/
mutual
def samB : D → Nat → Bool
  | .non, _ => true
  | .bl _, _ => true
  | .int _, _ => true
  | .str s, _ => s.all fun c => decide (c < 128)
  | .lst xs, n => match n with
    | 0 => false
    | m + 1 => decide (xs.length < 1000) && samBs xs m
  | .tup xs, n => match n with
    | 0 => false
    | m + 1 => decide (xs.length < 1000) && samBs xs m
  | .dct ks vs, n => ks.isEmpty && vs.isEmpty && decide (2 ≤ n)
  | _, _ => false
def samBs : List D → Nat → Bool
  | [], _ => true
  | x :: xs, n => samB x n && samBs xs n
end
theorem samBs_mem : ∀ {xs : List D} {n : Nat}, samBs xs n = true → ∀ x ∈ xs, samB x n = true
  | [], _, _, x, h => by cases h
  | y :: ys, n, h, x, hx => by
    simp only [samBs, Bool.and_eq_true] at h
    rcases List.mem_cons.mp hx with rfl | hx
    · exact h.1
    · exact samBs_mem h.2 x hx
theorem zip2_self : ∀ xs : List D, zip2 xs xs = xs.map fun x => Vl.d (.tup [x, x])
  | [] => rfl
  | x :: xs => by
    have := zip2_self xs
    unfold zip2 at this ⊢
    rw [List.zipWith_cons_cons, this, List.map_cons]
theorem ne_bl (a : Bool) : cmpD .ne (.bl a) (.bl a) = some false := by cases a <;> rfl
theorem eq_bl (a : Bool) : cmpD .eq (.bl a) (.bl a) = some true := by cases a <;> rfl
theorem eq_str {s : List Nat} (h : (s.all fun c => decide (c < 128)) = true) : cmpD .eq (.str s) (.str s) = some true := by
  show (if _ then some (eqB _ _) else _) = _
  simp only [okB, h, Bool.and_self, if_true, eqB, beq_self_eq_true]
theorem c_same {fns : List FnK} {Tn i : Nat} (hi : fns[i]? = some (.plain (fdSame i))) : ∀ (k : Nat) (d : D) (n : Nat) (st : Store), samB d k = true → k + 1 ≤ n → callE (FF fns Tn n) .frz i [.d d, .d d] st = ret (.d (.bl true)) st := by
  intro k
  induction k with
  | zero =>
    intro d n st hd hn
    obtain ⟨m, rfl⟩ := pred (n := n) (by omega)
    rw [call2 (fn := fdSame i) hi rfl]
    cases d <;> (try (simp only [samB, Bool.false_eq_true] at hd))
    case non => simp [fdSame, sameIR, isTy, tyOf, isStrm]; rfl
    case bl b => simp [fdSame, sameIR, isTy, tyOf, isStrm, eq_bl]
    case int j => simp [fdSame, sameIR, isTy, tyOf, isStrm, eq_bl, eq_int]
    case str s => simp [fdSame, sameIR, isTy, tyOf, isStrm, eq_str hd]
    case dct ks vs => simp [samB] at hd
  | succ k ih =>
    intro d n st hd hn
    obtain ⟨m, rfl⟩ := pred (n := n) (by omega)
    rw [call2 (fn := fdSame i) hi rfl]
    have seq : ∀ (xs : List D) (T : D), isSeq T = true → itemsD T = xs → xs.length < 1000 → samBs xs k = true →
        evE (FF fns Tn m) (.lc false [2, 3] (.tp (.cons (.nm 2) (.cons (.nm 3) .nil))) (.wk .zip (.cons (.v 0) (.cons (.v 1) .nil))) (.c (.bl true)) (.call .frz i (.cons (.v 2) (.cons (.v 3) .nil)))) [some (.d T), some (.d T), none, none] [] = ret (.d (.lst (xs.map fun _ => .bl true))) [] := by
      intro xs T hT hx hl hs
      refine lc_map xs (fun x => Vl.d (.tup [x, x])) (fun _ => .bl true) (w := .its (zip2 xs xs)) ?_ (by rw [zip2_self]; rfl) (fun x hm => ⟨_, setTg_tup, ?_⟩) (by omega)
      · subst hx
        cases T <;> simp only [isSeq, Bool.false_eq_true] at hT
        all_goals (simp; rfl)
      · simp [wipeE, exLen, ih x m [] (samBs_mem hs x hm) (by omega)]
    have allT : ∀ xs : List D, biE .all [.d (.lst (xs.map fun _ => .bl true))] [] = ret (.d (.bl true)) [] := fun xs => by
      have := all_lc (st := []) xs (fun _ => true)
      rw [this]
      congr 3
      simp
    cases d <;> (try (simp only [samB, Bool.false_eq_true] at hd))
    case non => simp [fdSame, sameIR, isTy, tyOf, isStrm]; rfl
    case bl b => simp [fdSame, sameIR, isTy, tyOf, isStrm, eq_bl]
    case int j => simp [fdSame, sameIR, isTy, tyOf, isStrm, eq_bl, eq_int]
    case str s => simp [fdSame, sameIR, isTy, tyOf, isStrm, eq_str hd]
    case lst xs =>
      rw [Bool.and_eq_true, decide_eq_true_eq] at hd
      have h1 := seq xs (.lst xs) rfl rfl hd.1 hd.2
      simp only [fdSame, sameIR, es_seq, es_iff, ev_isi, ev_v, envGet_s, envGet_0, Option.map_some, rdV_d, lift_some, bnd_ret, isif_d]
      simp [isTy, tyOf, isStrm, ne_bl, len_seq (d := .lst xs) rfl, eq_int, h1, allT]
    case tup xs =>
      rw [Bool.and_eq_true, decide_eq_true_eq] at hd
      have h1 := seq xs (.tup xs) rfl rfl hd.1 hd.2
      simp only [fdSame, sameIR, es_seq, es_iff, ev_isi, ev_v, envGet_s, envGet_0, Option.map_some, rdV_d, lift_some, bnd_ret, isif_d]
      simp [isTy, tyOf, isStrm, ne_bl, len_seq (d := .tup xs) rfl, eq_int, h1, allT]
    case dct ks vs =>
      simp only [samB, Bool.and_eq_true, List.isEmpty_iff, decide_eq_true_eq] at hd
      obtain ⟨⟨rfl, rfl⟩, hd⟩ := hd
      obtain ⟨p, rfl⟩ := pred (n := k) (by omega)
      have h1 := ih (.lst []) m [] (by simp [samB, samBs]) (by omega)
      have h2 : evE (FF fns Tn m) (.litm (.v 0)) [some (.d (.dct [] [])), some (.d (.dct [] [])), none, none] [] = ret (.d (.lst [])) [] := rfl
      have h3 : evE (FF fns Tn m) (.litm (.v 1)) [some (.d (.dct [] [])), some (.d (.dct [] [])), none, none] [] = ret (.d (.lst [])) [] := rfl
      simp [fdSame, sameIR, isTy, tyOf, isStrm, exLen, h2, h3, h1]

end EV

end
section
namespace EV
/-! steps of statements that draw -/
theorem gd_set {F : Cfg} {i n : Nat} {x : Ex} {e : Env} {st : Store} {Q : Vl → Store → Prop} (h : gd (fun o => ∃ a s, o = .v a s ∧ Q a s) n (evE F x e st)) : gd (fun o => ∃ e' s', o = Out.nx e' s' ∧ ∃ a, e' = e.set i (some a) ∧ Q a s') n (evS F (.set (.nm i) x) e st) := by
  rw [es_set]
  exact gd_sBnd (n := n) (m := 0) h fun a s q => gd_ok ⟨_, _, rfl, a, rfl, q⟩
theorem gd_rets {F : Cfg} {n : Nat} {x : Ex} {e : Env} {st : Store} {Q : Vl → Store → Prop} (h : gd (fun o => ∃ a s, o = .v a s ∧ Q a s) n (evE F x e st)) : gd (fun o => ∃ a s', o = Out.rt a s' ∧ Q a s') n (evS F (.ret x) e st) := by
  rw [es_ret]
  exact gd_sBnd (n := n) (m := 0) h fun a s q => gd_ok ⟨_, _, rfl, q⟩
/-- an ended block -/
theorem gd_seqr {F : Cfg} {a b : St} {e : Env} {st : Store} {Q : Vl → Store → Prop} {n : Nat} (h : gd (fun o => ∃ v s', o = Out.rt v s' ∧ Q v s') n (evS F a e st)) : gd (fun o => ∃ v s', o = Out.rt v s' ∧ Q v s') n (evS F (.seq a b) e st) := by
  rw [es_seq]
  exact gd_bind (n := n) (m := 0) h fun o ⟨v, s', e, q⟩ => by subst e; exact gd_ok ⟨v, s', rfl, q⟩
/-- a call's end: data -/
theorem gd_fin {n : Nat} {r : R Out} {st : Store} {Q : D → Prop} (h : gd (fun o => ∃ v s', o = Out.rt v s' ∧ ∃ d, v = .d d ∧ Q d) n r) : gd (fun o => ∃ a s, o = EO.v a s ∧ s = st ∧ ∃ d, a = .d d ∧ Q d) n (R.bind r (finF st)) := by
  exact gd_bind (n := n) (m := 0) h fun o ⟨v, s', e, d, ed, q⟩ => by subst e ed; exact gd_ret ⟨_, _, rfl, rfl, d, rfl, q⟩
theorem gd_val {P : EO Vl → Prop} {n : Nat} {r : E Vl} {a : Vl} {s : Store} (e : r = ret a s) (h : P (.v a s)) : gd P n r := by rw [e]; exact gd_mono (gd_ret (n := n) h) (Nat.le_refl _) fun _ q => q
theorem gd_skip {F : Cfg} {a : St} {e : Env} {st : Store} {P : Out → Prop} {n : Nat} (h : gd P n (evS F a e st)) (hp : ∀ o, P o → ∃ v s, o = Out.rt v s) : gd P n (evS F (.seq a .skip) e st) := by
  rw [es_seq]
  refine gd_mono (gd_bind (Q := P) (n := n) (m := 0) h fun o q => ?_) (Nat.le_refl _) fun _ q => q
  obtain ⟨v, s, rfl⟩ := hp o q
  exact gd_ok q
/-! a comprehension that draws -/
inductive F2 {α β : Type} (R : α → β → Prop) : List α → List β → Prop
  | nil : F2 R [] []
  | cons {a : α} {b : β} {as : List α} {bs : List β} (h : R a b) (t : F2 R as bs) : F2 R (a :: as) (b :: bs)
theorem F2.len {α β : Type} {R : α → β → Prop} {as : List α} {bs : List β} (h : F2 R as bs) : as.length = bs.length := by
  induction h with
  | nil => rfl
  | cons _ _ ih => simp [ih]
theorem F2.mono {α β : Type} {R S : α → β → Prop} {as : List α} {bs : List β} (h : F2 R as bs) (i : ∀ a ∈ as, ∀ b, R a b → S a b) : F2 S as bs := by
  induction h with
  | nil => exact .nil
  | cons h t ih => exact .cons (i _ List.mem_cons_self _ h) (ih fun a ha => i a (List.mem_cons_of_mem _ ha))
theorem gd_compL {α : Type} {f : Vl → Store → E (Option Vl)} {s : Store} {n : Nat} {R : α → D → Prop} (v : α → Vl) : ∀ (xs : List α) (acc : List Vl), (∀ x ∈ xs, gd (fun o => ∃ d, o = EO.v (some (.d d)) s ∧ R x d) n (f (v x) s)) → acc.length + xs.length ≤ 1000000 →
    gd (fun o => ∃ ds : List D, o = EO.v (acc ++ ds.map .d) s ∧ F2 R xs ds) (n * xs.length) (compL f (xs.map v) acc s)
  | [], acc, _, _ => gd_ret ⟨[], by simp, .nil⟩
  | x :: xs, acc, h, hl => by
    simp only [List.length_cons] at hl
    rw [List.map_cons]
    unfold compL
    refine gd_mono (gd_bind (n := n) (m := n * xs.length) (h x List.mem_cons_self) fun o ⟨d, e, r⟩ => ?_) (by rw [List.length_cons, Nat.mul_succ]; omega) fun _ q => q
    subst e
    dsimp only
    rw [if_pos (by omega)]
    refine gd_mono (gd_compL v xs (acc ++ [.d d]) (fun x hx => h x (List.mem_cons_of_mem _ hx)) (by simp; omega)) (Nat.le_refl _) fun o ⟨ds, e, q⟩ => ⟨d :: ds, by rw [e]; simp, .cons r q⟩
/-- [f(..) for x in ..], drawn -/
theorem gd_lc {F : Cfg} {α : Type} {own : List Nat} {tg : Tg} {it x : Ex} {e : Env} {st : Store} {n : Nat} {R : α → D → Prop} (xs : List α) (v : α → Vl) {w : Vl} (hit : evE F it e st = ret w st) (hw : itsOf w = some (xs.map v))
    (hx : ∀ a ∈ xs, ∃ e', setTg tg (v a) (wipeE e own) = some e' ∧ gd (fun o => ∃ d, o = EO.v (.d d) st ∧ R a d) n (evE F x e' st)) (hl : xs.length ≤ 1000000) :
    gd (fun o => ∃ ds, o = EO.v (.d (.lst ds)) st ∧ F2 R xs ds) (n * xs.length) (evE F (.lc false own tg it (.c (.bl true)) x) e st) := by
  rw [ev_lc, hit, bnd_ret]
  unfold lcRun
  rw [hw]
  dsimp only
  refine gd_mono (gd_bnd (m := 0) (P := fun a s => s = st ∧ ∃ ds : List D, a = ds.map .d ∧ F2 R xs ds) (gd_mono (gd_compL v xs [] (fun a ha => ?_) (by simpa using hl)) (Nat.le_refl _) fun o ⟨ds, e, q⟩ => ⟨_, _, e, rfl, ds, by simp, q⟩) fun a s ⟨es, ds, ea, q⟩ => ?_) (Nat.le_refl _) fun _ q => q
  · obtain ⟨e', h1, h2⟩ := hx a ha
    unfold lcStep
    rw [h1]
    simp only [ev_c, bnd_ret, byT_bl, if_true]
    exact gd_bnd (n := n) (m := 0) (P := fun a' s => s = st ∧ ∃ d, a' = .d d ∧ R a d) (gd_mono h2 (Nat.le_refl _) fun o ⟨d, e, q⟩ => ⟨_, _, e, rfl, d, rfl, q⟩) fun y s ⟨es, d, ey, q⟩ => by subst es ey; exact gd_ret ⟨d, rfl, q⟩
  · subst es ea
    unfold lcEnd
    rw [dats_map]
    exact gd_ret ⟨ds, rfl, q⟩
end EV

end
section
namespace EV
abbrev F (n : Nat) : Cfg := FF fns 3000 n
theorem c_list {n : Nat} {st : Store} {d : D} (hs : isStrm d = false) (hn : 1 ≤ n) : callE (F n) .frz 0 [.d d] st = ret (.d (.bl (isSeq d))) st := by
  obtain ⟨m, rfl⟩ := pred hn
  rw [call1 (fn := fd_is_list) rfl rfl]
  simp [fd_is_list, ir_is_list, hs, isTy_list, finF, snap]
theorem c_int {n : Nat} {st : Store} {d : D} (hs : isStrm d = false) (hn : 1 ≤ n) : callE (F n) .frz 1 [.d d] st = ret (.d (.bl (isInt d))) st := by
  obtain ⟨m, rfl⟩ := pred hn
  rw [call1 (fn := fd_is_integer) rfl rfl]
  simp [fd_is_integer, ir_is_integer, hs, finF, snap]
  cases d <;> rfl
theorem c_num {n : Nat} {st : Store} {d : D} (hs : isStrm d = false) (hn : 2 ≤ n) : callE (F n) .frz 2 [.d d] st = ret (.d (.bl (isNum d))) st := by
  obtain ⟨m, rfl⟩ := pred (n := n) (by omega)
  rw [call1 (fn := fd_is_number) rfl rfl]
  simp [fd_is_number, ir_is_number, finF, snap, exLen, c_int hs (n := m) (by omega)]
  cases d <;> simp [isInt, isNum, snap, cmp_ge0]
/-! fractions -/
def Bz (k : Nat) (x : Int) : Prop := x.natAbs < 2 ^ k
theorem Bz.mono {a b : Nat} {x : Int} (h : Bz a x) (l : a ≤ b) : Bz b x := Nat.lt_of_lt_of_le h (Nat.pow_le_pow_right (by decide) l)
theorem Bz.mul {a b : Nat} {x y : Int} (h : Bz a x) (l : Bz b y) : Bz (a + b) (x * y) := by
  unfold Bz at *
  rw [Int.natAbs_mul, Nat.pow_add]
  exact Nat.mul_lt_mul'' h l
theorem Bz.add {a b : Nat} {x y : Int} (h : Bz a x) (l : Bz b y) : Bz (max a b + 1) (x + y) := by
  have h' := h.mono (Nat.le_max_left a b)
  have l' := l.mono (Nat.le_max_right a b)
  unfold Bz at *
  rw [Nat.pow_succ]
  omega
theorem Bz.sub {a b : Nat} {x y : Int} (h : Bz a x) (l : Bz b y) : Bz (max a b + 1) (x - y) := by
  have h' := h.mono (Nat.le_max_left a b)
  have l' := l.mono (Nat.le_max_right a b)
  unfold Bz at *
  rw [Nat.pow_succ]
  omega
theorem Bz.log {k : Nat} {x : Int} (h : Bz k x) : x.natAbs.log2 ≤ k := by
  by_cases h0 : x.natAbs = 0
  · rw [h0]; exact Nat.zero_le _
  · exact Nat.le_of_lt ((Nat.log2_lt h0).mpr h)
theorem mulB {a b : Nat} {x y : Int} (h : Bz a x) (l : Bz b y) (s : a + b < 1000000) : binD .mul (.int x) (.int y) = some (.int (x * y)) := by
  show (if _ then _ else _) = _
  rw [if_pos]
  have h1 := h.log
  have h2 := l.log
  omega
theorem addB (x y : Int) : binD .add (.int x) (.int y) = some (.int (x + y)) := rfl
theorem subB (x y : Int) : binD .sub (.int x) (.int y) = some (.int (x - y)) := rfl
theorem divB {k : Nat} {x y : Int} (h0 : 0 < y) (h : Bz k y) (s : k < 9000) : binD .fdiv (.int x) (.int y) = some (.int (x / y)) := by
  show (if _ then _ else _) = _
  rw [if_pos]
  · rw [Int.fdiv_eq_ediv_of_nonneg x (Int.le_of_lt h0)]
  · right
    have := h.log
    exact ⟨h0, by omega⟩
theorem cmp_gt (i j : Int) : cmpD .gt (.int i) (.int j) = some (decide (j < i)) := rfl
theorem cmp_lt (i j : Int) : cmpD .lt (.int i) (.int j) = some (decide (i < j)) := rfl
theorem cmp_le (i j : Int) : cmpD .le (.int i) (.int j) = some (decide (i ≤ j)) := rfl
theorem cmp_ge (i j : Int) : cmpD .ge (.int i) (.int j) = some (decide (j ≤ i)) := rfl
theorem gcd2 (i j : Int) (st : Store) : biE .gcd [.d (.int i), .d (.int j)] st = ret (.d (.int ((Nat.gcd i.natAbs j.natAbs : Nat) : Int))) st := rfl
def fr (r : Rat) : D := .tup [.int r.num, .int (r.den : Int)]
theorem dv_num {t b : Int} (hb : 0 < b) : (Rat.divInt t b).num = t / ((Nat.gcd t.natAbs b.natAbs : Nat) : Int) := by
  rw [Rat.num_divInt, Int.sign_eq_one_of_pos hb, Int.one_mul]
  unfold Int.gcd
  rw [Nat.gcd_comm]
theorem dv_den {t b : Int} (hb : 0 < b) : ((Rat.divInt t b).den : Int) = b / ((Nat.gcd t.natAbs b.natAbs : Nat) : Int) := by
  rw [Rat.den_divInt, if_neg (by omega)]
  unfold Int.gcd
  rw [Nat.gcd_comm, Int.natCast_ediv]
  congr 1
  omega
theorem gcd_pos {t b : Int} (hb : 0 < b) : (0 : Int) < ((Nat.gcd t.natAbs b.natAbs : Nat) : Int) := by
  have := Nat.gcd_pos_of_pos_right t.natAbs (show 0 < b.natAbs by omega)
  omega
theorem gcd_B {k : Nat} {t b : Int} (hb : 0 < b) (h : Bz k b) : Bz k ((Nat.gcd t.natAbs b.natAbs : Nat) : Int) := by
  unfold Bz at *
  have := Nat.gcd_le_right t.natAbs (show 0 < b.natAbs by omega)
  omega
theorem c_lowest {n k : Nat} {st : Store} {t b : Int} (hn : 1 ≤ n) (hb : 0 < b) (hk : Bz k b) (h9 : k < 9000) : callE (F n) .frz 4 [.d (.int t), .d (.int b)] st = ret (.d (fr (Rat.divInt t b))) st := by
  obtain ⟨m, rfl⟩ := pred hn
  rw [call2 (fn := fd_lowest) rfl rfl]
  simp [fd_lowest, ir_lowest, cmp_gt, hb, gcd2, divB (gcd_pos hb) (gcd_B hb hk) h9, tupf, dats]
  unfold fr
  rw [dv_num hb, dv_den hb]
/-- a pair of ints -/
def Pr (d : D) (p q : Int) : Prop := d = .tup [.int p, .int q] ∨ d = .lst [.int p, .int q]
theorem Pr.i0 {d : D} {p q : Int} (h : Pr d p q) (st : Store) : ixD st (.d d) (.int 0) = some (.d (.int p)) := by rcases h with rfl | rfl <;> rfl
theorem Pr.i1 {d : D} {p q : Int} (h : Pr d p q) (st : Store) : ixD st (.d d) (.int 1) = some (.d (.int q)) := by rcases h with rfl | rfl <;> rfl
theorem fr_Pr (r : Rat) : Pr (fr r) r.num r.den := .inl rfl
theorem rat_of (r : Rat) : r = Rat.divInt r.num r.den := (Rat.num_divInt_den r).symm
structure B (k : Nat) (r : Rat) : Prop where
  n : Bz k r.num
  d : Bz k (r.den : Int)
theorem B.mono {a b : Nat} {x : Rat} (h : B a x) (l : a ≤ b) : B b x := ⟨h.n.mono l, h.d.mono l⟩
theorem B_div {k : Nat} {t b : Int} (hb : 0 < b) (h1 : Bz k t) (h2 : Bz k b) : B k (Rat.divInt t b) := by
  have g := gcd_pos (t := t) hb
  constructor
  · rw [dv_num hb]
    unfold Bz at *
    refine Nat.lt_of_le_of_lt ?_ h1
    have h3 : (t / ((Nat.gcd t.natAbs b.natAbs : Nat) : Int)) * ((Nat.gcd t.natAbs b.natAbs : Nat) : Int) = t := Int.ediv_mul_cancel (Int.ofNat_dvd_left.mpr (Nat.gcd_dvd_left _ _))
    have h4 := congrArg Int.natAbs h3
    rw [Int.natAbs_mul] at h4
    have h5 : (t / ((Nat.gcd t.natAbs b.natAbs : Nat) : Int)).natAbs * 1 ≤ (t / ((Nat.gcd t.natAbs b.natAbs : Nat) : Int)).natAbs * ((Nat.gcd t.natAbs b.natAbs : Nat) : Int).natAbs := Nat.mul_le_mul_left _ (by omega)
    omega
  · rw [dv_den hb]
    unfold Bz at *
    refine Nat.lt_of_le_of_lt ?_ h2
    have h3 : b / ((Nat.gcd t.natAbs b.natAbs : Nat) : Int) ≤ b := Int.ediv_le_self _ (Int.le_of_lt hb)
    have h4 : 0 ≤ b / ((Nat.gcd t.natAbs b.natAbs : Nat) : Int) := Int.ediv_nonneg (Int.le_of_lt hb) (Int.le_of_lt g)
    omega
end EV

end
section
namespace EV

theorem c_plus {n a b : Nat} {st : Store} {x y : D} {p q r s : Int} (hn : 2 ≤ n) (hx : Pr x p q) (hy : Pr y r s) (hq : 0 < q) (hs : 0 < s) (h1 : Bz a p) (h2 : Bz a q) (h3 : Bz b r) (h4 : Bz b s) (h9 : a + b < 8900) :
    callE (F n) .frz 5 [.d x, .d y] st = ret (.d (fr (Rat.divInt (p * s + r * q) (q * s)))) st := by
  obtain ⟨m, rfl⟩ := pred (n := n) (by omega)
  rw [call2 (fn := fd_plus) rfl rfl]
  have hl := fun st : Store => c_lowest (n := m) (st := st) (t := p * s + r * q) (b := q * s) (by omega) (Int.mul_pos hq hs) (h2.mul h4) (by omega)
  simp [fd_plus, ir_plus, hx.i0, hx.i1, hy.i0, hy.i1, exLen, mulB h1 h4 (by omega), mulB h3 h2 (by omega), mulB h2 h4 (by omega), addB, hl]
theorem c_times {n a b : Nat} {st : Store} {x y : D} {p q r s : Int} (hn : 2 ≤ n) (hx : Pr x p q) (hy : Pr y r s) (hq : 0 < q) (hs : 0 < s) (h1 : Bz a p) (h2 : Bz a q) (h3 : Bz b r) (h4 : Bz b s) (h9 : a + b < 8900) :
    callE (F n) .frz 7 [.d x, .d y] st = ret (.d (fr (Rat.divInt (p * r) (q * s)))) st := by
  obtain ⟨m, rfl⟩ := pred (n := n) (by omega)
  rw [call2 (fn := fd_times) rfl rfl]
  have hl := fun st : Store => c_lowest (n := m) (st := st) (t := p * r) (b := q * s) (by omega) (Int.mul_pos hq hs) (h2.mul h4) (by omega)
  simp [fd_times, ir_times, hx.i0, hx.i1, hy.i0, hy.i1, exLen, mulB h1 h3 (by omega), mulB h2 h4 (by omega), hl]
theorem c_over {n a b : Nat} {st : Store} {x y : D} {p q r s : Int} (hn : 2 ≤ n) (hx : Pr x p q) (hy : Pr y r s) (hq : 0 < q) (hr : 0 < r) (h1 : Bz a p) (h2 : Bz a q) (h3 : Bz b r) (h4 : Bz b s) (h9 : a + b < 8900) :
    callE (F n) .frz 8 [.d x, .d y] st = ret (.d (fr (Rat.divInt (p * s) (q * r)))) st := by
  obtain ⟨m, rfl⟩ := pred (n := n) (by omega)
  rw [call2 (fn := fd_over) rfl rfl]
  have hl := fun st : Store => c_lowest (n := m) (st := st) (t := p * s) (b := q * r) (by omega) (Int.mul_pos hq hr) (h2.mul h3) (by omega)
  simp [fd_over, ir_over, hx.i0, hx.i1, hy.i0, hy.i1, exLen, mulB h1 h4 (by omega), mulB h2 h3 (by omega), hl]
theorem c_less {n a b : Nat} {st : Store} {x y : D} {p q r s : Int} (hn : 1 ≤ n) (hx : Pr x p q) (hy : Pr y r s) (h1 : Bz a p) (h2 : Bz a q) (h3 : Bz b r) (h4 : Bz b s) (h9 : a + b < 8900) :
    callE (F n) .frz 9 [.d x, .d y] st = ret (.d (.bl (decide (p * s < r * q)))) st := by
  obtain ⟨m, rfl⟩ := pred (n := n) (by omega)
  rw [call2 (fn := fd_is_less) rfl rfl]
  simp [fd_is_less, ir_is_less, hx.i0, hx.i1, hy.i0, hy.i1, mulB h1 h4 (by omega), mulB h3 h2 (by omega), cmp_lt]

/-! the law's own lowest -/
def eT : Ex := .cmp .gt (.v 4) (.c (.int 0))
def eB : St := .seq (.par [3, 4] (.cons (.v 4) (.cons (.bin .mod (.bi .int (.cons (.v 3) .nil)) (.v 4)) .nil))) .skip
def eE (x y : Option Vl) (a b : Nat) : Env := [x, y, none, some (.d (.int (a : Int))), some (.d (.int (b : Int)))]
theorem modN (a b : Nat) (h : 0 < b) : binD .mod (.int (a : Int)) (.int (b : Int)) = some (.int ((a % b : Nat) : Int)) := by
  show (if _ then _ else _) = _
  rw [if_neg (by omega), Int.fmod_eq_emod_of_nonneg _ (by omega)]
  rfl
theorem int_int (i : Int) (st : Store) : biE .int [.d (.int i)] st = ret (.d (.int i)) st := rfl
theorem eT_0 {m : Nat} {x y : Option Vl} {a : Nat} {st : Store} {k : Nat} : whlL (evE (F m) eT) (evS (F m) eB) (k + 1) (eE x y a 0) st = .ok (.nx (eE x y a 0) st) := by
  unfold whlL
  have h : evE (F m) eT (eE x y a 0) st = ret (.d (.bl false)) st := by simp [eT, eE, cmp_gt]
  rw [h]; rfl
theorem eT_s {m : Nat} {x y : Option Vl} {a b : Nat} {st : Store} {k : Nat} (hb : 0 < b) : whlL (evE (F m) eT) (evS (F m) eB) (k + 1) (eE x y a b) st = whlL (evE (F m) eT) (evS (F m) eB) k (eE x y b (a % b)) st := by
  conv => lhs; unfold whlL
  have h : evE (F m) eT (eE x y a b) st = ret (.d (.bl true)) st := by
    have : decide ((0 : Int) < (b : Int)) = true := by simp; omega
    simp only [eT, eE, ev_cmp, ev_v, ev_c, envGet_s, envGet_0, Option.map_some, rdV_d, lift_some, bnd_ret, two_d, cmp_gt, this]
  have h2 : evS (F m) eB (eE x y a b) st = .ok (.nx (eE x y b (a % b)) st) := by
    simp [eB, eE, int_int, modN a b hb, parf, setPar]
  rw [h, sBnd_ret]
  show (R.bind (evS (F m) eB (eE x y a b) st) _) = _
  rw [h2]
  rfl
theorem eu_loop {m : Nat} {x y : Option Vl} {st : Store} : ∀ (k a b f : Nat), b < 2 ^ k → 2 * k + 1 ≤ f → whlL (evE (F m) eT) (evS (F m) eB) f (eE x y a b) st = .ok (.nx (eE x y (Nat.gcd a b) 0) st) := by
  intro k
  induction k with
  | zero =>
    intro a b f hb hf
    have : b = 0 := by simpa using hb
    subst this
    obtain ⟨g, rfl⟩ := pred (n := f) (by omega)
    rw [eT_0, Nat.gcd_zero_right]
  | succ k ih =>
    intro a b f hb hf
    obtain ⟨g, rfl⟩ := pred (n := f) (by omega)
    by_cases h0 : b = 0
    · subst h0; rw [eT_0, Nat.gcd_zero_right]
    · obtain ⟨h, rfl⟩ := pred (n := g) (by omega)
      rw [eT_s (by omega)]
      have e1 : Nat.gcd a b = Nat.gcd b (a % b) := by rw [Nat.gcd_comm a b, Nat.gcd_rec b a, Nat.gcd_comm]
      rw [e1]
      by_cases h1 : a % b = 0
      · rw [h1, eT_0, Nat.gcd_zero_right]
      · rw [eT_s (by omega)]
        have e2 : Nat.gcd b (a % b) = Nat.gcd (a % b) (b % (a % b)) := by rw [Nat.gcd_comm b (a % b), Nat.gcd_rec (a % b) b, Nat.gcd_comm]
        rw [e2]
        refine ih (a % b) (b % (a % b)) h ?_ (by omega)
        have r1 : a % b < b := Nat.mod_lt _ (by omega)
        have r2 : b % (a % b) < a % b := Nat.mod_lt _ (by omega)
        have r3 : b % (a % b) ≤ b - a % b := by
          have := Nat.mod_eq_sub_mod (a := b) (b := a % b) (by omega)
          rw [this]
          exact Nat.mod_le _ _
        rw [Nat.pow_succ] at hb
        omega
theorem abs_int (i : Int) (st : Store) : biE .abs [.d (.int i)] st = ret (.d (.int ((i.natAbs : Nat) : Int))) st := by
  show ret (Vl.d (.int (if i < 0 then -i else i))) st = _
  congr 3
  split <;> omega
theorem c_llowest {n k : Nat} {st : Store} {t b : Int} (hn : 1 ≤ n) (hb : 0 < b) (hk : Bz k b) (h9 : k < 1400) : callE (F n) .frz 24 [.d (.int t), .d (.int b)] st = ret (.d (fr (Rat.divInt t b))) st := by
  obtain ⟨m, rfl⟩ := pred hn
  rw [call2 (fn := fd__law_l_lowest) rfl rfl]
  have hloop := eu_loop (m := m) (x := some (Vl.d (D.int t))) (y := some (Vl.d (D.int b))) (st := []) k t.natAbs b.natAbs 3000 hk (by omega)
  have hw : ∀ e st, evS (F m) (.whl (.cmp .gt (.v 4) (.c (.int 0))) (.seq (.par [3, 4] (.cons (.v 4) (.cons (.bin .mod (.bi .int (.cons (.v 3) .nil)) (.v 4)) .nil))) .skip)) e st = whlL (evE (F m) eT) (evS (F m) eB) 3000 e st := fun _ _ => rfl
  simp [fd__law_l_lowest, ir__law_l_lowest, abs_int, parf, setPar, hw]
  rw [show ([some (Vl.d (D.int t)), some (Vl.d (D.int b)), none, some (Vl.d (D.int ((t.natAbs : Nat) : Int))), some (Vl.d (D.int ((b.natAbs : Nat) : Int)))] : Env) = eE (some (Vl.d (D.int t))) (some (Vl.d (D.int b))) t.natAbs b.natAbs from rfl]
  rw [hloop]
  simp [eE, cmp_gt, hb, divB (gcd_pos hb) (gcd_B hb hk) (by omega), tupf, dats]
  unfold fr
  rw [dv_num hb, dv_den hb]

theorem c_lplus {n a b : Nat} {st : Store} {x y : D} {p q r s : Int} (hn : 2 ≤ n) (hx : Pr x p q) (hy : Pr y r s) (hq : 0 < q) (hs : 0 < s) (h1 : Bz a p) (h2 : Bz a q) (h3 : Bz b r) (h4 : Bz b s) (h9 : a + b < 1000) :
    callE (F n) .frz 25 [.d x, .d y] st = ret (.d (fr (Rat.divInt (p * s + r * q) (q * s)))) st := by
  obtain ⟨m, rfl⟩ := pred (n := n) (by omega)
  rw [call2 (fn := fd__law_l_plus) rfl rfl]
  have hl := fun st : Store => c_llowest (n := m) (st := st) (t := p * s + r * q) (b := q * s) (by omega) (Int.mul_pos hq hs) (h2.mul h4) (by omega)
  simp [fd__law_l_plus, ir__law_l_plus, hx.i0, hx.i1, hy.i0, hy.i1, exLen, mulB h1 h4 (by omega), mulB h3 h2 (by omega), mulB h2 h4 (by omega), addB, hl]
theorem c_ltimes {n a b : Nat} {st : Store} {x y : D} {p q r s : Int} (hn : 2 ≤ n) (hx : Pr x p q) (hy : Pr y r s) (hq : 0 < q) (hs : 0 < s) (h1 : Bz a p) (h2 : Bz a q) (h3 : Bz b r) (h4 : Bz b s) (h9 : a + b < 1000) :
    callE (F n) .frz 26 [.d x, .d y] st = ret (.d (fr (Rat.divInt (p * r) (q * s)))) st := by
  obtain ⟨m, rfl⟩ := pred (n := n) (by omega)
  rw [call2 (fn := fd__law_l_times) rfl rfl]
  have hl := fun st : Store => c_llowest (n := m) (st := st) (t := p * r) (b := q * s) (by omega) (Int.mul_pos hq hs) (h2.mul h4) (by omega)
  simp [fd__law_l_times, ir__law_l_times, hx.i0, hx.i1, hy.i0, hy.i1, exLen, mulB h1 h3 (by omega), mulB h2 h4 (by omega), hl]
theorem c_lover {n a b : Nat} {st : Store} {x y : D} {p q r s : Int} (hn : 2 ≤ n) (hx : Pr x p q) (hy : Pr y r s) (hq : 0 < q) (hr : 0 < r) (h1 : Bz a p) (h2 : Bz a q) (h3 : Bz b r) (h4 : Bz b s) (h9 : a + b < 1000) :
    callE (F n) .frz 27 [.d x, .d y] st = ret (.d (fr (Rat.divInt (p * s) (q * r)))) st := by
  obtain ⟨m, rfl⟩ := pred (n := n) (by omega)
  rw [call2 (fn := fd__law_l_over) rfl rfl]
  have hl := fun st : Store => c_llowest (n := m) (st := st) (t := p * s) (b := q * r) (by omega) (Int.mul_pos hq hr) (h2.mul h3) (by omega)
  simp [fd__law_l_over, ir__law_l_over, hx.i0, hx.i1, hy.i0, hy.i1, exLen, mulB h1 h4 (by omega), mulB h2 h3 (by omega), hl]
theorem c_lless {n a b : Nat} {st : Store} {x y : D} {p q r s : Int} (hn : 1 ≤ n) (hx : Pr x p q) (hy : Pr y r s) (h1 : Bz a p) (h2 : Bz a q) (h3 : Bz b r) (h4 : Bz b s) (h9 : a + b < 1000) :
    callE (F n) .frz 29 [.d x, .d y] st = ret (.d (.bl (decide (p * s < r * q)))) st := by
  obtain ⟨m, rfl⟩ := pred (n := n) (by omega)
  rw [call2 (fn := fd__law_l_less) rfl rfl]
  simp [fd__law_l_less, ir__law_l_less, hx.i0, hx.i1, hy.i0, hy.i1, mulB h1 h4 (by omega), mulB h3 h2 (by omega), cmp_lt]

theorem c_minus {n a b : Nat} {st : Store} {x y : D} {p q r s : Int} (hn : 2 ≤ n) (hx : Pr x p q) (hy : Pr y r s) (hq : 0 < q) (hs : 0 < s) (h1 : Bz a p) (h2 : Bz a q) (h3 : Bz b r) (h4 : Bz b s) (h9 : a + b < 1000) :
    callE (F n) .frz 6 [.d x, .d y] st = ret (.d (fr (Rat.divInt (p * s - r * q) (q * s)))) st := by
  obtain ⟨m, rfl⟩ := pred (n := n) (by omega)
  rw [call2 (fn := fd_minus) rfl rfl]
  have hl := fun st : Store => c_lowest (n := m) (st := st) (t := p * s - r * q) (b := q * s) (by omega) (Int.mul_pos hq hs) (h2.mul h4) (by omega)
  simp [fd_minus, ir_minus, hx.i0, hx.i1, hy.i0, hy.i1, exLen, mulB h1 h4 (by omega), mulB h3 h2 (by omega), mulB h2 h4 (by omega), subB, hl]
theorem c_lminus {n a b : Nat} {st : Store} {x y : D} {p q r s : Int} (hn : 3 ≤ n) (hx : Pr x p q) (hy : Pr y r s) (hq : 0 < q) (hs : 0 < s) (h1 : Bz a p) (h2 : Bz a q) (h3 : Bz b r) (h4 : Bz b s) (h9 : a + b < 900) :
    callE (F n) .frz 28 [.d x, .d y] st = ret (.d (fr (Rat.divInt (p * s - r * q) (q * s)))) st := by
  obtain ⟨m, rfl⟩ := pred (n := n) (by omega)
  rw [call2 (fn := fd__law_l_minus) rfl rfl]
  have hz : Bz b (-r) := by unfold Bz at *; omega
  have hl := fun st : Store => c_lplus (n := m) (st := st) (x := x) (y := .tup [.int (-r), .int s]) (by omega) hx (.inl rfl) hq hs h1 h2 hz h4 (by omega)
  have e : p * s + (-r) * q = p * s - r * q := by rw [Int.neg_mul]; omega
  rw [e] at hl
  simp [fd__law_l_minus, ir__law_l_minus, hy.i0, hy.i1, exLen, subB, tupf, dats, hl]
end EV

end
section
namespace EV
theorem denp (x : Rat) : (0 : Int) < (x.den : Int) := by have := x.den_pos; omega
theorem denz (x : Rat) : (x.den : Int) ≠ 0 := by have := denp x; omega
theorem add_dv (x y : Rat) : Rat.divInt (x.num * y.den + y.num * x.den) (x.den * y.den) = x + y := by
  rw [← Rat.divInt_add_divInt x.num y.num (denz x) (denz y), Rat.num_divInt_den, Rat.num_divInt_den]
theorem sub_dv (x y : Rat) : Rat.divInt (x.num * y.den - y.num * x.den) (x.den * y.den) = x - y := by
  rw [← Rat.divInt_sub_divInt x.num y.num (denz x) (denz y), Rat.num_divInt_den, Rat.num_divInt_den]
theorem mul_dv (x y : Rat) : Rat.divInt (x.num * y.num) (x.den * y.den) = x * y := by
  rw [← Rat.divInt_mul_divInt x.num y.num, Rat.num_divInt_den, Rat.num_divInt_den]
theorem div_dv (x y : Rat) : Rat.divInt (x.num * y.den) (x.den * y.num) = x / y := by
  rw [← Rat.divInt_mul_divInt x.num y.den, Rat.num_divInt_den]
  rw [Rat.divInt_eq_div (y.den : Int) y.num]
  conv => rhs; rw [← Rat.num_divInt_den y, Rat.divInt_eq_div]
  have := denz y
  rw [Rat.div_def, Rat.div_def, Rat.div_def, Rat.inv_mul_rev, Rat.inv_inv]
  done
theorem B.add {a b : Nat} {x y : Rat} (h : B a x) (l : B b y) : B (a + b + 1) (x + y) := by
  rw [← add_dv]
  refine B_div (Int.mul_pos (denp x) (denp y)) ?_ ((h.d.mul l.d).mono (by omega))
  exact ((h.n.mul l.d).add (l.n.mul h.d)).mono (by omega)
theorem B.sub {a b : Nat} {x y : Rat} (h : B a x) (l : B b y) : B (a + b + 1) (x - y) := by
  rw [← sub_dv]
  refine B_div (Int.mul_pos (denp x) (denp y)) ?_ ((h.d.mul l.d).mono (by omega))
  exact ((h.n.mul l.d).sub (l.n.mul h.d)).mono (by omega)
theorem B.mul {a b : Nat} {x y : Rat} (h : B a x) (l : B b y) : B (a + b) (x * y) := by
  rw [← mul_dv]
  exact B_div (Int.mul_pos (denp x) (denp y)) (h.n.mul l.n) (h.d.mul l.d)
theorem num_pos {x : Rat} (h : 0 < x) : 0 < x.num := by
  have := (Rat.lt_iff 0 x).mp h
  simpa using this
theorem B.div {a b : Nat} {x y : Rat} (hy : 0 < y) (h : B a x) (l : B b y) : B (a + b) (x / y) := by
  rw [← div_dv]
  exact B_div (Int.mul_pos (denp x) (num_pos hy)) (h.n.mul l.d) (h.d.mul l.n)
theorem B.int {k : Nat} {i : Int} (h : Bz k i) (h0 : 0 < k) : B k (i : Rat) := ⟨by rw [Rat.num_intCast]; exact h, by
  rw [Rat.den_intCast]
  unfold Bz
  have := Nat.one_lt_two_pow (n := k) (by omega)
  omega⟩
theorem fr_int (i : Int) : fr (i : Rat) = .tup [.int i, .int 1] := rfl
section
variable {n a b : Nat} {st : Store} {x y : Rat}
theorem r_plus (hn : 2 ≤ n) (h1 : B a x) (h2 : B b y) (h9 : a + b < 1000) : callE (F n) .frz 5 [.d (fr x), .d (fr y)] st = ret (.d (fr (x + y))) st := by
  rw [c_plus hn (fr_Pr x) (fr_Pr y) (denp x) (denp y) h1.n h1.d h2.n h2.d (by omega), add_dv]
theorem r_lplus (hn : 2 ≤ n) (h1 : B a x) (h2 : B b y) (h9 : a + b < 1000) : callE (F n) .frz 25 [.d (fr x), .d (fr y)] st = ret (.d (fr (x + y))) st := by
  rw [c_lplus hn (fr_Pr x) (fr_Pr y) (denp x) (denp y) h1.n h1.d h2.n h2.d (by omega), add_dv]
theorem r_times (hn : 2 ≤ n) (h1 : B a x) (h2 : B b y) (h9 : a + b < 1000) : callE (F n) .frz 7 [.d (fr x), .d (fr y)] st = ret (.d (fr (x * y))) st := by
  rw [c_times hn (fr_Pr x) (fr_Pr y) (denp x) (denp y) h1.n h1.d h2.n h2.d (by omega), mul_dv]
theorem r_ltimes (hn : 2 ≤ n) (h1 : B a x) (h2 : B b y) (h9 : a + b < 1000) : callE (F n) .frz 26 [.d (fr x), .d (fr y)] st = ret (.d (fr (x * y))) st := by
  rw [c_ltimes hn (fr_Pr x) (fr_Pr y) (denp x) (denp y) h1.n h1.d h2.n h2.d (by omega), mul_dv]
theorem r_over (hn : 2 ≤ n) (h1 : B a x) (h2 : B b y) (hy : 0 < y) (h9 : a + b < 1000) : callE (F n) .frz 8 [.d (fr x), .d (fr y)] st = ret (.d (fr (x / y))) st := by
  rw [c_over hn (fr_Pr x) (fr_Pr y) (denp x) (num_pos hy) h1.n h1.d h2.n h2.d (by omega), div_dv]
theorem r_lover (hn : 2 ≤ n) (h1 : B a x) (h2 : B b y) (hy : 0 < y) (h9 : a + b < 1000) : callE (F n) .frz 27 [.d (fr x), .d (fr y)] st = ret (.d (fr (x / y))) st := by
  rw [c_lover hn (fr_Pr x) (fr_Pr y) (denp x) (num_pos hy) h1.n h1.d h2.n h2.d (by omega), div_dv]
theorem r_less (hn : 1 ≤ n) (h1 : B a x) (h2 : B b y) (h9 : a + b < 1000) : callE (F n) .frz 9 [.d (fr x), .d (fr y)] st = ret (.d (.bl (decide (x < y)))) st := by
  rw [c_less hn (fr_Pr x) (fr_Pr y) h1.n h1.d h2.n h2.d (by omega)]
  congr 3
  exact decide_eq_decide.mpr (Rat.lt_iff x y).symm
theorem r_lless (hn : 1 ≤ n) (h1 : B a x) (h2 : B b y) (h9 : a + b < 1000) : callE (F n) .frz 29 [.d (fr x), .d (fr y)] st = ret (.d (.bl (decide (x < y)))) st := by
  rw [c_lless hn (fr_Pr x) (fr_Pr y) h1.n h1.d h2.n h2.d (by omega)]
  congr 3
  exact decide_eq_decide.mpr (Rat.lt_iff x y).symm
theorem i0 (st : Store) : ixD st (.d (fr x)) (.int 0) = some (.d (.int x.num)) := (fr_Pr x).i0 st
theorem i1 (st : Store) : ixD st (.d (fr x)) (.int 1) = some (.d (.int x.den)) := (fr_Pr x).i1 st
theorem r_minus (hn : 2 ≤ n) (h1 : B a x) (h2 : B b y) (h9 : a + b < 900) : callE (F n) .frz 6 [.d (fr x), .d (fr y)] st = ret (.d (fr (x - y))) st := by
  rw [c_minus hn (fr_Pr x) (fr_Pr y) (denp x) (denp y) h1.n h1.d h2.n h2.d (by omega), sub_dv]
theorem r_lminus (hn : 3 ≤ n) (h1 : B a x) (h2 : B b y) (h9 : a + b < 900) : callE (F n) .frz 28 [.d (fr x), .d (fr y)] st = ret (.d (fr (x - y))) st := by
  rw [c_lminus hn (fr_Pr x) (fr_Pr y) (denp x) (denp y) h1.n h1.d h2.n h2.d h9, sub_dv]
end
end EV

end
section
namespace EV
def okF (d : D) : Prop := isStrm d = false ∧ (∀ x ∈ itemsD d, isStrm x = false) ∧ (itemsD d).length < 1000
def isFr (d : D) : Bool := isSeq d && (match itemsD d with
  | [.int _, .int q] => decide (1 ≤ q)
  | _ => false)
theorem Pr.seq {d : D} {p q : Int} (h : Pr d p q) : isSeq d = true := by rcases h with rfl | rfl <;> rfl
theorem Pr.items {d : D} {p q : Int} (h : Pr d p q) : itemsD d = [.int p, .int q] := by rcases h with rfl | rfl <;> rfl
theorem Pr.ok {d : D} {p q : Int} (h : Pr d p q) : okF d := by
  refine ⟨by rcases h with rfl | rfl <;> rfl, ?_, ?_⟩ <;> rw [h.items]
  · intro x hx
    simp at hx
    rcases hx with rfl | rfl <;> rfl
  · simp
theorem Pr.fr {d : D} {p q : Int} (h : Pr d p q) (hq : 0 < q) : isFr d = true := by
  unfold isFr
  rw [h.seq, h.items]
  simp; omega
theorem Pr.non {d : D} {p q : Int} (h : Pr d p q) : isNon d = false := by rcases h with rfl | rfl <;> rfl
theorem isFr_Pr {d : D} (h : isFr d = true) : ∃ p q, Pr d p q ∧ 0 < q := by
  unfold isFr at h
  cases d <;> simp only [isSeq, Bool.false_and, Bool.false_eq_true] at h
  all_goals
    rename_i xs
    simp only [itemsD, Bool.true_and] at h
    split at h
    · rename_i p q
      rw [decide_eq_true_eq] at h
      first | exact ⟨p, q, .inl rfl, by omega⟩ | exact ⟨p, q, .inr rfl, by omega⟩
    · cases h
theorem decZ (i : Nat) (j : Nat) : decide ((i : Int) = (j : Int)) = decide (i = j) := by
  by_cases h : i = j
  · subst h; simp
  · have : ¬ (i : Int) = j := by omega
    rw [decide_eq_false h, decide_eq_false this]
theorem ix1 {d : D} {x y : D} {st : Store} (hs : isSeq d = true) (h : itemsD d = [x, y]) : ixD st (.d d) (.int 1) = some (.d y) := by
  cases d <;> simp only [isSeq, Bool.false_eq_true] at hs
  all_goals (simp only [itemsD] at h; subst h; rfl)
theorem c_isfr {n : Nat} {st : Store} {d : D} (hn : 2 ≤ n) (h : okF d) : callE (F n) .frz 3 [.d d] st = ret (.d (.bl (isFr d))) st := by
  obtain ⟨m, rfl⟩ := pred (n := n) (by omega)
  rw [call1 (fn := fd_is_fraction) rfl rfl]
  obtain ⟨h1, h2, h3⟩ := h
  have hl := c_list (n := m) (st := []) h1 (by omega)
  cases hs : isSeq d with
  | false => simp [fd_is_fraction, ir_is_fraction, exLen, hl, hs, isFr]
  | true =>
    have hlc := lc_map (F := F m) (own := [1]) (tg := .nm 1) (it := .v 0) (x := .call .frz 1 (.cons (.v 1) .nil)) (e := [some (.d d), none]) (st := []) (itemsD d) (fun x => .d x) (fun x => .bl (isInt x)) (w := .d d) (by simp) (its_seq hs)
      (fun x hx => ⟨_, rfl, by simp [wipeE, exLen, c_int (n := m) (h2 x hx) (by omega)]⟩) (by omega)
    have hlen := len_seq (st := []) hs
    simp [fd_is_fraction, ir_is_fraction, exLen, hl, hs, hlen, eq_int, hlc, all_lc]
    by_cases h2' : (itemsD d).length = 2
    · match e : itemsD d, h2' with
      | [x, y], _ =>
        have hi := ix1 (st := []) hs e
        simp only [List.all_cons, List.all_nil, Bool.and_true, isFr, hs, e, Bool.true_and]
        cases x <;> cases y <;> simp [isInt, hi, cmp_ge]
    · have : ¬ ((itemsD d).length : Int) = 2 := by omega
      simp [this, isFr, hs]
      split
      · rename_i e; rw [e] at h2'; simp at h2'
      · rfl
/-! clocks -/
def items4 (d : D) (xs : List D) : Prop := d = .tup xs ∨ d = .lst xs
theorem items4.seq {d : D} {xs : List D} (h : items4 d xs) : isSeq d = true := by rcases h with rfl | rfl <;> rfl
theorem items4.its {d : D} {xs : List D} (h : items4 d xs) : itemsD d = xs := by rcases h with rfl | rfl <;> rfl
theorem items4.strm {d : D} {xs : List D} (h : items4 d xs) : isStrm d = false := by rcases h with rfl | rfl <;> rfl
def lcA : Ex := .lc false [5] (.nm 5) (.sl (.v 0) .nil (.c (.int 3))) (.c (.bl true)) (.call .frz 3 (.cons (.v 5) .nil))
theorem sl3 {d : D} {xs : List D} {st : Store} (h : items4 d xs) : ∃ e, slf (.d d) (.its []) (fun st => ret (.d (.int 3)) st) st = ret (.d e) st ∧ itsOf (.d e) = some ((xs.take 3).map .d) := by
  rcases h with rfl | rfl
  · refine ⟨.tup (cut xs none (some 3)), rfl, ?_⟩
    simp only [itsOf, cut, sIx]
    simp
  · refine ⟨.lst (cut xs none (some 3)), rfl, ?_⟩
    simp only [itsOf, cut, sIx]
    simp
theorem lcA_is {m : Nat} {d : D} {xs : List D} (hm : 2 ≤ m) (h : items4 d xs) (ho : ∀ x ∈ xs.take 3, okF x) : evE (F m) lcA [some (.d d), none, none, none, none, none] [] = ret (.d (.lst ((xs.take 3).map fun x => .bl (isFr x)))) [] := by
  obtain ⟨e, h1, h2⟩ := sl3 (st := []) h
  refine lc_map (xs.take 3) (fun x => .d x) (fun x => .bl (isFr x)) (w := .d e) ?_ h2 (fun x hx => ⟨_, rfl, ?_⟩) ?_
  · simp only [ev_sl, ev_v, envGet_0, Option.map_some, rdV_d, lift_some, bnd_ret, ev_nil, ev_c]
    exact h1
  · simp [wipeE, exLen, c_isfr (n := m) hm (ho x hx)]
  · simp; omega
theorem lcA_all {m : Nat} {d : D} {xs : List D} (hm : 2 ≤ m) (h : items4 d xs) (ho : ∀ x ∈ xs.take 3, okF x) : ∃ l, evE (F m) lcA [some (.d d), none, none, none, none, none] [] = ret (.d (.lst l)) [] ∧ ∀ st, biE .all [.d (.lst l)] st = ret (.d (.bl ((xs.take 3).all isFr))) st :=
  ⟨_, lcA_is hm h ho, fun st => all_lc _ _⟩
/-- refused: no such list -/
theorem clk_x1 {n : Nat} {st : Store} {d : D} (hn : 3 ≤ n) (hs : isStrm d = false) (h : isSeq d = false ∨ ∃ xs, items4 d xs ∧ (xs.length ≠ 4 ∨ (∀ x ∈ xs.take 3, okF x) ∧ (xs.take 3).all isFr = false)) : callE (F n) .frz 12 [.d d] st = .ok (.x 1 [d] st) := by
  obtain ⟨m, rfl⟩ := pred (n := n) (by omega)
  rw [call1 (fn := fd_checked_clocks) rfl rfl]
  have hl := c_list (n := m) (st := []) hs (by omega)
  rcases h with h | ⟨xs, hi, h⟩
  · simp [fd_checked_clocks, ir_checked_clocks, exLen, hl, h, raisef, dats]
  · have hlen := len_seq (st := []) hi.seq
    rw [hi.its] at hlen
    by_cases h4 : xs.length = 4
    · rcases h with h | ⟨ho, h⟩
      · exact absurd h4 h
      · obtain ⟨l, hlc, hal⟩ := lcA_all (m := m) (by omega) hi ho
        have e4 : decide ((xs.length : Int) = 4) = true := by rw [h4]; rfl
        unfold lcA at hlc
        simp [fd_checked_clocks, ir_checked_clocks, exLen, hl, hi.seq, hlen, ne_int, e4, hlc, hal, h, raisef, dats]
    · have e4 : decide ((xs.length : Int) = 4) = false := by simp; omega
      simp [fd_checked_clocks, ir_checked_clocks, exLen, hl, hi.seq, hlen, ne_int, e4, raisef, dats]
end EV

end
section
namespace EV
theorem set4 {d l h a b : D} {e1 e2 e3 e4 e5 : Option Vl} {st : Store} (hi : items4 d [l, h, a, b]) : setf (.tp (.cons (.nm 1) (.cons (.nm 2) (.cons (.nm 3) (.cons (.nm 4) .nil))))) [some (.d d), e1, e2, e3, e4, e5] (.d d) st = .ok (.nx [some (.d d), some (.d l), some (.d h), some (.d a), some (.d b), e5] st) := by
  rcases hi with rfl | rfl <;> rfl
/-- three fractions, and something -/
structure C4 (k : Nat) (d l h a b : D) (p1 q1 p2 q2 p3 q3 : Int) : Prop where
  i : items4 d [l, h, a, b]
  l : Pr l p1 q1
  h : Pr h p2 q2
  a : Pr a p3 q3
  o1 : 0 < q1
  o2 : 0 < q2
  o3 : 0 < q3
  b1 : Bz k p1
  c1 : Bz k q1
  b2 : Bz k p2
  c2 : Bz k q2
  b3 : Bz k p3
  c3 : Bz k q3
  k : k ≤ 400
theorem C4.all {k : Nat} {d l h a b : D} {p1 q1 p2 q2 p3 q3 : Int} (C : C4 k d l h a b p1 q1 p2 q2 p3 q3) {m : Nat} (hm : 2 ≤ m) : ∃ L, evE (F m) lcA [some (.d d), none, none, none, none, none] [] = ret (.d (.lst L)) [] ∧ ∀ st, biE .all [.d (.lst L)] st = ret (.d (.bl true)) st := by
  obtain ⟨L, h1, h2⟩ := lcA_all (m := m) hm C.i fun x hx => by
    simp at hx
    rcases hx with rfl | rfl | rfl
    · exact C.l.ok
    · exact C.h.ok
    · exact C.a.ok
  refine ⟨L, h1, fun st => ?_⟩
  rw [h2]
  simp [C.l.fr C.o1, C.h.fr C.o2, C.a.fr C.o3]
/-- what stands behind the first two looks -/
def clkTail : St := match ir_checked_clocks with
  | .seq _ (.seq _ (.seq _ r)) => r
  | _ => .nope
def clkE (d l h a b : D) : Env := [some (.d d), some (.d l), some (.d h), some (.d a), some (.d b), none]
theorem clk_2 {n k : Nat} {st : Store} {d l h a b : D} {p1 q1 p2 q2 p3 q3 : Int} (C : C4 k d l h a b p1 q1 p2 q2 p3 q3) (hn : 3 ≤ n) :
    callE (F (n + 1)) .frz 12 [.d d] st = if p1 < 1 ∨ p2 * q1 < p1 * q2 ∨ p3 < 0 then .ok (.x 1 [d] st) else R.bind (evS (F n) clkTail (clkE d l h a b) []) (finF st) := by
  rw [call1 (fn := fd_checked_clocks) rfl rfl]
  have hl := c_list (n := n) (st := []) C.i.strm (by omega)
  have hlen := len_seq (st := []) C.i.seq
  rw [C.i.its] at hlen
  obtain ⟨L, h1, h2⟩ := C.all (m := n) (by omega)
  unfold lcA at h1
  have hk := C.k
  have hles := fun st : Store => c_less (n := n) (st := st) (by omega) C.h C.l C.b2 C.c2 C.b1 C.c1 (by omega)
  simp [fd_checked_clocks, ir_checked_clocks, exLen, hl, C.i.seq, hlen, ne_int, h1, h2, set4 C.i, C.l.i0, C.a.i0, cmp_lt, hles]
  by_cases c1 : p1 < 1
  · simp [c1, raisef, dats]
  · by_cases c2 : p2 * q1 < p1 * q2
    · simp [c1, c2, raisef, dats]
    · by_cases c3 : p3 < 0
      · simp [c1, c2, c3, raisef, dats]
      · simp [c1, c2, c3, clkTail, ir_checked_clocks, clkE, exLen]
theorem clk_3 {n : Nat} {st : Store} {d l h a b : D} (h1 : isNon b = false) (hb : okF b) (h2 : isFr b = false) (hn : 2 ≤ n) : R.bind (evS (F n) clkTail (clkE d l h a b) []) (finF st) = .ok (.x 1 [d] st) := by
  have hf := c_isfr (n := n) (st := []) hn hb
  have hne : cmpD .notN b .non = some true := by show some (!isNon b) = _; rw [h1]; rfl
  simp [clkTail, ir_checked_clocks, clkE, hne, exLen, hf, h2, raisef, dats]
def lcB : Ex := .lc false [5] (.nm 5) (.v 0) (.c (.bl true)) (.ite (.cmp .isN (.v 5) (.c .non)) (.c .non) (.call .frz 4 (.cons (.ix (.v 5) (.c (.int 0))) (.cons (.ix (.v 5) (.c (.int 1))) .nil))))
/-- a part as it is kept -/
def kp (k : Nat) (x y : D) : Prop := (x = .non ∧ y = .non) ∨ ∃ p q, Pr x p q ∧ 0 < q ∧ Bz k q ∧ y = fr (Rat.divInt p q)
theorem lcB_step {m k : Nat} {x y d l h a b : D} (hm : 1 ≤ m) (hk : k ≤ 400) (q : kp k x y) : evE (F m) (.ite (.cmp .isN (.v 5) (.c .non)) (.c .non) (.call .frz 4 (.cons (.ix (.v 5) (.c (.int 0))) (.cons (.ix (.v 5) (.c (.int 1))) .nil)))) [some (.d d), some (.d l), some (.d h), some (.d a), some (.d b), some (.d x)] [] = ret (.d y) [] := by
  rcases q with ⟨rfl, rfl⟩ | ⟨p, q, hp, hq, hb, rfl⟩
  · have : cmpD .isN .non .non = some true := rfl
    simp [this]
  · have : cmpD .isN x .non = some false := by show some (isNon x) = _; rw [hp.non]
    have hl := fun st : Store => c_lowest (n := m) (st := st) (t := p) (b := q) hm hq hb (by omega)
    simp [this, hp.i0, hp.i1, exLen, hl]
theorem clk_ok {n k : Nat} {st : Store} {d l h a b l' h' a' b' : D} (hi : items4 d [l, h, a, b]) (hn : 2 ≤ n) (hk : k ≤ 400) (k1 : kp k l l') (k2 : kp k h h') (k3 : kp k a a') (k4 : kp k b b')
    (hb : evS (F n) (match clkTail with
      | .seq s _ => s
      | _ => .nope) (clkE d l h a b) [] = .ok (.nx (clkE d l h a b) [])) : R.bind (evS (F n) clkTail (clkE d l h a b) []) (finF st) = ret (.d (.tup [l', h', a', b'])) st := by
  have hlc := lc_map (F := F n) (own := [5]) (tg := .nm 5) (it := .v 0) (x := .ite (.cmp .isN (.v 5) (.c .non)) (.c .non) (.call .frz 4 (.cons (.ix (.v 5) (.c (.int 0))) (.cons (.ix (.v 5) (.c (.int 1))) .nil)))) (e := clkE d l h a b) (st := []) [(l, l'), (h, h'), (a, a'), (b, b')] (fun x => .d x.1) (fun x => x.2) (w := .d d) (by simp [clkE]) (by rw [its_seq hi.seq, hi.its]; rfl)
    (fun x hx => ⟨_, rfl, by
      simp at hx
      rcases hx with rfl | rfl | rfl | rfl
      · exact lcB_step (by omega) hk k1
      · exact lcB_step (by omega) hk k2
      · exact lcB_step (by omega) hk k3
      · exact lcB_step (by omega) hk k4⟩) (by simp)
  have ht : ∀ l : List D, biE .tuple [.d (.lst l)] [] = ret (.d (.tup l)) [] := fun l => by
    show lift (((seqOf [] (.d (.lst l))).bind dats).map _) _ = _
    simp only [seqOf, lstOf, Option.bind_some, dats_map]
    rfl
  simp only [clkTail, ir_checked_clocks] at hb ⊢
  rw [es_seq, hb, R_bind_ok, thn_nx, es_seq, es_ret, ev_bi, ev_cons, hlc]
  simp [ht, clkE]
theorem clk_b0 {n : Nat} {d l h a : D} : evS (F n) (match clkTail with
      | .seq s _ => s
      | _ => .nope) (clkE d l h a .non) [] = .ok (.nx (clkE d l h a .non) []) := by
  have hne : cmpD .notN .non .non = some false := rfl
  simp [clkTail, ir_checked_clocks, clkE, hne]
theorem clk_b1 {n k : Nat} {d l h a b : D} {p q r s : Int} (hn : 2 ≤ n) (ha : Pr a r s) (hb : Pr b p q) (hq : 0 < q) (b1 : Bz k p) (b2 : Bz k q) (b3 : Bz k r) (b4 : Bz k s) (hk : k ≤ 400) (hge : ¬ p * s < r * q) : evS (F n) (match clkTail with
      | .seq s _ => s
      | _ => .nope) (clkE d l h a b) [] = .ok (.nx (clkE d l h a b) []) := by
  have hne : cmpD .notN b .non = some true := by show some (!isNon b) = _; rw [hb.non]; rfl
  have hf := c_isfr (n := n) (st := []) hn hb.ok
  have hles := fun st : Store => c_less (n := n) (st := st) (by omega) hb ha b1 b2 b3 b4 (by omega)
  simp [clkTail, ir_checked_clocks, clkE, hne, exLen, hf, hb.fr hq, hles, hge]
theorem clk_x4 {n k : Nat} {st : Store} {d l h a b : D} {p q r s : Int} (hn : 2 ≤ n) (ha : Pr a r s) (hb : Pr b p q) (hq : 0 < q) (b1 : Bz k p) (b2 : Bz k q) (b3 : Bz k r) (b4 : Bz k s) (hk : k ≤ 400) (hge : p * s < r * q) : R.bind (evS (F n) clkTail (clkE d l h a b) []) (finF st) = .ok (.x 1 [d] st) := by
  have hne : cmpD .notN b .non = some true := by show some (!isNon b) = _; rw [hb.non]; rfl
  have hf := c_isfr (n := n) (st := []) hn hb.ok
  have hles := fun st : Store => c_less (n := n) (st := st) (by omega) hb ha b1 b2 b3 b4 (by omega)
  simp [clkTail, ir_checked_clocks, clkE, hne, exLen, hf, hb.fr hq, hles, hge, raisef, dats]
end EV

end
section
namespace EV
theorem dv_eq (p q : Int) : Rat.divInt p q = (p : Rat) / (q : Rat) := Rat.divInt_eq_div p q
theorem cast_pos {q : Int} (h : 0 < q) : (0 : Rat) < (q : Rat) := Rat.intCast_pos.mpr h
theorem dv_lt {p q r s : Int} (hq : 0 < q) (hs : 0 < s) : Rat.divInt p q < Rat.divInt r s ↔ p * s < r * q := by
  have hq' := cast_pos hq
  have hs' := cast_pos hs
  rw [dv_eq, dv_eq, Rat.div_lt_iff hq']
  have e : (r : Rat) / (s : Rat) * (q : Rat) = ((r : Rat) * (q : Rat)) / (s : Rat) := by grind
  rw [e, Rat.lt_div_iff hs', ← Rat.intCast_mul, ← Rat.intCast_mul]
  exact Rat.intCast_lt_intCast
theorem dv_le {p q r s : Int} (hq : 0 < q) (hs : 0 < s) : Rat.divInt p q ≤ Rat.divInt r s ↔ p * s ≤ r * q := by
  rw [← Rat.not_lt, dv_lt hs hq]
  omega
theorem dv_pos {p q : Int} (hq : 0 < q) : 0 < Rat.divInt p q ↔ 0 < p := by
  have := dv_lt (p := 0) (q := 1) (r := p) (s := q) (by decide) hq
  rw [Rat.zero_divInt] at this
  rw [this]
  omega
theorem dv_neg {p q : Int} (hq : 0 < q) : 0 ≤ Rat.divInt p q ↔ 0 ≤ p := by
  have := dv_le (p := 0) (q := 1) (r := p) (s := q) (by decide) hq
  rw [Rat.zero_divInt] at this
  rw [this]
  omega
/-- a pair that stands for a fraction -/
structure Fq (k : Nat) (d : D) (x : Rat) : Prop where
  out : ∃ p q, Pr d p q ∧ 0 < q ∧ Bz k p ∧ Bz k q ∧ x = Rat.divInt p q
theorem fr_Fq {k : Nat} {x : Rat} (h : B k x) : Fq k (fr x) x := ⟨_, _, fr_Pr x, denp x, h.n, h.d, rat_of x⟩
def wD : Option Rat → D
  | none => .non
  | some w => fr w
def ck (x y z : Rat) (w : Option Rat) : D := .tup [fr x, fr y, fr z, wD w]
/-- right clocks -/
structure Cl (k : Nat) (x y z : Rat) (w : Option Rat) : Prop where
  x0 : 0 < x
  xy : x ≤ y
  z0 : 0 ≤ z
  zw : ∀ v, w = some v → z ≤ v
  bx : B k x
  by' : B k y
  bz : B k z
  bw : ∀ v, w = some v → B k v
theorem Cl.y0 {k : Nat} {x y z : Rat} {w : Option Rat} (C : Cl k x y z w) : 0 < y := by
  have h1 := C.x0
  have h2 := C.xy
  grind
section
variable {n k : Nat} {st : Store} {x y z : Rat} {w : Option Rat}
theorem ck0 : ixD st (.d (ck x y z w)) (.int 0) = some (.d (fr x)) := rfl
theorem ck1 : ixD st (.d (ck x y z w)) (.int 1) = some (.d (fr y)) := rfl
theorem ck2 : ixD st (.d (ck x y z w)) (.int 2) = some (.d (fr z)) := rfl
theorem ck3 : ixD st (.d (ck x y z w)) (.int 3) = some (.d (wD w)) := rfl
theorem c_ck {d l h a b : D} (hi : items4 d [l, h, a, b]) (h1 : Fq k l x) (h2 : Fq k h y) (h3 : Fq k a z) (h4 : (b = .non ∧ w = none) ∨ ∃ v, Fq k b v ∧ w = some v) (x0 : 0 < x) (xy : x ≤ y) (z0 : 0 ≤ z) (zw : ∀ v, w = some v → z ≤ v) (hk : k ≤ 400) (hn : 4 ≤ n) :
    callE (F n) .frz 12 [.d d] st = ret (.d (ck x y z w)) st := by
  obtain ⟨n, rfl⟩ := pred (n := n) (by omega)
  obtain ⟨p1, q1, l1, l2, l3, l4, l5⟩ := h1.out
  obtain ⟨p2, q2, m1, m2, m3, m4, m5⟩ := h2.out
  obtain ⟨p3, q3, n1, n2, n3, n4, n5⟩ := h3.out
  rw [clk_2 (k := k) ⟨hi, l1, m1, n1, l2, m2, n2, l3, l4, m3, m4, n3, n4, hk⟩ (by omega)]
  subst l5 m5 n5
  rw [dv_pos l2] at x0
  rw [dv_le l2 m2] at xy
  rw [dv_neg n2] at z0
  rw [if_neg (by omega)]
  rcases h4 with ⟨rfl, rfl⟩ | ⟨v, h4, rfl⟩
  · exact clk_ok hi (by omega) hk (.inr ⟨p1, q1, l1, l2, l4, rfl⟩) (.inr ⟨p2, q2, m1, m2, m4, rfl⟩) (.inr ⟨p3, q3, n1, n2, n4, rfl⟩) (.inl ⟨rfl, rfl⟩) clk_b0
  · obtain ⟨p4, q4, o1, o2, o3, o4, o5⟩ := h4.out
    subst o5
    have zw := zw _ rfl
    rw [dv_le n2 o2] at zw
    exact clk_ok hi (by omega) hk (.inr ⟨p1, q1, l1, l2, l4, rfl⟩) (.inr ⟨p2, q2, m1, m2, m4, rfl⟩) (.inr ⟨p3, q3, n1, n2, n4, rfl⟩) (.inr ⟨p4, q4, o1, o2, o4, rfl⟩) (clk_b1 (by omega) n1 o1 o2 o3 o4 n3 n4 hk (by omega))
theorem Cl.c (C : Cl k x y z w) (hk : k ≤ 400) (hn : 4 ≤ n) : callE (F n) .frz 12 [.d (ck x y z w)] st = ret (.d (ck x y z w)) st := by
  refine c_ck (.inl rfl) (fr_Fq C.bx) (fr_Fq C.by') (fr_Fq C.bz) ?_ C.x0 C.xy C.z0 C.zw hk hn
  cases w with
  | none => exact .inl ⟨rfl, rfl⟩
  | some v => exact .inr ⟨v, fr_Fq (C.bw v rfl), rfl⟩
theorem c_len {i : Int} (h : 1 ≤ i) (hn : 2 ≤ n) : callE (F n) .frz 13 [.d (.int i)] st = ret (.d .non) st := by
  obtain ⟨m, rfl⟩ := pred (n := n) (by omega)
  rw [call1 (fn := fd_checked_length) rfl rfl]
  have hi := fun st : Store => c_int (n := m) (st := st) (d := .int i) rfl (by omega)
  have : decide (i < 1) = false := by simp; omega
  simp [fd_checked_length, ir_checked_length, exLen, hi, isInt, cmp_lt, this, finF]
theorem c_len_x {d : D} (hs : isStrm d = false) (h : ∀ i, d = .int i → i < 1) (hn : 2 ≤ n) : callE (F n) .frz 13 [.d d] st = .ok (.x 2 [d] st) := by
  obtain ⟨m, rfl⟩ := pred (n := n) (by omega)
  rw [call1 (fn := fd_checked_length) rfl rfl]
  have hi := fun st : Store => c_int (n := m) (st := st) hs (by omega)
  cases hd : isInt d with
  | false => simp [fd_checked_length, ir_checked_length, exLen, hi, hd, raisef, dats]
  | true =>
    cases d <;> simp only [isInt, Bool.false_eq_true] at hd
    rename_i i
    have : decide (i < 1) = true := by simp; exact h i rfl
    simp [fd_checked_length, ir_checked_length, exLen, hi, isInt, cmp_lt, this, raisef, dats]
def spanR (x y z : Rat) (len : Int) : Rat := x * (z + (len : Rat) / y)
theorem B_lenOver {len : Int} (C : Cl k x y z w) (hl : Bz k len) (h0 : 0 < k) : B (k + k) ((len : Rat) / y) := (B.int hl h0).div C.y0 C.by'
theorem B_span {len : Int} (C : Cl k x y z w) (hl : Bz k len) (h0 : 0 < k) : B (k + (k + (k + k) + 1)) (spanR x y z len) := C.bx.mul (C.bz.add (B_lenOver C hl h0))
theorem c_span_of {len : Int} (C : Cl k x y z w) (hl : Bz k len) (h0 : 0 < k) (hk : k ≤ 130) (hn : 3 ≤ n) : callE (F n) .frz 20 [.d (ck x y z w), .d (.int len)] st = ret (.d (fr (spanR x y z len))) st := by
  obtain ⟨m, rfl⟩ := pred (n := n) (by omega)
  rw [call2 (fn := fd_span_of) rfl rfl]
  have e1 := fun st : Store => r_over (n := m) (st := st) (by omega) (B.int hl h0) C.by' C.y0 (by omega)
  rw [fr_int] at e1
  have e2 := fun st : Store => r_plus (n := m) (st := st) (by omega) C.bz (B_lenOver C hl h0) (by omega)
  have e3 := fun st : Store => r_times (n := m) (st := st) (by omega) C.bx (C.bz.add (B_lenOver C hl h0)) (by omega)
  simp [fd_span_of, ir_span_of, exLen, ck0, ck1, ck2, tupf, dats, e1, e2, e3]
  rfl
theorem c_span_for {len : Int} (C : Cl k x y z w) (h1 : 1 ≤ len) (hl : Bz k len) (h0 : 0 < k) (hk : k ≤ 130) (hn : 5 ≤ n) : callE (F n) .frz 21 [.d (ck x y z w), .d (.int len)] st = ret (.d (fr (spanR x y z len))) st := by
  obtain ⟨m, rfl⟩ := pred (n := n) (by omega)
  rw [call2 (fn := fd_span_for) rfl rfl]
  have e1 := fun st : Store => C.c (n := m) (st := st) (by omega) (by omega)
  have e2 := fun st : Store => c_len (n := m) (st := st) h1 (by omega)
  have e3 := fun st : Store => c_span_of (n := m) (st := st) C hl h0 hk (by omega)
  simp [fd_span_for, ir_span_for, exLen, e1, e2, e3]
theorem c_lesser {a b : Nat} (hn : 2 ≤ n) (h1 : B a x) (h2 : B b y) (h9 : a + b < 1000) : callE (F n) .frz 10 [.d (fr x), .d (fr y)] st = ret (.d (fr (if x < y then x else y))) st := by
  obtain ⟨m, rfl⟩ := pred (n := n) (by omega)
  rw [call2 (fn := fd_lesser) rfl rfl]
  have e := fun st : Store => r_less (n := m) (st := st) (by omega) h1 h2 h9
  simp [fd_lesser, ir_lesser, exLen, e]
  split <;> simp
theorem c_greater {a b : Nat} (hn : 2 ≤ n) (h1 : B a x) (h2 : B b y) (h9 : a + b < 1000) : callE (F n) .frz 11 [.d (fr x), .d (fr y)] st = ret (.d (fr (if x < y then y else x))) st := by
  obtain ⟨m, rfl⟩ := pred (n := n) (by omega)
  rw [call2 (fn := fd_greater) rfl rfl]
  have e := fun st : Store => r_less (n := m) (st := st) (by omega) h1 h2 h9
  simp [fd_greater, ir_greater, exLen, e]
  split <;> simp
end
end EV

end
section
namespace EV
def lenR (x y z : Rat) (s : Int) : Rat := if 0 < y * ((s : Rat) / x - z) then y * ((s : Rat) / x - z) else 0
def lateR (y v : Rat) : Rat := 2 * (y * v)
def restR (x y z v : Rat) (len : Int) : Rat := spanR x y z len - lateR y v
def goneR (x z : Rat) (w : Option Rat) (s c : Int) : Rat := match w with
  | none => ((c - s : Int) : Rat) / x - z
  | some v => if ((c - s : Int) : Rat) / x - z < v then ((c - s : Int) : Rat) / x - z else v
def untilR (x y z : Rat) (w : Option Rat) (len s c : Int) : Rat := (c : Rat) + x * ((len : Rat) / y - goneR x z w s c)
theorem B2 : B 2 (2 : Rat) := ⟨by unfold Bz; decide, by unfold Bz; decide⟩
theorem fr_two : fr (2 : Rat) = .tup [.int 2, .int 1] := rfl
theorem fr_zero : fr (0 : Rat) = .tup [.int 0, .int 1] := rfl
theorem B0 : B 1 (0 : Rat) := ⟨by unfold Bz; decide, by unfold Bz; decide⟩
section
variable {n k : Nat} {st : Store} {x y z : Rat} {w : Option Rat}
theorem c_length_for {s : Int} {d : D} (C : Cl k x y z w) (hc : ∀ (m : Nat) (st : Store), 4 ≤ m → callE (F m) .frz 12 [.d d] st = ret (.d (ck x y z w)) st) (hs : 0 ≤ s) (hl : Bz k s) (h0 : 0 < k) (hk : k ≤ 120) (hn : 5 ≤ n) : callE (F n) .frz 22 [.d d, .d (.int s)] st = ret (.d (fr (lenR x y z s))) st := by
  obtain ⟨m, rfl⟩ := pred (n := n) (by omega)
  rw [call2 (fn := fd_length_for) rfl rfl]
  have e1 := fun st : Store => hc m st (by omega)
  have e2 := fun st : Store => c_num (n := m) (st := st) (d := .int s) rfl (by omega)
  have hb : isNum (.int s) = true := by simp [isNum, hs]
  have bs := B.int hl h0
  have e3 := fun st : Store => r_over (n := m) (st := st) (by omega) bs C.bx C.x0 (by omega)
  rw [fr_int] at e3
  have b3 := bs.div C.x0 C.bx
  have e4 := fun st : Store => r_minus (n := m) (st := st) (by omega) b3 C.bz (by omega)
  have b4 := b3.sub C.bz
  have e5 := fun st : Store => r_times (n := m) (st := st) (by omega) C.by' b4 (by omega)
  have b5 := C.by'.mul b4
  have e6 := fun st : Store => c_greater (n := m) (st := st) (by omega) B0 b5 (by omega)
  rw [fr_zero] at e6
  simp [fd_length_for, ir_length_for, exLen, e1, e2, hb, ck0, ck1, ck2, tupf, dats, e3, e4, e5, e6]
  rfl
theorem ne_none {v : Rat} : cmpD .isN (wD (some v)) .non = some false := rfl
theorem is_none : cmpD .isN (wD none) .non = some true := rfl
theorem c_longest {len lo : Int} (C : Cl k x y z w) (h1 : 1 ≤ len) (hl : Bz k len) (ho : 0 ≤ lo) (hb : Bz k (lo + 1)) (h0 : 0 < k) (hk : k ≤ 120) (hn : 5 ≤ n) : callE (F n) .frz 23 [.d (ck x y z w), .d (.int len), .d (.int lo)] st = ret (.d (match w with
    | none => .non
    | some v => if 0 < restR x y z v len then fr (restR x y z v len / ((lo + 1 : Int) : Rat)) else .non)) st := by
  obtain ⟨m, rfl⟩ := pred (n := n) (by omega)
  rw [call3 (fn := fd_longest_period) rfl rfl]
  have e1 := fun st : Store => C.c (n := m) (st := st) (by omega) (by omega)
  have e2 := fun st : Store => c_len (n := m) (st := st) h1 (by omega)
  have e3 := fun st : Store => c_num (n := m) (st := st) (d := .int lo) rfl (by omega)
  have hlo : isNum (.int lo) = true := by simp [isNum, ho]
  cases w with
  | none => simp [fd_longest_period, ir_longest_period, exLen, e1, e2, e3, hlo, ck3, is_none]
  | some v =>
    have bv := C.bw v rfl
    have e4 := fun st : Store => c_span_of (n := m) (st := st) C hl h0 (by omega) (by omega)
    have b4 := B_span C hl h0
    have e5 := fun st : Store => r_times (n := m) (st := st) (by omega) C.by' bv (by omega)
    have b5 := C.by'.mul bv
    have e6 := fun st : Store => r_times (n := m) (st := st) (by omega) B2 b5 (by omega)
    have b6 := B2.mul b5
    rw [fr_two] at e6
    have e7 := fun st : Store => r_minus (n := m) (st := st) (by omega) b4 b6 (by omega)
    have b7 := b4.sub b6
    have hp : (0 : Rat) < ((lo + 1 : Int) : Rat) := Rat.intCast_pos.mpr (by omega)
    have e8 := fun st : Store => r_over (n := m) (st := st) (by omega) b7 (B.int hb h0) hp (by omega)
    rw [fr_int] at e8
    have hi := fun st : Store => i0 (x := spanR x y z len - 2 * (y * v)) st
    have hd : decide ((0 : Int) < (spanR x y z len - 2 * (y * v)).num) = decide (0 < restR x y z v len) := by
      apply decide_eq_decide.mpr
      constructor
      · intro h
        have := (Rat.lt_iff 0 (spanR x y z len - 2 * (y * v))).mpr (by simpa using h)
        exact this
      · intro h
        exact num_pos h
    have hr : restR x y z v len = spanR x y z len - 2 * (y * v) := rfl
    simp only [fd_longest_period, ir_longest_period]
    simp [exLen, e1, e2, e3, hlo, ck1, ck3, wD, tupf, dats, e4, e5, e6, e7, hi, cmp_gt, hd, addB, e8]
    have hn2 : cmpD .isN (fr v) .non = some false := rfl
    simp [hn2, exLen, ck1, ck3, wD, tupf, dats, e4, e5, e6, e7, hi, cmp_gt, hd, addB, e8]
    rw [← hr]
    split <;> simp
end
end EV

end
section
namespace EV
section
variable {n k : Nat} {st : Store} {x y z : Rat} {w : Option Rat}
theorem B_back {s c : Int} (C : Cl k x y z w) (hb : Bz k (c - s)) (h0 : 0 < k) : B (k + k + k + 1) (((c - s : Int) : Rat) / x - z) := ((B.int hb h0).div C.x0 C.bx).sub C.bz
theorem B_gone {s c : Int} (C : Cl k x y z w) (hb : Bz k (c - s)) (h0 : 0 < k) : B (k + k + k + 1) (goneR x z w s c) := by
  unfold goneR
  cases w with
  | none => exact B_back C hb h0
  | some v =>
    dsimp only
    split
    · exact B_back C hb h0
    · exact (C.bw v rfl).mono (by omega)
theorem B_until {len s c : Int} (C : Cl k x y z w) (hl : Bz k len) (hc : Bz k c) (hb : Bz k (c - s)) (h0 : 0 < k) : B (k + (k + (k + k + (k + k + k + 1) + 1)) + 1) (untilR x y z w len s c) :=
  (B.int hc h0).add (C.bx.mul ((B_lenOver C hl h0).sub (B_gone C hb h0)))
def askD (s c : Int) : D := .tup [.int s, .int c]
theorem ask0 {s c : Int} : ixD st (.d (askD s c)) (.int 0) = some (.d (.int s)) := rfl
theorem ask1 {s c : Int} : ixD st (.d (askD s c)) (.int 1) = some (.d (.int c)) := rfl
theorem set4c {i0 i1 i2 i3 : Nat} {e : Env} : setf (.tp (.cons (.nm i0) (.cons (.nm i1) (.cons (.nm i2) (.cons (.nm i3) .nil))))) e (.d (ck x y z w)) st = .ok (.nx ((((e.set i0 (some (.d (fr x)))).set i1 (some (.d (fr y)))).set i2 (some (.d (fr z)))).set i3 (some (.d (wD w)))) st) := rfl
theorem c_until {len s c : Int} (C : Cl k x y z w) (hl : Bz k len) (hc : Bz k c) (hb : Bz k (c - s)) (h0 : 0 < k) (hk : k ≤ 120) (hn : 4 ≤ n) : callE (F n) .frz 17 [.d (ck x y z w), .d (.int len), .d (askD s c)] st = ret (.d (fr (untilR x y z w len s c))) st := by
  obtain ⟨m, rfl⟩ := pred (n := n) (by omega)
  rw [call3 (fn := fd_until) rfl rfl]
  have b1 := (B.int hb h0).div C.x0 C.bx
  have e1 := fun st : Store => r_over (n := m) (st := st) (by omega) (B.int hb h0) C.bx C.x0 (by omega)
  rw [fr_int] at e1
  have e2 := fun st : Store => r_minus (n := m) (st := st) (by omega) b1 C.bz (by omega)
  have b2 := B_back C hb h0
  have e3 := fun st : Store => r_over (n := m) (st := st) (by omega) (B.int hl h0) C.by' C.y0 (by omega)
  rw [fr_int] at e3
  have b3 := B_lenOver C hl h0
  have bg := B_gone C hb h0
  have e4 := fun st : Store => r_minus (n := m) (st := st) (by omega) b3 bg (by omega)
  have b4 := b3.sub bg
  have e5 := fun st : Store => r_times (n := m) (st := st) (by omega) C.bx b4 (by omega)
  have b5 := C.bx.mul b4
  have e6 := fun st : Store => r_plus (n := m) (st := st) (by omega) (B.int hc h0) b5 (by omega)
  rw [fr_int] at e6
  have hu : untilR x y z w len s c = (c : Rat) + x * ((len : Rat) / y - goneR x z w s c) := rfl
  cases w with
  | none =>
    have hg : goneR x z none s c = ((c - s : Int) : Rat) / x - z := rfl
    rw [hg] at e4 e5 e6 hu
    rw [hu]
    simp [-Rat.intCast_sub, fd_until, ir_until, set4c, ask0, ask1, exLen, tupf, dats, subB, e1, e2, e3, e4, e5, e6, is_none]
  | some v =>
    have e7 := fun st : Store => c_lesser (n := m) (st := st) (by omega) b2 (C.bw v rfl) (by omega)
    have hg : goneR x z (some v) s c = if ((c - s : Int) : Rat) / x - z < v then ((c - s : Int) : Rat) / x - z else v := rfl
    rw [← hg] at e7
    rw [hu]
    have hv : wD (some v) = fr v := rfl
    simp [-Rat.intCast_sub, fd_until, ir_until, set4c, ask0, ask1, exLen, tupf, dats, subB, e1, e2, e3, ne_none]
    rw [hv]
    simp [-Rat.intCast_sub, exLen, tupf, dats, ask1, e3, e7, e4, e5, e6]
/-- the one ask is right -/
def askR (x z : Rat) (s c : Int) : Bool := decide (s ≤ c) && !decide (((c - s : Int) : Rat) / x < 2 * z)
theorem ask_seq {s c : Int} : isSeq (askD s c) = true := rfl
theorem c_is_ask {s c : Int} (C : Cl k x y z w) (hb : Bz k (c - s)) (h0 : 0 < k) (hk : k ≤ 120) (hn : 3 ≤ n) : callE (F n) .frz 14 [.d (askD s c), .d (ck x y z w)] st = ret (.d (.bl (askR x z s c))) st := by
  obtain ⟨m, rfl⟩ := pred (n := n) (by omega)
  rw [call2 (fn := fd_is_ask) rfl rfl]
  have hl := fun st : Store => c_list (n := m) (st := st) (d := askD s c) rfl (by omega)
  have hlen := fun st : Store => len_seq (d := askD s c) (st := st) rfl
  have hlc := lc_map (F := F m) (own := [3]) (tg := .nm 3) (it := .v 0) (x := .call .frz 1 (.cons (.v 3) .nil)) (e := [some (.d (askD s c)), some (.d (ck x y z w)), none, none]) (st := []) [D.int s, .int c] (fun x => .d x) (fun x => .bl true) (w := .d (askD s c)) (by simp) rfl
    (fun x hx => ⟨_, rfl, by
      have : isInt x = true ∧ isStrm x = false := by
        simp at hx
        rcases hx with rfl | rfl <;> exact ⟨rfl, rfl⟩
      simp [wipeE, exLen, c_int (n := m) this.2 (by omega), this.1]⟩) (by simp)
  have hall : biE .all [.d (.lst [.bl true, .bl true])] [] = ret (.d (.bl true)) [] := rfl
  have b1 := (B.int hb h0).div C.x0 C.bx
  have e1 := fun st : Store => r_over (n := m) (st := st) (by omega) (B.int hb h0) C.bx C.x0 (by omega)
  rw [fr_int] at e1
  have e2 := fun st : Store => r_times (n := m) (st := st) (by omega) B2 C.bz (by omega)
  rw [fr_two] at e2
  have e3 := fun st : Store => r_less (n := m) (st := st) (by omega) b1 (B2.mul C.bz) (by omega)
  have h2 : decide (((itemsD (askD s c)).length : Int) = 2) = true := rfl
  simp [-Rat.intCast_sub, fd_is_ask, ir_is_ask, exLen, hl, ask_seq, hlen, ne_int, h2, hlc, hall, ask0, ask1, subB, tupf, dats, ck0, ck2, e1, e2, e3, cmp_ge, askR]
  by_cases h : s ≤ c <;> simp [h]
theorem c_asks {s c : Int} (C : Cl k x y z w) (ha : askR x z s c = true) (hb : Bz k (c - s)) (h0 : 0 < k) (hk : k ≤ 120) (hn : 4 ≤ n) : callE (F n) .frz 15 [.d (.lst [askD s c]), .d (ck x y z w)] st = ret (.d (.lst [askD s c])) st := by
  obtain ⟨m, rfl⟩ := pred (n := n) (by omega)
  rw [call2 (fn := fd_checked_asks) rfl rfl]
  have hl := fun st : Store => c_list (n := m) (st := st) (d := .lst [askD s c]) rfl (by omega)
  have hlen : ∀ st : Store, biE .len [.d (.lst [askD s c])] st = ret (.d (.int 1)) st := fun _ => rfl
  have e1 := fun st : Store => c_is_ask (n := m) (st := st) C hb h0 hk (by omega)
  have hw : ∀ st, wkE .enumr [.d (.lst [askD s c])] st = ret (.its [.d (.tup [.int 0, askD s c])]) st := fun _ => rfl
  have hs : isSeq (.lst [askD s c]) = true := rfl
  have ht : ∀ st, biE .tuple [.d (askD s c)] st = ret (.d (askD s c)) st := fun _ => rfl
  have hlc := lc_map (F := F m) (own := [3]) (tg := .nm 3) (it := .v 0) (x := .bi .tuple (.cons (.v 3) .nil)) (e := [some (.d (.lst [askD s c])), some (.d (ck x y z w)), some (.d (.int 0)), some (.d (askD s c))]) (st := []) [askD s c] (fun x => .d x) (fun x => askD s c) (w := .d (.lst [askD s c])) (by simp) rfl
    (fun x hx => ⟨_, rfl, by simp at hx; subst hx; simp [wipeE, ht]⟩) (by simp)
  have hset : ∀ e2 e3 : Option Vl, setTg (.tp (.cons (.nm 2) (.cons (.nm 3) .nil))) (.d (.tup [.int 0, askD s c])) [some (.d (.lst [askD s c])), some (.d (ck x y z w)), e2, e3] = some [some (.d (.lst [askD s c])), some (.d (ck x y z w)), some (.d (.int 0)), some (.d (askD s c))] := fun _ _ => rfl
  simp [fd_checked_asks, ir_checked_asks, exLen, hl, hs, hlen, eq_int, hw, forR, itsOf]
  rw [forL_cons (hset none none)]
  simp [exLen, e1, ha, forL_nil]
  simp at hlc
  rw [hlc]
  simp
theorem c_kept {len s c : Int} (C : Cl k x y z w) (h1 : 1 ≤ len) (ha : askR x z s c = true) (hb : Bz k (c - s)) (h0 : 0 < k) (hk : k ≤ 120) (hn : 5 ≤ n) : callE (F n) .frz 16 [.d (ck x y z w), .d (.int len), .d (.lst [askD s c])] st = ret (.d (.tup [ck x y z w, .lst [askD s c]])) st := by
  obtain ⟨m, rfl⟩ := pred (n := n) (by omega)
  rw [call3 (fn := fd_kept_asks) rfl rfl]
  have e1 := fun st : Store => C.c (n := m) (st := st) (by omega) (by omega)
  have e2 := fun st : Store => c_len (n := m) (st := st) h1 (by omega)
  have e3 := fun st : Store => c_asks (n := m) (st := st) C ha hb h0 hk (by omega)
  simp [fd_kept_asks, ir_kept_asks, exLen, e1, e2, e3, tupf, dats]
theorem c_greatest {len s c : Int} (C : Cl k x y z w) (hl : Bz k len) (hc : Bz k c) (hb : Bz k (c - s)) (h0 : 0 < k) (hk : k ≤ 120) (hn : 5 ≤ n) : callE (F n) .frz 18 [.d (ck x y z w), .d (.int len), .d (.lst [askD s c])] st = ret (.d (fr (untilR x y z w len s c))) st := by
  obtain ⟨m, rfl⟩ := pred (n := n) (by omega)
  rw [call3 (fn := fd_greatest_until) rfl rfl]
  have e1 := fun st : Store => c_until (n := m) (st := st) C hl hc hb h0 hk (by omega)
  have hi : ∀ st, ixD st (.d (.lst [askD s c])) (.int 0) = some (.d (askD s c)) := fun _ => rfl
  have hsl : ∀ st : Store, slf (.d (.lst [askD s c])) (.d (.int 1)) (fun st => ret (Vl.its []) st) st = ret (.d (.lst [])) st := fun _ => rfl
  simp [fd_greatest_until, ir_greatest_until, exLen, hi, e1, hsl, forR, itsOf, forL_nil]
theorem c_believe {len s c : Int} (C : Cl k x y z w) (h1 : 1 ≤ len) (ha : askR x z s c = true) (hl : Bz k len) (hc : Bz k c) (hb : Bz k (c - s)) (h0 : 0 < k) (hk : k ≤ 120) (hn : 6 ≤ n) : ∃ r, (r = .non ∨ r = fr (untilR x y z w len s c)) ∧ ∀ st, callE (F n) .frz 19 [.d (ck x y z w), .d (.int len), .d (.lst [askD s c])] st = ret (.d r) st := by
  obtain ⟨m, rfl⟩ := pred (n := n) (by omega)
  have e1 := fun st : Store => c_kept (n := m) (st := st) C h1 ha hb h0 hk (by omega)
  have e2 := fun st : Store => c_greatest (n := m) (st := st) C hl hc hb h0 hk (by omega)
  have hlc := fun e : Env => lc_map (F := F m) (own := [7]) (tg := .nm 7) (it := .v 4) (x := .ix (.v 7) (.c (.int 1))) (e := [some (.d (ck x y z w)), some (.d (.int len)), some (.d (.lst [askD s c])), some (.d (ck x y z w)), some (.d (.lst [askD s c])), none, none, none]) (st := []) [askD s c] (fun x => .d x) (fun x => .int c) (w := .d (.lst [askD s c])) (by simp) rfl
    (fun x hx => ⟨_, rfl, by simp at hx; subst hx; simp [wipeE, ask1]⟩) (by simp)
  have hm : ∀ st, biE .max [.d (.lst [.int c])] st = ret (.d (.int c)) st := fun _ => rfl
  have e3 := fun st : Store => r_less (n := m) (st := st) (by omega) (B_until C hl hc hb h0) (B.int hc h0) (by omega)
  rw [fr_int] at e3
  have hset : setf (.tp (.cons (.nm 3) (.cons (.nm 4) .nil))) [some (.d (ck x y z w)), some (.d (.int len)), some (.d (.lst [askD s c])), none, none, none, none, none] (.d (.tup [ck x y z w, .lst [askD s c]])) [] = .ok (.nx [some (.d (ck x y z w)), some (.d (.int len)), some (.d (.lst [askD s c])), some (.d (ck x y z w)), some (.d (.lst [askD s c])), none, none, none] []) := rfl
  refine ⟨if untilR x y z w len s c < (c : Rat) then .non else fr (untilR x y z w len s c), by split <;> simp, fun st => ?_⟩
  rw [call3 (fn := fd_believe_until) rfl rfl]
  simp at hlc
  simp [fd_believe_until, ir_believe_until, exLen, e1, hset, e2, hlc, hm, parf, setPar, tupf, dats, e3]
  split <;> simp
end
end EV

end
section
namespace EV
theorem rat_ext {a b : Rat} (h1 : a.num = b.num) (h2 : (a.den : Int) = b.den) : a = b := Rat.ext h1 (by omega)
theorem okB_fr (r : Rat) : okB (fr r) 64 = true := rfl
theorem eq_fr (a b : Rat) : cmpD .eq (fr a) (fr b) = some (decide (a = b)) := by
  show eqD _ _ = _
  unfold eqD
  rw [okB_fr, okB_fr]
  simp only [Bool.and_self, if_true]
  show some (eqBs [D.int a.num, D.int a.den] [D.int b.num, D.int b.den]) = _
  simp only [eqBs, eqB, Bool.and_true]
  congr 1
  by_cases h : a = b
  · subst h; simp
  · rw [decide_eq_false h]
    cases h1 : (a.num == b.num) with
    | false => rfl
    | true =>
      cases h2 : ((a.den : Int) == b.den) with
      | false => rfl
      | true => exact absurd (rat_ext (by simpa using h1) (by simpa using h2)) h
theorem ne_fr (a b : Rat) : cmpD .ne (fr a) (fr b) = some (!decide (a = b)) := by
  have := eq_fr a b
  have h0 : cmpD .ne (fr a) (fr b) = (eqD (fr a) (fr b)).map not := rfl
  rw [h0]
  have h : eqD (fr a) (fr b) = some (decide (a = b)) := this
  rw [h]; rfl
theorem samB_fr (r : Rat) (k : Nat) : samB (fr r) (k + 1) = true := rfl
theorem notN_non : cmpD .notN .non .non = some false := rfl
theorem isN_non : cmpD .isN .non .non = some true := rfl
theorem notN_fr (r : Rat) : cmpD .notN (fr r) .non = some true := rfl
theorem isN_fr (r : Rat) : cmpD .isN (fr r) .non = some false := rfl
section
variable {n k : Nat} {st : Store} {x y z : Rat} {w : Option Rat}
theorem c_luntil {len s c : Int} (C : Cl k x y z w) (hl : Bz k len) (hc : Bz k c) (hb : Bz k (c - s)) (h0 : 0 < k) (hk : k ≤ 120) (hn : 4 ≤ n) : callE (F n) .frz 32 [.d (ck x y z w), .d (.int len), .d (.lst [askD s c])] st = ret (.d (fr (untilR x y z w len s c))) st := by
  obtain ⟨m, rfl⟩ := pred (n := n) (by omega)
  rw [call3 (fn := fd__law_l_until) rfl rfl]
  have b1 := (B.int hb h0).div C.x0 C.bx
  have e1 := fun st : Store => r_lover (n := m) (st := st) (by omega) (B.int hb h0) C.bx C.x0 (by omega)
  rw [fr_int] at e1
  have e2 := fun st : Store => r_lminus (n := m) (st := st) (by omega) b1 C.bz (by omega)
  have b2 := B_back C hb h0
  have e3 := fun st : Store => r_lover (n := m) (st := st) (by omega) (B.int hl h0) C.by' C.y0 (by omega)
  rw [fr_int] at e3
  have b3 := B_lenOver C hl h0
  have bg := B_gone C hb h0
  have e4 := fun st : Store => r_lminus (n := m) (st := st) (by omega) b3 bg (by omega)
  have b4 := b3.sub bg
  have e5 := fun st : Store => r_ltimes (n := m) (st := st) (by omega) C.bx b4 (by omega)
  have b5 := C.bx.mul b4
  have e6 := fun st : Store => r_lplus (n := m) (st := st) (by omega) (B.int hc h0) b5 (by omega)
  rw [fr_int] at e6
  have hu : untilR x y z w len s c = (c : Rat) + x * ((len : Rat) / y - goneR x z w s c) := rfl
  rw [hu]
  have hset : ∀ e : Env, e.length = 12 → setTg (.tp (.cons (.nm 8) (.cons (.nm 9) .nil))) (.d (askD s c)) e = some ((e.set 8 (some (.d (.int s)))).set 9 (some (.d (.int c)))) := fun _ _ => rfl
  have hi : itsOf (.d (.lst [askD s c])) = some [.d (askD s c)] := rfl
  cases w with
  | none =>
    have hg : goneR x z none s c = ((c - s : Int) : Rat) / x - z := rfl
    rw [hg] at e4 e5 e6 ⊢
    have hw : wD none = .non := rfl
    simp only [fd__law_l_until, ir__law_l_until]
    simp [-Rat.intCast_sub, set4c, forR, hi, hw]
    rw [forL_cons (hset _ rfl)]
    simp [-Rat.intCast_sub, exLen, tupf, dats, subB, e1, e2, e3, e4, e5, e6, notN_non, isN_non, forL_nil]
  | some v =>
    have e7 := fun st : Store => r_lless (n := m) (st := st) (by omega) (C.bw v rfl) b2 (by omega)
    have hg : goneR x z (some v) s c = if v < ((c - s : Int) : Rat) / x - z then v else ((c - s : Int) : Rat) / x - z := by
      show (if _ then _ else _) = _
      split <;> split <;> grind
    rw [hg] at e4 e5 e6 ⊢
    have hv : wD (some v) = fr v := rfl
    simp only [fd__law_l_until, ir__law_l_until]
    simp [-Rat.intCast_sub, set4c, forR, hi, hv]
    rw [forL_cons (hset _ rfl)]
    simp [-Rat.intCast_sub, exLen, tupf, dats, subB, e1, e2, e3, notN_fr, e7]
    split
    · rename_i h
      rw [if_pos h] at e4 e5 e6
      simp [-Rat.intCast_sub, exLen, tupf, dats, subB, e1, e2, e3, e4, e5, e6, isN_non, forL_nil]
    · rename_i h
      rw [if_neg h] at e4 e5 e6
      simp [-Rat.intCast_sub, exLen, tupf, dats, subB, e1, e2, e3, e4, e5, e6, isN_non, forL_nil]
end
end EV

end
section
namespace EV
section
variable {n k : Nat} {st : Store} {x y z : Rat} {w : Option Rat}
theorem mul_dvS (z : Rat) (S : Int) : Rat.divInt (z.num * S) z.den = z * (S : Rat) := by
  have h1 : (S : Rat) = Rat.divInt S 1 := by rw [dv_eq]; grind
  conv => rhs; rw [h1, rat_of z]
  rw [Rat.divInt_mul_divInt, Int.mul_one]
theorem c_wide {S : Int} {j : Nat} (hz : B j z) (hw : ∀ v, w = some v → B j v) (hS : Bz 200 S) (hj : j ≤ 120) (hn : 2 ≤ n) : callE (F n) .frz 38 [.d (ck x y z w), .d (.int S)] st = ret (.d (ck x y (z * (S : Rat)) (w.map fun v => v * (S : Rat)))) st := by
  obtain ⟨m, rfl⟩ := pred (n := n) (by omega)
  rw [call2 (fn := fd__law_greater_clocks) rfl rfl]
  have e1 := fun st : Store => c_llowest (n := m) (st := st) (t := z.num * S) (b := z.den) (by omega) (denp z) hz.d (by omega)
  rw [mul_dvS] at e1
  have m1 := mulB hz.n hS (by omega)
  cases w with
  | none =>
    have hw0 : wD none = .non := rfl
    simp [fd__law_greater_clocks, ir__law_greater_clocks, ck0, ck1, ck2, ck3, parf, setPar, hw0, isN_non, exLen, i0, i1, m1, e1, tupf, dats]
    rfl
  | some v =>
    have hv := hw v rfl
    have hw0 : wD (some v) = fr v := rfl
    have e2 := fun st : Store => c_llowest (n := m) (st := st) (t := v.num * S) (b := v.den) (by omega) (denp v) hv.d (by omega)
    rw [mul_dvS] at e2
    have m2 := mulB hv.n hS (by omega)
    simp [fd__law_greater_clocks, ir__law_greater_clocks, ck0, ck1, ck2, ck3, parf, setPar, hw0, isN_fr, exLen, i0, i1, m1, e1, m2, e2, tupf, dats]
    rfl
def spB : St := match ir__law_span_right with
  | .seq _ (.seq _ (.seq _ (.seq (.for _ _ b) _))) => b
  | _ => .nope
def spE (C a S : D) (len : Int) (a4 a7 a8 a9 a10 : Option Vl) : Env := [some (.d C), some (.d (.int len)), some (.d a), some (.d S), a4, some (.d S), some (.d (.lst [])), a7, a8, a9, a10]
theorem until_ge {len c : Int} (C : Cl k x y z w) : spanR x y z len ≤ untilR x y z w len 0 c ∧ (goneR x z w 0 c = ((c - 0 : Int) : Rat) / x - z → untilR x y z w len 0 c = spanR x y z len) := by
  have hx := C.x0
  have hc : ((c - 0 : Int) : Rat) = (c : Rat) := by simp
  have hg : goneR x z w 0 c ≤ (c : Rat) / x - z := by
    unfold goneR
    rw [hc]
    cases w with
    | none => exact Rat.le_refl
    | some v => dsimp only; split <;> grind
  have key : x * ((c : Rat) / x) = (c : Rat) := by grind
  unfold untilR spanR
  rw [hc]
  have h1 := Rat.mul_le_mul_of_nonneg_left hg (Rat.le_of_lt hx)
  constructor
  · grind
  · intro e; rw [e]; grind
theorem sp_step {m : Nat} {len c : Int} {a : D} {a7 a8 a9 a10 : Option Vl} (C : Cl k x y z w) (h1 : 1 ≤ len) (hl : Bz k len) (hc : Bz k c) (h0c : 0 ≤ c) (hask : 2 * z ≤ (c : Rat) / x) (h0 : 0 < k) (hk : k ≤ 80) (hm : 6 ≤ m) :
    ∃ b7 b8 b9 b10, evS (F m) spB (spE (ck x y z w) a (fr (spanR x y z len)) len (some (.d (.int c))) a7 a8 a9 a10) [] = .ok (.nx (spE (ck x y z w) a (fr (spanR x y z len)) len (some (.d (.int c))) b7 b8 b9 b10) []) := by
  have hb : Bz k (c - 0) := by simpa using hc
  have e1 := fun st : Store => c_luntil (n := m) (st := st) (s := 0) C hl hc hb h0 (by omega) (by omega)
  have bc := B.int hc h0
  have b1 := bc.div C.x0 C.bx
  have e2 := fun st : Store => r_lover (n := m) (st := st) (by omega) bc C.bx C.x0 (by omega)
  rw [fr_int] at e2
  have e3 := fun st : Store => r_lminus (n := m) (st := st) (by omega) b1 C.bz (by omega)
  have b3 := b1.sub C.bz
  have bU := B_until (s := 0) (len := len) (c := c) C hl hc hb h0
  have bS := B_span C hl h0
  have e4 := fun st : Store => r_lless (n := m) (st := st) (by omega) bU bS (by omega)
  have hask' : askR x z 0 c = true := by
    have hc' : ((c - 0 : Int) : Rat) = (c : Rat) := by simp
    unfold askR
    rw [hc']
    have : ¬ ((c : Rat) / x < 2 * z) := Rat.not_lt.mpr hask
    simp [h0c, this]
  obtain ⟨r, hr, e5⟩ := c_believe (n := m) (s := 0) (len := len) (c := c) C h1 hask' hl hc hb h0 (by omega) hm
  obtain ⟨u1, u2⟩ := until_ge (len := len) (c := c) C
  have u1' : ¬ untilR x y z w len 0 c < spanR x y z len := Rat.not_lt.mpr u1
  have hc' : ((c - 0 : Int) : Rat) = (c : Rat) := by simp
  rw [hc'] at u2
  have hA : (askD 0 c) = .tup [.int 0, .int c] := rfl
  rw [hA] at e1 e5
  have hr1 : ∀ st, evE (F m) (.bo true (.cmp .notN (.v 10) (.c .non)) (.cmp .ne (.v 10) (.v 7))) (spE (ck x y z w) a (fr (spanR x y z len)) len (some (.d (.int c))) (some (.d (fr (untilR x y z w len 0 c)))) (some (.d (fr ((c : Rat) / x - z)))) (some (.d (.bl (match w with | none => true | some v => !decide (v < (c : Rat) / x - z))))) (some (.d r))) st = ret (.d (.bl false)) st := by
    intro st
    rcases hr with rfl | rfl
    · simp [spE, notN_non]
    · simp [spE, notN_fr, ne_fr]
  refine ⟨some (.d (fr (untilR x y z w len 0 c))), some (.d (fr ((c : Rat) / x - z))), some (.d (.bl (match w with | none => true | some v => !decide (v < (c : Rat) / x - z)))), some (.d r), ?_⟩
  cases w with
  | none =>
    have hu : untilR x y z none len 0 c = spanR x y z len := u2 (by unfold goneR; rw [hc'])
    have hw0 : wD none = .non := rfl
    simp only [spE] at hr1
    simp only [spB, ir__law_span_right, spE]
    rw [hu] at e1 e4 u1' hr1
    simp at hr1
    simp [exLen, tupf, lstf, dats, e1, e2, ck0, ck2, ck3, e3, hw0, isN_non, e4, u1', hu, ne_fr, e5, hr1]
  | some v =>
    have hw0 : wD (some v) = fr v := rfl
    have e6 := fun st : Store => r_lless (n := m) (st := st) (by omega) (C.bw v rfl) b3 (by omega)
    have hu : v < (c : Rat) / x - z ∨ untilR x y z (some v) len 0 c = spanR x y z len := by
      by_cases h : v < (c : Rat) / x - z
      · exact .inl h
      · right
        apply u2
        unfold goneR
        rw [hc']
        dsimp only
        split
        · rfl
        · grind
    simp only [spE] at hr1
    simp only [spB, ir__law_span_right, spE]
    simp [exLen, tupf, lstf, dats, e1, e2, ck0, ck2, ck3, e3, hw0, isN_fr, e4, u1', ne_fr, e5, e6]
    rcases hu with hu | hu
    · simp [hu] at hr1 ⊢
      simp [exLen, tupf, lstf, dats, e5, hr1]
    · rw [hu] at hr1
      by_cases h2 : v < (c : Rat) / x - z
      · simp [hu, h2] at hr1 ⊢
        simp [exLen, tupf, lstf, dats, e5, hr1]
      · simp [hu, h2] at hr1 ⊢
        simp [exLen, tupf, lstf, dats, e5, hr1]
end
end EV

end
section
namespace EV
theorem same_fr {n : Nat} {st : Store} (r : Rat) (hn : 2 ≤ n) : callE (F n) .frz 36 [.d (fr r), .d (fr r)] st = ret (.d (.bl true)) st := c_same (fns := fns) (Tn := 3000) (i := 36) rfl 1 (fr r) n st rfl hn
section
variable {n k : Nat} {st : Store} {x y z : Rat} {w : Option Rat}
theorem sp_loop {m : Nat} {len : Int} {a : D} (C : Cl k x y z w) (h1 : 1 ≤ len) (hl : Bz k len) (h0 : 0 < k) (hk : k ≤ 80) (hm : 6 ≤ m) : ∀ (cs : List Int), (∀ c ∈ cs, Bz k c ∧ 0 ≤ c ∧ 2 * z ≤ (c : Rat) / x) → ∀ a4 a7 a8 a9 a10, ∃ b4 b7 b8 b9 b10,
    forL (.nm 4) (evS (F m) spB) (cs.map fun c => .d (.int c)) (spE (ck x y z w) a (fr (spanR x y z len)) len a4 a7 a8 a9 a10) [] = .ok (.nx (spE (ck x y z w) a (fr (spanR x y z len)) len b4 b7 b8 b9 b10) []) := by
  intro cs
  induction cs with
  | nil => intro _ a4 a7 a8 a9 a10; exact ⟨a4, a7, a8, a9, a10, rfl⟩
  | cons c cs ih =>
    intro h a4 a7 a8 a9 a10
    obtain ⟨g1, g2, g3⟩ := h c List.mem_cons_self
    obtain ⟨b7, b8, b9, b10, e1⟩ := sp_step (m := m) (a := a) (a7 := a7) (a8 := a8) (a9 := a9) (a10 := a10) C h1 hl g1 g2 g3 h0 hk hm
    obtain ⟨d4, d7, d8, d9, d10, e2⟩ := ih (fun c hc => h c (List.mem_cons_of_mem _ hc)) (some (.d (.int c))) b7 b8 b9 b10
    refine ⟨d4, d7, d8, d9, d10, ?_⟩
    rw [List.map_cons, forL_cons (e' := spE (ck x y z w) a (fr (spanR x y z len)) len (some (.d (.int c))) a7 a8 a9 a10) rfl, e1, R_bind_ok, forK_nx, e2]
theorem c_span_right {len : Int} {cs : List Int} (C : Cl k x y z w) (h1 : 1 ≤ len) (hl : Bz k len) (h0 : 0 < k) (hk : k ≤ 80) (hn : 7 ≤ n) (hcs : ∀ c ∈ cs, Bz k c ∧ 0 ≤ c ∧ 2 * z ≤ (c : Rat) / x) : callE (F n) .frz 39 [.d (ck x y z w), .d (.int len), .d (.lst (cs.map .int))] st = ret (.d (.bl true)) st := by
  obtain ⟨m, rfl⟩ := pred (n := n) (by omega)
  rw [call3 (fn := fd__law_span_right) rfl rfl]
  have e1 := fun st : Store => c_span_for (n := m) (st := st) C h1 hl h0 (by omega) (by omega)
  have e2 := fun st : Store => r_lover (n := m) (st := st) (by omega) (B.int hl h0) C.by' C.y0 (by omega)
  rw [fr_int] at e2
  have e3 := fun st : Store => r_lplus (n := m) (st := st) (by omega) C.bz (B_lenOver C hl h0) (by omega)
  have e4 := fun st : Store => r_ltimes (n := m) (st := st) (by omega) C.bx (C.bz.add (B_lenOver C hl h0)) (by omega)
  have e5 := fun st : Store => same_fr (n := m) (st := st) (spanR x y z len) (by omega)
  have hs : x * (z + (len : Rat) / y) = spanR x y z len := rfl
  rw [hs] at e4
  obtain ⟨b4, b7, b8, b9, b10, hloop⟩ := sp_loop (m := m) (a := .lst (cs.map .int)) C h1 hl h0 hk (by omega) cs hcs none none none none none
  have hi : itsOf (.d (.lst (cs.map .int))) = some (cs.map fun c => .d (.int c)) := by simp [itsOf]
  have hB : ∀ (e : Env) (st : Store), evS (F m) (.for (.nm 4) (.v 2) spB) e st = sBnd (evE (F m) (.v 2) e st) e (forR (F m) (.nm 4) spB e) := fun _ _ => rfl
  have hir : ir__law_span_right = (match ir__law_span_right with
    | .seq a (.seq b (.seq c (.seq (.for _ _ _) d))) => .seq a (.seq b (.seq c (.seq (.for (.nm 4) (.v 2) spB) d)))
    | s => s) := rfl
  have hbody : fd__law_span_right.body = (match ir__law_span_right with
    | .seq a (.seq b (.seq c (.seq (.for _ _ _) d))) => .seq a (.seq b (.seq c (.seq (.for (.nm 4) (.v 2) spB) d)))
    | s => s) := rfl
  rw [hbody]
  simp only [ir__law_span_right]
  simp only [spE] at hloop
  simp [fd__law_span_right, exLen, parf, setPar, lstf, dats, tupf, ck0, ck1, ck2, e1, e2, e3, e4, e5, forR, hi]
  rw [hloop]
  simp
/-! the period -/
theorem scaled {r : Rat} {S T : Int} (h : S = r.den * T) : ((r.num * (S / (r.den : Int)) : Int) : Rat) = r * (S : Rat) := by
  have hd := denz r
  rw [h, Int.mul_ediv_cancel_left _ hd]
  have hd' : ((r.den : Int) : Rat) ≠ 0 := by
    intro e
    have := Rat.intCast_pos.mpr (denp r)
    rw [e] at this
    exact Rat.lt_irrefl this
  have hb : r * ((r.den : Int) : Rat) = (r.num : Rat) := by
    have h := rat_of r
    rw [dv_eq] at h
    revert h hd'
    generalize (r.num : Rat) = a
    generalize ((r.den : Int) : Rat) = b
    intro h1 h2
    grind
  rw [Rat.intCast_mul, Rat.intCast_mul, ← hb]
  grind
theorem ceil_int (I : Int) : -(-((I : Rat).num) / (((I : Rat).den : Nat) : Int)) = I := by
  rw [Rat.num_intCast, Rat.den_intCast]
  simp
end
end EV

end
section
namespace EV
section
variable {x y z v : Rat} {len lo : Int}
/-- the numbers of a period -/
structure Per (x y z v : Rat) (len lo : Int) (P : Rat) (S : Int) : Prop where
  x0 : 0 < x
  y0 : 0 < y
  zv : z ≤ v
  lo0 : 0 ≤ lo
  eP : P = restR x y z v len / ((lo + 1 : Int) : Rat)
  eS : S = P.den * (lateR y v).den * x.den * z.den * z.den
theorem Per.S0 {P : Rat} {S : Int} (h : Per x y z v len lo P S) : 0 < S := by
  rw [h.eS]
  exact Int.mul_pos (Int.mul_pos (Int.mul_pos (Int.mul_pos (denp _) (denp _)) (denp _)) (denp _)) (denp _)
theorem Per.per {P : Rat} {S : Int} (h : Per x y z v len lo P S) : ((P.num * (S / (P.den : Int)) : Int) : Rat) = P * (S : Rat) := by
  refine scaled (T := (lateR y v).den * x.den * z.den * z.den) ?_
  rw [h.eS]
  simp only [Int.mul_assoc]
theorem Per.late {P : Rat} {S : Int} (h : Per x y z v len lo P S) : (((lateR y v).num * (S / ((lateR y v).den : Int)) : Int) : Rat) = lateR y v * (S : Rat) := by
  refine scaled (T := P.den * x.den * z.den * z.den) ?_
  rw [h.eS]
  simp only [Int.mul_assoc, Int.mul_left_comm]
def firstI (x z : Rat) (S : Int) : Int := 2 * x.num * z.num * (S / (x.den * z.den : Int))
theorem Per.first {P : Rat} {S : Int} (h : Per x y z v len lo P S) : x * (2 * (z * (S : Rat))) = (firstI x z S : Rat) := by
  have hx := denp x
  have hz := denp z
  have e : S = (x.den * z.den : Int) * (P.den * (lateR y v).den * z.den) := by
    rw [h.eS]
    simp only [Int.mul_assoc, Int.mul_left_comm, Int.mul_comm]
  have hd : (x.den * z.den : Int) ≠ 0 := Int.ne_of_gt (Int.mul_pos hx hz)
  unfold firstI
  rw [e, Int.mul_ediv_cancel_left _ hd]
  generalize (P.den * (lateR y v).den * z.den : Int) = T
  have bx : x * ((x.den : Int) : Rat) = (x.num : Rat) := by
    have h := rat_of x
    rw [dv_eq] at h
    have hd' := cast_pos hx
    revert h hd'
    generalize (x.num : Rat) = a
    generalize ((x.den : Int) : Rat) = b
    intro h1 h2
    grind
  have bz : z * ((z.den : Int) : Rat) = (z.num : Rat) := by
    have h := rat_of z
    rw [dv_eq] at h
    have hd' := cast_pos hz
    revert h hd'
    generalize (z.num : Rat) = a
    generalize ((z.den : Int) : Rat) = b
    intro h1 h2
    grind
  rw [Rat.intCast_mul, Rat.intCast_mul, Rat.intCast_mul, Rat.intCast_mul, Rat.intCast_mul, ← bx, ← bz]
  have : ((2 : Int) : Rat) = 2 := rfl
  rw [this]
  grind
theorem Per.until {P : Rat} {S : Int} (h : Per x y z v len lo P S) : untilR x y (z * (S : Rat)) (some (v * (S : Rat))) (len * S) 0 (firstI x z S) = spanR x y z len * (S : Rat) := by
  have hS := cast_pos h.S0
  have hf := h.first
  have hx := h.x0
  have hy := h.y0
  have hc : ((firstI x z S - 0 : Int) : Rat) = (firstI x z S : Rat) := by simp
  have hb : (firstI x z S : Rat) / x - z * (S : Rat) = z * (S : Rat) := by
    rw [← hf]
    grind
  have hzv := Rat.mul_le_mul_of_nonneg_right h.zv (Rat.le_of_lt hS)
  have hg : goneR x (z * (S : Rat)) (some (v * (S : Rat))) 0 (firstI x z S) = z * (S : Rat) := by
    unfold goneR
    rw [hc, hb]
    dsimp only
    split
    · rfl
    · grind
  unfold untilR spanR
  rw [hg, ← hf, Rat.intCast_mul]
  grind
theorem Per.end' {P : Rat} {S : Int} (h : Per x y z v len lo P S) (more : Int) : (((lo + 1) * (P.num * (S / (P.den : Int)) + more) + (lateR y v).num * (S / ((lateR y v).den : Int)) : Int) : Rat) = spanR x y z len * (S : Rat) + ((lo + 1 : Int) : Rat) * (more : Rat) := by
  have hl : (0 : Rat) < ((lo + 1 : Int) : Rat) := cast_pos (by have := h.lo0; omega)
  have hP := h.eP
  revert hl hP
  generalize lo + 1 = L
  intro hl hP
  rw [Rat.intCast_add, Rat.intCast_mul, Rat.intCast_add, h.per, h.late, hP]
  unfold restR
  revert hl
  generalize (L : Rat) = L
  intro hl
  grind
theorem Per.wide {P : Rat} {S : Int} (h : Per x y z v len lo P S) : restR x y (z * (S : Rat)) (v * (S : Rat)) (len * S) = restR x y z v len * (S : Rat) := by
  unfold restR spanR lateR
  rw [Rat.intCast_mul]
  have hy := h.y0
  grind
theorem Per.again {P : Rat} {S : Int} (h : Per x y z v len lo P S) : restR x y (z * (S : Rat)) (v * (S : Rat)) (len * S) / ((lo + 1 : Int) : Rat) = ((P.num * (S / (P.den : Int)) : Int) : Rat) := by
  rw [h.wide, h.per, h.eP]
  grind
end
end EV

end
section
namespace EV
theorem strm_fr (r : Rat) : isStrm (fr r) = false := rfl
theorem isTy_fr (r : Rat) : isTy (fr r) .tuple = true := rfl
theorem isi_tup_fr (r : Rat) (st : Store) : isif [.tuple] (.d (fr r)) st = ret (.d (.bl true)) st := rfl
theorem num_lt_one {r : Rat} (h : 0 < r) : decide (r.num < 1) = false := by
  have := num_pos h
  simp; omega
theorem dv_self (r : Rat) : Rat.divInt r.num r.den = r := Rat.num_divInt_den r
theorem quo_B {k : Nat} {a b : Int} (ha : Bz k a) (h0 : 0 ≤ a) (hb : 0 < b) : Bz k (a / b) := by
  have h1 := Int.ediv_le_self b h0
  have h2 := Int.ediv_nonneg h0 (Int.le_of_lt hb)
  unfold Bz at *
  omega
section
variable {n : Nat} {st : Store} {x y z : Rat} {w : Option Rat} {len lo : Int}
theorem c_period_none (C : Cl 8 x y z none) (h1 : 1 ≤ len) (hl : Bz 8 len) (ho : 0 ≤ lo) (hb : Bz 8 (lo + 1)) (hn : 6 ≤ n) : callE (F n) .frz 40 [.d (ck x y z none), .d (.int len), .d (.int lo)] st = ret (.d (.bl true)) st := by
  obtain ⟨m, rfl⟩ := pred (n := n) (by omega)
  rw [call3 (fn := fd__law_period_right) rfl rfl]
  have e1 := fun st : Store => c_longest (n := m) (st := st) C h1 hl ho hb (by omega) (by omega) (by omega)
  have e2 := fun st : Store => r_lover (n := m) (st := st) (by omega) (B.int hl (by omega)) C.by' C.y0 (by omega)
  rw [fr_int] at e2
  have e3 := fun st : Store => r_lplus (n := m) (st := st) (by omega) C.bz (B_lenOver C hl (by omega)) (by omega)
  have e4 := fun st : Store => r_ltimes (n := m) (st := st) (by omega) C.bx (C.bz.add (B_lenOver C hl (by omega))) (by omega)
  have hw0 : wD none = .non := rfl
  simp [fd__law_period_right, ir__law_period_right, exLen, e1, ck0, ck1, ck2, ck3, tupf, dats, e2, e3, e4, hw0, isN_non]
theorem c_period_some {v : Rat} (C : Cl 8 x y z (some v)) (h1 : 1 ≤ len) (hl : Bz 8 len) (ho : 0 ≤ lo) (hb : Bz 8 (lo + 1)) (hn : 6 ≤ n) : callE (F n) .frz 40 [.d (ck x y z (some v)), .d (.int len), .d (.int lo)] st = ret (.d (.bl true)) st := by
  obtain ⟨m, rfl⟩ := pred (n := n) (by omega)
  rw [call3 (fn := fd__law_period_right) rfl rfl]
  have e1 := fun st : Store => c_longest (n := m) (st := st) C h1 hl ho hb (by omega) (by omega) (by omega)
  have e2 := fun st : Store => r_lover (n := m) (st := st) (by omega) (B.int hl (by omega)) C.by' C.y0 (by omega)
  rw [fr_int] at e2
  have e3 := fun st : Store => r_lplus (n := m) (st := st) (by omega) C.bz (B_lenOver C hl (by omega)) (by omega)
  have e4 := fun st : Store => r_ltimes (n := m) (st := st) (by omega) C.bx (C.bz.add (B_lenOver C hl (by omega))) (by omega)
  have hs : x * (z + (len : Rat) / y) = spanR x y z len := rfl
  rw [hs] at e4
  have bS := B_span C hl (by omega)
  have bv := C.bw v rfl
  have hw0 : wD (some v) = fr v := rfl
  have e5 := fun st : Store => r_ltimes (n := m) (st := st) (by omega) C.by' bv (by omega)
  have e6 := fun st : Store => r_ltimes (n := m) (st := st) (by omega) B2 (C.by'.mul bv) (by omega)
  rw [fr_two] at e6
  have hlr : (2 : Rat) * (y * v) = lateR y v := rfl
  rw [hlr] at e6
  have bL : B (2 + (8 + 8)) (lateR y v) := B2.mul (C.by'.mul bv)
  have e7 := fun st : Store => r_lless (n := m) (st := st) (by omega) bL bS (by omega)
  by_cases hlt : lateR y v < spanR x y z len
  · have hpos : 0 < restR x y z v len := by unfold restR; grind
    have hlp : (0 : Rat) < ((lo + 1 : Int) : Rat) := cast_pos (by omega)
    obtain ⟨P, hP⟩ : ∃ P, P = restR x y z v len / ((lo + 1 : Int) : Rat) := ⟨_, rfl⟩
    obtain ⟨S, hS⟩ : ∃ S : Int, S = P.den * (lateR y v).den * x.den * z.den * z.den := ⟨_, rfl⟩
    have hPp : 0 < P := by rw [hP, Rat.lt_div_iff hlp]; grind
    have bP : B (8 + (8 + (8 + 8) + 1) + (2 + (8 + 8)) + 1 + 8) P := by rw [hP]; exact (bS.sub bL).div hlp (B.int hb (by omega))
    have hper : Per x y z v len lo P S := ⟨C.x0, C.y0, C.zw v rfl, ho, hP, hS⟩
    have bSS : Bz 102 S := by rw [hS]; exact ((((bP.d.mul bL.d).mul C.bx.d).mul C.bz.d).mul C.bz.d).mono (by omega)
    dsimp only at e1
    rw [if_pos hpos, ← hP] at e1
    have e8 := fun st : Store => c_llowest (n := m) (st := st) (t := P.num) (b := P.den) (by omega) (denp P) bP.d (by omega)
    rw [dv_self] at e8
    have e9 := fun st : Store => same_fr (n := m) (st := st) P (by omega)
    have m1 := mulB bP.d bL.d (by omega)
    have m2 := mulB (bP.d.mul bL.d) C.bx.d (by omega)
    have m3 := mulB ((bP.d.mul bL.d).mul C.bx.d) C.bz.d (by omega)
    have m4 := mulB (((bP.d.mul bL.d).mul C.bx.d).mul C.bz.d) C.bz.d (by omega)
    rw [← hS] at m4
    have e10 := fun st : Store => c_wide (n := m) (st := st) (x := x) (y := y) (S := S) C.bz C.bw (bSS.mono (by omega)) (by omega) (by omega)
    have d1 := divB (x := S) (denp P) bP.d (by omega)
    have m5 := mulB bP.n (quo_B bSS (Int.le_of_lt hper.S0) (denp P)) (by omega)
    have bSr := B.int bSS (by omega)
    have bzS := C.bz.mul bSr
    have bvS := bv.mul bSr
    have e11 := fun st : Store => r_ltimes (n := m) (st := st) (by omega) B2 bzS (by omega)
    rw [fr_two] at e11
    have b12 := C.bx.mul (B2.mul bzS)
    have e12 := fun st : Store => r_ltimes (n := m) (st := st) (by omega) C.bx (B2.mul bzS) (by omega)
    rw [hper.first] at e12 b12
    rw [fr_int] at e12
    have bF : Bz 120 (firstI x z S) := by have := b12.n; rw [Rat.num_intCast] at this; exact this.mono (by omega)
    have d3 : binD .fdiv (.int (-firstI x z S)) (.int 1) = some (.int (-firstI x z S)) := by
      have := divB (x := -firstI x z S) (y := 1) (k := 1) (by decide) (by unfold Bz; decide) (by decide)
      rw [this, Int.ediv_one]
    have d2 := divB (x := S) (denp (lateR y v)) bL.d (by omega)
    have m6 := mulB bL.n (quo_B bSS (Int.le_of_lt hper.S0) (denp (lateR y v))) (by omega)
    have m7 := mulB hl bSS (by omega)
    have hS0 := cast_pos hper.S0
    have CW : Cl 120 x y (z * (S : Rat)) (some (v * (S : Rat))) := ⟨C.x0, C.xy, Rat.mul_nonneg C.z0 (Rat.le_of_lt hS0), fun v' e => by cases e; exact Rat.mul_le_mul_of_nonneg_right (C.zw v rfl) (Rat.le_of_lt hS0), C.bx.mono (by omega), C.by'.mono (by omega), bzS.mono (by omega), fun v' e => by cases e; exact bvS.mono (by omega)⟩
    have blS : Bz 120 (len * S) := (hl.mul bSS).mono (by omega)
    have hlS : 1 ≤ len * S := by
      have := Int.mul_pos (show 0 < len by omega) hper.S0
      omega
    have e14 := fun st : Store => c_luntil (n := m) (st := st) (len := len * S) (s := 0) (c := firstI x z S) CW blS bF (by simpa using bF) (by omega) (by omega) (by omega)
    rw [hper.until] at e14
    have bU : B (33 + 102) (spanR x y z len * (S : Rat)) := (bS.mono (by omega)).mul bSr
    have bT : ∀ more : Int, Bz 1 more → Bz 600 ((lo + 1) * (P.num * (S / (P.den : Int)) + more) + (lateR y v).num * (S / ((lateR y v).den : Int))) := fun more hm =>
      ((hb.mul ((bP.n.mul (quo_B bSS (Int.le_of_lt hper.S0) (denp P))).add hm)).add (bL.n.mul (quo_B bSS (Int.le_of_lt hper.S0) (denp (lateR y v))))).mono (by omega)
    have m8 := fun (more : Int) (hm : Bz 1 more) => mulB hb ((bP.n.mul (quo_B bSS (Int.le_of_lt hper.S0) (denp P))).add hm) (by omega)
    have e15 := fun (more : Int) (hm : Bz 1 more) (st : Store) => r_lless (n := m) (st := st) (by omega) bU (B.int (bT more hm) (by omega)) (by omega)
    simp only [fr_int] at e15
    simp only [hper.end'] at e15
    have e16 := fun st : Store => c_longest (n := m) (st := st) CW hlS blS ho (hb.mono (by omega)) (by omega) (by omega) (by omega)
    have hposW : 0 < restR x y (z * (S : Rat)) (v * (S : Rat)) (len * S) := by rw [hper.wide]; exact Rat.mul_pos hpos hS0
    dsimp only at e16
    rw [if_pos hposW, hper.again, fr_int] at e16
    have e17 := fun st : Store => c_same (fns := fns) (Tn := 3000) (i := 36) rfl 1 (.tup [.int (P.num * (S / (P.den : Int))), .int 1]) m st rfl (by omega)
    have l0 : decide (spanR x y z len * (S : Rat) < spanR x y z len * (S : Rat) + ((lo + 1 : Int) : Rat) * ((0 : Int) : Rat)) = false := by
      have : ((0 : Int) : Rat) = 0 := rfl
      rw [this, decide_eq_false_iff_not]
      grind
    have l1 : decide (spanR x y z len * (S : Rat) < spanR x y z len * (S : Rat) + ((lo + 1 : Int) : Rat) * ((1 : Int) : Rat)) = true := by
      have : ((1 : Int) : Rat) = 1 := rfl
      rw [this, decide_eq_true_iff]
      grind
    have hz1 : Bz 1 0 := by unfold Bz; decide
    have ho1 : Bz 1 1 := by unfold Bz; decide
    have e150 := e15 0 hz1
    simp only [l0, Int.add_zero] at e150
    have e151 := e15 1 ho1
    simp only [l1] at e151
    have m80 := m8 0 hz1
    simp only [Int.add_zero] at m80
    have m81 := m8 1 ho1
    have hlc := lc_map (F := F m) (own := [14]) (tg := .nm 14) (it := .tup (.cons (.c (.int 0)) (.cons (.c (.int 1)) .nil))) (x := .not (.call .frz 29 (.cons (.v 8) (.cons (.tup (.cons (.bin .add (.bin .mul (.bin .add (.v 2) (.c (.int 1))) (.bin .add (.v 11) (.v 14))) (.v 13)) (.cons (.c (.int 1)) .nil))) .nil))))
      (e := [some (.d (ck x y z (some v))), some (.d (.int len)), some (.d (.int lo)), some (.d (fr P)), some (.d (fr (spanR x y z len))), some (.d (fr (lateR y v))), some (.d (.int S)), some (.d (.tup [.int (firstI x z S), .int 1])), some (.d (fr (spanR x y z len * (S : Rat)))), none, some (.d (ck x y (z * (S : Rat)) (some (v * (S : Rat))))), some (.d (.int (P.num * (S / (P.den : Int))))), some (.d (.int (firstI x z S))), some (.d (.int ((lateR y v).num * (S / ((lateR y v).den : Int))))), none]) (st := [])
      [(0, true), (1, false)] (fun q : Int × Bool => .d (.int q.1)) (fun q => .bl q.2) (w := .d (.tup [.int 0, .int 1])) (by simp [tupf, dats]) rfl (fun q hq => ⟨_, rfl, by
        simp at hq
        rcases hq with rfl | rfl
        · simp [-Rat.intCast_add, wipeE, exLen, addB, m80, tupf, dats, e150]
        · simp [-Rat.intCast_add, wipeE, exLen, addB, m81, tupf, dats, e151]⟩) (by simp)
    have heq : cmpD .eq (.lst [.bl true, .bl false]) (.lst [.bl true, .bl false]) = some true := rfl
    have ckw : ∀ st, ixD st (.d (ck x y (z * (S : Rat)) (some (v * (S : Rat))))) (.int 2) = some (.d (fr (z * (S : Rat)))) := fun _ => rfl
    have hA : askD 0 (firstI x z S) = .tup [.int 0, .int (firstI x z S)] := rfl
    rw [hA] at e14
    have t0 : ∀ (a b : Int) st, ixD st (.d (.tup [.int a, .int b])) (.int 0) = some (.d (.int a)) := fun _ _ _ => rfl
    have t1 : ∀ (a b : Int) st, ixD st (.d (.tup [.int a, .int b])) (.int 1) = some (.d (.int b)) := fun _ _ _ => rfl
    have hwm : (Option.map (fun v => v * (S : Rat)) (some v)) = some (v * (S : Rat)) := rfl
    rw [hwm] at e10
    have hset1 : ∀ (e : Env) (a b : D), setf (.tp (.cons (.nm 10) (.cons (.nm 11) .nil))) e (.d (.tup [a, b])) [] = .ok (.nx ((e.set 10 (some (.d a))).set 11 (some (.d b))) []) := fun _ _ _ => rfl
    have hset2 : ∀ (e : Env) (a b : D), setf (.tp (.cons (.nm 12) (.cons (.nm 13) .nil))) e (.d (.tup [a, b])) [] = .ok (.nx ((e.set 12 (some (.d a))).set 13 (some (.d b))) []) := fun _ _ _ => rfl
    simp at hlc
    have hcp : cmpD .lt (.int P.num) (.int 1) = some false := by rw [cmp_lt, num_lt_one hPp]
    have hcs : cmpD .lt (.int S) (.int 61) = some (decide (S < 61)) := cmp_lt _ _
    simp [fd__law_period_right, ir__law_period_right, exLen, e1, ck0, ck1, ck2, ck3, tupf, lstf, dats, e2, e3, e4, hw0, isN_fr, e5, e6, e7, hlt, strm_fr, isTy_fr, i0, i1, e8, e9, hcp, hcs, m1, m2, m3, m4, e10, d1, m5, hset1, ckw, e11, e12, t0, t1, d3, d2, m6, hset2, m7, e14, hlc]
    by_cases h61 : S < 61
    · simp [h61, exLen, e16, e17, heq, lstf, dats]
    · simp [h61, heq, lstf, dats]
  · have hpos : ¬ 0 < restR x y z v len := by unfold restR; grind
    simp only [if_neg hpos] at e1
    simp [fd__law_period_right, ir__law_period_right, exLen, e1, ck0, ck1, ck2, ck3, tupf, dats, e2, e3, e4, hw0, isN_fr, e5, e6, e7, hlt, isN_non]
end
end EV

end
section
namespace EV
theorem draw_at {n : Nat} {st : Store} {m : Int} (hn : 1 ≤ n) (h0 : 0 < m) (h1 : m < 1000000) : callE (F n) .frz 34 [.d .strm, .d (.int m)] st = .draw m.toNat fun d => ret (.d (.int (d : Nat))) st := c_draw (T := 3000) rfl hn h0 h1
theorem pick_at {n : Nat} {st : Store} {xs : List D} (hn : 2 ≤ n) (h0 : xs ≠ []) (h1 : xs.length < 1000000) : gd (fun o => ∃ a s, o = .v a s ∧ ∃ x ∈ xs, a = .d x ∧ s = st) 1 (callE (F n) .frz 35 [.d .strm, .d (.lst xs)] st) := g_pick (T := 3000) (dr := 34) rfl rfl hn h0 h1
/-- drawn clocks -/
structure Dr (x y z : Rat) (w : Option Rat) : Prop where
  C : Cl 8 x y z w
  x1 : x ≤ 1
  x9 : Rat.divInt 1 10 ≤ x
  z3 : z ≤ 3
theorem tenth {d : Nat} (h : d < 10) : B 4 (Rat.divInt (1 + (d : Int)) 10) ∧ Rat.divInt (1 + (d : Int)) 10 ≤ 1 ∧ Rat.divInt 1 10 ≤ Rat.divInt (1 + (d : Int)) 10 := by
  refine ⟨B_div (by decide) (by unfold Bz; omega) (by unfold Bz; decide), ?_, ?_⟩
  · have : (1 : Rat) = Rat.divInt 1 1 := rfl
    rw [this, dv_le (by decide) (by decide)]
    omega
  · rw [dv_le (by decide) (by decide)]
    omega
theorem fr_of {r : Rat} {p q : Int} (h1 : r.num = p) (h2 : (r.den : Int) = q) : D.tup [.int p, .int q] = fr r := by subst h1 h2; rfl
theorem rB {k : Nat} {r : Rat} (h1 : r.num.natAbs < 2 ^ k) (h2 : r.den < 2 ^ k) : B k r := ⟨h1, by unfold Bz; omega⟩
def leastD : List D := [.tup [.int 0, .int 1], .tup [.int 1, .int 1], .tup [.int 1, .int 2], .tup [.int 3, .int 1]]
def moreD : List D := [.tup [.int 0, .int 1], .tup [.int 1, .int 3], .tup [.int 2, .int 1], .tup [.int 9, .int 1]]
theorem least_in {d : D} (h : d ∈ leastD) : ∃ z : Rat, d = fr z ∧ B 2 z ∧ 0 ≤ z ∧ z ≤ 3 := by
  simp [leastD] at h
  rcases h with rfl | rfl | rfl | rfl
  · exact ⟨0, rfl, rB (by decide) (by decide), by decide, by decide⟩
  · exact ⟨1, rfl, rB (by decide) (by decide), by decide, by decide⟩
  · exact ⟨(⟨1, 2, by decide, by decide⟩ : Rat), rfl, rB (by decide) (by decide), by decide, by decide⟩
  · exact ⟨3, rfl, rB (by decide) (by decide), by decide, by decide⟩
theorem more_in {d : D} (h : d ∈ moreD) : ∃ z : Rat, d = fr z ∧ B 4 z ∧ 0 ≤ z := by
  simp [moreD] at h
  rcases h with rfl | rfl | rfl | rfl
  · exact ⟨0, rfl, rB (by decide) (by decide), by decide⟩
  · exact ⟨(⟨1, 3, by decide, by decide⟩ : Rat), rfl, rB (by decide) (by decide), by decide⟩
  · exact ⟨2, rfl, rB (by decide) (by decide), by decide⟩
  · exact ⟨9, rfl, rB (by decide) (by decide), by decide⟩
theorem g_clocks {n : Nat} {st : Store} (hn : 4 ≤ n) : gd (fun o => ∃ a s, o = EO.v a s ∧ s = st ∧ ∃ d, a = .d d ∧ ∃ x y z w, d = ck x y z w ∧ Dr x y z w) 6 (callE (F n) .frz 30 [.d .strm] st) := by
  obtain ⟨m, rfl⟩ := pred (n := n) (by omega)
  rw [call1 (fn := fd__law_l_clocks) rfl rfl]
  refine gd_fin ?_
  show gd _ 6 (evS (F m) ir__law_l_clocks [some (.d .strm), none, none, none, none] [])
  unfold ir__law_l_clocks
  refine gd_seq (n := 1) (m := 5) (P := fun e s => s = [] ∧ ∃ d : Nat, d < 10 ∧ e = [some (.d .strm), some (.d (fr (Rat.divInt (1 + (d : Int)) 10))), none, none, none]) ?_ fun e s ⟨hs, d, hd, he⟩ => ?_
  · have hdr := fun st : Store => draw_at (n := m) (st := st) (m := 10) (by omega) (by decide) (by decide)
    have hl := fun (t : Int) (st : Store) => c_llowest (n := m) (k := 4) (st := st) (t := t) (b := 10) (by omega) (by decide) (by unfold Bz; decide) (by decide)
    simp [exLen, hdr, addB, hl]
    refine gd_draw (n := 0) (by decide) fun d hd => gd_ok ?_
    exact ⟨_, _, rfl, rfl, d, hd, rfl⟩
  subst hs he
  obtain ⟨bx, x1, x9⟩ := tenth hd
  revert bx x1 x9
  generalize Rat.divInt (1 + (d : Int)) 10 = x
  intro bx x1 x9
  have x0 : 0 < x := by
    have : (0 : Rat) < Rat.divInt 1 10 := by decide
    grind
  refine gd_seq (n := 2) (m := 3) (P := fun e s => s = [] ∧ ∃ y, B 8 y ∧ x ≤ y ∧ e = [some (.d .strm), some (.d (fr x)), some (.d (fr y)), none, none]) ?_ fun e s ⟨hs, y, by', xy, he⟩ => ?_
  · have h4 := fun st : Store => draw_at (n := m) (st := st) (m := 4) (by omega) (by decide) (by decide)
    have h5 := fun st : Store => draw_at (n := m) (st := st) (m := 5) (by omega) (by decide) (by decide)
    simp [exLen, h4, h5, addB]
    refine gd_draw (n := 1) (by decide) fun d hd => gd_draw (n := 0) (by decide) fun e he => ?_
    have b3 : B 3 (Rat.divInt (d : Int) (1 + (e : Int))) := B_div (by omega) (by unfold Bz; omega) (by unfold Bz; omega)
    have p3 : 0 ≤ Rat.divInt (d : Int) (1 + (e : Int)) := (dv_neg (by omega)).mpr (by omega)
    have hl := fun (st : Store) => c_llowest (n := m) (k := 3) (st := st) (t := (d : Int)) (b := 1 + (e : Int)) (by omega) (by omega) (by unfold Bz; omega) (by decide)
    have hp := fun (st : Store) => r_lplus (n := m) (st := st) (by omega) bx b3 (by decide)
    simp [hl, hp]
    refine gd_ok ⟨_, _, rfl, rfl, x + Rat.divInt (d : Int) (1 + (e : Int)), (bx.add b3).mono (by omega), ?_, rfl⟩
    revert p3
    generalize Rat.divInt (d : Int) (1 + (e : Int)) = q
    intro p3
    grind
  subst hs he
  refine gd_seq (n := 1) (m := 2) (P := fun e s => s = [] ∧ ∃ z, B 2 z ∧ 0 ≤ z ∧ z ≤ 3 ∧ e = [some (.d .strm), some (.d (fr x)), some (.d (fr y)), some (.d (fr z)), none]) ?_ fun e s ⟨hs, z, bz, z0, z3, he⟩ => ?_
  · refine gd_mono (gd_set (i := 3) (Q := fun a s => ∃ x ∈ leastD, a = .d x ∧ s = []) ?_) (Nat.le_refl _) fun o ⟨e', s', eo, a, ea, q⟩ => ?_
    · have := pick_at (n := m) (st := []) (xs := leastD) (by omega) (by simp [leastD]) (by simp [leastD])
      simp [exLen, tupf, lstf, dats]
      simpa [leastD] using this
    · obtain ⟨d, hd, rfl, rfl⟩ := q
      obtain ⟨z, rfl, q1, q2, q3⟩ := least_in hd
      exact ⟨e', _, eo, rfl, z, q1, q2, q3, ea⟩
  subst hs he
  refine gd_seq (n := 1) (m := 1) (P := fun e s => s = [] ∧ ∃ v, B 8 v ∧ z ≤ v ∧ e = [some (.d .strm), some (.d (fr x)), some (.d (fr y)), some (.d (fr z)), some (.d (fr v))]) ?_ fun e s ⟨hs, v, bv, zv, he⟩ => ?_
  · refine gd_mono (gd_set (i := 4) (Q := fun a s => ∃ v, B 8 v ∧ z ≤ v ∧ a = .d (fr v) ∧ s = []) ?_) (Nat.le_refl _) fun o ⟨e', s', eo, a, ea, q⟩ => ?_
    · have := pick_at (n := m) (st := []) (xs := moreD) (by omega) (by simp [moreD]) (by simp [moreD])
      simp only [ev_call, ev_cons, ev_v, envGet_s, envGet_0, Option.map_some, rdV_d, lift_some, bnd_ret]
      simp [exLen, tupf, lstf, dats, bnd_assoc]
      refine gd_bnd (n := 1) (m := 0) (P := fun a s => ∃ x ∈ moreD, a = .d x ∧ s = []) (by simpa [moreD] using this) fun a s ⟨d, hd, ea, es⟩ => ?_
      subst ea es
      obtain ⟨q, rfl, q1, q2⟩ := more_in hd
      have hp := fun (st : Store) => r_lplus (n := m) (st := st) (by omega) bz q1 (by decide)
      simp [exLen, hp]
      exact gd_ret ⟨_, _, rfl, z + q, (bz.add q1).mono (by omega), by grind, rfl, rfl⟩
    · obtain ⟨v, q1, q2, rfl, rfl⟩ := q
      exact ⟨e', _, eo, rfl, v, q1, q2, ea⟩
  subst hs he
  have h5 := fun st : Store => draw_at (n := m) (st := st) (m := 5) (by omega) (by decide) (by decide)
  refine gd_mono (P := fun o => ∃ w, Dr x y z w ∧ ∃ s', o = Out.rt (.d (ck x y z w)) s') ?_ (Nat.le_refl _) fun o ⟨w, q1, s', q2⟩ => ⟨_, _, q2, _, rfl, x, y, z, w, rfl, q1⟩
  simp [exLen, h5, eq_int]
  refine gd_draw (n := 0) (by decide) fun d hd => ?_
  by_cases h0 : d = 0
  · subst h0
    simp [tupf, dats]
    exact gd_ok ⟨none, ⟨⟨x0, xy, z0, fun v e => (by cases e), bx.mono (by omega), by', bz.mono (by omega), fun v e => (by cases e)⟩, x1, x9, z3⟩, _, rfl⟩
  · simp [h0, tupf, dats]
    exact gd_ok ⟨some v, ⟨⟨x0, xy, z0, fun v' e => (by cases e; exact zv), bx.mono (by omega), by', bz.mono (by omega), fun v' e => (by cases e; exact bv)⟩, x1, x9, z3⟩, _, rfl⟩
end EV

end
section
namespace EV
theorem scl {r : Rat} {s : Int} (h : 0 < s) : Rat.divInt (s * r.num) (s * r.den) = r := by
  rw [Rat.divInt_mul_left (by omega), Rat.num_divInt_den]
theorem isi2 (e : Env) (st : Store) (i : Int) : isif [.int] (.d (.int i)) st = ret (.d (.bl true)) st := rfl
theorem g_loose_fr {n : Nat} {st : Store} {r : Rat} (hr : B 8 r) (hn : 3 ≤ n) : gd (fun o => ∃ d, o = EO.v (.d d) st ∧ Fq 10 d r) 2 (callE (F n) .frz 31 [.d .strm, .d (fr r)] st) := by
  obtain ⟨m, rfl⟩ := pred (n := n) (by omega)
  rw [call2 (fn := fd__law_l_loose) rfl rfl]
  refine gd_mono (gd_fin (n := 2) (Q := fun d => Fq 10 d r) ?_) (Nat.le_refl _) fun o ⟨a, s, e, es, d, ed, q⟩ => ⟨d, by rw [e, es, ed], q⟩
  have hdr := fun st : Store => draw_at (n := m) (st := st) (m := 3) (by omega) (by decide) (by decide)
  have hlen : ∀ st, biE .len [.d (fr r)] st = ret (.d (.int 2)) st := fun _ => rfl
  have hlc := lc_map (F := F m) (own := [3]) (tg := .nm 3) (it := .v 1) (x := .isi (.v 3) [.int]) (e := [some (.d .strm), some (.d (fr r)), none, none]) (st := []) [r.num, (r.den : Int)] (fun i => .d (.int i)) (fun _ => .bl true) (w := .d (fr r)) (by simp) rfl
    (fun i hi => ⟨_, rfl, rfl⟩) (by simp)
  have hall : ∀ st, biE .all [.d (.lst [.bl true, .bl true])] st = ret (.d (.bl true)) st := fun _ => rfl
  have hsi : isTy (fr r) .list = false := rfl
  have hst : isTy (fr r) .tuple = true := rfl
  simp at hlc
  refine gd_mono (P := fun o => ∃ d', o = Out.rt (.d d') [] ∧ Fq 10 d' r) (n := 2) ?_ (Nat.le_refl _) fun o ⟨d', e, q⟩ => ⟨_, _, e, d', rfl, q⟩
  simp [fd__law_l_loose, ir__law_l_loose, strm_fr, hsi, hst, hlen, eq_int, hlc, hall, exLen, hdr, addB]
  refine gd_draw (n := 1) (by decide) fun d hd => ?_
  have b1 : Bz 2 (1 + (d : Int)) := by unfold Bz; omega
  have m1 := mulB b1 hr.n (by decide)
  have m2 := mulB b1 hr.d (by decide)
  simp [exLen, i0, i1, m1, m2, tupf, lstf, dats]
  have hp := pick_at (n := m) (st := []) (xs := [.lst [.int ((1 + (d : Int)) * r.num), .int ((1 + (d : Int)) * r.den)], .tup [.int ((1 + (d : Int)) * r.num), .int ((1 + (d : Int)) * r.den)]]) (by omega) (by simp) (by simp)
  refine gd_bind (n := 1) (m := 0) (P := fun o => ∃ d', o = Out.rt (.d d') [] ∧ Fq 10 d' r) (gd_bind (n := 1) (m := 0) (P := fun o => ∃ d', o = Out.rt (.d d') [] ∧ Fq 10 d' r) (gd_sBnd (n := 1) (m := 0) (P := fun a s => ∃ d', a = .d d' ∧ s = [] ∧ Fq 10 d' r) (gd_mono hp (Nat.le_refl _) fun o ⟨a, s, e, x, hx, ea, es⟩ => ⟨a, s, e, x, ea, es, ?_⟩) fun a s ⟨d', ea, es, q⟩ => by subst ea es; exact gd_ok ⟨d', rfl, q⟩) fun o ⟨d', e, q⟩ => by subst e; exact gd_ok ⟨d', rfl, q⟩) fun o ⟨d', e, q⟩ => by subst e; exact gd_ok ⟨d', rfl, q⟩
  refine ⟨(1 + (d : Int)) * r.num, (1 + (d : Int)) * r.den, ?_, Int.mul_pos (by omega) (denp r), b1.mul hr.n, b1.mul hr.d, (scl (by omega)).symm⟩
  simp at hx
  rcases hx with rfl | rfl
  · exact .inr rfl
  · exact .inl rfl
theorem c_loose_non {n : Nat} {st : Store} (hn : 1 ≤ n) : callE (F n) .frz 31 [.d .strm, .d .non] st = ret (.d .non) st := by
  obtain ⟨m, rfl⟩ := pred (n := n) (by omega)
  rw [call2 (fn := fd__law_l_loose) rfl rfl]
  simp [fd__law_l_loose, ir__law_l_loose, isStrm, isTy, tyOf]
/-- loose clocks are the clocks -/
def Lo (d : D) (x y z : Rat) (w : Option Rat) : Prop := ∃ l h a b, items4 d [l, h, a, b] ∧ Fq 10 l x ∧ Fq 10 h y ∧ Fq 10 a z ∧ ((b = .non ∧ w = none) ∨ ∃ v, Fq 10 b v ∧ w = some v)
theorem Lo.c {d : D} {x y z : Rat} {w : Option Rat} {k : Nat} (h : Lo d x y z w) (C : Cl k x y z w) {n : Nat} {st : Store} (hn : 4 ≤ n) : callE (F n) .frz 12 [.d d] st = ret (.d (ck x y z w)) st := by
  obtain ⟨l, h', a, b, i, h1, h2, h3, h4⟩ := h
  exact c_ck i h1 h2 h3 h4 C.x0 C.xy C.z0 C.zw (by decide) hn
theorem g_loose {n : Nat} {st : Store} {x y z : Rat} {w : Option Rat} (C : Cl 8 x y z w) (hn : 4 ≤ n) : gd (fun o => ∃ d, o = EO.v (.d d) st ∧ Lo d x y z w) 8 (callE (F n) .frz 31 [.d .strm, .d (ck x y z w)] st) := by
  obtain ⟨m, rfl⟩ := pred (n := n) (by omega)
  rw [call2 (fn := fd__law_l_loose) rfl rfl]
  refine gd_mono (gd_fin (n := 8) (Q := fun d => Lo d x y z w) ?_) (Nat.le_refl _) fun o ⟨a, s, e, es, d, ed, q⟩ => ⟨d, by rw [e, es, ed], q⟩
  have hlen : ∀ st, biE .len [.d (ck x y z w)] st = ret (.d (.int 4)) st := fun _ => rfl
  have hsi : isTy (ck x y z w) .list = false := rfl
  have hst : isTy (ck x y z w) .tuple = true := rfl
  have hss : isStrm (ck x y z w) = false := rfl
  have hlc := gd_lc (F := F m) (own := [3]) (tg := .nm 3) (it := .v 1) (x := .call .frz 31 (.cons (.v 0) (.cons (.v 3) .nil))) (e := [some (.d .strm), some (.d (ck x y z w)), none, none]) (st := []) (n := 2)
    (R := fun a d => (a = .non ∧ d = .non) ∨ ∃ r, a = fr r ∧ Fq 10 d r) [fr x, fr y, fr z, wD w] (fun d => .d d) (w := .d (ck x y z w)) (by simp) rfl
    (fun a ha => ⟨_, rfl, by
      have hf : ∀ r, B 8 r → gd (fun o => ∃ d, o = EO.v (.d d) [] ∧ ((fr r = .non ∧ d = .non) ∨ ∃ r', fr r = fr r' ∧ Fq 10 d r')) 2 (callE (F m) .frz 31 [.d .strm, .d (fr r)] []) := fun r hr => gd_mono (g_loose_fr hr (by omega)) (Nat.le_refl _) fun o ⟨d, e, q⟩ => ⟨d, e, .inr ⟨r, rfl, q⟩⟩
      simp [wipeE, exLen]
      simp at ha
      rcases ha with rfl | rfl | rfl | rfl
      · exact hf x C.bx
      · exact hf y C.by'
      · exact hf z C.bz
      · cases w with
        | none => exact gd_mono (gd_val (n := 2) (c_loose_non (by omega)) ⟨.non, rfl, .inl ⟨rfl, rfl⟩⟩) (Nat.le_refl _) fun _ q => q
        | some v => exact hf v (C.bw v rfl)⟩) (by simp)
  refine gd_mono (P := fun o => ∃ d', o = Out.rt (.d d') [] ∧ Lo d' x y z w) (n := 8) ?_ (Nat.le_refl _) fun o ⟨d', e, q⟩ => ⟨_, _, e, d', rfl, q⟩
  simp [fd__law_l_loose, ir__law_l_loose, hss, hsi, hst, hlen, eq_int]
  have frinj : ∀ {r r' : Rat}, fr r = fr r' → r = r' := fun {r r'} e => by
    unfold fr at e
    injection e with e
    injection e with e1 e2
    injection e2 with e2 e3
    injection e1 with e1
    injection e2 with e2
    exact rat_ext e1 e2
  have key : ∀ ds : List D, F2 (fun a d => (a = .non ∧ d = .non) ∨ ∃ r, a = fr r ∧ Fq 10 d r) [fr x, fr y, fr z, wD w] ds → Lo (.lst ds) x y z w := by
    intro ds q
    have one : ∀ {r : Rat} {d : D}, ((fr r = .non ∧ d = .non) ∨ ∃ r', fr r = fr r' ∧ Fq 10 d r') → Fq 10 d r := fun {r d} h => by
      rcases h with ⟨h, _⟩ | ⟨r', e, q⟩
      · cases h
      · rw [frinj e]; exact q
    cases q with
    | cons q1 q =>
      cases q with
      | cons q2 q =>
        cases q with
        | cons q3 q =>
          cases q with
          | cons q4 q =>
            cases q
            refine ⟨_, _, _, _, .inr rfl, one q1, one q2, one q3, ?_⟩
            cases w with
            | none =>
              rcases q4 with ⟨_, h⟩ | ⟨r', e, q⟩
              · exact .inl ⟨h, rfl⟩
              · cases e
            | some v => exact .inr ⟨v, one q4, rfl⟩
  refine gd_bind (n := 8) (m := 0) (P := fun o => ∃ d', o = Out.rt (.d d') [] ∧ Lo d' x y z w) (gd_sBnd (n := 8) (m := 0) (P := fun a s => ∃ d', a = .d d' ∧ s = [] ∧ Lo d' x y z w) (gd_mono hlc (Nat.le_of_eq rfl) fun o ⟨ds, e, q⟩ => ⟨_, _, e, .lst ds, rfl, rfl, key ds q⟩) fun a s ⟨d', ea, es, q⟩ => by subst ea es; exact gd_ok ⟨d', rfl, q⟩) fun o ⟨d', e, q⟩ => by subst e; exact gd_ok ⟨d', rfl, q⟩
end EV

end
section
namespace EV
def p2 (a b : Int) : D := .tup [.int a, .int b]
def odds1 (x y z : Rat) (w : Option Rat) : List D := [.non, .int 5, .str [97, 98, 99, 100], .dct [] [], .tup [], .tup [fr x, fr y, fr z], .tup [fr x, fr y, fr z, wD w, .non], .tup [p2 0 1, fr y, fr z, wD w], .tup [p2 (-1) 2, fr y, fr z, wD w]]
def odds2 (x y : Rat) : List D := [.tup [fr x, p2 1 99, p2 0 1, .non], .tup [fr x, fr y, p2 (-1) 1, .non], .tup [.int 1, .int 1, .int 0, .non]]
def odds3 (x y z : Rat) (w : Option Rat) : List D := [.tup [p2 1 0, fr y, fr z, wD w], .tup [.tup [.bl true, .int 1], fr y, fr z, wD w], .tup [fr x, .non, p2 0 1, .non]]
def odds4 (x y : Rat) : List D := [.tup [fr x, fr y, p2 2 1, p2 1 1], .tup [fr x, fr y, p2 0 1, .int 5]]
def odds (x y z : Rat) (w : Option Rat) : List D := ((odds1 x y z w ++ odds2 x y) ++ odds3 x y z w) ++ odds4 x y
theorem p2_Pr (a b : Int) : Pr (p2 a b) a b := .inl rfl
theorem fr_okF (r : Rat) : okF (fr r) := (fr_Pr r).ok
theorem fr_isFr (r : Rat) : isFr (fr r) = true := (fr_Pr r).fr (denp r)
theorem int_okF (i : Int) : okF (.int i) := ⟨rfl, fun x hx => absurd hx List.not_mem_nil, by simp [itemsD]⟩
theorem non_okF : okF .non := ⟨rfl, fun x hx => absurd hx List.not_mem_nil, by simp [itemsD]⟩
theorem p2_okF (a b : Int) : okF (p2 a b) := (p2_Pr a b).ok
theorem bl_okF : okF (.tup [.bl true, .int 1]) := ⟨rfl, fun x hx => by simp [itemsD] at hx; rcases hx with rfl | rfl <;> rfl, by simp [itemsD]⟩
theorem odd_x {n : Nat} {st : Store} {x y z : Rat} {w : Option Rat} (Dd : Dr x y z w) (hn : 4 ≤ n) {d : D} (h : d ∈ odds x y z w) : callE (F n) .frz 12 [.d d] st = .ok (.x 1 [d] st) := by
  obtain ⟨n, rfl⟩ := pred (n := n) (by omega)
  have C := Dd.C
  have bx := C.bx
  have by' := C.by'
  have bz := C.bz
  have b1 : ∀ {i : Int}, i.natAbs < 256 → Bz 8 i := fun {i} h => h
  have hx0 := num_pos C.x0
  have hz0 : 0 ≤ z.num := Rat.num_nonneg.mpr C.z0
  have hxy := (dv_le (denp x) (denp y)).mp (by rw [dv_self, dv_self]; exact C.xy)
  have x1 := fun (d : D) (hs : isStrm d = false) (h : isSeq d = false ∨ ∃ xs, items4 d xs ∧ (xs.length ≠ 4 ∨ (∀ x ∈ xs.take 3, okF x) ∧ (xs.take 3).all isFr = false)) => clk_x1 (n := n + 1) (st := st) (d := d) (by omega) hs h
  simp only [odds, odds1, odds2, odds3, odds4, List.mem_append, List.mem_cons, List.not_mem_nil, or_false] at h
  rcases h with ((((rfl | rfl | rfl | rfl | rfl | rfl | rfl | rfl | rfl) | (rfl | rfl | rfl)) | (rfl | rfl | rfl))) | (rfl | rfl)
  · exact x1 _ rfl (.inl rfl)
  · exact x1 _ rfl (.inl rfl)
  · exact x1 _ rfl (.inl rfl)
  · exact x1 _ rfl (.inl rfl)
  · exact x1 _ rfl (.inr ⟨_, .inl rfl, .inl (by simp)⟩)
  · exact x1 _ rfl (.inr ⟨_, .inl rfl, .inl (by simp)⟩)
  · exact x1 _ rfl (.inr ⟨_, .inl rfl, .inl (by simp)⟩)
  · rw [clk_2 (k := 8) ⟨.inl rfl, p2_Pr 0 1, fr_Pr y, fr_Pr z, by decide, denp y, denp z, b1 (by decide), b1 (by decide), by'.n, by'.d, bz.n, bz.d, by decide⟩ (by omega), if_pos (.inl (by decide))]
  · rw [clk_2 (k := 8) ⟨.inl rfl, p2_Pr (-1) 2, fr_Pr y, fr_Pr z, by decide, denp y, denp z, b1 (by decide), b1 (by decide), by'.n, by'.d, bz.n, bz.d, by decide⟩ (by omega), if_pos (.inl (by decide))]
  · rw [clk_2 (k := 8) ⟨.inl rfl, fr_Pr x, p2_Pr 1 99, p2_Pr 0 1, denp x, by decide, by decide, bx.n, bx.d, b1 (by decide), b1 (by decide), b1 (by decide), b1 (by decide), by decide⟩ (by omega), if_pos ?_]
    right; left
    have h9 := (dv_le (p := 1) (q := 10) (r := x.num) (s := x.den) (by decide) (denp x)).mp (by rw [dv_self]; exact Dd.x9)
    omega
  · rw [clk_2 (k := 8) ⟨.inl rfl, fr_Pr x, fr_Pr y, p2_Pr (-1) 1, denp x, denp y, by decide, bx.n, bx.d, by'.n, by'.d, b1 (by decide), b1 (by decide), by decide⟩ (by omega), if_pos (.inr (.inr (by decide)))]
  · exact x1 _ rfl (.inr ⟨_, .inl rfl, .inr ⟨fun q hq => by simp at hq; rcases hq with rfl | rfl | rfl <;> exact int_okF _, rfl⟩⟩)
  · refine x1 _ rfl (.inr ⟨_, .inl rfl, .inr ⟨fun q hq => ?_, rfl⟩⟩)
    simp at hq
    rcases hq with rfl | rfl | rfl
    · exact p2_okF 1 0
    · exact fr_okF _
    · exact fr_okF _
  · refine x1 _ rfl (.inr ⟨_, .inl rfl, .inr ⟨fun q hq => ?_, rfl⟩⟩)
    simp at hq
    rcases hq with rfl | rfl | rfl
    · exact bl_okF
    · exact fr_okF _
    · exact fr_okF _
  · refine x1 _ rfl (.inr ⟨_, .inl rfl, .inr ⟨fun q hq => ?_, ?_⟩⟩)
    · simp at hq
      rcases hq with rfl | rfl | rfl
      · exact fr_okF _
      · exact non_okF
      · exact p2_okF 0 1
    · have hf : isFr .non = false := rfl
      simp [hf]
  · rw [clk_2 (k := 8) ⟨.inl rfl, fr_Pr x, fr_Pr y, p2_Pr 2 1, denp x, denp y, by decide, bx.n, bx.d, by'.n, by'.d, b1 (by decide), b1 (by decide), by decide⟩ (by omega), if_neg (by omega)]
    exact clk_x4 (k := 8) (by omega) (p2_Pr 2 1) (p2_Pr 1 1) (by decide) (b1 (by decide)) (b1 (by decide)) (b1 (by decide)) (b1 (by decide)) (by decide) (by decide)
  · rw [clk_2 (k := 8) ⟨.inl rfl, fr_Pr x, fr_Pr y, p2_Pr 0 1, denp x, denp y, by decide, bx.n, bx.d, by'.n, by'.d, b1 (by decide), b1 (by decide), by decide⟩ (by omega), if_neg (by omega)]
    exact clk_3 rfl (int_okF 5) rfl (by omega)
theorem samB_wD (w : Option Rat) : samB (wD w) 2 = true := by cases w <;> rfl
theorem odd_sam {x y z : Rat} {w : Option Rat} {d : D} (h : d ∈ odds x y z w) : samB d 3 = true := by
  have hw : samB (wD w) 2 = true := samB_wD w
  simp only [odds, odds1, odds2, odds3, odds4, List.mem_append, List.mem_cons, List.not_mem_nil, or_false] at h
  rcases h with ((((rfl | rfl | rfl | rfl | rfl | rfl | rfl | rfl | rfl) | (rfl | rfl | rfl)) | (rfl | rfl | rfl))) | (rfl | rfl) <;> first
    | rfl
    | (simp only [samB, samBs, hw, samB_fr, p2]; rfl)
/-! what is refused -/
section
variable {n : Nat} {st : Store} {x y z : Rat} {w : Option Rat}
theorem span_x1 {d e : D} (h : ∀ st, callE (F n) .frz 12 [.d d] st = .ok (.x 1 [d] st)) : callE (F (n + 1)) .frz 21 [.d d, .d e] st = .ok (.x 1 [d] st) := by
  rw [call2 (fn := fd_span_for) rfl rfl]
  simp [fd_span_for, ir_span_for, exLen, h]
theorem length_x1 {d e : D} (h : ∀ st, callE (F n) .frz 12 [.d d] st = .ok (.x 1 [d] st)) : callE (F (n + 1)) .frz 22 [.d d, .d e] st = .ok (.x 1 [d] st) := by
  rw [call2 (fn := fd_length_for) rfl rfl]
  simp [fd_length_for, ir_length_for, exLen, h]
theorem period_x1 {d e f : D} (h : ∀ st, callE (F n) .frz 12 [.d d] st = .ok (.x 1 [d] st)) : callE (F (n + 1)) .frz 23 [.d d, .d e, .d f] st = .ok (.x 1 [d] st) := by
  rw [call3 (fn := fd_longest_period) rfl rfl]
  simp [fd_longest_period, ir_longest_period, exLen, h]
theorem span_x2 {e : D} (C : Cl 8 x y z w) (hs : isStrm e = false) (h : ∀ i, e = .int i → i < 1) (hn : 4 ≤ n) : callE (F (n + 1)) .frz 21 [.d (ck x y z w), .d e] st = .ok (.x 2 [e] st) := by
  rw [call2 (fn := fd_span_for) rfl rfl]
  have e1 := fun st : Store => C.c (n := n) (st := st) (by omega) (by omega)
  have e2 := fun st : Store => c_len_x (n := n) (st := st) hs h (by omega)
  simp [fd_span_for, ir_span_for, exLen, e1, e2]
theorem period_x2 {e f : D} (C : Cl 8 x y z w) (hs : isStrm e = false) (h : ∀ i, e = .int i → i < 1) (hn : 4 ≤ n) : callE (F (n + 1)) .frz 23 [.d (ck x y z w), .d e, .d f] st = .ok (.x 2 [e] st) := by
  rw [call3 (fn := fd_longest_period) rfl rfl]
  have e1 := fun st : Store => C.c (n := n) (st := st) (by omega) (by omega)
  have e2 := fun st : Store => c_len_x (n := n) (st := st) hs h (by omega)
  simp [fd_longest_period, ir_longest_period, exLen, e1, e2]
theorem length_x4 {e : D} (C : Cl 8 x y z w) (hs : isStrm e = false) (h : isNum e = false) (hn : 4 ≤ n) : callE (F (n + 1)) .frz 22 [.d (ck x y z w), .d e] st = .ok (.x 4 [e] st) := by
  rw [call2 (fn := fd_length_for) rfl rfl]
  have e1 := fun st : Store => C.c (n := n) (st := st) (by omega) (by omega)
  have e2 := fun st : Store => c_num (n := n) (st := st) hs (by omega)
  simp [fd_length_for, ir_length_for, exLen, e1, e2, h, raisef, dats]
theorem period_x3 {e : D} (C : Cl 8 x y z w) (hs : isStrm e = false) (h : isNum e = false) (hn : 4 ≤ n) : callE (F (n + 1)) .frz 23 [.d (ck x y z w), .d (.int 5), .d e] st = .ok (.x 3 [e] st) := by
  rw [call3 (fn := fd_longest_period) rfl rfl]
  have e1 := fun st : Store => C.c (n := n) (st := st) (by omega) (by omega)
  have e2 := fun st : Store => c_len (n := n) (st := st) (i := 5) (by decide) (by omega)
  have e3 := fun st : Store => c_num (n := n) (st := st) hs (by omega)
  simp [fd_longest_period, ir_longest_period, exLen, e1, e2, e3, h, raisef, dats]
end
end EV

end
section
namespace EV
def sClocks : List Nat := [99, 108, 111, 99, 107, 115]
def sLength : List Nat := [108, 101, 110, 103, 116, 104]
def sSpan : List Nat := [115, 112, 97, 110]
def sNumber : List Nat := [110, 117, 109, 98, 101, 114]
def mh : List (Nat × List Nat × List Nat) := [(1, sClocks, [0]), (2, sLength, [0]), (4, sSpan, [0]), (3, sNumber, [0])]
theorem mh_eq : metHs = mh := rfl
theorem met1 (d : D) (st : Store) : metE metHs (.x 1 [d] st) = ret (.d (.tup [.str sClocks, d])) st := rfl
theorem met2 (d : D) (st : Store) : metE metHs (.x 2 [d] st) = ret (.d (.tup [.str sLength, d])) st := rfl
theorem met3 (d : D) (st : Store) : metE metHs (.x 3 [d] st) = ret (.d (.tup [.str sNumber, d])) st := rfl
theorem met4 (d : D) (st : Store) : metE metHs (.x 4 [d] st) = ret (.d (.tup [.str sSpan, d])) st := rfl
def wrongs : List D := [.int 0, .int (-1), .non, .str [49], .bl true, p2 1 1]
def nones : List D := [.int (-1), .non, .str [49], .bl true, .lst []]
theorem wrong_is {e : D} (h : e ∈ wrongs) : isStrm e = false ∧ (∀ i, e = .int i → i < 1) ∧ samB e 3 = true := by
  simp [wrongs] at h
  rcases h with rfl | rfl | rfl | rfl | rfl | rfl
  · exact ⟨rfl, (fun i e => by cases e; decide), rfl⟩
  · exact ⟨rfl, (fun i e => by cases e; decide), rfl⟩
  · exact ⟨rfl, (fun i e => by cases e), rfl⟩
  · exact ⟨rfl, (fun i e => by cases e), rfl⟩
  · exact ⟨rfl, (fun i e => by cases e), rfl⟩
  · exact ⟨rfl, (fun i e => by cases e), rfl⟩
theorem none_is {e : D} (h : e ∈ nones) : isStrm e = false ∧ isNum e = false ∧ samB e 3 = true := by
  simp [nones] at h
  rcases h with rfl | rfl | rfl | rfl | rfl <;> exact ⟨rfl, rfl, rfl⟩
/-- all that was found -/
def foundL (o w q : D) : List D := [.tup [.str sClocks, o], .tup [.str sSpan, q], .tup [.str sLength, w], .tup [.str sClocks, o], .tup [.str sClocks, o], .tup [.str sLength, w], .tup [.str sNumber, q]]
theorem found_sam {o w q : D} (h1 : samB o 3 = true) (h2 : samB w 3 = true) (h3 : samB q 3 = true) : samB (.lst (foundL o w q)) 5 = true := by
  simp only [foundL, samB, samBs, h1, h2, h3]
  rfl
def rTail1 : St := match ir__law_refused_right with
  | .seq _ (.seq _ (.seq _ r)) => r
  | _ => .nope
def rTail2 : St := match rTail1 with
  | .seq _ (.seq _ r) => r
  | _ => .nope
theorem slk3 {x y z : Rat} {w : Option Rat} (st : Store) : slf (.d (ck x y z w)) (.its []) (fun st => ret (.d (.int 3)) st) st = ret (.d (.tup [fr x, fr y, fr z])) st := rfl
theorem slk1 {x y z : Rat} {w : Option Rat} (st : Store) : slf (.d (ck x y z w)) (.d (.int 1)) (fun st => ret (.its []) st) st = ret (.d (.tup [fr y, fr z, wD w])) st := rfl
theorem app_tup (a b : List D) (h : a.isEmpty = false) (hl : a.length + b.length ≤ 1000000) : binD .add (.tup a) (.tup b) = some (.tup (a ++ b)) := by
  show (if _ then _ else _) = _
  rw [if_pos ⟨rfl, hl, h⟩]
theorem ck_app {x y z : Rat} {w : Option Rat} : binD .add (ck x y z w) (.tup [.non]) = some (.tup [fr x, fr y, fr z, wD w, .non]) := app_tup _ _ rfl (by simp)
theorem pre_app {y z : Rat} {w : Option Rat} {d : D} : binD .add (.tup [d]) (.tup [fr y, fr z, wD w]) = some (.tup [d, fr y, fr z, wD w]) := app_tup _ _ rfl (by simp)
theorem ext_cellD {l k : List D} {r : List (Option Cell)} (h : l.length + k.length ≤ 1000000) : mtE .extend (.ref 0) [.d (.lst k)] (cellD l :: r) = ret (.d .non) (cellD (l ++ k) :: r) := by
  show (if _ then _ else _) = _
  rw [if_pos (by simpa using h)]
  simp [cellD]
theorem app_cellD {l : List D} {d : D} {r : List (Option Cell)} (h : l.length < 1000000) : mtE .append (.ref 0) [.d d] (cellD l :: r) = ret (.d .non) (cellD (l ++ [d]) :: r) := by
  show (if _ then _ else _) = _
  rw [if_pos (by simpa using h)]
  simp [cellD]
theorem ref_a {m : Nat} {x y z : Rat} {w : Option Rat} : evS (F m) (match ir__law_refused_right with | .seq a _ => a | _ => .nope) [some (.d .strm), some (.d (ck x y z w)), none, none, none, none, none, none] [] = .ok (.nx [some (.d .strm), some (.d (ck x y z w)), some (.ref 0), none, none, none, none, none] [cellD (odds1 x y z w)]) := by
  simp [ir__law_refused_right, slk3, slk1, ck_app, pre_app, tupf, dats, lstmf]
  rfl
theorem ref_b {m : Nat} {x y z : Rat} {w : Option Rat} : evS (F m) (match ir__law_refused_right with | .seq _ (.seq b _) => b | _ => .nope) [some (.d .strm), some (.d (ck x y z w)), some (.ref 0), none, none, none, none, none] [cellD (odds1 x y z w)] = .ok (.nx [some (.d .strm), some (.d (ck x y z w)), some (.ref 0), none, none, none, none, none] [cellD (odds1 x y z w ++ odds2 x y)]) := by
  have := ext_cellD (l := odds1 x y z w) (k := odds2 x y) (r := []) (by simp [odds1, odds2])
  simp only [odds2, p2] at this ⊢
  simp [ir__law_refused_right, tupf, lstf, dats, ck0, ck1, this]
theorem ref_c {m : Nat} {x y z : Rat} {w : Option Rat} : evS (F m) (match ir__law_refused_right with | .seq _ (.seq _ (.seq c _)) => c | _ => .nope) [some (.d .strm), some (.d (ck x y z w)), some (.ref 0), none, none, none, none, none] [cellD (odds1 x y z w ++ odds2 x y)] = .ok (.nx [some (.d .strm), some (.d (ck x y z w)), some (.ref 0), none, none, none, none, none] [cellD ((odds1 x y z w ++ odds2 x y) ++ odds3 x y z w)]) := by
  have := ext_cellD (l := odds1 x y z w ++ odds2 x y) (k := odds3 x y z w) (r := []) (by simp [odds1, odds2, odds3])
  revert this
  generalize odds1 x y z w ++ odds2 x y = A
  intro this
  simp only [odds3, p2] at this ⊢
  simp [ir__law_refused_right, tupf, lstf, dats, ck0, ck1, slk1, pre_app, this]
theorem oddsA_len (x y z : Rat) (w : Option Rat) : (odds1 x y z w ++ odds2 x y ++ odds3 x y z w).length = 15 := rfl
theorem ap1 {c : Option Cell} (l : List D) (d : D) (hl : l.length < 1000) : mtE .append (.ref 1) [.d d] [c, cellD l] = ret (.d .non) [c, cellD (l ++ [d])] := by
  show (if _ then _ else _) = _
  rw [if_pos (by simp; omega)]
  simp [cellD]
theorem mtf1 {c : Option Cell} (l : List D) (es : Store → E Vl) (k : Mt) : mtf k (.ref 1) es [c, cellD l] = bnd (es [c, cellD l]) (mtk k (.ref 1)) := mtf_lst rfl
theorem frz1 {c : Option Cell} (l : List D) : frzf (.ref 1) [c, cellD l] = ret (.d (.lst l)) [c, none] := by
  show (match frzV [c, cellD l] (.ref 1) with | some (x, st) => ret (Vl.d x) st | none => .err) = _
  have : snap [c, cellD l] (.ref 1) = some (.lst l) := by
    show (dats (l.map .d)).map D.lst = _
    rw [dats_map]; rfl
  unfold frzV
  dsimp only
  rw [this]; rfl
/-- one asking more -/
theorem ref_app {m : Nat} {e : Env} {c : Option Cell} {l : List D} {q : Ex} {d : D} (hv : envGet e 4 = some (.ref 1)) (hc : ∀ st, R.bind (evE (F m) q e st) (metE metHs) = ret (.d d) st) (hl : l.length < 1000) : evS (F m) (.ex (.mt .append (.v 4) (.cons (.met metHs 0 q) .nil))) e [c, cellD l] = .ok (.nx e [c, cellD (l ++ [d])]) := by
  simp [hv, mtf1, hc, ap1 l d hl]
theorem seq_nx {F : Cfg} {a b : St} {e e' : Env} {st st' : Store} (h : evS F a e st = .ok (.nx e' st')) : evS F (.seq a b) e st = evS F b e' st' := by
  rw [es_seq, h]; rfl
/-- where the odd one is known, and what else is drawn -/
theorem ref_end {m : Nat} {x y z : Rat} {w : Option Rat} {o wr q : D} {c : Option Cell} {c0 c4 c5 : Option Vl} (C : Cl 8 x y z w) (ho : ∀ n st, 4 ≤ n → callE (F n) .frz 12 [.d o] st = .ok (.x 1 [o] st)) (ho' : samB o 3 = true) (hw : wr ∈ wrongs) (hq : q ∈ nones) (hm : 6 ≤ m) :
    ∃ s, evS (F m) (match ir__law_refused_right with | .seq _ (.seq _ (.seq _ (.seq _ (.seq _ r)))) => r | _ => .nope) [some (.d .strm), some (.d (ck x y z w)), c0, some (.d o), c4, c5, some (.d wr), some (.d q)] [c] = .ok (.rt (.d (.bl true)) s) := by
  obtain ⟨n, rfl⟩ := pred (n := m) (by omega)
  obtain ⟨w1, w2, w3⟩ := wrong_is hw
  obtain ⟨q1, q2, q3⟩ := none_is hq
  have h1 := fun st : Store => span_x1 (n := n) (st := st) (d := o) (e := wr) fun st => ho n st (by omega)
  have h2 := fun st : Store => length_x4 (n := n) (st := st) C q1 q2 (by omega)
  have h3 := fun st : Store => span_x2 (n := n) (st := st) C w1 w2 (by omega)
  have h4 := fun st : Store => length_x1 (n := n) (st := st) (d := o) (e := q) fun st => ho n st (by omega)
  have h5 := fun st : Store => period_x1 (n := n) (st := st) (d := o) (e := wr) (f := q) fun st => ho n st (by omega)
  have h6 := fun st : Store => period_x2 (n := n) (st := st) (f := q) C w1 w2 (by omega)
  have h7 := fun st : Store => period_x3 (n := n) (st := st) C q1 q2 (by omega)
  have hsame := fun st : Store => c_same (fns := fns) (Tn := 3000) (i := 36) rfl 5 (.lst (foundL o wr q)) (n + 1) st (found_sam ho' w3 q3) (by omega)
  have hadd : binD .add (.lst [.tup [.str sClocks, o], .tup [.str sSpan, q], .tup [.str sLength, wr], .tup [.str sClocks, o], .tup [.str sClocks, o], .tup [.str sLength, wr]]) (.lst [.tup [.str sNumber, q]]) = some (.lst (foundL o wr q)) := rfl
  have hcell : (some (Cell.lst [Vl.d (.tup [.str sClocks, o])]) : Option Cell) = cellD [.tup [.str sClocks, o]] := rfl
  refine ⟨[c, none], ?_⟩
  simp only [ir__law_refused_right]
  rw [seq_nx (e' := [some (.d .strm), some (.d (ck x y z w)), c0, some (.d o), some (.ref 1), c5, some (.d wr), some (.d q)]) (st' := [c, cellD [.tup [.str sClocks, o]]]) (by simp [exLen, h1, met1, lstmf, hcell])]
  rw [seq_nx (ref_app (d := .tup [.str sSpan, q]) rfl (fun st => by simp [exLen, h2, met4]) (by simp))]
  rw [seq_nx (ref_app (d := .tup [.str sLength, wr]) rfl (fun st => by simp [exLen, h3, met2]) (by simp))]
  rw [seq_nx (ref_app (d := .tup [.str sClocks, o]) rfl (fun st => by simp [exLen, h4, met1]) (by simp))]
  rw [seq_nx (ref_app (d := .tup [.str sClocks, o]) rfl (fun st => by simp [exLen, h5, met1]) (by simp))]
  rw [seq_nx (ref_app (d := .tup [.str sLength, wr]) rfl (fun st => by simp [exLen, h6, met2]) (by simp))]
  rw [seq_nx (ref_app (d := .tup [.str sNumber, q]) rfl (fun st => by simp [exLen, h7, met3]) (by simp))]
  have hfl : cellD ([.tup [.str sClocks, o]] ++ [.tup [.str sSpan, q]] ++ [.tup [.str sLength, wr]] ++ [.tup [.str sClocks, o]] ++ [.tup [.str sClocks, o]] ++ [.tup [.str sLength, wr]] ++ [.tup [.str sNumber, q]]) = cellD (foundL o wr q) := rfl
  rw [hfl]
  generalize hF : foundL o wr q = FL at *
  have hS : sClocks = [99, 108, 111, 99, 107, 115] := rfl
  have hS2 : sSpan = [115, 112, 97, 110] := rfl
  have hS3 : sLength = [108, 101, 110, 103, 116, 104] := rfl
  have hS4 : sNumber = [110, 117, 109, 98, 101, 114] := rfl
  rw [hS, hS2, hS3, hS4] at hadd
  simp [tupf, lstf, dats, frz1, hadd, exLen, hsame]
theorem g_refused {n : Nat} {st : Store} {x y z : Rat} {w : Option Rat} (Dd : Dr x y z w) (hn : 7 ≤ n) : gd (fun o => o = EO.v (.d (.bl true)) st) 3 (callE (F n) .frz 41 [.d .strm, .d (ck x y z w)] st) := by
  obtain ⟨m, rfl⟩ := pred (n := n) (by omega)
  have C := Dd.C
  rw [call2 (fn := fd__law_refused_right) rfl rfl]
  refine gd_mono (gd_fin (n := 3) (Q := fun d => d = .bl true) ?_) (Nat.le_refl _) fun o ⟨a, s, e, es, d, ed, q⟩ => by rw [e, es, ed, q]
  have hbody : fd__law_refused_right.body = .seq (match ir__law_refused_right with | .seq a _ => a | _ => .nope) (.seq (match ir__law_refused_right with | .seq _ (.seq b _) => b | _ => .nope) (.seq (match ir__law_refused_right with | .seq _ (.seq _ (.seq c _)) => c | _ => .nope)
    (.seq (match ir__law_refused_right with | .seq _ (.seq _ (.seq _ (.seq d _))) => d | _ => .nope) (.seq (match ir__law_refused_right with | .seq _ (.seq _ (.seq _ (.seq _ (.seq d _)))) => d | _ => .nope) (match ir__law_refused_right with | .seq _ (.seq _ (.seq _ (.seq _ (.seq _ r)))) => r | _ => .nope))))) := rfl
  rw [hbody]
  have henv : [some (Vl.d D.strm), some (Vl.d (ck x y z w))] ++ List.replicate (fd__law_refused_right.slots - fd__law_refused_right.ps) none = [some (.d .strm), some (.d (ck x y z w)), none, none, none, none, none, none] := rfl
  rw [henv, seq_nx ref_a, seq_nx ref_b, seq_nx ref_c]
  have hlen := oddsA_len x y z w
  have hodds : odds x y z w = (odds1 x y z w ++ odds2 x y ++ odds3 x y z w) ++ odds4 x y := rfl
  have ho := fun (d : D) (h : d ∈ odds x y z w) (n : Nat) (st : Store) (hn : 4 ≤ n) => odd_x (n := n) (st := st) Dd hn h
  have ho2 := fun d (h : d ∈ odds x y z w) => odd_sam (d := d) h
  have hol : (odds x y z w).length = 17 := rfl
  revert hlen hodds ho ho2 hol
  generalize odds1 x y z w ++ odds2 x y ++ odds3 x y z w = A
  generalize odds x y z w = O
  intro hlen hodds ho ho2 hol
  have hadd : binD .add (.lst A) (.lst (odds4 x y)) = some (.lst O) := by
    rw [hodds]
    show (if _ then _ else _) = _
    rw [if_pos ⟨rfl, by rw [hlen]; simp [odds4]⟩]
  refine gd_seq (n := 1) (m := 2) (P := fun e s => s = [cellD A] ∧ ∃ o ∈ O, e = [some (.d .strm), some (.d (ck x y z w)), some (.ref 0), some (.d o), none, none, none, none]) ?_ fun e s ⟨hs, o, ho', he⟩ => ?_
  · refine gd_mono (gd_set (i := 3) (Q := fun a s => ∃ x ∈ O, a = .d x ∧ s = [cellD A]) ?_) (Nat.le_refl _) fun o ⟨e', s', eo, a, ea, o', ho', q1, q2⟩ => ⟨e', s', eo, q2, o', ho', by rw [ea, q1]; rfl⟩
    have := pick_at (n := m) (st := [cellD A]) (xs := O) (by omega) (by intro h; rw [h] at hol; cases hol) (by omega)
    simp only [odds4, p2] at hadd
    simp [exLen, tupf, lstf, dats, ck0, ck1, hadd]
    exact this
  subst hs he
  refine gd_seq (n := 2) (m := 0) (P := fun e s => s = [cellD A] ∧ ∃ wr ∈ wrongs, ∃ q ∈ nones, e = [some (.d .strm), some (.d (ck x y z w)), some (.ref 0), some (.d o), none, none, some (.d wr), some (.d q)]) ?_ fun e s ⟨hs, wr, hw, q, hq, he⟩ => ?_
  · have p1 : gd (fun o => ∃ a s, o = EO.v a s ∧ ∃ x ∈ wrongs, a = .d x ∧ s = [cellD A]) 1 (callE (F m) .frz 35 [.d .strm, .d (.lst [.int 0, .int (-1), .non, .str [49], .bl true, .tup [.int 1, .int 1]])] [cellD A]) := pick_at (n := m) (st := [cellD A]) (xs := wrongs) (by omega) (by simp [wrongs]) (by simp [wrongs])
    have p2' : ∀ st, gd (fun o => ∃ a s, o = EO.v a s ∧ ∃ x ∈ nones, a = .d x ∧ s = st) 1 (callE (F m) .frz 35 [.d .strm, .d (.lst [.int (-1), .non, .str [49], .bl true, .lst []])] st) := fun st => pick_at (n := m) (st := st) (xs := nones) (by omega) (by simp [nones]) (by simp [nones])
    have hset : ∀ (a b : D) (st : Store), setf (.tp (.cons (.nm 6) (.cons (.nm 7) .nil))) [some (.d .strm), some (.d (ck x y z w)), some (.ref 0), some (.d o), none, none, none, none] (.d (.tup [a, b])) st = .ok (.nx [some (.d .strm), some (.d (ck x y z w)), some (.ref 0), some (.d o), none, none, some (.d a), some (.d b)] st) := fun _ _ _ => rfl
    simp only [ir__law_refused_right]
    simp [exLen, tupf, lstf, dats]
    refine gd_sBnd (n := 2) (m := 0) (P := fun a s => s = [cellD A] ∧ ∃ wr ∈ wrongs, ∃ q ∈ nones, a = .d (.tup [wr, q])) ?_ fun a s ⟨hs, wr, hw, q, hq, ha⟩ => by subst hs ha; rw [hset]; exact gd_ok ⟨_, _, rfl, rfl, wr, hw, q, hq, rfl⟩
    refine gd_bnd (n := 2) (m := 0) (P := fun a s => s = [cellD A] ∧ ∃ wr ∈ wrongs, ∃ q ∈ nones, a = .its [.d wr, .d q]) ?_ fun a s ⟨hs, wr, hw, q, hq, ha⟩ => by subst hs ha; exact gd_ret ⟨_, _, rfl, rfl, wr, hw, q, hq, rfl⟩
    refine gd_bnd (n := 1) (m := 1) (P := fun a s => ∃ x ∈ wrongs, a = .d x ∧ s = [cellD A]) p1 fun a s ⟨wr, hw, ea, es⟩ => ?_
    subst ea es
    refine gd_bnd (n := 1) (m := 0) (P := fun a s => ∃ x ∈ nones, a = .its [.d x] ∧ s = [cellD A]) (gd_bnd (n := 1) (m := 0) (P := fun a s => ∃ x ∈ nones, a = .d x ∧ s = [cellD A]) (p2' _) fun a s ⟨q, hq, ea, es⟩ => by subst ea es; exact gd_ret ⟨_, _, rfl, q, hq, rfl, rfl⟩) fun a s ⟨q, hq, ea, es⟩ => by subst ea es; exact gd_ret ⟨_, _, rfl, rfl, wr, hw, q, hq, rfl⟩
  subst hs he
  obtain ⟨s, hs⟩ := ref_end (m := m) (c := cellD A) (c0 := some (.ref 0)) (c4 := none) (c5 := none) C (fun n st hn => ho o ho' n st hn) (ho2 o ho') hw hq (by omega)
  rw [hs]
  exact gd_ok ⟨_, _, rfl, _, rfl, rfl⟩
end EV

end
section
namespace EV
theorem ceil_of (r : Rat) : -(-r.num / (r.den : Int)) = r.ceil := by
  rw [Rat.ceil_eq_neg_floor_neg, Rat.floor_def]
  rfl
theorem ceil_B {k : Nat} {r : Rat} (h : B k r) : Bz (k + 1) r.ceil := by
  have h1 := h.n
  have hd := denp r
  rw [← ceil_of]
  unfold Bz at *
  rw [Nat.pow_succ]
  have h2 : (-(-r.num / (r.den : Int))).natAbs = (-r.num / (r.den : Int)).natAbs := Int.natAbs_neg _
  rw [h2]
  have h3 : (-r.num / (r.den : Int)).natAbs ≤ r.num.natAbs + 1 := by
    have a1 : -(r.num.natAbs : Int) ≤ -r.num := by omega
    have a2 : -r.num ≤ (r.num.natAbs : Int) := by omega
    have b1 : -(r.num.natAbs : Int) ≤ -r.num / (r.den : Int) := by
      rw [Int.le_ediv_iff_mul_le hd]
      have : (r.num.natAbs : Int) * 1 ≤ (r.num.natAbs : Int) * (r.den : Int) := Int.mul_le_mul_of_nonneg_left (by omega) (by omega)
      rw [Int.neg_mul]
      omega
    have b2 : -r.num / (r.den : Int) ≤ (r.num.natAbs : Int) := by
      have h := Int.ediv_le_ediv hd a2
      have := Int.ediv_le_self (r.den : Int) (show 0 ≤ (r.num.natAbs : Int) by omega)
      omega
    omega
  have := Nat.two_pow_pos k
  omega
section
variable {x y z : Rat} {w : Option Rat}
/-- the length is enough -/
theorem len_enough {s c : Int} (x0 : 0 < x) (y0 : 0 < y) (h : lenR x y z s ≤ (c : Rat)) : ¬ spanR x y z c < (s : Rat) := by
  have hb : y * ((s : Rat) / x - z) ≤ (c : Rat) := by
    unfold lenR at h
    split at h
    · exact h
    · grind
  rw [Rat.not_lt]
  have h1 : (s : Rat) / x - z ≤ (c : Rat) / y := by
    have e1 : (s : Rat) / x - z = (y * ((s : Rat) / x - z)) * y⁻¹ := by grind
    have e2 : (c : Rat) / y = (c : Rat) * y⁻¹ := by grind
    rw [e1, e2]
    exact Rat.mul_le_mul_of_nonneg_right hb (Rat.le_of_lt (Rat.inv_pos.mpr y0))
  have h2 : (s : Rat) / x ≤ z + (c : Rat) / y := by grind
  have h3 := Rat.mul_le_mul_of_nonneg_left h2 (Rat.le_of_lt x0)
  unfold spanR
  have e3 : x * ((s : Rat) / x) = (s : Rat) := by grind
  rw [e3] at h3
  exact h3
theorem len_less {s c : Int} (x0 : 0 < x) (y0 : 0 < y) (hc : 0 < c) (h : (c : Rat) < lenR x y z s) : spanR x y z c < (s : Rat) := by
  have hc' := cast_pos hc
  have hb : (c : Rat) < y * ((s : Rat) / x - z) := by
    unfold lenR at h
    split at h
    · exact h
    · grind
  have h1 : (c : Rat) / y < (s : Rat) / x - z := by
    have e1 : (s : Rat) / x - z = (y * ((s : Rat) / x - z)) * y⁻¹ := by grind
    have e2 : (c : Rat) / y = (c : Rat) * y⁻¹ := by grind
    rw [e1, e2]
    exact Rat.mul_lt_mul_of_pos_right hb (Rat.inv_pos.mpr y0)
  have h2 : z + (c : Rat) / y < (s : Rat) / x := by grind
  have h3 := Rat.mul_lt_mul_of_pos_left h2 x0
  unfold spanR
  have e3 : x * ((s : Rat) / x) = (s : Rat) := by grind
  rw [e3] at h3
  exact h3
theorem len_due {s : Int} (y0 : 0 < y) : lenR x y z s = if 0 < ((s : Rat) / x - z) then y * ((s : Rat) / x - z) else 0 := by
  unfold lenR
  have := Rat.mul_pos_iff_of_pos_left (b := (s : Rat) / x - z) y0
  by_cases h : 0 < (s : Rat) / x - z
  · rw [if_pos h, if_pos (this.mpr h)]
  · rw [if_neg h, if_neg fun q => h (this.mp q)]
theorem B_len {k : Nat} {s : Int} (C : Cl k x y z w) (hs : Bz k s) (h0 : 0 < k) : B (k + (k + k + k + 1)) (lenR x y z s) := by
  unfold lenR
  split
  · exact C.by'.mul (((B.int hs h0).div C.x0 C.bx).sub C.bz)
  · exact B0.mono (by omega)
/-- the first answer that can be -/
theorem first_ok (Dd : Dr x y z w) : ∃ c : Int, c = (x * (2 * z)).ceil ∧ 0 ≤ c ∧ c ≤ 6 ∧ ∀ e : Int, 0 ≤ e → 2 * z ≤ ((c + e : Int) : Rat) / x := by
  have C := Dd.C
  have h0 : 0 ≤ x * (2 * z) := Rat.mul_nonneg (Rat.le_of_lt C.x0) (by have := C.z0; grind)
  have h6 : x * (2 * z) ≤ 6 := by
    have h1 := Rat.mul_le_mul_of_nonneg_right Dd.x1 (show 0 ≤ 2 * z by have := C.z0; grind)
    have := Dd.z3
    grind
  refine ⟨_, rfl, ?_, ?_, fun e he => ?_⟩
  · have h1 := Rat.le_ceil (x := x * (2 * z))
    have h2 : (((0 : Int)) : Rat) ≤ (((x * (2 * z)).ceil : Int) : Rat) := by
      have : ((0 : Int) : Rat) = 0 := rfl
      rw [this]
      exact Rat.le_trans h0 h1
    exact Rat.intCast_le_intCast.mp h2
  · rw [Rat.ceil_le_iff]
    exact h6
  · have h1 := Rat.le_ceil (x := x * (2 * z))
    rw [Rat.intCast_add]
    have he' : (0 : Rat) ≤ (e : Rat) := Rat.intCast_nonneg.mpr he
    revert h1 he'
    generalize (((x * (2 * z)).ceil : Int) : Rat) = c
    generalize (e : Rat) = e'
    intro h1 he'
    have h2 : x * (2 * z) ≤ c + e' := by grind
    have hi := Rat.inv_pos.mpr C.x0
    have h3 := Rat.mul_le_mul_of_nonneg_right h2 (Rat.le_of_lt hi)
    have hx := C.x0
    have e1 : x * (2 * z) * x⁻¹ = 2 * z := by grind
    have e2 : (c + e') * x⁻¹ = (c + e') / x := by grind
    rw [e1, e2] at h3
    exact h3
end
end EV

end
section
namespace EV
def tB : St := match ir_law with
  | .seq (.for _ _ b) _ => b
  | _ => .nope
/-- a statement of the turn, by its place -/
def nth : Nat → St → St
  | 0, .seq a _ => a
  | n + 1, .seq _ b => nth n b
  | _, s => s
def mB : St := match nth 10 tB with
  | .for _ _ b => b
  | _ => .nope
def pB : St := match nth 11 tB with
  | .for _ _ b => b
  | _ => .nope
/-- the frame -/
def fe (a2 a3 a4 a5 a6 a7 a8 a9 a10 a11 a12 a13 a14 a15 : Option Vl) : Env := [none, some (.d .strm), a2, a3, a4, a5, a6, a7, a8, a9, a10, a11, a12, a13, a14, a15]
section
variable {x y z : Rat} {w : Option Rat} {m : Nat}
theorem more_step {s : Int} {k : Int} {a2 a3 a4 a5 a7 a8 a10 a11 a13 a14 a15 : Option Vl} (C : Cl 8 x y z w) (hs : Bz 8 s) (hk : k = 0 ∨ k = 1) (hm : 6 ≤ m) :
    ∃ b14 b15, evS (F m) mB (fe a2 a3 a4 a5 (some (.d (.int s))) a7 a8 (some (.d (fr (lenR x y z s)))) (some (.d (.int k))) a11 (some (.d (ck x y z w))) a13 a14 a15) [] =
      .ok (.nx (fe a2 a3 a4 a5 (some (.d (.int s))) a7 a8 (some (.d (fr (lenR x y z s)))) (some (.d (.int k))) a11 (some (.d (ck x y z w))) a13 b14 b15) []) := by
  have bl := B_len C hs (by omega)
  have hc1 := divB (x := -(lenR x y z s).num) (denp (lenR x y z s)) bl.d (by omega)
  have hce := ceil_of (lenR x y z s)
  have hcB := ceil_B bl
  obtain ⟨c, hc⟩ : ∃ c, c = (lenR x y z s).ceil := ⟨_, rfl⟩
  have hd : binD .fdiv (.int (-(lenR x y z s).num)) (.int ((lenR x y z s).den : Int)) = some (.int (-c)) := by
    rw [hc1, hc, ← hce, Int.neg_neg]
  rw [← hc] at hcB
  have hi0 := fun st : Store => i0 (x := lenR x y z s) st
  have hi1 := fun st : Store => i1 (x := lenR x y z s) st
  have hle : lenR x y z s ≤ (c : Rat) := by rw [hc]; exact Rat.le_ceil
  have hlt : ((c - 1 : Int) : Rat) < lenR x y z s := by
    have := Rat.ceil_lt (x := lenR x y z s)
    rw [← hc] at this
    rw [Rat.intCast_sub]
    have e1 : ((1 : Int) : Rat) = 1 := rfl
    rw [e1]
    grind
  have C' : Cl 40 x y z w := ⟨C.x0, C.xy, C.z0, C.zw, C.bx.mono (by omega), C.by'.mono (by omega), C.bz.mono (by omega), fun v e => (C.bw v e).mono (by omega)⟩
  have hkB : Bz 1 k := by rcases hk with rfl | rfl <;> (unfold Bz; decide)
  have hwB : Bz 40 (c - k) := (hcB.sub hkB).mono (by omega)
  have hneg : neg1 (.d (.int (-c))) [] = ret (.d (.int c)) [] := by simp
  have eqk : cmpD .eq (.int k) (.int 0) = some (decide (k = 0)) := eq_int _ _
  simp only [mB, nth, tB, ir_law, fe]
  by_cases hp : 0 < c - k
  · have e1 := fun st : Store => c_span_for (n := m) (st := st) C' (show 1 ≤ c - k by omega) hwB (by omega) (by omega) (by omega)
    have bS := B_span C' hwB (by omega)
    have e2 := fun st : Store => r_lless (n := m) (st := st) (by omega) bS (B.int hs (by omega)) (by omega)
    rw [fr_int] at e2
    have hv : decide (spanR x y z (c - k) < (s : Rat)) = decide (k = 1) := by
      rcases hk with rfl | rfl
      · rw [decide_eq_false (len_enough C.x0 C.y0 (by rw [Int.sub_zero]; exact hle))]; rfl
      · rw [decide_eq_true (len_less C.x0 C.y0 hp hlt)]; rfl
    simp only [hv] at e2
    have hgt : cmpD .gt (.int (c - k)) (.int 0) = some true := by rw [cmp_gt, decide_eq_true hp]
    refine ⟨some (.d (.int (c - k))), some (.d (.bl (!decide (k = 1)))), ?_⟩
    have hne : cmpD .ne (.bl (!decide (k = 1))) (.bl (decide (k = 0))) = some false := by rcases hk with rfl | rfl <;> rfl
    simp [hi0, hi1, hd, subB, hgt, exLen, e1, tupf, dats, e2, eqk]
    simp [hne]
  · have hgt : cmpD .gt (.int (c - k)) (.int 0) = some false := by rw [cmp_gt, decide_eq_false hp]
    refine ⟨some (.d (.int (c - k))), some (.d (.bl false)), ?_⟩
    simp [hi0, hi1, hd, subB, hgt]
theorem per_step {lo len : Int} {a2 a3 a4 a5 a6 a7 a8 a9 a10 a14 a15 : Option Vl} (C : Cl 8 x y z w) (h1 : 1 ≤ len) (hl : Bz 8 len) (ho : 0 ≤ lo) (hb : Bz 8 (lo + 1)) (hm : 6 ≤ m) :
    evS (F m) pB (fe a2 a3 a4 a5 a6 a7 a8 a9 a10 (some (.d (.int lo))) (some (.d (ck x y z w))) (some (.d (.int len))) a14 a15) [] =
      .ok (.nx (fe a2 a3 a4 a5 a6 a7 a8 a9 a10 (some (.d (.int lo))) (some (.d (ck x y z w))) (some (.d (.int len))) a14 a15) []) := by
  simp only [pB, nth, tB, ir_law, fe]
  cases w with
  | none =>
    have e := fun st : Store => c_period_none (n := m) (st := st) C h1 hl ho hb hm
    simp [exLen, e]
  | some v =>
    have e := fun st : Store => c_period_some (n := m) (st := st) C h1 hl ho hb hm
    simp [exLen, e]
end
end EV

end
section
namespace EV
theorem tB_eq : tB = .seq (nth 0 tB) (.seq (nth 1 tB) (.seq (nth 2 tB) (.seq (nth 3 tB) (.seq (nth 4 tB) (.seq (nth 5 tB) (.seq (nth 6 tB) (.seq (nth 7 tB) (.seq (nth 8 tB) (.seq (nth 9 tB) (.seq (.for (.nm 10) (.tup (.cons (.c (.int 0)) (.cons (.c (.int 1)) .nil))) mB) (.seq (.for (.nm 11) (.tup (.cons (.c (.int 0)) (.cons (.c (.int 1)) (.cons (.call .frz 34 (.cons (.v 1) (.cons (.c (.int 5)) .nil))) .nil)))) pB) (.seq (nth 12 tB) .skip)))))))))))) := rfl
theorem gd_nx {F : Cfg} {a : St} {e e' : Env} {st : Store} {P : Env → Store → Prop} (h : evS F a e st = .ok (.nx e' st)) (p : P e' st) : gd (fun o => ∃ e' s', o = Out.nx e' s' ∧ P e' s') 0 (evS F a e st) := by rw [h]; exact gd_ok ⟨_, _, rfl, p⟩
theorem small {a : Int} (h1 : -256 < a) (h2 : a < 256) : Bz 8 a := by unfold Bz; omega
theorem turn_ok {m : Nat} {a2 a3 a4 a5 a6 a7 a8 a9 a10 a11 a12 a13 a14 a15 : Option Vl} (hm : 8 ≤ m) :
    gd (fun o => ∃ e' s', o = Out.nx e' s' ∧ s' = [] ∧ ∃ b3 b4 b5 b6 b7 b8 b9 b10 b11 b12 b13 b14 b15, e' = fe a2 b3 b4 b5 b6 b7 b8 b9 b10 b11 b12 b13 b14 b15) 22 (evS (F m) tB (fe a2 a3 a4 a5 a6 a7 a8 a9 a10 a11 a12 a13 a14 a15) []) := by
  rw [tB_eq]
  -- clocks, length
  refine gd_seq (n := 7) (m := 15) (P := fun e s => s = [] ∧ ∃ x y z w, Dr x y z w ∧ ∃ len : Int, 1 ≤ len ∧ len ≤ 90 ∧ e = fe a2 a3 a4 a5 a6 a7 a8 a9 a10 a11 (some (.d (ck x y z w))) (some (.d (.int len))) a14 a15) ?_ fun e s ⟨hs, x, y, z, w, Dd, len, l1, l9, he⟩ => ?_
  · have h90 := fun st : Store => draw_at (n := m) (st := st) (m := 90) (by omega) (by decide) (by decide)
    have hcl := g_clocks (n := m) (st := []) (by omega)
    simp only [nth, tB, ir_law, fe]
    simp [exLen]
    refine gd_sBnd (n := 7) (m := 0) (P := fun a s => s = [] ∧ ∃ x y z w, Dr x y z w ∧ ∃ len : Int, 1 ≤ len ∧ len ≤ 90 ∧ a = .its [.d (ck x y z w), .d (.int len)]) ?_ fun a s ⟨hs, x, y, z, w, Dd, len, l1, l9, ea⟩ => by subst hs ea; exact gd_ok ⟨_, _, rfl, rfl, x, y, z, w, Dd, len, l1, l9, rfl⟩
    refine gd_bnd (n := 6) (m := 1) (P := fun a s => s = [] ∧ ∃ d, a = .d d ∧ ∃ x y z w, d = ck x y z w ∧ Dr x y z w) (gd_mono hcl (Nat.le_refl _) fun o ⟨a, s, q⟩ => ⟨a, s, q⟩) fun a s ⟨hs, d, ea, x, y, z, w, ed, Dd⟩ => ?_
    subst hs ea ed
    simp [h90, addB]
    refine gd_draw (n := 0) (by decide) fun d hd => gd_ret ⟨_, _, rfl, rfl, x, y, z, w, Dd, 1 + (d : Int), by omega, by omega, rfl⟩
  subst hs he
  have C := Dd.C
  obtain ⟨c, hc, c0, c6, cask⟩ := first_ok Dd
  have hl : Bz 8 len := small (by omega) (by omega)
  have bl := B2.mul C.bz
  have bl2 := C.bx.mul bl
  -- least
  refine gd_seq (n := 0) (m := 15) (P := fun e s => s = [] ∧ e = fe a2 (some (.d (fr (x * (2 * z))))) a4 a5 a6 a7 a8 a9 a10 a11 (some (.d (ck x y z w))) (some (.d (.int len))) a14 a15) (gd_nx (e' := fe a2 (some (.d (fr (x * (2 * z))))) a4 a5 a6 a7 a8 a9 a10 a11 (some (.d (ck x y z w))) (some (.d (.int len))) a14 a15) ?_ ⟨rfl, rfl⟩) fun e s ⟨hs, he⟩ => ?_
  · have e1 := fun st : Store => r_ltimes (n := m) (st := st) (by omega) B2 C.bz (by omega)
    rw [fr_two] at e1
    have e2 := fun st : Store => r_ltimes (n := m) (st := st) (by omega) C.bx bl (by omega)
    simp only [nth, tB, ir_law, fe]
    simp [exLen, ck0, ck2, tupf, dats, e1, e2]
  subst hs he
  -- first
  refine gd_seq (n := 0) (m := 15) (P := fun e s => s = [] ∧ e = fe a2 (some (.d (fr (x * (2 * z))))) (some (.d (.int c))) a5 a6 a7 a8 a9 a10 a11 (some (.d (ck x y z w))) (some (.d (.int len))) a14 a15) (gd_nx (e' := fe a2 (some (.d (fr (x * (2 * z))))) (some (.d (.int c))) a5 a6 a7 a8 a9 a10 a11 (some (.d (ck x y z w))) (some (.d (.int len))) a14 a15) ?_ ⟨rfl, rfl⟩) fun e s ⟨hs, he⟩ => ?_
  · have hi0 := fun st : Store => i0 (x := x * (2 * z)) st
    have hi1 := fun st : Store => i1 (x := x * (2 * z)) st
    have hd : binD .fdiv (.int (-(x * (2 * z)).num)) (.int ((x * (2 * z)).den : Int)) = some (.int (-c)) := by
      rw [divB (denp _) bl2.d (by omega), hc, ← ceil_of, Int.neg_neg]
    simp only [nth, tB, ir_law, fe]
    simp [hi0, hi1, hd]
  subst hs he
  -- answered
  refine gd_seq (n := 2) (m := 13) (P := fun e s => s = [] ∧ ∃ d f : Nat, d < 5 ∧ f < 60 ∧ e = fe a2 (some (.d (fr (x * (2 * z))))) (some (.d (.int c))) (some (.d (.lst (([c, c + d, c + f] : List Int).map .int)))) a6 a7 a8 a9 a10 a11 (some (.d (ck x y z w))) (some (.d (.int len))) a14 a15) ?_ fun e s ⟨hs, d, f, hd, hf, he⟩ => ?_
  · have h5 := fun st : Store => draw_at (n := m) (st := st) (m := 5) (by omega) (by decide) (by decide)
    have h60 := fun st : Store => draw_at (n := m) (st := st) (m := 60) (by omega) (by decide) (by decide)
    simp only [nth, tB, ir_law, fe]
    simp [exLen, h5, h60, addB, lstf, dats]
    refine gd_draw (n := 1) (by decide) fun d hd => gd_draw (n := 0) (by decide) fun f hf => gd_ok ⟨_, _, rfl, rfl, d, hd, f, hf, rfl⟩
  subst hs he
  -- span_right
  refine gd_seq (n := 0) (m := 13) (P := fun e s => s = [] ∧ e = fe a2 (some (.d (fr (x * (2 * z))))) (some (.d (.int c))) (some (.d (.lst (([c, c + d, c + f] : List Int).map .int)))) a6 a7 a8 a9 a10 a11 (some (.d (ck x y z w))) (some (.d (.int len))) a14 a15) (gd_nx ?_ ⟨rfl, rfl⟩) fun e s ⟨hs, he⟩ => ?_
  · have e1 := fun st : Store => c_span_right (n := m) (st := st) (len := len) (cs := [c, c + d, c + f]) C l1 hl (by omega) (by omega) (by omega) fun q hq => by
      simp at hq
      rcases hq with rfl | rfl | rfl
      · exact ⟨small (by omega) (by omega), by omega, by have := cask 0 (by omega); rw [Int.add_zero] at this; exact this⟩
      · exact ⟨small (by omega) (by omega), by omega, cask d (by omega)⟩
      · exact ⟨small (by omega) (by omega), by omega, cask f (by omega)⟩
    simp only [nth, tB, ir_law, fe]
    simp only [es_iff, ev_not, ev_call, ev_cons, ev_v, ev_nil, envGet_s, envGet_0, Option.map_some, rdV_d, lift_some, bnd_ret, consf_its, calf_its, exLen, List.length_cons, List.length_nil]
    simp only [Nat.zero_add, Nat.reduceAdd, if_true, e1]
    simp
  subst hs he
  -- span
  refine gd_seq (n := 1) (m := 12) (P := fun e s => s = [] ∧ ∃ sp : Nat, sp < 80 ∧ e = fe a2 (some (.d (fr (x * (2 * z))))) (some (.d (.int c))) (some (.d (.lst (([c, c + d, c + f] : List Int).map .int)))) (some (.d (.int (sp : Int)))) a7 a8 a9 a10 a11 (some (.d (ck x y z w))) (some (.d (.int len))) a14 a15) ?_ fun e s ⟨hs, sp, hsp, he⟩ => ?_
  · have h80 := fun st : Store => draw_at (n := m) (st := st) (m := 80) (by omega) (by decide) (by decide)
    simp only [nth, tB, ir_law, fe]
    simp only [es_set, ev_call, ev_cons, ev_v, ev_c, ev_nil, envGet_s, envGet_0, Option.map_some, rdV_d, lift_some, bnd_ret, consf_its, calf_its, exLen, List.length_cons, List.length_nil]
    simp only [Nat.zero_add, Nat.reduceAdd, if_true, h80, sBnd_draw]
    refine gd_draw (n := 0) (by decide) fun sp hsp => gd_ok ⟨_, _, rfl, rfl, sp, hsp, rfl⟩
  subst hs he
  generalize hA : (some (.d (.lst (([c, c + d, c + f] : List Int).map .int))) : Option Vl) = A5
  clear hA
  generalize hS : (sp : Int) = s
  have hs0 : 0 ≤ s := by omega
  have hsB : Bz 8 s := small (by omega) (by omega)
  have bs := B.int hsB (by omega)
  -- back
  refine gd_seq (n := 0) (m := 12) (P := fun e st => st = [] ∧ e = fe a2 (some (.d (fr (x * (2 * z))))) (some (.d (.int c))) A5 (some (.d (.int s))) (some (.d (fr ((s : Rat) / x - z)))) a8 a9 a10 a11 (some (.d (ck x y z w))) (some (.d (.int len))) a14 a15) (gd_nx (e' := fe a2 (some (.d (fr (x * (2 * z))))) (some (.d (.int c))) A5 (some (.d (.int s))) (some (.d (fr ((s : Rat) / x - z)))) a8 a9 a10 a11 (some (.d (ck x y z w))) (some (.d (.int len))) a14 a15) ?_ ⟨rfl, rfl⟩) fun e st ⟨hs, he⟩ => ?_
  · have e1 := fun st : Store => r_lover (n := m) (st := st) (by omega) bs C.bx C.x0 (by omega)
    rw [fr_int] at e1
    have e2 := fun st : Store => r_lminus (n := m) (st := st) (by omega) (bs.div C.x0 C.bx) C.bz (by omega)
    simp only [nth, tB, ir_law, fe]
    simp [exLen, ck0, ck2, tupf, dats, e1, e2]
  subst hs he
  have bb := (bs.div C.x0 C.bx).sub C.bz
  -- due
  refine gd_seq (n := 0) (m := 12) (P := fun e st => st = [] ∧ e = fe a2 (some (.d (fr (x * (2 * z))))) (some (.d (.int c))) A5 (some (.d (.int s))) (some (.d (fr ((s : Rat) / x - z)))) (some (.d (fr (lenR x y z s)))) a9 a10 a11 (some (.d (ck x y z w))) (some (.d (.int len))) a14 a15) (gd_nx (e' := fe a2 (some (.d (fr (x * (2 * z))))) (some (.d (.int c))) A5 (some (.d (.int s))) (some (.d (fr ((s : Rat) / x - z)))) (some (.d (fr (lenR x y z s)))) a9 a10 a11 (some (.d (ck x y z w))) (some (.d (.int len))) a14 a15) ?_ ⟨rfl, rfl⟩) fun e st ⟨hs, he⟩ => ?_
  · have e1 := fun st : Store => r_ltimes (n := m) (st := st) (by omega) C.by' bb (by omega)
    have hdue := len_due (x := x) (y := y) (z := z) (s := s) C.y0
    revert e1 hdue
    generalize (s : Rat) / x - z = b
    intro e1 hdue
    have hi0 := fun st : Store => i0 (x := b) st
    have hg : cmpD .gt (.int b.num) (.int 0) = some (decide (0 < b)) := by
      rw [cmp_gt]
      congr 1
      apply decide_eq_decide.mpr
      have := Rat.lt_iff 0 b
      constructor
      · intro h; exact this.mpr (by simpa using h)
      · intro h; exact num_pos h
    rw [hdue]
    simp only [nth, tB, ir_law, fe]
    by_cases hb : 0 < b
    · simp [hi0, hg, hb, exLen, ck1, e1]
    · simp [hi0, hg, hb, tupf, dats]
      rfl
  subst hs he
  -- told
  refine gd_seq (n := 8) (m := 4) (P := fun e st => st = [] ∧ e = fe a2 (some (.d (fr (x * (2 * z))))) (some (.d (.int c))) A5 (some (.d (.int s))) (some (.d (fr ((s : Rat) / x - z)))) (some (.d (fr (lenR x y z s)))) (some (.d (fr (lenR x y z s)))) a10 a11 (some (.d (ck x y z w))) (some (.d (.int len))) a14 a15) ?_ fun e st ⟨hs, he⟩ => ?_
  · have hlo := g_loose (n := m) (st := []) C (by omega)
    simp only [nth, tB, ir_law, fe]
    simp [exLen]
    refine gd_sBnd (n := 8) (m := 0) (P := fun a st => st = [] ∧ a = .d (fr (lenR x y z s))) ?_ fun a st ⟨hs, ea⟩ => by subst hs ea; exact gd_ok ⟨_, _, rfl, rfl, rfl⟩
    refine gd_bnd (n := 8) (m := 0) (P := fun a st => st = [] ∧ ∃ d, a = .its [.d d, .d (.int s)] ∧ Lo d x y z w) (gd_bnd (n := 8) (m := 0) (P := fun a st => st = [] ∧ ∃ d, a = .d d ∧ Lo d x y z w) (gd_mono hlo (Nat.le_refl _) fun o ⟨d, e, q⟩ => ⟨_, _, e, rfl, d, rfl, q⟩) fun a st ⟨hs, d, ea, q⟩ => by subst hs ea; exact gd_ret ⟨_, _, rfl, rfl, d, rfl, q⟩) fun a st ⟨hs, d, ea, q⟩ => ?_
    subst hs ea
    have e1 := c_length_for (n := m) (st := []) C (fun k st hk => q.c C hk) hs0 hsB (by omega) (by omega) (by omega)
    exact gd_val (n := 0) e1 ⟨_, _, rfl, rfl, rfl⟩
  subst hs he
  -- same
  refine gd_seq (n := 0) (m := 4) (P := fun e st => st = [] ∧ e = fe a2 (some (.d (fr (x * (2 * z))))) (some (.d (.int c))) A5 (some (.d (.int s))) (some (.d (fr ((s : Rat) / x - z)))) (some (.d (fr (lenR x y z s)))) (some (.d (fr (lenR x y z s)))) a10 a11 (some (.d (ck x y z w))) (some (.d (.int len))) a14 a15) (gd_nx ?_ ⟨rfl, rfl⟩) fun e st ⟨hs, he⟩ => ?_
  · have e1 := fun st : Store => same_fr (n := m) (st := st) (lenR x y z s) (by omega)
    simp only [nth, tB, ir_law, fe]
    simp [exLen, e1]
  subst hs he
  -- more
  obtain ⟨b14, b15, hm0⟩ := more_step (m := m) (a2 := a2) (a3 := some (.d (fr (x * (2 * z))))) (a4 := some (.d (.int c))) (a5 := A5) (a7 := some (.d (fr ((s : Rat) / x - z)))) (a8 := some (.d (fr (lenR x y z s)))) (a10 := none) (a11 := a11) (a13 := some (.d (.int len))) (a14 := a14) (a15 := a15) (s := s) (k := 0) C hsB (.inl rfl) (by omega)
  obtain ⟨c14, c15, hm1⟩ := more_step (m := m) (a2 := a2) (a3 := some (.d (fr (x * (2 * z))))) (a4 := some (.d (.int c))) (a5 := A5) (a7 := some (.d (fr ((s : Rat) / x - z)))) (a8 := some (.d (fr (lenR x y z s)))) (a10 := none) (a11 := a11) (a13 := some (.d (.int len))) (a14 := b14) (a15 := b15) (s := s) (k := 1) C hsB (.inr rfl) (by omega)
  refine gd_seq (n := 0) (m := 4) (P := fun e st => st = [] ∧ e = fe a2 (some (.d (fr (x * (2 * z))))) (some (.d (.int c))) A5 (some (.d (.int s))) (some (.d (fr ((s : Rat) / x - z)))) (some (.d (fr (lenR x y z s)))) (some (.d (fr (lenR x y z s)))) (some (.d (.int 1))) a11 (some (.d (ck x y z w))) (some (.d (.int len))) c14 c15) (gd_nx ?_ ⟨rfl, rfl⟩) fun e st ⟨hs, he⟩ => ?_
  · have hit : evE (F m) (.tup (.cons (.c (.int 0)) (.cons (.c (.int 1)) .nil))) (fe a2 (some (.d (fr (x * (2 * z))))) (some (.d (.int c))) A5 (some (.d (.int s))) (some (.d (fr ((s : Rat) / x - z)))) (some (.d (fr (lenR x y z s)))) (some (.d (fr (lenR x y z s)))) a10 a11 (some (.d (ck x y z w))) (some (.d (.int len))) a14 a15) [] = ret (.d (.tup [.int 0, .int 1])) [] := by simp [tupf, dats]
    rw [es_for, hit, sBnd_ret]
    show forL (.nm 10) (evS (F m) mB) [.d (.int 0), .d (.int 1)] _ [] = _
    rw [forL_cons (e' := fe a2 (some (.d (fr (x * (2 * z))))) (some (.d (.int c))) A5 (some (.d (.int s))) (some (.d (fr ((s : Rat) / x - z)))) (some (.d (fr (lenR x y z s)))) (some (.d (fr (lenR x y z s)))) (some (.d (.int 0))) a11 (some (.d (ck x y z w))) (some (.d (.int len))) a14 a15) rfl, hm0, R_bind_ok, forK_nx]
    rw [forL_cons (e' := fe a2 (some (.d (fr (x * (2 * z))))) (some (.d (.int c))) A5 (some (.d (.int s))) (some (.d (fr ((s : Rat) / x - z)))) (some (.d (fr (lenR x y z s)))) (some (.d (fr (lenR x y z s)))) (some (.d (.int 1))) a11 (some (.d (ck x y z w))) (some (.d (.int len))) b14 b15) rfl, hm1, R_bind_ok, forK_nx, forL_nil]
  subst hs he
  -- lost
  refine gd_seq (n := 1) (m := 3) (P := fun e st => st = [] ∧ ∃ a11, e = fe a2 (some (.d (fr (x * (2 * z))))) (some (.d (.int c))) A5 (some (.d (.int s))) (some (.d (fr ((s : Rat) / x - z)))) (some (.d (fr (lenR x y z s)))) (some (.d (fr (lenR x y z s)))) (some (.d (.int 1))) a11 (some (.d (ck x y z w))) (some (.d (.int len))) c14 c15) ?_ fun e st ⟨hs, a11, he⟩ => ?_
  · have h5 := fun st : Store => draw_at (n := m) (st := st) (m := 5) (by omega) (by decide) (by decide)
    have hit : ∀ e : Env, envGet e 1 = some (.d .strm) → evE (F m) (.tup (.cons (.c (.int 0)) (.cons (.c (.int 1)) (.cons (.call .frz 34 (.cons (.v 1) (.cons (.c (.int 5)) .nil))) .nil)))) e [] = .draw 5 fun k => ret (.d (.tup [.int 0, .int 1, .int (k : Nat)])) [] := fun e he => by simp [he, exLen, h5, tupf, dats]
    rw [es_for, hit _ rfl, sBnd_draw]
    refine gd_draw (n := 0) (by decide) fun k hk => ?_
    rw [sBnd_ret]
    show gd _ 0 (forL (.nm 11) (evS (F m) pB) [.d (.int 0), .d (.int 1), .d (.int (k : Nat))] _ [])
    have hp := fun (lo : Int) (h0 : 0 ≤ lo) (h4 : lo < 5) => per_step (m := m) (x := x) (y := y) (z := z) (w := w) (lo := lo) (len := len) (a2 := a2) (a3 := some (.d (fr (x * (2 * z))))) (a4 := some (.d (.int c))) (a5 := A5) (a6 := some (.d (.int s))) (a7 := some (.d (fr ((s : Rat) / x - z)))) (a8 := some (.d (fr (lenR x y z s)))) (a9 := some (.d (fr (lenR x y z s)))) (a10 := some (.d (.int 1))) (a14 := c14) (a15 := c15) C l1 hl h0 (small (by omega) (by omega)) (by omega)
    have hset : ∀ (lo : Int) (o : Option Vl), setTg (.nm 11) (.d (.int lo)) (fe a2 (some (.d (fr (x * (2 * z))))) (some (.d (.int c))) A5 (some (.d (.int s))) (some (.d (fr ((s : Rat) / x - z)))) (some (.d (fr (lenR x y z s)))) (some (.d (fr (lenR x y z s)))) (some (.d (.int 1))) o (some (.d (ck x y z w))) (some (.d (.int len))) c14 c15) = some (fe a2 (some (.d (fr (x * (2 * z))))) (some (.d (.int c))) A5 (some (.d (.int s))) (some (.d (fr ((s : Rat) / x - z)))) (some (.d (fr (lenR x y z s)))) (some (.d (fr (lenR x y z s)))) (some (.d (.int 1))) (some (.d (.int lo))) (some (.d (ck x y z w))) (some (.d (.int len))) c14 c15) := fun _ _ => rfl
    rw [forL_cons (hset 0 a11), hp 0 (by decide) (by decide), R_bind_ok, forK_nx, forL_cons (hset 1 _), hp 1 (by decide) (by decide), R_bind_ok, forK_nx, forL_cons (hset (k : Nat) _), hp (k : Nat) (by omega) (by omega), R_bind_ok, forK_nx, forL_nil]
    exact gd_ok ⟨_, _, rfl, rfl, _, rfl⟩
  subst hs he
  -- refused
  refine gd_seq (n := 3) (m := 0) (P := fun e st => st = [] ∧ e = fe a2 (some (.d (fr (x * (2 * z))))) (some (.d (.int c))) A5 (some (.d (.int s))) (some (.d (fr ((s : Rat) / x - z)))) (some (.d (fr (lenR x y z s)))) (some (.d (fr (lenR x y z s)))) (some (.d (.int 1))) a11 (some (.d (ck x y z w))) (some (.d (.int len))) c14 c15) ?_ fun e st ⟨hs, he⟩ => ?_
  · have hr := g_refused (n := m) (st := []) Dd (by omega)
    simp only [nth, tB, ir_law, fe]
    simp only [es_iff, ev_not, ev_call, ev_cons, ev_v, ev_nil, envGet_s, envGet_0, Option.map_some, rdV_d, lift_some, bnd_ret, consf_its, calf_its, exLen, List.length_cons, List.length_nil]
    simp only [Nat.zero_add, Nat.reduceAdd, if_true]
    refine gd_sBnd (n := 3) (m := 0) (P := fun a st => st = [] ∧ a = .d (.bl false)) (gd_bnd (n := 3) (m := 0) (P := fun a st => st = [] ∧ a = .d (.bl true)) (gd_mono hr (Nat.le_refl _) fun o e => ⟨_, _, e, rfl, rfl⟩) fun a st ⟨hs, ea⟩ => by subst hs ea; exact gd_ret ⟨_, _, rfl, rfl, rfl⟩) fun a st ⟨hs, ea⟩ => ?_
    subst hs ea
    simp only [byT_bl]
    exact gd_ok ⟨_, _, rfl, rfl, rfl⟩
  subst hs he
  exact gd_ok ⟨_, _, rfl, rfl, _, _, _, _, _, _, _, _, _, _, _, _, _, rfl⟩
end EV

end
section
namespace EV
theorem loop_ok {m : Nat} (hm : 8 ≤ m) : ∀ (xs : List Vl) (e : Env), (∃ a2 a3 a4 a5 a6 a7 a8 a9 a10 a11 a12 a13 a14 a15, e = fe a2 a3 a4 a5 a6 a7 a8 a9 a10 a11 a12 a13 a14 a15) → gd (fun o => ∃ e' s', o = Out.nx e' s') (22 * xs.length) (forL (.nm 2) (evS (F m) tB) xs e [])
  | [], e, _ => gd_ok ⟨_, _, rfl⟩
  | v :: xs, e, ⟨a2, a3, a4, a5, a6, a7, a8, a9, a10, a11, a12, a13, a14, a15, he⟩ => by
    subst he
    rw [forL_cons (e' := fe (some v) a3 a4 a5 a6 a7 a8 a9 a10 a11 a12 a13 a14 a15) rfl]
    refine gd_mono (gd_bind (n := 22) (m := 22 * xs.length) (turn_ok hm) fun o ⟨e', s', eo, es, b3, b4, b5, b6, b7, b8, b9, b10, b11, b12, b13, b14, b15, ee⟩ => ?_) (by rw [List.length_cons, Nat.mul_succ]; omega) fun _ q => q
    subst eo es
    rw [forK_nx]
    exact loop_ok hm xs e' ⟨_, _, _, _, _, _, _, _, _, _, _, _, _, _, ee⟩
theorem law_is : ir_law = .seq (.for (.nm 2) (.wk .range (.cons (.c (.int 5)) .nil)) tB) (.seq (.ret (.c (.bl true))) .skip) := rfl
theorem law_gd : gd (fun o => ∃ st, o = Out.rt (.d (.bl true)) st) 1000 (evS (F 20) ir_law ([none, some (.d .strm)] ++ List.replicate 14 none) []) := by
  have ee : ([none, some (Vl.d .strm)] ++ List.replicate 14 none) = fe none none none none none none none none none none none none none none := rfl
  rw [ee, law_is, es_seq, es_for]
  have er : evE (F 20) (.wk .range (.cons (.c (.int 5)) .nil)) (fe none none none none none none none none none none none none none none) [] = ret (.its (range 0 5)) [] := by
    have a1 : evE (F 20) (.cons (.c (.int 5)) .nil) (fe none none none none none none none none none none none none none none) [] = ret (.its [.d (.int 5)]) [] := rfl
    rw [ev_wk, a1, bnd_ret, wkf_its]
    exact wk_range (by omega) (by omega)
  rw [er, sBnd_ret]
  have ef : ∀ e : Env, forR (F 20) (.nm 2) tB e (.its (range 0 5)) [] = forL (.nm 2) (evS (F 20) tB) (range 0 5) e [] := fun _ => rfl
  rw [ef]
  have hlen : 22 * (range 0 5).length = 110 := by
    have : (range 0 5).length = 5 := by simp [range]
    rw [this]
  have hl := loop_ok (m := 20) (by omega) (range 0 5) _ ⟨none, none, none, none, none, none, none, none, none, none, none, none, none, none, rfl⟩
  rw [hlen] at hl
  refine gd_mono (n := 110) (P := fun o => ∃ st, o = Out.rt (.d (.bl true)) st) ?_ (by omega) fun _ h => h
  refine gd_bind (n := 110) (m := 0) hl fun o ⟨e', s', eo⟩ => ?_
  subst eo
  rw [thn_nx]
  exact gd_ok ⟨_, rfl⟩
theorem law_good : good (fun o _ => ∃ st, o = Out.rt (.d (.bl true)) st) (evS ⟨callN fns 3000 20, fun _ => .err, 3000⟩ ir_law ([none, some (.d .strm)] ++ List.replicate 14 none) []) 1000000 :=
  good_mono (fun _ _ h => h.1) (law_gd.out 1000000 (by omega))
end EV

end

end
section
set_option Elab.async false
set_option linter.all false
set_option maxRecDepth 1000000
set_option maxHeartbeats 4000000
/-! the end -/
namespace EV
open PySem PySem.Spec PyProof.Rows L2
open LamX (Tabs TabS CodeO ExtN TabB)
abbrev Plain : Prop := good (fun o _ => ∃ st, o = Out.rt (.d (.bl true)) st) (evS ⟨callN fns 3000 20, fun _ => .err, 3000⟩ ir_law env0 []) 1000000
theorem walk92 {l : PySem.W.OpenLaw} {q : Program} {loose : List Str} {XP : (Str → Option Value) → Heap → Prop} {YP : World → Heap → Prop} {d : DefRec} {K : Params → PySem.W.Frag}
    (hn : l.most = some 63) (hdf : d.params.defaults = []) (hdn : d.name = "law") (hY : ∀ (w : World) (h : Heap), YP w h → (K w.params).In h) (hr : ∃ dr, (recsOf q).find? (fun e => e.name == ("_law_refused_right" : Str)) = some dr) (plain : Plain)
    (F : ∀ w : World, ∃ C0 C1 C2 C3 C4 c P, AllF (K w.params) C0 C1 C2 C3 C4 c P ∧ PySem.W.tabIn (K w.params) "_law_refused_right" = some (c, P) ∧ (K w.params).lookup P = none) :
    PySem.W.WalkO q loose XP YP l.row.toRowW d [] (fun f vs => PySem.call f vs) := by
  refine Att.attach_callB hn hdf fun w s₀ s mg mb fa o pm cd doc a vs zs G Y ho hd hcd hmg hobj hints hlen hbits hg => ?_
  have KX := hY w _ Y
  obtain ⟨C0, C1, C2, C3, C4, c, P, A, ht, hP⟩ := F w
  obtain ⟨dr, hr⟩ := hr
  obtain ⟨t1, t2⟩ := PySem.W.tab_of G.T KX hr ht
  rw [hdn] at hmg
  refine law_at (cs := [(c, P)]) KX G.T.g G.T.b G.T.builtins G.T.nolimit hg (fun p hp => ?_) (fun p hp => ?_) (fun p hp => ?_) G.T.bmain hobj hints (Nat.le_trans hlen (by decide)) fun base H e0 Xb gb TB hT hS => ?_
  · rw [List.mem_singleton.mp hp]; exact t2
  · rw [List.mem_singleton.mp hp]; exact hP
  · rw [List.mem_singleton.mp hp]; exact t1
  · exact law_run A KX G.T.g hmg hlen hbits plain base H e0 Xb gb (TB _ (List.mem_singleton.mpr rfl)) (hT _ (List.mem_singleton.mpr rfl)) hS
/-- one def's facts -/
theorem mkDef {K : PySem.W.Frag} {name : Str} {st : Stmt} {f : Addr} {cd oc kV dc pm ct : Value} {od an : Option Addr} {sl : Array (Option Value)} (n : PySem.W.nsIn K mainGlobals name = some (some (.ref f)))
    (l : K.lookup f = some ⟨oc, od, .func (PySem.W.fnOf name name (defArgs st) (defBody st) (defScope st) .none kV dc pm an cd ct), sl⟩) (c : PySem.W.codeIn K cd name = true) (k : PySem.W.keepIn K (.ref f) = true) : ∃ f cd, DefF K name st f .none cd :=
  ⟨f, cd, n, ⟨_, _, _, _, _, _, _, _, l⟩, c, k⟩
theorem mkDefC {K : PySem.W.Frag} {name : Str} {st : Stmt} {f cc : Addr} {oc kV dc pm ct : Value} {od an : Option Addr} {sl : Array (Option Value)} (n : PySem.W.nsIn K mainGlobals name = some (some (.ref f)))
    (l : K.lookup f = some ⟨oc, od, .func (PySem.W.fnOf name name (defArgs st) (defBody st) (defScope st) .none kV dc pm an (.ref cc) ct), sl⟩) (c : PySem.W.codeIn K (.ref cc) name = true) (k : PySem.W.keepIn K (.ref f) = true) : ∃ f, DefF K name st f .none (.ref cc) :=
  ⟨f, n, ⟨_, _, _, _, _, _, _, _, l⟩, c, k⟩
theorem mkDefD {K : PySem.W.Frag} {name : Str} {st : Stmt} {f T : Addr} {cd oc kV dc pm ct oT : Value} {od an oTd : Option Addr} {sl slT : Array (Option Value)} {nT : Nat} (n : PySem.W.nsIn K mainGlobals name = some (some (.ref f)))
    (l : K.lookup f = some ⟨oc, od, .func (PySem.W.fnOf name name (defArgs st) (defBody st) (defScope st) (.ref T) kV dc pm an cd ct), sl⟩) (c : PySem.W.codeIn K cd name = true) (k : PySem.W.keepIn K (.ref f) = true) (t : K.lookup T = some ⟨oT, oTd, .seq #[.none] nT, slT⟩) :
    ∃ f T cd, DefF K name st f (.ref T) cd ∧ ∃ (o : Obj) (n : Nat), K.lookup T = some o ∧ o.data = .seq #[.none] n :=
  ⟨f, T, cd, ⟨n, ⟨_, _, _, _, _, _, _, _, l⟩, c, k⟩, _, _, t, rfl⟩
theorem mkErr {K : PySem.W.Frag} {name fld : Str} {st : Stmt} {C fI : Addr} {q : Str} {oc kV dc pm cd ct : Value} {od an : Option Addr} {sl : Array (Option Value)} {nm q' N bs bm sn sub ab col dd k0 k1 k2 k3 k5}
    (a : PySem.W.nsIn K mainGlobals name = some (some (.ref C))) (cl : K.lookup C = some (excClassObj nm q' C N bs bm true sn sub ab col dd k0 k1 k2 k3 k5 "ValueError.__new__")) (rv : PySem.HandSPX.refsVE bm = true)
    (sa : PySem.W.findIn K (.ref C) "__setattr__" = some (some (.builtin "object.__setattr__"))) (ex : PySem.W.subIn K (.ref C) (.type "BaseException") = some true) (ty : PySem.W.typeIn K (.ref C) = some (.type "type")) (kC : PySem.W.keepIn K (.ref C) = true)
    (ga : PySem.W.findIn K (.ref C) "__getattribute__" = some (some (.builtin "BaseException.__getattribute__"))) (gg : PySem.W.findIn K (.ref C) "__getattr__" = some none) (hd : PySem.W.hasDictIn K C = true) (no : PySem.W.findIn K (.ref C) fld = some none)
    (i1 : PySem.W.findIn K (.ref C) "__init__" = some (some (.ref fI))) (i2 : PySem.W.typeIn K (.ref fI) = some (.type "function"))
    (i3 : K.lookup fI = some ⟨oc, od, .func (PySem.W.fnOf "__init__" q (defArgs (inClass st 0)) (defBody (inClass st 0)) (defScope (inClass st 0)) .none kV dc pm an cd ct), sl⟩) (i4 : PySem.W.codeIn K cd q = true) (tx : ErrT st fld) : ErrF K name st fld C :=
  ⟨a, ⟨⟨_, _, _, _, _, _, _, _, _, _, _, _, _, _, _, cl, rv⟩, sa, ex, ty, kC⟩, ⟨ga, gg, ex, hd⟩, no, ⟨fI, q, oc, kV, dc, pm, cd, ct, od, an, sl, i1, i2, i3, i4⟩, tx⟩
theorem mkTab {K : PySem.W.Frag} {x : Str} {f c P : Addr} {fd : FuncData} {oc o1 : Value} {od o2 : Option Addr} {sl o4 : Array (Option Value)} {vs : Array Value} (n1 : PySem.W.nsIn K mainGlobals x = some (some (.ref f))) (l : K.lookup f = some ⟨oc, od, .func fd, sl⟩) (hc : fd.code = .ref c)
    (lc : K.lookup c = some ⟨o1, o2, .fields vs, o4⟩) (hv : (vs[11]? : Option Value) = some (.ref P)) : PySem.W.tabIn K x = some (c, P) := by
  unfold PySem.W.tabIn
  rw [n1]
  dsimp only
  rw [l]
  dsimp only
  rw [hc]
  dsimp only
  rw [lc]
  dsimp only
  rw [hv]

theorem tx0 : ErrT (top 3) "index" := ⟨⟨rfl, rfl, rfl, by decide +kernel, rfl, by decide +kernel, by decide +kernel⟩, by decide +kernel, by decide +kernel, by decide +kernel, by decide +kernel, by decide +kernel, fun q kV dc pm cd ct an us hl => match us, hl with | [_, _], _ => rfl⟩
theorem tx1 : ErrT (top 4) "thing" := ⟨⟨rfl, rfl, rfl, by decide +kernel, rfl, by decide +kernel, by decide +kernel⟩, by decide +kernel, by decide +kernel, by decide +kernel, by decide +kernel, by decide +kernel, fun q kV dc pm cd ct an us hl => match us, hl with | [_, _], _ => rfl⟩
theorem tx2 : ErrT (top 5) "thing" := ⟨⟨rfl, rfl, rfl, by decide +kernel, rfl, by decide +kernel, by decide +kernel⟩, by decide +kernel, by decide +kernel, by decide +kernel, by decide +kernel, by decide +kernel, fun q kV dc pm cd ct an us hl => match us, hl with | [_, _], _ => rfl⟩
theorem tx3 : ErrT (top 6) "thing" := ⟨⟨rfl, rfl, rfl, by decide +kernel, rfl, by decide +kernel, by decide +kernel⟩, by decide +kernel, by decide +kernel, by decide +kernel, by decide +kernel, by decide +kernel, fun q kV dc pm cd ct an us hl => match us, hl with | [_, _], _ => rfl⟩
theorem tx4 : ErrT (top 7) "thing" := ⟨⟨rfl, rfl, rfl, by decide +kernel, rfl, by decide +kernel, by decide +kernel⟩, by decide +kernel, by decide +kernel, by decide +kernel, by decide +kernel, by decide +kernel, fun q kV dc pm cd ct an us hl => match us, hl with | [_, _], _ => rfl⟩
end EV

end
section
open PySem PySem.W PyProof.Rows
set_option Elab.async false
set_option maxRecDepth 100000
set_option maxHeartbeats 0
open_top hd for PySem.Challenge.rw_farfolder_k84_whole_spans_and_periods

end
open PySem PySem.W PyProof.Rows
set_option Elab.async false
set_option linter.all false
set_option maxRecDepth 1000000
set_option maxHeartbeats 0
theorem PySem.Challenge.cw_farfolder_k84_whole_spans_and_periods_holds : PySem.Challenge.rw_farfolder_k84_whole_spans_and_periods.Holds :=
  hd (by
  k_fill
  refine EV.walk92 (l := PySem.Challenge.rw_farfolder_k84_whole_spans_and_periods) rfl rfl rfl (fun w h Y => PySem.W.km_in_of Y) ?R EV.law_good ?F
  case R => exact ⟨_, rfl⟩
  case F =>
    intro w
    refine' ⟨_, _, _, _, _, _, _, EV.AllF.mk ?d_is_list ?d_is_integer ?d_is_number ?d_is_fraction ?d_lowest ?d_plus ?d_minus ?d_times ?d_over ?d_is_less ?d_lesser ?d_greater ?d_checked_clocks ?d_checked_length ?d_is_ask ?d_checked_asks ?d_kept_asks ?d_until ?d_greatest_until ?d_believe_until ?d_span_of ?d_span_for ?d_length_for ?d_longest_period ?d__law_l_lowest ?d__law_l_plus ?d__law_l_times ?d__law_l_over ?d__law_l_minus ?d__law_l_less ?d__law_l_clocks ?d__law_l_loose ?d__law_l_until ?d__law_start ?d__law_draw ?d__law_pick ?d__law_same ?d__law_met ?d__law_greater_clocks ?d__law_span_right ?d__law_period_right ?d__law_refused_right ?d_law ?e_BadAsks ?e_BadClocks ?e_BadLength ?e_BadNumber ?e_BadSpan ?x_0_0 ?x_0_1 ?x_0_2 ?x_0_3 ?x_0_4 ?x_1_0 ?x_1_1 ?x_1_2 ?x_1_3 ?x_1_4 ?x_2_0 ?x_2_1 ?x_2_2 ?x_2_3 ?x_2_4 ?x_3_0 ?x_3_1 ?x_3_2 ?x_3_3 ?x_3_4 ?x_4_0 ?x_4_1 ?x_4_2 ?x_4_3 ?x_4_4 ?g_gcd ?bt, ?tab, ?np⟩
    (case e_BadAsks => (refine' EV.mkErr ?a ?cl ?rv ?sa ?ex ?ty ?kC ?ga ?gg ?hd ?no ?i1 ?i2 ?i3 ?i4 EV.tx0; (case a => k_is); (case cl => k_is); (case rv => decide +kernel); (case sa => k_is); (case ex => k_is); (case ty => k_is); (case kC => k_is); (case ga => k_is); (case gg => k_is); (case hd => k_is); (case no => k_is); (case i1 => k_is); (case i2 => k_is); (case i3 => k_is); (case i4 => k_is)))
    (case e_BadClocks => (refine' EV.mkErr ?a ?cl ?rv ?sa ?ex ?ty ?kC ?ga ?gg ?hd ?no ?i1 ?i2 ?i3 ?i4 EV.tx1; (case a => k_is); (case cl => k_is); (case rv => decide +kernel); (case sa => k_is); (case ex => k_is); (case ty => k_is); (case kC => k_is); (case ga => k_is); (case gg => k_is); (case hd => k_is); (case no => k_is); (case i1 => k_is); (case i2 => k_is); (case i3 => k_is); (case i4 => k_is)))
    (case e_BadLength => (refine' EV.mkErr ?a ?cl ?rv ?sa ?ex ?ty ?kC ?ga ?gg ?hd ?no ?i1 ?i2 ?i3 ?i4 EV.tx2; (case a => k_is); (case cl => k_is); (case rv => decide +kernel); (case sa => k_is); (case ex => k_is); (case ty => k_is); (case kC => k_is); (case ga => k_is); (case gg => k_is); (case hd => k_is); (case no => k_is); (case i1 => k_is); (case i2 => k_is); (case i3 => k_is); (case i4 => k_is)))
    (case e_BadNumber => (refine' EV.mkErr ?a ?cl ?rv ?sa ?ex ?ty ?kC ?ga ?gg ?hd ?no ?i1 ?i2 ?i3 ?i4 EV.tx3; (case a => k_is); (case cl => k_is); (case rv => decide +kernel); (case sa => k_is); (case ex => k_is); (case ty => k_is); (case kC => k_is); (case ga => k_is); (case gg => k_is); (case hd => k_is); (case no => k_is); (case i1 => k_is); (case i2 => k_is); (case i3 => k_is); (case i4 => k_is)))
    (case e_BadSpan => (refine' EV.mkErr ?a ?cl ?rv ?sa ?ex ?ty ?kC ?ga ?gg ?hd ?no ?i1 ?i2 ?i3 ?i4 EV.tx4; (case a => k_is); (case cl => k_is); (case rv => decide +kernel); (case sa => k_is); (case ex => k_is); (case ty => k_is); (case kC => k_is); (case ga => k_is); (case gg => k_is); (case hd => k_is); (case no => k_is); (case i1 => k_is); (case i2 => k_is); (case i3 => k_is); (case i4 => k_is)))
    (case d_is_list => (refine' EV.mkDef ?n ?l ?c ?k; (case n => k_is); (case l => k_is); (case c => k_is); (case k => k_is)))
    (case d_is_integer => (refine' EV.mkDef ?n ?l ?c ?k; (case n => k_is); (case l => k_is); (case c => k_is); (case k => k_is)))
    (case d_is_number => (refine' EV.mkDef ?n ?l ?c ?k; (case n => k_is); (case l => k_is); (case c => k_is); (case k => k_is)))
    (case d_is_fraction => (refine' EV.mkDef ?n ?l ?c ?k; (case n => k_is); (case l => k_is); (case c => k_is); (case k => k_is)))
    (case d_lowest => (refine' EV.mkDef ?n ?l ?c ?k; (case n => k_is); (case l => k_is); (case c => k_is); (case k => k_is)))
    (case d_plus => (refine' EV.mkDef ?n ?l ?c ?k; (case n => k_is); (case l => k_is); (case c => k_is); (case k => k_is)))
    (case d_minus => (refine' EV.mkDef ?n ?l ?c ?k; (case n => k_is); (case l => k_is); (case c => k_is); (case k => k_is)))
    (case d_times => (refine' EV.mkDef ?n ?l ?c ?k; (case n => k_is); (case l => k_is); (case c => k_is); (case k => k_is)))
    (case d_over => (refine' EV.mkDef ?n ?l ?c ?k; (case n => k_is); (case l => k_is); (case c => k_is); (case k => k_is)))
    (case d_is_less => (refine' EV.mkDef ?n ?l ?c ?k; (case n => k_is); (case l => k_is); (case c => k_is); (case k => k_is)))
    (case d_lesser => (refine' EV.mkDef ?n ?l ?c ?k; (case n => k_is); (case l => k_is); (case c => k_is); (case k => k_is)))
    (case d_greater => (refine' EV.mkDef ?n ?l ?c ?k; (case n => k_is); (case l => k_is); (case c => k_is); (case k => k_is)))
    (case d_checked_clocks => (refine' EV.mkDef ?n ?l ?c ?k; (case n => k_is); (case l => k_is); (case c => k_is); (case k => k_is)))
    (case d_checked_length => (refine' EV.mkDef ?n ?l ?c ?k; (case n => k_is); (case l => k_is); (case c => k_is); (case k => k_is)))
    (case d_is_ask => (refine' EV.mkDef ?n ?l ?c ?k; (case n => k_is); (case l => k_is); (case c => k_is); (case k => k_is)))
    (case d_checked_asks => (refine' EV.mkDef ?n ?l ?c ?k; (case n => k_is); (case l => k_is); (case c => k_is); (case k => k_is)))
    (case d_kept_asks => (refine' EV.mkDef ?n ?l ?c ?k; (case n => k_is); (case l => k_is); (case c => k_is); (case k => k_is)))
    (case d_until => (refine' EV.mkDef ?n ?l ?c ?k; (case n => k_is); (case l => k_is); (case c => k_is); (case k => k_is)))
    (case d_greatest_until => (refine' EV.mkDef ?n ?l ?c ?k; (case n => k_is); (case l => k_is); (case c => k_is); (case k => k_is)))
    (case d_believe_until => (refine' EV.mkDef ?n ?l ?c ?k; (case n => k_is); (case l => k_is); (case c => k_is); (case k => k_is)))
    (case d_span_of => (refine' EV.mkDef ?n ?l ?c ?k; (case n => k_is); (case l => k_is); (case c => k_is); (case k => k_is)))
    (case d_span_for => (refine' EV.mkDef ?n ?l ?c ?k; (case n => k_is); (case l => k_is); (case c => k_is); (case k => k_is)))
    (case d_length_for => (refine' EV.mkDef ?n ?l ?c ?k; (case n => k_is); (case l => k_is); (case c => k_is); (case k => k_is)))
    (case d_longest_period => (refine' EV.mkDef ?n ?l ?c ?k; (case n => k_is); (case l => k_is); (case c => k_is); (case k => k_is)))
    (case d__law_l_lowest => (refine' EV.mkDef ?n ?l ?c ?k; (case n => k_is); (case l => k_is); (case c => k_is); (case k => k_is)))
    (case d__law_l_plus => (refine' EV.mkDef ?n ?l ?c ?k; (case n => k_is); (case l => k_is); (case c => k_is); (case k => k_is)))
    (case d__law_l_times => (refine' EV.mkDef ?n ?l ?c ?k; (case n => k_is); (case l => k_is); (case c => k_is); (case k => k_is)))
    (case d__law_l_over => (refine' EV.mkDef ?n ?l ?c ?k; (case n => k_is); (case l => k_is); (case c => k_is); (case k => k_is)))
    (case d__law_l_minus => (refine' EV.mkDef ?n ?l ?c ?k; (case n => k_is); (case l => k_is); (case c => k_is); (case k => k_is)))
    (case d__law_l_less => (refine' EV.mkDef ?n ?l ?c ?k; (case n => k_is); (case l => k_is); (case c => k_is); (case k => k_is)))
    (case d__law_l_clocks => (refine' EV.mkDef ?n ?l ?c ?k; (case n => k_is); (case l => k_is); (case c => k_is); (case k => k_is)))
    (case d__law_l_loose => (refine' EV.mkDef ?n ?l ?c ?k; (case n => k_is); (case l => k_is); (case c => k_is); (case k => k_is)))
    (case d__law_l_until => (refine' EV.mkDef ?n ?l ?c ?k; (case n => k_is); (case l => k_is); (case c => k_is); (case k => k_is)))
    (case d__law_start => (refine' EV.mkDef ?n ?l ?c ?k; (case n => k_is); (case l => k_is); (case c => k_is); (case k => k_is)))
    (case d__law_draw => (refine' EV.mkDef ?n ?l ?c ?k; (case n => k_is); (case l => k_is); (case c => k_is); (case k => k_is)))
    (case d__law_pick => (refine' EV.mkDef ?n ?l ?c ?k; (case n => k_is); (case l => k_is); (case c => k_is); (case k => k_is)))
    (case d__law_same => (refine' EV.mkDef ?n ?l ?c ?k; (case n => k_is); (case l => k_is); (case c => k_is); (case k => k_is)))
    (case d__law_met => (refine' EV.mkDef ?n ?l ?c ?k; (case n => k_is); (case l => k_is); (case c => k_is); (case k => k_is)))
    (case d__law_greater_clocks => (refine' EV.mkDef ?n ?l ?c ?k; (case n => k_is); (case l => k_is); (case c => k_is); (case k => k_is)))
    (case d__law_span_right => (refine' EV.mkDef ?n ?l ?c ?k; (case n => k_is); (case l => k_is); (case c => k_is); (case k => k_is)))
    (case d__law_period_right => (refine' EV.mkDef ?n ?l ?c ?k; (case n => k_is); (case l => k_is); (case c => k_is); (case k => k_is)))
    (case d__law_refused_right => (refine' EV.mkDefC ?n ?l ?c ?k; (case n => k_is); (case l => k_is); (case c => k_is); (case k => k_is)))
    (case d_law => (refine' EV.mkDef ?n ?l ?c ?k; (case n => k_is); (case l => k_is); (case c => k_is); (case k => k_is)))
    (case x_0_0 => k_is)
    (case x_0_1 => k_is)
    (case x_0_2 => k_is)
    (case x_0_3 => k_is)
    (case x_0_4 => k_is)
    (case x_1_0 => k_is)
    (case x_1_1 => k_is)
    (case x_1_2 => k_is)
    (case x_1_3 => k_is)
    (case x_1_4 => k_is)
    (case x_2_0 => k_is)
    (case x_2_1 => k_is)
    (case x_2_2 => k_is)
    (case x_2_3 => k_is)
    (case x_2_4 => k_is)
    (case x_3_0 => k_is)
    (case x_3_1 => k_is)
    (case x_3_2 => k_is)
    (case x_3_3 => k_is)
    (case x_3_4 => k_is)
    (case x_4_0 => k_is)
    (case x_4_1 => k_is)
    (case x_4_2 => k_is)
    (case x_4_3 => k_is)
    (case x_4_4 => k_is)
    (case g_gcd => k_is)
    (case tab => (refine' EV.mkTab ?n1 ?l ?hc ?lc ?hv; (case n1 => k_is); (case l => k_is); (case hc => rfl); (case lc => k_is); (case hv => rfl)))
    (case np => kernel_rfl)
    (case bt => (intro x hx; simp only [EV.btab, List.mem_cons, List.not_mem_nil, or_false] at hx; rcases hx with rfl | rfl | rfl | rfl | rfl | rfl | rfl | rfl | rfl | rfl | rfl | rfl | rfl | rfl | rfl | rfl | rfl | rfl <;> k_is)))

